/-
  Texts of the proof, one behind the other (part 3).
-/
import Derived.Test.YtcfaicomnngegaaDoorM2
import Derived.WalkKit
import Derived.WalkLawsBesides
import Derived.Laws.IdiomStrings
import Derived.Lib.UnsafeStr
import Derived.Lib.RuneBytes
import Derived.Deep.AppendLies
import Derived.Deep.Draws
import Derived.Test.YtcfaicomnngegaaDoorProg
import Derived.WalkSpells
import Derived.Lib.Hide
import Derived.Deep.QuietTactic
import Derived.BigQuiet
/-
  What the walks of all statements share: worlds joined; a text that is cut.
-/
set_option linter.unusedVariables false
namespace Go.Proofs.YtcfaicomnngegaaDoor
open Go.RowKit

theorem bjoin {w w1 w2 : World} (h : Below w.heap.size w w1) (k : Below w1.heap.size w1 w2) : Below w.heap.size w w2 := h.trans (k.mono h.size)

/-- A text that is not too long. -/
def cutS (s : ByteArray) (n : Nat) : ByteArray := if n < s.size then s.extract 0 n else s
theorem cutS_size (s : ByteArray) (n : Nat) : (cutS s n).size ≤ n := by
  unfold cutS; split
  · simp; omega
  · omega

theorem law1_Cut (s : ByteArray) (n : Int) (w : World) (hs : s.size ≤ 9223372036854775807) (h0 : 0 ≤ n) :
    Calls Tryd.prog 53 #[.string s, .int .i64 n] w fun e w' => e = .returned (.string (cutS s n.toNat)) ∧ w = w' := by
  obtain ⟨m, rfl⟩ := Int.eq_ofNat_of_zero_le h0
  by_cases h : m < s.size
  · have HC : Hid (cutS s m = s.extract 0 m) := by unfold Hid cutS; rw [if_pos h]
    have h' : (m : Int) < (s.size : Int) := by omega
    go_enter Tryd.func53, Tryd.ntmps53
    go_wp2
    go_ret
    exact ⟨ret_str (by rw [Int.toNat_natCast, HC.out]), rfl⟩
  · have HC : Hid (cutS s m = s) := by unfold Hid cutS; rw [if_neg h]
    have h' : (s.size : Int) ≤ (m : Int) := by omega
    go_enter Tryd.func53, Tryd.ntmps53
    go_wp2
    go_ret
    exact ⟨ret_str (by rw [Int.toNat_natCast, HC.out]), rfl⟩

end Go.Proofs.YtcfaicomnngegaaDoor

/-
  The walks of package value: Of, Kind, Raw, AsInt, MustInt, Eq; and of the reference's Eq, May.
-/
set_option linter.unusedVariables false
namespace Go.Proofs.YtcfaicomnngegaaDoor
open Go.RowKit

/-- A value: none, a number, a text; as the program holds it. -/
def vCell : Option (Int ⊕ ByteArray) → Value
  | none => .nilIface
  | some (.inl n) => .iface 141 (.int .i64 n)
  | some (.inr s) => .iface 142 (.string s)
/-- What Of makes of data. -/
def ofRaw (k n : Int) (s : ByteArray) : Option (Int ⊕ ByteArray) × Int :=
  if k = 0 ∧ n = 0 ∧ s.size = 0 then (none, 0)
  else if k = 1 ∧ s.size = 0 then (some (.inl n), 0)
  else if k = 2 ∧ n = 0 ∧ s.size ≤ 200 ∧ Lib.validD s.data.toList = true then (some (.inr s), 0)
  else (none, 1)

set_option maxRecDepth 100000 in
set_option maxHeartbeats 1000000 in
theorem of_none (s : ByteArray) (h : ¬ 0 < s.size) (w : World) (hs : s.size ≤ 9223372036854775807) :
    Calls Tryd.prog 78 #[.agg #[.int .i64 0, .int .i64 0, .string s]] w fun e w' => e = .returned (.tuple #[.agg #[vCell (ofRaw 0 0 s).1], .int .i64 (ofRaw 0 0 s).2]) ∧ Below w.heap.size w w' := by
  have HF : Hid (ofRaw 0 0 s = (none, 0)) := by
    show _ = _
    unfold ofRaw; rw [if_pos ⟨rfl, rfl, by omega⟩]
  have ex := Ph.empty_yes h
  go_enter Tryd.func78, Tryd.ntmps78
  go_wp2
  refine bodyPost_ret (v := .tuple #[.agg #[.nilIface], .int .i64 0]) (by simp [results, Tryd.results78, go_sem]) rfl ⟨?_, ?_⟩
  · rw [HF.out]
    rfl
  · exact ((Below.refl _ _).alloc (Nat.le_refl _) _).alloc (by simp) _

set_option maxRecDepth 100000 in
set_option maxHeartbeats 1000000 in
theorem of_int (n : Int) (s : ByteArray) (h : ¬ 0 < s.size) (w : World) (hs : s.size ≤ 9223372036854775807) :
    Calls Tryd.prog 78 #[.agg #[.int .i64 1, .int .i64 n, .string s]] w fun e w' => e = .returned (.tuple #[.agg #[vCell (ofRaw 1 n s).1], .int .i64 (ofRaw 1 n s).2]) ∧ Below w.heap.size w w' := by
  have HF : Hid (ofRaw 1 n s = (some (.inl n), 0)) := by
    show _ = _
    unfold ofRaw; rw [if_neg (by omega), if_pos ⟨rfl, by omega⟩]
  have ex := Ph.empty_yes h
  go_enter Tryd.func78, Tryd.ntmps78
  go_wp2
  refine bodyPost_ret (v := .tuple #[.agg #[.iface 141 (.int .i64 n)], .int .i64 0]) (by simp [results, Tryd.results78, go_sem]) rfl ⟨?_, ?_⟩
  · rw [HF.out]
    rfl
  · exact ((Below.refl _ _).alloc (Nat.le_refl _) _).alloc (by simp) _

set_option maxRecDepth 100000 in
set_option maxHeartbeats 1000000 in
theorem of_nonum (n : Int) (s : ByteArray) (h : n ≠ 0) (w : World) (hs : s.size ≤ 9223372036854775807) :
    Calls Tryd.prog 78 #[.agg #[.int .i64 0, .int .i64 n, .string s]] w fun e w' => e = .returned (.tuple #[.agg #[vCell (ofRaw 0 n s).1], .int .i64 (ofRaw 0 n s).2]) ∧ Below w.heap.size w w' := by
  have HF : Hid (ofRaw 0 n s = (none, 1)) := by
    show _ = _
    unfold ofRaw; rw [if_neg (by omega), if_neg (by omega), if_neg (by omega)]
  have h' : (n == 0) = false := by simpa using h
  clear h
  go_enter Tryd.func78, Tryd.ntmps78
  go_wp2
  refine bodyPost_ret (v := .tuple #[.agg #[.nilIface], .int .i64 1]) (by simp [results, Tryd.results78, go_sem]) rfl ⟨?_, ?_⟩
  · rw [HF.out]
    rfl
  · exact ((Below.refl _ _).alloc (Nat.le_refl _) _).alloc (by simp) _

set_option maxRecDepth 100000 in
set_option maxHeartbeats 1000000 in
theorem of_notext (s : ByteArray) (h : 0 < s.size) (w : World) (hs : s.size ≤ 9223372036854775807) :
    Calls Tryd.prog 78 #[.agg #[.int .i64 0, .int .i64 0, .string s]] w fun e w' => e = .returned (.tuple #[.agg #[vCell (ofRaw 0 0 s).1], .int .i64 (ofRaw 0 0 s).2]) ∧ Below w.heap.size w w' := by
  have HF : Hid (ofRaw 0 0 s = (none, 1)) := by
    show _ = _
    unfold ofRaw; rw [if_neg (by omega), if_neg (by omega), if_neg (by omega)]
  have ex := Ph.empty_no h
  go_enter Tryd.func78, Tryd.ntmps78
  go_wp2
  refine bodyPost_ret (v := .tuple #[.agg #[.nilIface], .int .i64 1]) (by simp [results, Tryd.results78, go_sem]) rfl ⟨?_, ?_⟩
  · rw [HF.out]
    rfl
  · exact ((Below.refl _ _).alloc (Nat.le_refl _) _).alloc (by simp) _

set_option maxRecDepth 100000 in
set_option maxHeartbeats 1000000 in
theorem of_intno (n : Int) (s : ByteArray) (h : 0 < s.size) (w : World) (hs : s.size ≤ 9223372036854775807) :
    Calls Tryd.prog 78 #[.agg #[.int .i64 1, .int .i64 n, .string s]] w fun e w' => e = .returned (.tuple #[.agg #[vCell (ofRaw 1 n s).1], .int .i64 (ofRaw 1 n s).2]) ∧ Below w.heap.size w w' := by
  have HF : Hid (ofRaw 1 n s = (none, 1)) := by
    show _ = _
    unfold ofRaw; rw [if_neg (by omega), if_neg (by omega), if_neg (by omega)]
  have ex := Ph.empty_no h
  go_enter Tryd.func78, Tryd.ntmps78
  go_wp2
  refine bodyPost_ret (v := .tuple #[.agg #[.nilIface], .int .i64 1]) (by simp [results, Tryd.results78, go_sem]) rfl ⟨?_, ?_⟩
  · rw [HF.out]
    rfl
  · exact ((Below.refl _ _).alloc (Nat.le_refl _) _).alloc (by simp) _

set_option maxRecDepth 100000 in
set_option maxHeartbeats 1000000 in
theorem of_textnum (n : Int) (s : ByteArray) (h : n ≠ 0) (w : World) (hs : s.size ≤ 9223372036854775807) :
    Calls Tryd.prog 78 #[.agg #[.int .i64 2, .int .i64 n, .string s]] w fun e w' => e = .returned (.tuple #[.agg #[vCell (ofRaw 2 n s).1], .int .i64 (ofRaw 2 n s).2]) ∧ Below w.heap.size w w' := by
  have HF : Hid (ofRaw 2 n s = (none, 1)) := by
    show _ = _
    unfold ofRaw; rw [if_neg (by omega), if_neg (by omega), if_neg (by omega)]
  have h' : (n == 0) = false := by simpa using h
  clear h
  go_enter Tryd.func78, Tryd.ntmps78
  go_wp2
  refine bodyPost_ret (v := .tuple #[.agg #[.nilIface], .int .i64 1]) (by simp [results, Tryd.results78, go_sem]) rfl ⟨?_, ?_⟩
  · rw [HF.out]
    rfl
  · exact ((Below.refl _ _).alloc (Nat.le_refl _) _).alloc (by simp) _

set_option maxRecDepth 100000 in
set_option maxHeartbeats 1000000 in
theorem of_textlong (s : ByteArray) (h : 200 < s.size) (w : World) (hs : s.size ≤ 9223372036854775807) :
    Calls Tryd.prog 78 #[.agg #[.int .i64 2, .int .i64 0, .string s]] w fun e w' => e = .returned (.tuple #[.agg #[vCell (ofRaw 2 0 s).1], .int .i64 (ofRaw 2 0 s).2]) ∧ Below w.heap.size w w' := by
  have HF : Hid (ofRaw 2 0 s = (none, 1)) := by
    show _ = _
    unfold ofRaw; rw [if_neg (by omega), if_neg (by omega), if_neg (by omega)]
  have h' : (200 : Int) < (s.size : Int) := by omega
  go_enter Tryd.func78, Tryd.ntmps78
  go_wp2
  refine bodyPost_ret (v := .tuple #[.agg #[.nilIface], .int .i64 1]) (by simp [results, Tryd.results78, go_sem]) rfl ⟨?_, ?_⟩
  · rw [HF.out]
    rfl
  · exact ((Below.refl _ _).alloc (Nat.le_refl _) _).alloc (by simp) _

set_option maxRecDepth 100000 in
set_option maxHeartbeats 1000000 in
theorem of_textbad (s : ByteArray) (h : s.size ≤ 200) (hv : Lib.validD s.data.toList = false) (w : World) (hs : s.size ≤ 9223372036854775807) (hT : Tabs w) :
    Calls Tryd.prog 78 #[.agg #[.int .i64 2, .int .i64 0, .string s]] w fun e w' => e = .returned (.tuple #[.agg #[vCell (ofRaw 2 0 s).1], .int .i64 (ofRaw 2 0 s).2]) ∧ Below w.heap.size w w' := by
  have HF : Hid (ofRaw 2 0 s = (none, 1)) := by
    show _ = _
    unfold ofRaw; rw [if_neg (by omega), if_neg (by omega), if_neg (by rw [hv]; simp)]
  have h' : (s.size : Int) ≤ 200 := by omega
  go_enter Tryd.func78, Tryd.ntmps78
  go_wp2_with fail
  refine (runes_Valid _ _ hs (hT.keep (((Below.refl _ _).alloc (Nat.le_refl _) _).alloc (by simp) _))).mono ?_
  rintro e w1 ⟨rfl, hb⟩
  rw [hv]
  clear hv
  have hz := hb.size
  have h1 : w1.cell? ⟨w.heap.size, 0, none⟩ = some (.int .i64 2) := by rw [hb.cell (p := ⟨w.heap.size, 0, none⟩) (by simp; omega)]; simp [go_sem]
  have h2 : w1.cell? ⟨w.heap.size, 2, none⟩ = some (.string s) := by rw [hb.cell (p := ⟨w.heap.size, 2, none⟩) (by simp; omega)]; simp [go_sem]
  have h3 : w1.cell? ⟨w.heap.size + 1, 0, none⟩ = some .nilIface := by rw [hb.cell (p := ⟨w.heap.size + 1, 0, none⟩) (by simp)]; simp [go_sem]
  have h4 : w1.frozen? ⟨w.heap.size + 1, 0, none⟩ = false := by rw [hb.frozen (p := ⟨w.heap.size + 1, 0, none⟩) (by simp)]; simp [go_sem]
  have h6 : ∀ u, (w1.setCell ⟨w.heap.size + 1, 0, none⟩ u).cell? ⟨w.heap.size + 1, 0, none⟩ = some u := fun u => World.cell?_setCell_same _ _ _ h3
  have h5 : w.heap.size + 1 < w1.heap.size := by simp at hz; omega
  go_wp2
  refine bodyPost_ret (v := .tuple #[.agg #[.nilIface], .int .i64 1]) (by simp [results, Tryd.results78, go_sem, h6]) rfl ⟨?_, ?_⟩
  · rw [HF.out]
    rfl
  · exact ((((Below.refl w.heap.size w).alloc (Nat.le_refl _) _).alloc (by simp) _).trans (hb.mono (by simp; omega))).setCell (by simp) _

set_option maxRecDepth 100000 in
set_option maxHeartbeats 1000000 in
theorem of_text (s : ByteArray) (h : s.size ≤ 200) (hv : Lib.validD s.data.toList = true) (w : World) (hs : s.size ≤ 9223372036854775807) (hT : Tabs w) :
    Calls Tryd.prog 78 #[.agg #[.int .i64 2, .int .i64 0, .string s]] w fun e w' => e = .returned (.tuple #[.agg #[vCell (ofRaw 2 0 s).1], .int .i64 (ofRaw 2 0 s).2]) ∧ Below w.heap.size w w' := by
  have HF : Hid (ofRaw 2 0 s = (some (.inr s), 0)) := by
    show _ = _
    unfold ofRaw; rw [if_neg (by omega), if_neg (by omega), if_pos ⟨rfl, rfl, h, hv⟩]
  have h' : (s.size : Int) ≤ 200 := by omega
  go_enter Tryd.func78, Tryd.ntmps78
  go_wp2_with fail
  refine (runes_Valid _ _ hs (hT.keep (((Below.refl _ _).alloc (Nat.le_refl _) _).alloc (by simp) _))).mono ?_
  rintro e w1 ⟨rfl, hb⟩
  rw [hv]
  clear hv
  have hz := hb.size
  have h1 : w1.cell? ⟨w.heap.size, 0, none⟩ = some (.int .i64 2) := by rw [hb.cell (p := ⟨w.heap.size, 0, none⟩) (by simp; omega)]; simp [go_sem]
  have h2 : w1.cell? ⟨w.heap.size, 2, none⟩ = some (.string s) := by rw [hb.cell (p := ⟨w.heap.size, 2, none⟩) (by simp; omega)]; simp [go_sem]
  have h3 : w1.cell? ⟨w.heap.size + 1, 0, none⟩ = some .nilIface := by rw [hb.cell (p := ⟨w.heap.size + 1, 0, none⟩) (by simp)]; simp [go_sem]
  have h4 : w1.frozen? ⟨w.heap.size + 1, 0, none⟩ = false := by rw [hb.frozen (p := ⟨w.heap.size + 1, 0, none⟩) (by simp)]; simp [go_sem]
  have h6 : ∀ u, (w1.setCell ⟨w.heap.size + 1, 0, none⟩ u).cell? ⟨w.heap.size + 1, 0, none⟩ = some u := fun u => World.cell?_setCell_same _ _ _ h3
  have h5 : w.heap.size + 1 < w1.heap.size := by simp at hz; omega
  go_wp2
  refine bodyPost_ret (v := .tuple #[.agg #[.iface 142 (.string s)], .int .i64 0]) (by simp [results, Tryd.results78, go_sem, h6]) rfl ⟨?_, ?_⟩
  · rw [HF.out]
    rfl
  · exact ((((Below.refl w.heap.size w).alloc (Nat.le_refl _) _).alloc (by simp) _).trans (hb.mono (by simp; omega))).setCell (by simp) _

set_option maxRecDepth 100000 in
set_option maxHeartbeats 1000000 in
theorem of_other (k n : Int) (s : ByteArray) (h0 : k ≠ 0) (h1 : k ≠ 1) (h2 : k ≠ 2) (w : World) (hs : s.size ≤ 9223372036854775807) :
    Calls Tryd.prog 78 #[.agg #[.int .i64 k, .int .i64 n, .string s]] w fun e w' => e = .returned (.tuple #[.agg #[vCell (ofRaw k n s).1], .int .i64 (ofRaw k n s).2]) ∧ Below w.heap.size w w' := by
  have HF : Hid (ofRaw k n s = (none, 1)) := by
    show _ = _
    unfold ofRaw; rw [if_neg (by omega), if_neg (by omega), if_neg (by omega)]
  have h0' : (k == 0) = false := by simpa using h0
  have h1' : (k == 1) = false := by simpa using h1
  have h2' : (k == 2) = false := by simpa using h2
  clear h0 h1 h2
  go_enter Tryd.func78, Tryd.ntmps78
  go_wp2
  refine bodyPost_ret (v := .tuple #[.agg #[.nilIface], .int .i64 1]) (by simp [results, Tryd.results78, go_sem]) rfl ⟨?_, ?_⟩
  · rw [HF.out]
    rfl
  · exact ((Below.refl _ _).alloc (Nat.le_refl _) _).alloc (by simp) _

/-- OF, at any data. -/
theorem value_Of (k n : Int) (s : ByteArray) (w : World) (hs : s.size ≤ 9223372036854775807) (hT : Tabs w) :
    Calls Tryd.prog 78 #[.agg #[.int .i64 k, .int .i64 n, .string s]] w fun e w' => e = .returned (.tuple #[.agg #[vCell (ofRaw k n s).1], .int .i64 (ofRaw k n s).2]) ∧ Below w.heap.size w w' := by
  by_cases k0 : k = 0
  · subst k0
    by_cases n0 : n = 0
    · subst n0
      by_cases s0 : 0 < s.size
      · exact of_notext s s0 w hs
      · exact of_none s s0 w hs
    · exact of_nonum n s n0 w hs
  by_cases k1 : k = 1
  · subst k1
    by_cases s0 : 0 < s.size
    · exact of_intno n s s0 w hs
    · exact of_int n s s0 w hs
  by_cases k2 : k = 2
  · subst k2
    by_cases n0 : n = 0
    · subst n0
      by_cases sl : s.size ≤ 200
      · cases hv : Lib.validD s.data.toList
        · exact of_textbad s sl hv w hs hT
        · exact of_text s sl hv w hs hT
      · exact of_textlong s (by omega) w hs
    · exact of_textnum n s n0 w hs
  exact of_other k n s k0 k1 k2 w hs

end Go.Proofs.YtcfaicomnngegaaDoor

/-
  Plain law: the reference's decoder, lead byte by lead byte, is the model's decoder.
-/
set_option linter.unusedVariables false
namespace Ph
open Go Go.Lib

/-- What the reference has reckoned at byte k. -/
def Rk (r0 : Int) (b : Nat → Nat) : Nat → Int
  | 0 => r0
  | 1 => r0
  | k + 2 => Rk r0 b (k + 1) * 64 + b (k + 1) - 128

/-- The bytes of a text, as numbers. -/
def bt (s : ByteArray) (k : Nat) : Nat := (s.data.toList.getD k 0).toNat
theorem bt_lt (s : ByteArray) (k : Nat) : bt s k < 256 := UInt8.toNat_lt _
theorem bt_at (s : ByteArray) (k : Nat) (h : k < s.size) : bt s k = (s[k]'h).toNat := by
  have hl := len_toList s
  unfold bt
  rw [List.getD_eq_getElem?_getD, List.getElem?_eq_getElem (by omega)]
  simp
  rfl
theorem decZ_bt (s : ByteArray) (h : 0 < s.size) : decZ s.data.toList = decodeN s.size (bt s 0) (bt s 1) (bt s 2) (bt s 3) := by
  rw [(decZ_ne h).1, decodeL_N, len_toList]
  rfl

theorem d1 (n b0 b1 b2 b3 : Nat) (h : b0 < 128) : decodeN n b0 b1 b2 b3 = (b0, 1) := by unfold decodeN; rw [if_pos h]
theorem d0 (n b0 b1 b2 b3 : Nat) (h : 128 ≤ b0 ∧ b0 < 192 ∨ 248 ≤ b0) (h' : b0 < 256) : decodeN n b0 b1 b2 b3 = (65533, 1) := decodeN_bad _ _ _ _ _ (by omega)

theorem d2s (n b0 b1 b2 b3 : Nat) (h : 192 ≤ b0 ∧ b0 < 224) (hn : n < 2) : decodeN n b0 b1 b2 b3 = (65533, 1) := by
  unfold decodeN; rw [if_neg (by omega), if_neg (by omega), if_neg (by omega), if_neg (by omega)]
theorem d2b (n : Nat) (b : Nat → Nat) (hb : ∀ k, b k < 256) (h : 192 ≤ b 0 ∧ b 0 < 224) (k : Nat) (h1 : 1 ≤ k) (h2 : k < 2) (hk : b k < 128 ∨ 191 < b k) : decodeN n (b 0) (b 1) (b 2) (b 3) = (65533, 1) := by
  obtain rfl : k = 1 := by omega
  have := hb 1
  unfold decodeN; rw [if_neg (by omega), if_neg (by omega), if_neg (by omega), if_neg (by omega)]
theorem d2e (n : Nat) (b : Nat → Nat) (h : 192 ≤ b 0 ∧ b 0 < 224) (hn : 2 ≤ n) (h1 : ∀ j, 1 ≤ j → j < 2 → 128 ≤ b j ∧ b j ≤ 191) (hr : Rk (b 0 - 192) b 2 < 128) : decodeN n (b 0) (b 1) (b 2) (b 3) = (65533, 1) := by
  have j1 := h1 1 (by omega) (by omega)
  simp only [Rk, Nat.reduceAdd] at hr
  unfold decodeN; rw [if_neg (by omega), if_pos ⟨by omega, by omega, by omega⟩, if_neg (by omega)]
theorem d2o (n : Nat) (b : Nat → Nat) (h : 192 ≤ b 0 ∧ b 0 < 224) (hn : 2 ≤ n) (h1 : ∀ j, 1 ≤ j → j < 2 → 128 ≤ b j ∧ b j ≤ 191) (hr : ¬ Rk (b 0 - 192) b 2 < 128) :
    ((decodeN n (b 0) (b 1) (b 2) (b 3)).1 : Int) = Rk (b 0 - 192) b 2 ∧ (decodeN n (b 0) (b 1) (b 2) (b 3)).2 = 2 ∧ Rk (b 0 - 192) b 2 < 55296 := by
  have j1 := h1 1 (by omega) (by omega)
  simp only [Rk, Nat.reduceAdd] at hr ⊢
  unfold decodeN; rw [if_neg (by omega), if_pos ⟨by omega, by omega, by omega⟩, if_pos (by omega)]
  exact ⟨by simp only; omega, rfl, by omega⟩

theorem d3s (n b0 b1 b2 b3 : Nat) (h : 224 ≤ b0 ∧ b0 < 240) (hn : n < 3) : decodeN n b0 b1 b2 b3 = (65533, 1) := by
  unfold decodeN; rw [if_neg (by omega), if_neg (by omega), if_neg (by omega), if_neg (by omega)]
theorem d3b (n : Nat) (b : Nat → Nat) (hb : ∀ k, b k < 256) (h : 224 ≤ b 0 ∧ b 0 < 240) (k : Nat) (h1 : 1 ≤ k) (h2 : k < 3) (hk : b k < 128 ∨ 191 < b k) : decodeN n (b 0) (b 1) (b 2) (b 3) = (65533, 1) := by
  have := hb 1
  have := hb 2
  unfold decodeN
  rcases (show k = 1 ∨ k = 2 by omega) with rfl | rfl
  · rw [if_neg (by omega), if_neg (by omega), if_neg (by omega), if_neg (by omega)]
  · rw [if_neg (by omega), if_neg (by omega), if_neg (by omega), if_neg (by omega)]
theorem d3e (n : Nat) (b : Nat → Nat) (h : 224 ≤ b 0 ∧ b 0 < 240) (hn : 3 ≤ n) (h1 : ∀ j, 1 ≤ j → j < 3 → 128 ≤ b j ∧ b j ≤ 191) (hr : Rk (b 0 - 224) b 3 < 2048 ∨ (55296 ≤ Rk (b 0 - 224) b 3 ∧ Rk (b 0 - 224) b 3 < 57344)) : decodeN n (b 0) (b 1) (b 2) (b 3) = (65533, 1) := by
  have j1 := h1 1 (by omega) (by omega)
  have j2 := h1 2 (by omega) (by omega)
  simp only [Rk, Nat.reduceAdd] at hr
  unfold decodeN; rw [if_neg (by omega), if_neg (by omega), if_pos ⟨by omega, ⟨by omega, by omega⟩, by omega, by omega⟩, if_neg (by omega)]
theorem d3o (n : Nat) (b : Nat → Nat) (h : 224 ≤ b 0 ∧ b 0 < 240) (hn : 3 ≤ n) (h1 : ∀ j, 1 ≤ j → j < 3 → 128 ≤ b j ∧ b j ≤ 191) (hr : ¬ (Rk (b 0 - 224) b 3 < 2048 ∨ (55296 ≤ Rk (b 0 - 224) b 3 ∧ Rk (b 0 - 224) b 3 < 57344))) :
    ((decodeN n (b 0) (b 1) (b 2) (b 3)).1 : Int) = Rk (b 0 - 224) b 3 ∧ (decodeN n (b 0) (b 1) (b 2) (b 3)).2 = 3 ∧ Rk (b 0 - 224) b 3 ≤ 1114111 := by
  have j1 := h1 1 (by omega) (by omega)
  have j2 := h1 2 (by omega) (by omega)
  simp only [Rk, Nat.reduceAdd] at hr ⊢
  unfold decodeN; rw [if_neg (by omega), if_neg (by omega), if_pos ⟨by omega, ⟨by omega, by omega⟩, by omega, by omega⟩, if_pos (by omega)]
  exact ⟨by simp only; omega, rfl, by omega⟩

theorem d4s (n b0 b1 b2 b3 : Nat) (h : 240 ≤ b0 ∧ b0 < 248) (hn : n < 4) : decodeN n b0 b1 b2 b3 = (65533, 1) := by
  unfold decodeN; rw [if_neg (by omega), if_neg (by omega), if_neg (by omega), if_neg (by omega)]
theorem d4b (n : Nat) (b : Nat → Nat) (hb : ∀ k, b k < 256) (h : 240 ≤ b 0 ∧ b 0 < 248) (k : Nat) (h1 : 1 ≤ k) (h2 : k < 4) (hk : b k < 128 ∨ 191 < b k) : decodeN n (b 0) (b 1) (b 2) (b 3) = (65533, 1) := by
  have := hb 1
  have := hb 2
  have := hb 3
  unfold decodeN
  rcases (show k = 1 ∨ k = 2 ∨ k = 3 by omega) with rfl | rfl | rfl
  · rw [if_neg (by omega), if_neg (by omega), if_neg (by omega), if_neg (by omega)]
  · rw [if_neg (by omega), if_neg (by omega), if_neg (by omega), if_neg (by omega)]
  · rw [if_neg (by omega), if_neg (by omega), if_neg (by omega), if_neg (by omega)]
theorem d4e (n : Nat) (b : Nat → Nat) (h : 240 ≤ b 0 ∧ b 0 < 248) (hn : 4 ≤ n) (h1 : ∀ j, 1 ≤ j → j < 4 → 128 ≤ b j ∧ b j ≤ 191) (hr : Rk (b 0 - 240) b 4 < 65536 ∨ 1114111 < Rk (b 0 - 240) b 4 ∨ (55296 ≤ Rk (b 0 - 240) b 4 ∧ Rk (b 0 - 240) b 4 < 57344)) : decodeN n (b 0) (b 1) (b 2) (b 3) = (65533, 1) := by
  have j1 := h1 1 (by omega) (by omega)
  have j2 := h1 2 (by omega) (by omega)
  have j3 := h1 3 (by omega) (by omega)
  simp only [Rk, Nat.reduceAdd] at hr
  unfold decodeN; rw [if_neg (by omega), if_neg (by omega), if_neg (by omega), if_pos ⟨by omega, ⟨by omega, by omega⟩, ⟨by omega, by omega⟩, by omega, by omega⟩, if_neg (by omega)]
theorem d4o (n : Nat) (b : Nat → Nat) (h : 240 ≤ b 0 ∧ b 0 < 248) (hn : 4 ≤ n) (h1 : ∀ j, 1 ≤ j → j < 4 → 128 ≤ b j ∧ b j ≤ 191) (hr : ¬ (Rk (b 0 - 240) b 4 < 65536 ∨ 1114111 < Rk (b 0 - 240) b 4 ∨ (55296 ≤ Rk (b 0 - 240) b 4 ∧ Rk (b 0 - 240) b 4 < 57344))) :
    ((decodeN n (b 0) (b 1) (b 2) (b 3)).1 : Int) = Rk (b 0 - 240) b 4 ∧ (decodeN n (b 0) (b 1) (b 2) (b 3)).2 = 4 := by
  have j1 := h1 1 (by omega) (by omega)
  have j2 := h1 2 (by omega) (by omega)
  have j3 := h1 3 (by omega) (by omega)
  simp only [Rk, Nat.reduceAdd] at hr ⊢
  unfold decodeN; rw [if_neg (by omega), if_neg (by omega), if_neg (by omega), if_pos ⟨by omega, ⟨by omega, by omega⟩, ⟨by omega, by omega⟩, by omega, by omega⟩, if_pos (by omega)]
  exact ⟨by simp only; omega, rfl⟩

/-- What has been reckoned stays small. -/
theorem Rk_bd (r0 : Int) (b : Nat → Nat) (h0 : 0 ≤ r0) (h1 : r0 < 32) : ∀ k, k ≤ 4 → (∀ j, 1 ≤ j → j < k → 128 ≤ b j ∧ b j ≤ 191) → 0 ≤ Rk r0 b k ∧ Rk r0 b k < 8388608
  | 0, _, _ => by simp only [Rk]; omega
  | 1, _, _ => by simp only [Rk]; omega
  | 2, _, h => by have := h 1 (by omega) (by omega); simp only [Rk, Nat.reduceAdd]; omega
  | 3, _, h => by have := h 1 (by omega) (by omega); have := h 2 (by omega) (by omega); simp only [Rk, Nat.reduceAdd]; omega
  | 4, _, h => by have := h 1 (by omega) (by omega); have := h 2 (by omega) (by omega); have := h 3 (by omega) (by omega); simp only [Rk, Nat.reduceAdd]; omega
theorem Rk_succ (r0 : Int) (b : Nat → Nat) (k : Nat) (h : 1 ≤ k) : Rk r0 b (k + 1) = Rk r0 b k * 64 + b k - 128 := by
  obtain ⟨j, rfl⟩ : ∃ j, k = j + 1 := ⟨k - 1, by omega⟩
  rfl
end Ph

/-
  The walk of the reference's decoder: it is the model's.
-/
set_option linter.unusedVariables false
namespace Go.Proofs.YtcfaicomnngegaaDoor
open Go.RowKit

theorem ret_dec {s : ByteArray} {a b : Int} (h1 : a = (Ph.decZ s.data.toList).1) (h2 : b = (Ph.decZ s.data.toList).2) : Ending.returned (.tuple #[.int .i32 a, .int .i64 b]) = .returned (.tuple #[.int .i32 (Ph.decZ s.data.toList).1, .int .i64 (Ph.decZ s.data.toList).2]) := by rw [h1, h2]
theorem ret_dec_err {s : ByteArray} (h : Ph.decZ s.data.toList = (65533, 1)) : Ending.returned (.tuple #[.int .i32 65533, .int .i64 1]) = .returned (.tuple #[.int .i32 (Ph.decZ s.data.toList).1, .int .i64 (Ph.decZ s.data.toList).2]) := by rw [h]; rfl

set_option maxRecDepth 100000 in
set_option maxHeartbeats 400000 in
theorem dec_short (s : ByteArray) (w : World) (hp : ¬ 0 < s.size) :
    Calls Tryd.prog 72 #[.string s] w fun e w' => e = .returned (.tuple #[.int .i32 (Ph.decZ s.data.toList).1, .int .i64 (Ph.decZ s.data.toList).2]) ∧ w = w' := by
  have ex := Ph.empty_yes hp
  have HD := Lib.hid (Ph.decZ_empty s hp)
  go_enter Tryd.func72, Tryd.ntmps72
  go_wp2
  go_ret2
  exact ⟨by rw [HD.out]; rfl, rfl⟩

set_option maxRecDepth 100000 in
set_option maxHeartbeats 400000 in
theorem dec_ascii (s : ByteArray) (w : World) (hp : 0 < s.size) (h0 : (s[0]'hp).toNat < 128) :
    Calls Tryd.prog 72 #[.string s] w fun e w' => e = .returned (.tuple #[.int .i32 (Ph.decZ s.data.toList).1, .int .i64 (Ph.decZ s.data.toList).2]) ∧ w = w' := by
  have ex := Ph.empty_no hp
  have HD : Hid (Ph.decZ s.data.toList = ((s[0]'hp).toNat, 1)) := by
    show _ = _
    rw [Ph.decZ_bt s hp, Ph.bt_at s 0 hp, Ph.d1 _ _ _ _ _ h0]
  have h0' : ((s[0]'hp).toNat : Int) < 128 := by omega
  have h0'' := (s[0]'hp).toNat_lt
  go_enter Tryd.func72, Tryd.ntmps72
  go_wp2
  go_ret2
  exact ⟨by rw [HD.out]; rfl, rfl⟩

set_option maxRecDepth 100000 in
set_option maxHeartbeats 400000 in
theorem dec_none (s : ByteArray) (w : World) (hp : 0 < s.size) (h0 : 128 ≤ (s[0]'hp).toNat ∧ (s[0]'hp).toNat < 192 ∨ 248 ≤ (s[0]'hp).toNat) :
    Calls Tryd.prog 72 #[.string s] w fun e w' => e = .returned (.tuple #[.int .i32 (Ph.decZ s.data.toList).1, .int .i64 (Ph.decZ s.data.toList).2]) ∧ w = w' := by
  have ex := Ph.empty_no hp
  have h0'' := (s[0]'hp).toNat_lt
  have HD : Hid (Ph.decZ s.data.toList = (65533, 1)) := by
    show _ = _
    rw [Ph.decZ_bt s hp, Ph.bt_at s 0 hp, Ph.d0 _ _ _ _ _ h0 (by omega)]
  rcases h0 with ⟨h1, h2⟩ | h1
  · have h1' : (128 : Int) ≤ ((s[0]'hp).toNat : Int) := by omega
    have h2' : ((s[0]'hp).toNat : Int) < 192 := by omega
    go_enter Tryd.func72, Tryd.ntmps72
    go_wp2
    go_ret2
    exact ⟨ret_dec_err HD.out, rfl⟩
  · have h1' : (248 : Int) ≤ ((s[0]'hp).toNat : Int) := by omega
    go_enter Tryd.func72, Tryd.ntmps72
    go_wp2
    go_ret2
    exact ⟨ret_dec_err HD.out, rfl⟩

set_option maxRecDepth 100000 in
set_option maxHeartbeats 800000 in
theorem dec_2 (s : ByteArray) (w : World) (hs : s.size ≤ 9223372036854775807) (hp : 0 < s.size) (h0 : 192 ≤ (s[0]'hp).toNat) (h1 : (s[0]'hp).toNat < 224) :
    Calls Tryd.prog 72 #[.string s] w fun e w' => e = .returned (.tuple #[.int .i32 (Ph.decZ s.data.toList).1, .int .i64 (Ph.decZ s.data.toList).2]) ∧ w = w' := by
  have ex := Ph.empty_no hp
  have hd := Ph.decZ_bt s hp
  have h0' : (192 : Int) ≤ ((s[0]'hp).toNat : Int) := by omega
  have h1' : ((s[0]'hp).toNat : Int) < 224 := by omega
  have HB : Hid (192 ≤ Ph.bt s 0 ∧ Ph.bt s 0 < 224) := by rw [Ph.bt_at s 0 hp]; exact ⟨h0, h1⟩
  have HZ : Hid (((s[0]'hp).toNat : Int) = Ph.bt s 0) := by show _ = _; rw [Ph.bt_at s 0 hp]
  by_cases hn : s.size < 2
  · have HD : Hid (Ph.decZ s.data.toList = (65533, 1)) := by
      show _ = _
      rw [hd, Ph.d2s _ _ _ _ _ HB.out hn]
    have hn' : (s.size : Int) < 2 := by omega
    clear hd
    go_enter Tryd.func72, Tryd.ntmps72
    go_wp2
    go_ret2
    exact ⟨ret_dec_err HD.out, rfl⟩
  · have hn' : (2 : Int) ≤ (s.size : Int) := by omega
    have HD := Lib.hid hd
    clear hd
    go_enter Tryd.func72, Tryd.ntmps72
    go_wp2
    go_loop [7, 8] (fun r i => ∃ k : Nat, 1 ≤ k ∧ k ≤ 2 ∧ i = .int .i64 k ∧ r = .int .i32 (Ph.Rk ((Ph.bt s 0 : Int) - 192) (Ph.bt s) k) ∧ Hid (∀ j, 1 ≤ j → j < k → 128 ≤ Ph.bt s j ∧ Ph.bt s j ≤ 191)) (fun _ i => 2 - (intOf i).toNat)
    case atStart => exact ⟨1, by omega, by omega, rfl, by rw [HZ.out]; rfl, fun j h1 h2 => by omega⟩
    case round =>
      obtain ⟨k, hk1, hk2, rfl, rfl, HJ⟩ := hrel
      have hR := Ph.Rk_bd ((Ph.bt s 0 : Int) - 192) (Ph.bt s) (by have := HB.out; omega) (by have := HB.out; omega) k (by omega) HJ.out
      obtain ⟨hR0, hR1⟩ := hR
      by_cases hk : k < 2
      · have hks : k < s.size := by omega
        have hbk := Ph.bt_at s k hks
        have hk' : (k : Int) < 2 := by omega
        have hbl := (s[k]'hks).toNat_lt
        have HK : Hid (Ph.bt s k = (s[k]'hks).toNat) := hbk
        clear hbk
        have bad : Ph.bt s k < 128 ∨ 191 < Ph.bt s k → Ph.decZ s.data.toList = (65533, 1) := fun h => by rw [HD.out, Ph.d2b _ _ (Ph.bt_lt s) HB.out k hk1 hk h]
        have BAD := Lib.hid bad
        clear bad
        by_cases hc1 : (s[k]'hks).toNat < 128
        · have hc1' : ((s[k]'hks).toNat : Int) < 128 := by omega
          go_wp2
          go_ret2
          exact ⟨ret_dec_err (BAD.out (.inl (by rw [HK.out]; exact hc1))), rfl⟩
        · have hc1' : (128 : Int) ≤ ((s[k]'hks).toNat : Int) := by omega
          by_cases hc2 : 191 < (s[k]'hks).toNat
          · have hc2' : (191 : Int) < ((s[k]'hks).toNat : Int) := by omega
            go_wp2
            go_ret2
            exact ⟨ret_dec_err (BAD.out (.inr (by rw [HK.out]; exact hc2))), rfl⟩
          · have hc2' : ((s[k]'hks).toNat : Int) ≤ 191 := by omega
            have HS : Hid (Ph.Rk ((Ph.bt s 0 : Int) - 192) (Ph.bt s) (k + 1) = Ph.Rk ((Ph.bt s 0 : Int) - 192) (Ph.bt s) k * 64 + ((s[k]'hks).toNat : Int) - 128) := by
              show _ = _
              rw [Ph.Rk_succ _ _ _ hk1, HK.out]
            go_wp2
            go_round
            case rel =>
              refine ⟨k + 1, by omega, by omega, by go_num, by rw [HS.out], fun j h1 h2 => ?_⟩
              by_cases hj : j < k
              · exact HJ.out j h1 hj
              · obtain rfl : j = k := by omega
                rw [HK.out]; omega
            case measure => simp [intOf]; omega
      · obtain rfl : k = 2 := by omega
        have hk' : ¬ ((2 : Nat) : Int) < 2 := by omega
        have bad := fun h => Ph.d2e s.size (Ph.bt s) HB.out (by omega) HJ.out h
        have good := fun h => Ph.d2o s.size (Ph.bt s) HB.out (by omega) HJ.out h
        rw [← HD.out] at bad good
        have BAD := Lib.hid bad
        have GOOD := Lib.hid good
        clear bad good
        generalize Ph.Rk ((Ph.bt s 0 : Int) - 192) (Ph.bt s) 2 = R at *
        go_wp2
        all_goals
          go_ret2
          refine ⟨?_, rfl⟩
          first
            | exact ret_dec_err (BAD.out (by omega))
            | (have G := GOOD.out (by omega); exact ret_dec G.1.symm (by rw [G.2.1]; rfl))
            | (exfalso; have G := GOOD.out (by omega); omega)

set_option maxRecDepth 100000 in
set_option maxHeartbeats 800000 in
theorem dec_3 (s : ByteArray) (w : World) (hs : s.size ≤ 9223372036854775807) (hp : 0 < s.size) (h0 : 224 ≤ (s[0]'hp).toNat) (h1 : (s[0]'hp).toNat < 240) :
    Calls Tryd.prog 72 #[.string s] w fun e w' => e = .returned (.tuple #[.int .i32 (Ph.decZ s.data.toList).1, .int .i64 (Ph.decZ s.data.toList).2]) ∧ w = w' := by
  have ex := Ph.empty_no hp
  have hd := Ph.decZ_bt s hp
  have h0' : (224 : Int) ≤ ((s[0]'hp).toNat : Int) := by omega
  have h1' : ((s[0]'hp).toNat : Int) < 240 := by omega
  have HB : Hid (224 ≤ Ph.bt s 0 ∧ Ph.bt s 0 < 240) := by rw [Ph.bt_at s 0 hp]; exact ⟨h0, h1⟩
  have HZ : Hid (((s[0]'hp).toNat : Int) = Ph.bt s 0) := by show _ = _; rw [Ph.bt_at s 0 hp]
  by_cases hn : s.size < 3
  · have HD : Hid (Ph.decZ s.data.toList = (65533, 1)) := by
      show _ = _
      rw [hd, Ph.d3s _ _ _ _ _ HB.out hn]
    have hn' : (s.size : Int) < 3 := by omega
    clear hd
    go_enter Tryd.func72, Tryd.ntmps72
    go_wp2
    go_ret2
    exact ⟨ret_dec_err HD.out, rfl⟩
  · have hn' : (3 : Int) ≤ (s.size : Int) := by omega
    have HD := Lib.hid hd
    clear hd
    go_enter Tryd.func72, Tryd.ntmps72
    go_wp2
    go_loop [7, 8] (fun r i => ∃ k : Nat, 1 ≤ k ∧ k ≤ 3 ∧ i = .int .i64 k ∧ r = .int .i32 (Ph.Rk ((Ph.bt s 0 : Int) - 224) (Ph.bt s) k) ∧ Hid (∀ j, 1 ≤ j → j < k → 128 ≤ Ph.bt s j ∧ Ph.bt s j ≤ 191)) (fun _ i => 3 - (intOf i).toNat)
    case atStart => exact ⟨1, by omega, by omega, rfl, by rw [HZ.out]; rfl, fun j h1 h2 => by omega⟩
    case round =>
      obtain ⟨k, hk1, hk2, rfl, rfl, HJ⟩ := hrel
      have hR := Ph.Rk_bd ((Ph.bt s 0 : Int) - 224) (Ph.bt s) (by have := HB.out; omega) (by have := HB.out; omega) k (by omega) HJ.out
      obtain ⟨hR0, hR1⟩ := hR
      by_cases hk : k < 3
      · have hks : k < s.size := by omega
        have hbk := Ph.bt_at s k hks
        have hk' : (k : Int) < 3 := by omega
        have hbl := (s[k]'hks).toNat_lt
        have HK : Hid (Ph.bt s k = (s[k]'hks).toNat) := hbk
        clear hbk
        have bad : Ph.bt s k < 128 ∨ 191 < Ph.bt s k → Ph.decZ s.data.toList = (65533, 1) := fun h => by rw [HD.out, Ph.d3b _ _ (Ph.bt_lt s) HB.out k hk1 hk h]
        have BAD := Lib.hid bad
        clear bad
        by_cases hc1 : (s[k]'hks).toNat < 128
        · have hc1' : ((s[k]'hks).toNat : Int) < 128 := by omega
          go_wp2
          go_ret2
          exact ⟨ret_dec_err (BAD.out (.inl (by rw [HK.out]; exact hc1))), rfl⟩
        · have hc1' : (128 : Int) ≤ ((s[k]'hks).toNat : Int) := by omega
          by_cases hc2 : 191 < (s[k]'hks).toNat
          · have hc2' : (191 : Int) < ((s[k]'hks).toNat : Int) := by omega
            go_wp2
            go_ret2
            exact ⟨ret_dec_err (BAD.out (.inr (by rw [HK.out]; exact hc2))), rfl⟩
          · have hc2' : ((s[k]'hks).toNat : Int) ≤ 191 := by omega
            have HS : Hid (Ph.Rk ((Ph.bt s 0 : Int) - 224) (Ph.bt s) (k + 1) = Ph.Rk ((Ph.bt s 0 : Int) - 224) (Ph.bt s) k * 64 + ((s[k]'hks).toNat : Int) - 128) := by
              show _ = _
              rw [Ph.Rk_succ _ _ _ hk1, HK.out]
            go_wp2
            go_round
            case rel =>
              refine ⟨k + 1, by omega, by omega, by go_num, by rw [HS.out], fun j h1 h2 => ?_⟩
              by_cases hj : j < k
              · exact HJ.out j h1 hj
              · obtain rfl : j = k := by omega
                rw [HK.out]; omega
            case measure => simp [intOf]; omega
      · obtain rfl : k = 3 := by omega
        have hk' : ¬ ((3 : Nat) : Int) < 3 := by omega
        have bad := fun h => Ph.d3e s.size (Ph.bt s) HB.out (by omega) HJ.out h
        have good := fun h => Ph.d3o s.size (Ph.bt s) HB.out (by omega) HJ.out h
        rw [← HD.out] at bad good
        have BAD := Lib.hid bad
        have GOOD := Lib.hid good
        clear bad good
        generalize Ph.Rk ((Ph.bt s 0 : Int) - 224) (Ph.bt s) 3 = R at *
        go_wp2
        all_goals
          go_ret2
          refine ⟨?_, rfl⟩
          first
            | exact ret_dec_err (BAD.out (by omega))
            | (have G := GOOD.out (by omega); exact ret_dec G.1.symm (by rw [G.2.1]; rfl))
            | (exfalso; have G := GOOD.out (by omega); omega)

set_option maxRecDepth 100000 in
set_option maxHeartbeats 800000 in
theorem dec_4 (s : ByteArray) (w : World) (hs : s.size ≤ 9223372036854775807) (hp : 0 < s.size) (h0 : 240 ≤ (s[0]'hp).toNat) (h1 : (s[0]'hp).toNat < 248) :
    Calls Tryd.prog 72 #[.string s] w fun e w' => e = .returned (.tuple #[.int .i32 (Ph.decZ s.data.toList).1, .int .i64 (Ph.decZ s.data.toList).2]) ∧ w = w' := by
  have ex := Ph.empty_no hp
  have hd := Ph.decZ_bt s hp
  have h0' : (240 : Int) ≤ ((s[0]'hp).toNat : Int) := by omega
  have h1' : ((s[0]'hp).toNat : Int) < 248 := by omega
  have HB : Hid (240 ≤ Ph.bt s 0 ∧ Ph.bt s 0 < 248) := by rw [Ph.bt_at s 0 hp]; exact ⟨h0, h1⟩
  have HZ : Hid (((s[0]'hp).toNat : Int) = Ph.bt s 0) := by show _ = _; rw [Ph.bt_at s 0 hp]
  by_cases hn : s.size < 4
  · have HD : Hid (Ph.decZ s.data.toList = (65533, 1)) := by
      show _ = _
      rw [hd, Ph.d4s _ _ _ _ _ HB.out hn]
    have hn' : (s.size : Int) < 4 := by omega
    clear hd
    go_enter Tryd.func72, Tryd.ntmps72
    go_wp2
    go_ret2
    exact ⟨ret_dec_err HD.out, rfl⟩
  · have hn' : (4 : Int) ≤ (s.size : Int) := by omega
    have HD := Lib.hid hd
    clear hd
    go_enter Tryd.func72, Tryd.ntmps72
    go_wp2
    go_loop [7, 8] (fun r i => ∃ k : Nat, 1 ≤ k ∧ k ≤ 4 ∧ i = .int .i64 k ∧ r = .int .i32 (Ph.Rk ((Ph.bt s 0 : Int) - 240) (Ph.bt s) k) ∧ Hid (∀ j, 1 ≤ j → j < k → 128 ≤ Ph.bt s j ∧ Ph.bt s j ≤ 191)) (fun _ i => 4 - (intOf i).toNat)
    case atStart => exact ⟨1, by omega, by omega, rfl, by rw [HZ.out]; rfl, fun j h1 h2 => by omega⟩
    case round =>
      obtain ⟨k, hk1, hk2, rfl, rfl, HJ⟩ := hrel
      have hR := Ph.Rk_bd ((Ph.bt s 0 : Int) - 240) (Ph.bt s) (by have := HB.out; omega) (by have := HB.out; omega) k (by omega) HJ.out
      obtain ⟨hR0, hR1⟩ := hR
      by_cases hk : k < 4
      · have hks : k < s.size := by omega
        have hbk := Ph.bt_at s k hks
        have hk' : (k : Int) < 4 := by omega
        have hbl := (s[k]'hks).toNat_lt
        have HK : Hid (Ph.bt s k = (s[k]'hks).toNat) := hbk
        clear hbk
        have bad : Ph.bt s k < 128 ∨ 191 < Ph.bt s k → Ph.decZ s.data.toList = (65533, 1) := fun h => by rw [HD.out, Ph.d4b _ _ (Ph.bt_lt s) HB.out k hk1 hk h]
        have BAD := Lib.hid bad
        clear bad
        by_cases hc1 : (s[k]'hks).toNat < 128
        · have hc1' : ((s[k]'hks).toNat : Int) < 128 := by omega
          go_wp2
          go_ret2
          exact ⟨ret_dec_err (BAD.out (.inl (by rw [HK.out]; exact hc1))), rfl⟩
        · have hc1' : (128 : Int) ≤ ((s[k]'hks).toNat : Int) := by omega
          by_cases hc2 : 191 < (s[k]'hks).toNat
          · have hc2' : (191 : Int) < ((s[k]'hks).toNat : Int) := by omega
            go_wp2
            go_ret2
            exact ⟨ret_dec_err (BAD.out (.inr (by rw [HK.out]; exact hc2))), rfl⟩
          · have hc2' : ((s[k]'hks).toNat : Int) ≤ 191 := by omega
            have HS : Hid (Ph.Rk ((Ph.bt s 0 : Int) - 240) (Ph.bt s) (k + 1) = Ph.Rk ((Ph.bt s 0 : Int) - 240) (Ph.bt s) k * 64 + ((s[k]'hks).toNat : Int) - 128) := by
              show _ = _
              rw [Ph.Rk_succ _ _ _ hk1, HK.out]
            go_wp2
            go_round
            case rel =>
              refine ⟨k + 1, by omega, by omega, by go_num, by rw [HS.out], fun j h1 h2 => ?_⟩
              by_cases hj : j < k
              · exact HJ.out j h1 hj
              · obtain rfl : j = k := by omega
                rw [HK.out]; omega
            case measure => simp [intOf]; omega
      · obtain rfl : k = 4 := by omega
        have hk' : ¬ ((4 : Nat) : Int) < 4 := by omega
        have bad := fun h => Ph.d4e s.size (Ph.bt s) HB.out (by omega) HJ.out h
        have good := fun h => Ph.d4o s.size (Ph.bt s) HB.out (by omega) HJ.out h
        rw [← HD.out] at bad good
        have BAD := Lib.hid bad
        have GOOD := Lib.hid good
        clear bad good
        generalize Ph.Rk ((Ph.bt s 0 : Int) - 240) (Ph.bt s) 4 = R at *
        go_wp2
        all_goals
          go_ret2
          refine ⟨?_, rfl⟩
          first
            | exact ret_dec_err (BAD.out (by omega))
            | (have G := GOOD.out (by omega); exact ret_dec G.1.symm (by rw [G.2]; rfl))
            | (exfalso; have G := GOOD.out (by omega); omega)

/-- THE REFERENCE's DECODER, at every text. -/
theorem ref_Decode (s : ByteArray) (w : World) (hs : s.size ≤ 9223372036854775807) :
    Calls Tryd.prog 72 #[.string s] w fun e w' => e = .returned (.tuple #[.int .i32 (Ph.decZ s.data.toList).1, .int .i64 (Ph.decZ s.data.toList).2]) ∧ w = w' := by
  by_cases hp : 0 < s.size
  · have hl := (s[0]'hp).toNat_lt
    by_cases h1 : (s[0]'hp).toNat < 128
    · exact dec_ascii s w hp h1
    · by_cases h2 : (s[0]'hp).toNat < 192
      · exact dec_none s w hp (.inl ⟨by omega, h2⟩)
      · by_cases h3 : (s[0]'hp).toNat < 224
        · exact dec_2 s w hs hp (by omega) h3
        · by_cases h4 : (s[0]'hp).toNat < 240
          · exact dec_3 s w hs hp (by omega) h4
          · by_cases h5 : (s[0]'hp).toNat < 248
            · exact dec_4 s w hs hp (by omega) h5
            · exact dec_none s w hp (.inr (by omega))
  · exact dec_short s w hp
end Go.Proofs.YtcfaicomnngegaaDoor

/-
  Words for memory, used by all walks of this seat: a slice of bytes that the call owns, a slice of bytes that is read, and what becomes of them.
-/
set_option linter.unusedVariables false
namespace Go.Proofs.YtcfaicomnngegaaDoor
open Go.RowKit

section
variable {P : Program} {w w' : World} {base e : Nat} {v : Value} {l : List UInt8}

theorem byteCells_len (l : List UInt8) : (Lib.byteCells l).length = l.length := by simp [Lib.byteCells]
theorem byteCells_app (a b : List UInt8) : Lib.byteCells (a ++ b) = Lib.byteCells a ++ Lib.byteCells b := by simp [Lib.byteCells]
theorem byteCells_get (l : List UInt8) (j : Nat) (h : j < l.length) : (Lib.byteCells l)[j]? = some (.int .u8 l[j].toNat) := by
  simp [Lib.byteCells, h]

/-- 'string(b)' of bytes that the call owns. -/
theorem run_string_own (src dst e : TypeId) (hs : P.underlying src = some (.slice e)) (he : P.underlying e = some (.int .u8)) (hd : P.underlying dst = some .string)
    (h : w.ownsRow base e 1 v l.length (Lib.byteCells l)) : (convert src dst v).run P w = .ok (.string ⟨l.toArray⟩) w := by
  rcases h.2 with ⟨rfl, h0⟩ | ⟨g, cap, cur, rfl, _, hg, hn, hm, hsz, hx⟩
  · have : l = [] := List.length_eq_zero_iff.1 h0
    subst this
    rw [run_convert_bytes_string w src dst e none 0 0 hs he hd]
    simp [Conv.bytesToString]
    rfl
  · refine run_convert_bytes_back w src dst e ⟨g, 0, none⟩ cap l hs he hd fun j hj => ?_
    exact h.cells (g := g) rfl j _ (byteCells_get l j hj)

/-- What the call owns stays while nothing that lies is written. -/
theorem own_below {size n : Nat} {xs : List Value} (h : w.ownsRow base e size v n xs) (hb : Below w.heap.size w w') : w'.ownsRow base e size v n xs := by
  refine ⟨h.1, ?_⟩
  rcases h.2 with hn | ⟨g, cap, cur, rfl, hg, hh, rest⟩
  · exact .inl hn
  · exact .inr ⟨g, cap, cur, rfl, hg, (hb.block g (Array.getElem?_eq_some_iff.1 hh).1).trans hh, rest⟩
/-- The value of a row that the call owns, and its cells. -/
theorem own_slice {size n : Nat} {xs : List Value} (h : w.ownsRow base e size v n xs) : ∃ A c, v = .slice A n c ∧ n ≤ c ∧ c ≤ maxLen ∧ (0 < n → ∃ g, A = some ⟨g, 0, none⟩ ∧ ∀ j, j < n * size → w.cell? ⟨g, j, none⟩ = xs[j]?) := by
  rcases h.2 with ⟨rfl, rfl⟩ | ⟨g, cap, cur, rfl, hg, hh, hnc, hm, hsz, hx⟩
  · exact ⟨none, 0, rfl, by omega, by omega, fun h => by omega⟩
  · exact ⟨_, cap, rfl, hnc, hm, fun _ => ⟨g, rfl, fun j hj => h.cellAt j hj⟩⟩
/-- One byte more. -/
theorem own_snoc {z : Int} {c : UInt8} (h : w.ownsRow base e 1 v (l.length + 1) (Lib.byteCells l ++ [.int .u8 z])) (hz : z = (c.toNat : Int)) : w.ownsRow base e 1 v (l ++ [c]).length (Lib.byteCells (l ++ [c])) := by
  subst hz
  rw [byteCells_app, List.length_append]
  exact h
theorem own_more {xs : List UInt8} {n : Nat} {cs : List Value} (h : w.ownsRow base e 1 v n (Lib.byteCells l ++ cs)) (hn : n = l.length + xs.length) (hc : cs = Lib.byteCells xs) : w.ownsRow base e 1 v (l ++ xs).length (Lib.byteCells (l ++ xs)) := by
  subst hn hc
  rw [byteCells_app, List.length_append]
  exact h
theorem bytes_app (a b : List UInt8) : (⟨a.toArray⟩ : ByteArray) ++ ⟨b.toArray⟩ = ⟨(a ++ b).toArray⟩ := by
  apply ByteArray.ext
  simp
end
end Go.Proofs.YtcfaicomnngegaaDoor

/-
  Plain law: what the reference lists of a text's runes: the runes, where each begins, whether all are true ones.
-/
set_option linter.unusedVariables false
namespace Ph
open Go Go.Lib

def offsFrom : Nat → List (Nat × Nat) → List Nat
  | _, [] => []
  | a, q :: p => a :: offsFrom (a + q.2) p
def offs (p : List (Nat × Nat)) : List Nat := offsFrom 0 p
theorem offsFrom_snoc : ∀ (p : List (Nat × Nat)) (a : Nat) (q : Nat × Nat), offsFrom a (p ++ [q]) = offsFrom a p ++ [a + wid p]
  | [], a, q => by simp [offsFrom, wid_nil]
  | x :: p, a, q => by
    simp only [List.cons_append, offsFrom, offsFrom_snoc p, wid_cons]
    simp; omega
theorem offs_snoc (p : List (Nat × Nat)) (q : Nat × Nat) : offs (p ++ [q]) = offs p ++ [wid p] := by
  unfold offs; rw [offsFrom_snoc]; simp
theorem offsFrom_len : ∀ (p : List (Nat × Nat)) (a : Nat), (offsFrom a p).length = p.length
  | [], _ => rfl
  | x :: p, a => by simp [offsFrom, offsFrom_len p]
theorem offs_len (p : List (Nat × Nat)) : (offs p).length = p.length := offsFrom_len p 0
theorem offsFrom_get : ∀ (p : List (Nat × Nat)) (a k : Nat), k < p.length → (offsFrom a p)[k]? = some (a + wid (p.take k))
  | [], _, _, h => by simp at h
  | x :: p, a, 0, _ => by simp [offsFrom, wid_nil]
  | x :: p, a, k + 1, h => by
    simp only [offsFrom, List.getElem?_cons_succ, List.take_succ_cons, wid_cons]
    rw [offsFrom_get p (a + x.2) k (by simpa using h)]
    simp; omega
theorem offs_get (p : List (Nat × Nat)) (k : Nat) (h : k < p.length) : (offs p)[k]? = some (wid (p.take k)) := by
  unfold offs; rw [offsFrom_get p 0 k h]; simp

/-- Is each rune but U+FFFD, or one of three bytes? -/
def goodB (p : List (Nat × Nat)) : Bool := p.all fun q => !(q.1 == 65533) || q.2 == 3
theorem goodB_snoc (p : List (Nat × Nat)) (q : Nat × Nat) : goodB (p ++ [q]) = (goodB p && (!(q.1 == 65533) || q.2 == 3)) := by simp [goodB]
theorem good_a {g : Bool} {d : Nat × Nat} (hg : g = true) (h : (d.1 : Int) = 65533) : ((d.2 : Int) == 3) = (g && (!(d.1 == 65533) || d.2 == 3)) := by
  have h1 : d.1 = 65533 := by omega
  have e : ((d.2 : Int) == 3) = (d.2 == 3) := by
    rw [Bool.eq_iff_iff, beq_iff_eq, beq_iff_eq]
    omega
  rw [e]
  simp [hg, h1]
theorem good_b {g : Bool} {d : Nat × Nat} (hg : g = true) (h : ¬ (d.1 : Int) = 65533) : true = (g && (!(d.1 == 65533) || d.2 == 3)) := by
  have h1 : ¬ d.1 = 65533 := by omega
  simp [hg, h1]
theorem good_c {g : Bool} {d : Nat × Nat} (hg : ¬ g = true) : false = (g && (!(d.1 == 65533) || d.2 == 3)) := by
  simp at hg; simp [hg]
theorem err_width (l : List UInt8) (h : (decodeL l).1 = 65533) : (decodeL l).2 = 1 ∨ (decodeL l).2 = 3 := by
  rw [decodeL_N] at h ⊢
  have h1 := (l.getD 1 0).toNat_lt
  rcases decodeN_shape l.length (l.getD 0 0).toNat (l.getD 1 0).toNat (l.getD 2 0).toNat (l.getD 3 0).toNat with ⟨c, e⟩ | ⟨c1, c2, c3, cv, e⟩ | ⟨c1, c2, c3, c4, cv, cs, e⟩ | ⟨c1, c2, c3, c4, c5, cv, cw, e⟩ | e
  all_goals (rw [e] at h ⊢; simp only at h ⊢)
  · omega
  · omega
  · exact .inr trivial
  · omega
  · exact .inl trivial
theorem goodB_rs : ∀ l : List UInt8, goodB (rs l) = validD l :=
  rs_induct rfl (fun l he ih => by
    rw [rs_step l he, validD_step l he, goodB, List.all_cons]
    show (_ && goodB (rs (l.drop (decodeL l).2))) = _
    rw [ih]
    by_cases h : (decodeL l).1 = 65533
    · rcases err_width l h with h2 | h2
      · simp [h, h2]
      · simp [h, h2]
    · simp [h])

theorem decZ_extract (s : ByteArray) (pos : Nat) (h : pos < s.size) : decZ (s.extract pos s.size).data.toList = Utf8.decode s pos := by
  have hs : (s.extract pos s.size).size = s.size - pos := by simp
  rw [(decZ_ne (s := s.extract pos s.size) (by omega)).1, extract_drop, decodeL_drop]

def runeVals (p : List (Nat × Nat)) : List Value := p.map fun q => Value.int .i32 q.1
def intVals (l : List Nat) : List Value := l.map fun (n : Nat) => Value.int .i64 (n : Int)
theorem runeVals_snoc (p : List (Nat × Nat)) (q : Nat × Nat) : runeVals (p ++ [q]) = runeVals p ++ [.int .i32 q.1] := by simp [runeVals]
theorem intVals_snoc (p : List Nat) (q : Nat) : intVals (p ++ [q]) = intVals p ++ [.int .i64 q] := by simp [intVals]
theorem runeVals_get (p : List (Nat × Nat)) (k : Nat) (h : k < p.length) : (runeVals p)[k]? = some (.int .i32 (p[k]'h).1) := by simp [runeVals, h]
theorem intVals_get (p : List Nat) (k : Nat) (x : Nat) (h : p[k]? = some x) : (intVals p)[k]? = some (.int .i64 x) := by simp [intVals, h]
end Ph

/-
  The walk of the reference's list of a text's runes.
-/
set_option linter.unusedVariables false
set_option maxRecDepth 10000
namespace Go.Proofs.YtcfaicomnngegaaDoor
open Go.RowKit

theorem info_rune : (Tryd.prog.info? 21).map (fun i => (i.zero, i.size, i.bytes)) = some (some (.int .i32 0), 1, 4) := by kernel_rfl
theorem info_int : (Tryd.prog.info? 3).map (fun i => (i.zero, i.size, i.bytes)) = some (some (.int .i64 0), 1, 8) := by kernel_rfl

/-- A row that the call owns stays while a row of another element type is appended to. -/
theorem own_ne {w : World} {b b' e e' size size' n n' : Nat} {v v' : Value} {xs xs' : List Value} (h : w.ownsRow b e size v n xs) (h' : w.ownsRow b' e' size' v' n' xs') (hne : e ≠ e') : v.ownBlock = none ∨ v.ownBlock ≠ v'.ownBlock := by
  rcases h.2 with ⟨rfl, _⟩ | ⟨g, cap, cur, rfl, _, hh, _⟩
  · left; rfl
  · right
    rcases h'.2 with ⟨rfl, _⟩ | ⟨g', cap', cur', rfl, _, hh', _⟩
    · simp [Value.ownBlock]
    · simp only [Value.ownBlock, ne_eq, Option.some.injEq]
      rintro rfl
      rw [hh] at hh'
      injection hh' with hh'
      injection hh' with _ ht
      exact hne ht

set_option maxHeartbeats 800000 in
theorem ref_Runes (s : ByteArray) (w : World) (hs : s.size ≤ 1000000) :
    Calls Tryd.prog 66 #[.string s] w fun e w' => ∃ vl va, e = .returned (.tuple #[vl, va, .bool (Lib.validD s.data.toList)]) ∧
      w'.ownsRow w.heap.size 21 1 vl (Ph.rs s.data.toList).length (Ph.runeVals (Ph.rs s.data.toList)) ∧ w'.ownsRow w.heap.size 3 1 va (Ph.rs s.data.toList).length (Ph.intVals (Ph.offs (Ph.rs s.data.toList))) ∧ Below w.heap.size w w' := by
  have hcl := Ph.count_le s
  obtain ⟨ir, hir, hrz, hrs, hrb⟩ := info_parts info_rune
  obtain ⟨ii, hii, hiz, his, hib⟩ := info_parts info_int
  go_enter Tryd.func66, Tryd.ntmps66
  go_wp2
  go_loopw [5, 6, 7, 8] (fun l at_ good i wr => ∃ pos k : Nat, i = .int .i64 pos ∧ pos ≤ s.size ∧ k ≤ s.size ∧ good = .bool (Ph.goodB ((Ph.rs s.data.toList).take k)) ∧
      wr.ownsRow w.heap.size 21 1 l k (Ph.runeVals ((Ph.rs s.data.toList).take k)) ∧ wr.ownsRow w.heap.size 3 1 at_ k (Ph.intVals (Ph.offs ((Ph.rs s.data.toList).take k))) ∧
      Below w.heap.size w wr ∧ Hid (Ph.rs (s.data.toList.drop pos) = (Ph.rs s.data.toList).drop k) ∧ Hid (pos = Ph.wid ((Ph.rs s.data.toList).take k))) (fun _ _ _ i _ => s.size - (intOf i).toNat)
  case atStart =>
    exact ⟨0, 0, rfl, by omega, by omega, rfl, World.ownsRow_nil _ _ _ _, World.ownsRow_nil _ _ _ _, Below.refl _ _, by unfold Hid; simp, by unfold Hid; simp [Ph.wid_nil]⟩
  case round =>
    obtain ⟨pos, k, rfl, hpos, hk, rfl, hl, ha, hbw, HK, HP⟩ := hrel
    by_cases hp : pos < s.size
    · have hp' : (pos : Int) < (s.size : Int) := by omega
      have hst := Ph.step_take (HK.out.symm.trans (Ph.rs_at s pos hp))
      have hk1 : k + 1 ≤ s.size := by have := hst.1; unfold Ph.count at hcl; omega
      have HS : Hid ((Ph.rs s.data.toList).take (k + 1) = (Ph.rs s.data.toList).take k ++ [Utf8.decode s pos] ∧ (Ph.rs s.data.toList).drop (k + 1) = Ph.rs (s.data.toList.drop (pos + (Utf8.decode s pos).2))) := hst.2
      clear hst
      have hw1 := Ph.width_pos s pos
      have hw2 := Ph.width_le s pos hp
      go_wp2_with fail
      refine (ref_Decode (s.extract pos s.size) _ (by simp; omega)).mono ?_
      rintro e w' ⟨rfl, rfl⟩
      rw [Ph.decZ_extract s pos hp]
      generalize hd : Utf8.decode s pos = d at *
      have HD := Lib.hid hd
      clear hd
      go_wp2_with (at_builtin; refine wpList_append_own _ rfl (.tmp 22) (.tmp 24) 117 rfl w.heap.size 21 ir (.int .i32 0) 1 4 Tryd.underlying117 hir hrz hrs hrb rfl (by decide) _ k _ rfl (hl.alloc _) ⟨wr.heap.size, 0, none⟩ 1 1 [.int .i32 (d.1 : Int)] rfl rfl ?c1 ?c2 ?c3 ?c4 ?c5 ?_)
      case c1 => exact (cell_one_new _ _ _)
      case c2 => simp [Value.oneCell']
      case c3 => unfold maxLen; omega
      case c4 => omega
      case c5 => have := hbw.size; simp; omega
      intro l1 w1 hl1 hg1 _
      have hb1 : Below w.heap.size w w1 := (hbw.alloc hbw.size _).grown hg1 (by have := hbw.size; simp; omega) (fun g hg => (hl.lt g hg).1)
      have ha1 : w1.ownsRow w.heap.size 3 1 u6 k (Ph.intVals (Ph.offs ((Ph.rs s.data.toList).take k))) := (ha.alloc _).kept hg1 (own_ne ha hl (by decide))
      go_wp2_with (at_builtin; refine wpList_append_own _ rfl (.tmp 26) (.tmp 28) 23 rfl w.heap.size 3 ii (.int .i64 0) 1 8 Tryd.underlying23 hii hiz his hib rfl (by decide) _ k _ rfl (ha1.alloc _) ⟨w1.heap.size, 0, none⟩ 1 1 [.int .i64 (pos : Int)] rfl rfl ?d1 ?d2 ?d3 ?d4 ?d5 ?_)
      case d1 => exact (cell_one_new _ _ _)
      case d2 => simp [Value.oneCell']
      case d3 => unfold maxLen; omega
      case d4 => omega
      case d5 => have := hb1.size; simp; omega
      intro a1 w2 ha2 hg2 _
      have hb2 : Below w.heap.size w w2 := (hb1.alloc hb1.size _).grown hg2 (by have := hb1.size; simp; omega) (fun g hg => (ha1.lt g hg).1)
      have hl2 : w2.ownsRow w.heap.size 21 1 l1 (k + 1) (Ph.runeVals ((Ph.rs s.data.toList).take k) ++ [.int .i32 (d.1 : Int)]) := (hl1.alloc _).kept hg2 (own_ne hl1 ha1 (by decide))
      rw [← Ph.runeVals_snoc] at hl2
      have hl3 : w2.ownsRow w.heap.size 21 1 l1 (k + 1) (Ph.runeVals ((Ph.rs s.data.toList).take (k + 1))) := by rw [HS.out.1]; exact hl2
      have ha3 : w2.ownsRow w.heap.size 3 1 a1 (k + 1) (Ph.intVals (Ph.offs ((Ph.rs s.data.toList).take (k + 1)))) := by
        rw [HS.out.1, Ph.offs_snoc, Ph.intVals_snoc, ← HP.out]
        exact ha2
      have HP2 : Hid (pos + d.2 = Ph.wid ((Ph.rs s.data.toList).take (k + 1))) := by
        show _ = _
        rw [HS.out.1, Ph.wid_append, ← HP.out]
        simp [Ph.wid_cons, Ph.wid_nil]
      clear hl ha hl1 ha1 hl2 ha2 hg1 hg2 hb1 hbw
      go_wp2
      all_goals
        go_roundw
        case rel =>
          refine ⟨pos + d.2, k + 1, by go_num, by omega, by omega, ?_, hl3, ha3, hb2, HS.out.2.symm, HP2⟩
          rw [HS.out.1, Ph.goodB_snoc]
          first | exact congrArg Value.bool (Ph.good_a ‹_› ‹_›) | exact congrArg Value.bool (Ph.good_b ‹_› ‹_›) | exact congrArg Value.bool (Ph.good_c ‹_›)
        case measure => simp [intOf]; omega
    · have hp' : (s.size : Int) ≤ (pos : Int) := by omega
      have hle := Ph.drop_nil_le (HK.out.symm.trans (Ph.rs_end s pos hp))
      have hk2 := hl.1
      rw [Ph.runeVals, List.length_map, List.length_take] at hk2
      obtain rfl : k = (Ph.rs s.data.toList).length := by omega
      have e := List.take_of_length_le (l := Ph.rs s.data.toList) (Nat.le_refl _)
      rw [e] at hl ha
      have HG : Hid (Ph.goodB ((Ph.rs s.data.toList).take (Ph.rs s.data.toList).length) = Lib.validD s.data.toList) := by
        show _ = _
        rw [e, Ph.goodB_rs]
      clear e hk2
      go_wp2
      go_ret3
      refine ⟨_, _, ?_, hl, ha, hbw⟩
      rw [← HG.out]
      rfl
end Go.Proofs.YtcfaicomnngegaaDoor

/-
  What is known of the seat's types: an instance each (printed by gen_types.py).
-/
namespace Go.Proofs.YtcfaicomnngegaaDoor
open Go.Sx
instance ty1 : Ty Tryd.prog 1 false [Value.nilFunc] := .mk' (v := Value.nilFunc) (k := 1) (by kernel_rfl) (by kernel_rfl) rfl rfl
instance ty2 : Ty Tryd.prog 2 false [Value.int .i64 0] := .mk' (v := Value.int .i64 0) (k := 1) (by kernel_rfl) (by kernel_rfl) rfl rfl
instance ty3 : Ty Tryd.prog 3 false [Value.int .i64 0] := .mk' (v := Value.int .i64 0) (k := 1) (by kernel_rfl) (by kernel_rfl) rfl rfl
instance ty4 : Ty Tryd.prog 4 false [Value.bool false] := .mk' (v := Value.bool false) (k := 1) (by kernel_rfl) (by kernel_rfl) rfl rfl
instance ty5 : Ty Tryd.prog 5 false [Value.int .u8 0] := .mk' (v := Value.int .u8 0) (k := 1) (by kernel_rfl) (by kernel_rfl) rfl rfl
instance ty6 : Ty Tryd.prog 6 false [Value.int .u8 0] := .mk' (v := Value.int .u8 0) (k := 1) (by kernel_rfl) (by kernel_rfl) rfl rfl
instance ty7 : Ty Tryd.prog 7 true [Value.int .i64 0, Value.int .i64 0, Value.bool false, Value.int .u8 0] := .mk' (v := .agg #[Value.int .i64 0, Value.int .i64 0, Value.bool false, Value.int .u8 0]) (k := 4) (by kernel_rfl) (by kernel_rfl) rfl rfl
instance ty8 : Ty Tryd.prog 8 true [Value.int .i64 0, Value.int .i64 0, Value.bool false, Value.int .u8 0] := .mk' (v := .agg #[Value.int .i64 0, Value.int .i64 0, Value.bool false, Value.int .u8 0]) (k := 4) (by kernel_rfl) (by kernel_rfl) rfl rfl
instance ty9 : Ty Tryd.prog 9 false [Value.string ⟨#[]⟩] := .mk' (v := Value.string ⟨#[]⟩) (k := 1) (by kernel_rfl) (by kernel_rfl) rfl rfl
instance ty10 : Ty Tryd.prog 10 false [Value.string ⟨#[]⟩] := .mk' (v := Value.string ⟨#[]⟩) (k := 1) (by kernel_rfl) (by kernel_rfl) rfl rfl
instance ty11 : Ty Tryd.prog 11 false [Value.string ⟨#[]⟩] := .mk' (v := Value.string ⟨#[]⟩) (k := 1) (by kernel_rfl) (by kernel_rfl) rfl rfl
instance ty12 : Ty Tryd.prog 12 false [Value.int .u64 0] := .mk' (v := Value.int .u64 0) (k := 1) (by kernel_rfl) (by kernel_rfl) rfl rfl
instance ty13 : Ty Tryd.prog 13 true [Value.string ⟨#[]⟩, Value.int .u64 0] := .mk' (v := .agg #[Value.string ⟨#[]⟩, Value.int .u64 0]) (k := 2) (by kernel_rfl) (by kernel_rfl) rfl rfl
instance ty14 : Ty Tryd.prog 14 true [Value.string ⟨#[]⟩, Value.int .u64 0] := .mk' (v := .agg #[Value.string ⟨#[]⟩, Value.int .u64 0]) (k := 2) (by kernel_rfl) (by kernel_rfl) rfl rfl
instance ty15 : Ty Tryd.prog 15 false [Value.pointer none] := .mk' (v := Value.pointer none) (k := 1) (by kernel_rfl) (by kernel_rfl) rfl rfl
instance ty16 : Ty Tryd.prog 16 false [Value.pointer none] := .mk' (v := Value.pointer none) (k := 1) (by kernel_rfl) (by kernel_rfl) rfl rfl
instance ty17 : Ty Tryd.prog 17 false [Value.pointer none] := .mk' (v := Value.pointer none) (k := 1) (by kernel_rfl) (by kernel_rfl) rfl rfl
instance ty18 : Ty Tryd.prog 18 true [Value.pointer none] := .mk' (v := .agg #[Value.pointer none]) (k := 1) (by kernel_rfl) (by kernel_rfl) rfl rfl
instance ty19 : Ty Tryd.prog 19 true [Value.pointer none] := .mk' (v := .agg #[Value.pointer none]) (k := 1) (by kernel_rfl) (by kernel_rfl) rfl rfl
instance ty20 : Ty Tryd.prog 20 false [Value.nilIface] := .mk' (v := Value.nilIface) (k := 1) (by kernel_rfl) (by kernel_rfl) rfl rfl
instance ty21 : Ty Tryd.prog 21 false [Value.int .i32 0] := .mk' (v := Value.int .i32 0) (k := 1) (by kernel_rfl) (by kernel_rfl) rfl rfl
instance ty22 : Ty Tryd.prog 22 false [Value.slice none 0 0] := .mk' (v := Value.slice none 0 0) (k := 1) (by kernel_rfl) (by kernel_rfl) rfl rfl
instance ty23 : Ty Tryd.prog 23 false [Value.slice none 0 0] := .mk' (v := Value.slice none 0 0) (k := 1) (by kernel_rfl) (by kernel_rfl) rfl rfl
instance ty24 : Ty Tryd.prog 24 false [Value.nilFunc] := .mk' (v := Value.nilFunc) (k := 1) (by kernel_rfl) (by kernel_rfl) rfl rfl
instance ty25 : Ty Tryd.prog 25 false [Value.slice none 0 0] := .mk' (v := Value.slice none 0 0) (k := 1) (by kernel_rfl) (by kernel_rfl) rfl rfl
instance ty26 : Ty Tryd.prog 26 false [Value.nilFunc] := .mk' (v := Value.nilFunc) (k := 1) (by kernel_rfl) (by kernel_rfl) rfl rfl
instance ty27 : Ty Tryd.prog 27 false [Value.slice none 0 0] := .mk' (v := Value.slice none 0 0) (k := 1) (by kernel_rfl) (by kernel_rfl) rfl rfl
instance ty28 : Ty Tryd.prog 28 false [Value.nilFunc] := .mk' (v := Value.nilFunc) (k := 1) (by kernel_rfl) (by kernel_rfl) rfl rfl
instance ty29 : Ty Tryd.prog 29 false [Value.nilFunc] := .mk' (v := Value.nilFunc) (k := 1) (by kernel_rfl) (by kernel_rfl) rfl rfl
instance ty30 : Ty Tryd.prog 30 false [Value.nilFunc] := .mk' (v := Value.nilFunc) (k := 1) (by kernel_rfl) (by kernel_rfl) rfl rfl
instance ty31 : Ty Tryd.prog 31 false [Value.slice none 0 0] := .mk' (v := Value.slice none 0 0) (k := 1) (by kernel_rfl) (by kernel_rfl) rfl rfl
instance ty32 : Ty Tryd.prog 32 true [Value.int .i64 0, Value.int .i64 0, Value.slice none 0 0] := .mk' (v := .agg #[Value.int .i64 0, Value.int .i64 0, Value.slice none 0 0]) (k := 3) (by kernel_rfl) (by kernel_rfl) rfl rfl
instance ty33 : Ty Tryd.prog 33 true [Value.int .i64 0, Value.int .i64 0, Value.slice none 0 0] := .mk' (v := .agg #[Value.int .i64 0, Value.int .i64 0, Value.slice none 0 0]) (k := 3) (by kernel_rfl) (by kernel_rfl) rfl rfl
instance ty34 : Ty Tryd.prog 34 false [Value.int .i64 0] := .mk' (v := Value.int .i64 0) (k := 1) (by kernel_rfl) (by kernel_rfl) rfl rfl
instance ty35 : Ty Tryd.prog 35 true [Value.int .i64 0, Value.int .i64 0, Value.int .i64 0, Value.slice none 0 0, Value.int .i64 0] := .mk' (v := .agg #[Value.int .i64 0, Value.int .i64 0, Value.int .i64 0, Value.slice none 0 0, Value.int .i64 0]) (k := 5) (by kernel_rfl) (by kernel_rfl) rfl rfl
instance ty36 : Ty Tryd.prog 36 true [Value.int .i64 0, Value.int .i64 0, Value.int .i64 0, Value.slice none 0 0, Value.int .i64 0] := .mk' (v := .agg #[Value.int .i64 0, Value.int .i64 0, Value.int .i64 0, Value.slice none 0 0, Value.int .i64 0]) (k := 5) (by kernel_rfl) (by kernel_rfl) rfl rfl
instance ty37 : Ty Tryd.prog 37 false [Value.nilFunc] := .mk' (v := Value.nilFunc) (k := 1) (by kernel_rfl) (by kernel_rfl) rfl rfl
instance ty38 : Ty Tryd.prog 38 false [Value.nilFunc] := .mk' (v := Value.nilFunc) (k := 1) (by kernel_rfl) (by kernel_rfl) rfl rfl
instance ty39 : Ty Tryd.prog 39 false [Value.slice none 0 0] := .mk' (v := Value.slice none 0 0) (k := 1) (by kernel_rfl) (by kernel_rfl) rfl rfl
instance ty40 : Ty Tryd.prog 40 true [Value.slice none 0 0] := .mk' (v := .agg #[Value.slice none 0 0]) (k := 1) (by kernel_rfl) (by kernel_rfl) rfl rfl
instance ty41 : Ty Tryd.prog 41 true [Value.slice none 0 0] := .mk' (v := .agg #[Value.slice none 0 0]) (k := 1) (by kernel_rfl) (by kernel_rfl) rfl rfl
instance ty42 : Ty Tryd.prog 42 true [Value.int .i64 0, Value.int .i64 0, Value.int .i64 0, Value.int .i64 0, Value.int .i64 0, Value.int .i64 0] := .mk' (v := .agg #[Value.int .i64 0, Value.int .i64 0, Value.int .i64 0, Value.int .i64 0, Value.int .i64 0, Value.int .i64 0]) (k := 6) (by kernel_rfl) (by kernel_rfl) rfl rfl
instance ty43 : Ty Tryd.prog 43 true [Value.int .i64 0, Value.int .i64 0, Value.int .i64 0, Value.slice none 0 0, Value.int .i64 0, Value.int .i64 0, Value.int .i64 0, Value.int .i64 0, Value.slice none 0 0, Value.int .i64 0, Value.int .i64 0, Value.int .i64 0, Value.int .i64 0, Value.slice none 0 0, Value.int .i64 0, Value.int .i64 0, Value.int .i64 0, Value.int .i64 0, Value.slice none 0 0, Value.int .i64 0, Value.int .i64 0, Value.int .i64 0, Value.int .i64 0, Value.slice none 0 0, Value.int .i64 0, Value.int .i64 0, Value.int .i64 0, Value.int .i64 0, Value.slice none 0 0, Value.int .i64 0] := .mk' (v := .agg #[Value.int .i64 0, Value.int .i64 0, Value.int .i64 0, Value.slice none 0 0, Value.int .i64 0, Value.int .i64 0, Value.int .i64 0, Value.int .i64 0, Value.slice none 0 0, Value.int .i64 0, Value.int .i64 0, Value.int .i64 0, Value.int .i64 0, Value.slice none 0 0, Value.int .i64 0, Value.int .i64 0, Value.int .i64 0, Value.int .i64 0, Value.slice none 0 0, Value.int .i64 0, Value.int .i64 0, Value.int .i64 0, Value.int .i64 0, Value.slice none 0 0, Value.int .i64 0, Value.int .i64 0, Value.int .i64 0, Value.int .i64 0, Value.slice none 0 0, Value.int .i64 0]) (k := 30) (by kernel_rfl) (by kernel_rfl) rfl rfl
instance ty44 : Ty Tryd.prog 44 true [Value.int .i64 0, Value.slice none 0 0, Value.int .i64 0, Value.int .i64 0, Value.int .i64 0, Value.int .i64 0, Value.int .i64 0, Value.int .i64 0, Value.int .i64 0, Value.int .i64 0, Value.int .i64 0, Value.slice none 0 0, Value.int .i64 0, Value.int .i64 0, Value.int .i64 0, Value.int .i64 0, Value.slice none 0 0, Value.int .i64 0, Value.int .i64 0, Value.int .i64 0, Value.int .i64 0, Value.slice none 0 0, Value.int .i64 0, Value.int .i64 0, Value.int .i64 0, Value.int .i64 0, Value.slice none 0 0, Value.int .i64 0, Value.int .i64 0, Value.int .i64 0, Value.int .i64 0, Value.slice none 0 0, Value.int .i64 0, Value.int .i64 0, Value.int .i64 0, Value.int .i64 0, Value.slice none 0 0, Value.int .i64 0] := .mk' (v := .agg #[Value.int .i64 0, Value.slice none 0 0, Value.int .i64 0, Value.int .i64 0, Value.int .i64 0, Value.int .i64 0, Value.int .i64 0, Value.int .i64 0, Value.int .i64 0, Value.int .i64 0, Value.int .i64 0, Value.slice none 0 0, Value.int .i64 0, Value.int .i64 0, Value.int .i64 0, Value.int .i64 0, Value.slice none 0 0, Value.int .i64 0, Value.int .i64 0, Value.int .i64 0, Value.int .i64 0, Value.slice none 0 0, Value.int .i64 0, Value.int .i64 0, Value.int .i64 0, Value.int .i64 0, Value.slice none 0 0, Value.int .i64 0, Value.int .i64 0, Value.int .i64 0, Value.int .i64 0, Value.slice none 0 0, Value.int .i64 0, Value.int .i64 0, Value.int .i64 0, Value.int .i64 0, Value.slice none 0 0, Value.int .i64 0]) (k := 38) (by kernel_rfl) (by kernel_rfl) rfl rfl
instance ty45 : Ty Tryd.prog 45 true [Value.int .i64 0, Value.slice none 0 0, Value.int .i64 0, Value.int .i64 0, Value.int .i64 0, Value.int .i64 0, Value.int .i64 0, Value.int .i64 0, Value.int .i64 0, Value.int .i64 0, Value.int .i64 0, Value.slice none 0 0, Value.int .i64 0, Value.int .i64 0, Value.int .i64 0, Value.int .i64 0, Value.slice none 0 0, Value.int .i64 0, Value.int .i64 0, Value.int .i64 0, Value.int .i64 0, Value.slice none 0 0, Value.int .i64 0, Value.int .i64 0, Value.int .i64 0, Value.int .i64 0, Value.slice none 0 0, Value.int .i64 0, Value.int .i64 0, Value.int .i64 0, Value.int .i64 0, Value.slice none 0 0, Value.int .i64 0, Value.int .i64 0, Value.int .i64 0, Value.int .i64 0, Value.slice none 0 0, Value.int .i64 0] := .mk' (v := .agg #[Value.int .i64 0, Value.slice none 0 0, Value.int .i64 0, Value.int .i64 0, Value.int .i64 0, Value.int .i64 0, Value.int .i64 0, Value.int .i64 0, Value.int .i64 0, Value.int .i64 0, Value.int .i64 0, Value.slice none 0 0, Value.int .i64 0, Value.int .i64 0, Value.int .i64 0, Value.int .i64 0, Value.slice none 0 0, Value.int .i64 0, Value.int .i64 0, Value.int .i64 0, Value.int .i64 0, Value.slice none 0 0, Value.int .i64 0, Value.int .i64 0, Value.int .i64 0, Value.int .i64 0, Value.slice none 0 0, Value.int .i64 0, Value.int .i64 0, Value.int .i64 0, Value.int .i64 0, Value.slice none 0 0, Value.int .i64 0, Value.int .i64 0, Value.int .i64 0, Value.int .i64 0, Value.slice none 0 0, Value.int .i64 0]) (k := 38) (by kernel_rfl) (by kernel_rfl) rfl rfl
instance ty47 : Ty Tryd.prog 47 false [Value.nilFunc] := .mk' (v := Value.nilFunc) (k := 1) (by kernel_rfl) (by kernel_rfl) rfl rfl
instance ty48 : Ty Tryd.prog 48 false [Value.nilFunc] := .mk' (v := Value.nilFunc) (k := 1) (by kernel_rfl) (by kernel_rfl) rfl rfl
instance ty49 : Ty Tryd.prog 49 false [Value.nilFunc] := .mk' (v := Value.nilFunc) (k := 1) (by kernel_rfl) (by kernel_rfl) rfl rfl
instance ty50 : Ty Tryd.prog 50 false [Value.nilFunc] := .mk' (v := Value.nilFunc) (k := 1) (by kernel_rfl) (by kernel_rfl) rfl rfl
instance ty51 : Ty Tryd.prog 51 false [Value.nilFunc] := .mk' (v := Value.nilFunc) (k := 1) (by kernel_rfl) (by kernel_rfl) rfl rfl
instance ty52 : Ty Tryd.prog 52 false [Value.nilFunc] := .mk' (v := Value.nilFunc) (k := 1) (by kernel_rfl) (by kernel_rfl) rfl rfl
instance ty53 : Ty Tryd.prog 53 true [Value.int .i64 0, Value.int .i64 0, Value.string ⟨#[]⟩] := .mk' (v := .agg #[Value.int .i64 0, Value.int .i64 0, Value.string ⟨#[]⟩]) (k := 3) (by kernel_rfl) (by kernel_rfl) rfl rfl
instance ty54 : Ty Tryd.prog 54 true [Value.int .i64 0, Value.int .i64 0, Value.string ⟨#[]⟩] := .mk' (v := .agg #[Value.int .i64 0, Value.int .i64 0, Value.string ⟨#[]⟩]) (k := 3) (by kernel_rfl) (by kernel_rfl) rfl rfl
instance ty55 : Ty Tryd.prog 55 true [Value.int .i64 0, Value.string ⟨#[]⟩, Value.int .i64 0, Value.int .i64 0, Value.string ⟨#[]⟩, Value.int .i64 0, Value.int .i64 0, Value.string ⟨#[]⟩, Value.int .i64 0] := .mk' (v := .agg #[Value.int .i64 0, Value.string ⟨#[]⟩, Value.int .i64 0, Value.int .i64 0, Value.string ⟨#[]⟩, Value.int .i64 0, Value.int .i64 0, Value.string ⟨#[]⟩, Value.int .i64 0]) (k := 9) (by kernel_rfl) (by kernel_rfl) rfl rfl
instance ty56 : Ty Tryd.prog 56 true [Value.int .i64 0, Value.string ⟨#[]⟩, Value.int .i64 0, Value.int .i64 0, Value.string ⟨#[]⟩, Value.int .i64 0, Value.int .i64 0, Value.string ⟨#[]⟩, Value.int .i64 0] := .mk' (v := .agg #[Value.int .i64 0, Value.string ⟨#[]⟩, Value.int .i64 0, Value.int .i64 0, Value.string ⟨#[]⟩, Value.int .i64 0, Value.int .i64 0, Value.string ⟨#[]⟩, Value.int .i64 0]) (k := 9) (by kernel_rfl) (by kernel_rfl) rfl rfl
instance ty58 : Ty Tryd.prog 58 false [Value.nilFunc] := .mk' (v := Value.nilFunc) (k := 1) (by kernel_rfl) (by kernel_rfl) rfl rfl
instance ty59 : Ty Tryd.prog 59 false [Value.nilFunc] := .mk' (v := Value.nilFunc) (k := 1) (by kernel_rfl) (by kernel_rfl) rfl rfl
instance ty60 : Ty Tryd.prog 60 false [Value.nilFunc] := .mk' (v := Value.nilFunc) (k := 1) (by kernel_rfl) (by kernel_rfl) rfl rfl
instance ty62 : Ty Tryd.prog 62 false [Value.nilFunc] := .mk' (v := Value.nilFunc) (k := 1) (by kernel_rfl) (by kernel_rfl) rfl rfl
instance ty63 : Ty Tryd.prog 63 false [Value.pointer none] := .mk' (v := Value.pointer none) (k := 1) (by kernel_rfl) (by kernel_rfl) rfl rfl
instance ty64 : Ty Tryd.prog 64 false [Value.nilFunc] := .mk' (v := Value.nilFunc) (k := 1) (by kernel_rfl) (by kernel_rfl) rfl rfl
instance ty66 : Ty Tryd.prog 66 false [Value.nilFunc] := .mk' (v := Value.nilFunc) (k := 1) (by kernel_rfl) (by kernel_rfl) rfl rfl
instance ty67 : Ty Tryd.prog 67 false [Value.nilFunc] := .mk' (v := Value.nilFunc) (k := 1) (by kernel_rfl) (by kernel_rfl) rfl rfl
instance ty68 : Ty Tryd.prog 68 false [Value.nilFunc] := .mk' (v := Value.nilFunc) (k := 1) (by kernel_rfl) (by kernel_rfl) rfl rfl
instance ty69 : Ty Tryd.prog 69 false [Value.nilFunc] := .mk' (v := Value.nilFunc) (k := 1) (by kernel_rfl) (by kernel_rfl) rfl rfl
instance ty70 : Ty Tryd.prog 70 false [Value.nilFunc] := .mk' (v := Value.nilFunc) (k := 1) (by kernel_rfl) (by kernel_rfl) rfl rfl
instance ty72 : Ty Tryd.prog 72 false [Value.nilFunc] := .mk' (v := Value.nilFunc) (k := 1) (by kernel_rfl) (by kernel_rfl) rfl rfl
instance ty73 : Ty Tryd.prog 73 false [Value.pointer none] := .mk' (v := Value.pointer none) (k := 1) (by kernel_rfl) (by kernel_rfl) rfl rfl
instance ty74 : Ty Tryd.prog 74 false [Value.nilFunc] := .mk' (v := Value.nilFunc) (k := 1) (by kernel_rfl) (by kernel_rfl) rfl rfl
instance ty75 : Ty Tryd.prog 75 true [Value.pointer none, Value.slice none 0 0] := .mk' (v := .agg #[Value.pointer none, Value.slice none 0 0]) (k := 2) (by kernel_rfl) (by kernel_rfl) rfl rfl
instance ty76 : Ty Tryd.prog 76 true [Value.pointer none, Value.slice none 0 0] := .mk' (v := .agg #[Value.pointer none, Value.slice none 0 0]) (k := 2) (by kernel_rfl) (by kernel_rfl) rfl rfl
instance ty78 : Ty Tryd.prog 78 false [Value.nilFunc] := .mk' (v := Value.nilFunc) (k := 1) (by kernel_rfl) (by kernel_rfl) rfl rfl
instance ty79 : Ty Tryd.prog 79 false [Value.nilFunc] := .mk' (v := Value.nilFunc) (k := 1) (by kernel_rfl) (by kernel_rfl) rfl rfl
instance ty80 : Ty Tryd.prog 80 false [Value.nilFunc] := .mk' (v := Value.nilFunc) (k := 1) (by kernel_rfl) (by kernel_rfl) rfl rfl
instance ty81 : Ty Tryd.prog 81 false [Value.nilFunc] := .mk' (v := Value.nilFunc) (k := 1) (by kernel_rfl) (by kernel_rfl) rfl rfl
instance ty82 : Ty Tryd.prog 82 false [Value.nilFunc] := .mk' (v := Value.nilFunc) (k := 1) (by kernel_rfl) (by kernel_rfl) rfl rfl
instance ty83 : Ty Tryd.prog 83 false [Value.slice none 0 0] := .mk' (v := Value.slice none 0 0) (k := 1) (by kernel_rfl) (by kernel_rfl) rfl rfl
instance ty84 : Ty Tryd.prog 84 false [Value.nilFunc] := .mk' (v := Value.nilFunc) (k := 1) (by kernel_rfl) (by kernel_rfl) rfl rfl
instance ty85 : Ty Tryd.prog 85 false [Value.nilFunc] := .mk' (v := Value.nilFunc) (k := 1) (by kernel_rfl) (by kernel_rfl) rfl rfl
instance ty87 : Ty Tryd.prog 87 false [Value.nilFunc] := .mk' (v := Value.nilFunc) (k := 1) (by kernel_rfl) (by kernel_rfl) rfl rfl
instance ty88 : Ty Tryd.prog 88 false [Value.nilFunc] := .mk' (v := Value.nilFunc) (k := 1) (by kernel_rfl) (by kernel_rfl) rfl rfl
instance ty89 : Ty Tryd.prog 89 false [Value.nilFunc] := .mk' (v := Value.nilFunc) (k := 1) (by kernel_rfl) (by kernel_rfl) rfl rfl
instance ty90 : Ty Tryd.prog 90 false [Value.pointer none] := .mk' (v := Value.pointer none) (k := 1) (by kernel_rfl) (by kernel_rfl) rfl rfl
instance ty91 : Ty Tryd.prog 91 false [Value.nilFunc] := .mk' (v := Value.nilFunc) (k := 1) (by kernel_rfl) (by kernel_rfl) rfl rfl
instance ty92 : Ty Tryd.prog 92 true [Value.int .i64 0, Value.int .i64 0, Value.int .i64 0, Value.int .i64 0, Value.slice none 0 0, Value.int .i64 0] := .mk' (v := .agg #[Value.int .i64 0, Value.int .i64 0, Value.int .i64 0, Value.int .i64 0, Value.slice none 0 0, Value.int .i64 0]) (k := 6) (by kernel_rfl) (by kernel_rfl) rfl rfl
instance ty93 : Ty Tryd.prog 93 true [Value.int .i64 0, Value.int .i64 0, Value.int .i64 0, Value.int .i64 0, Value.slice none 0 0, Value.int .i64 0] := .mk' (v := .agg #[Value.int .i64 0, Value.int .i64 0, Value.int .i64 0, Value.int .i64 0, Value.slice none 0 0, Value.int .i64 0]) (k := 6) (by kernel_rfl) (by kernel_rfl) rfl rfl
instance ty94 : Ty Tryd.prog 94 true [Value.int .i64 0, Value.int .i64 0, Value.int .i64 0, Value.int .i64 0, Value.slice none 0 0, Value.int .i64 0, Value.int .i64 0, Value.int .i64 0, Value.int .i64 0, Value.int .i64 0, Value.slice none 0 0, Value.int .i64 0, Value.int .i64 0, Value.int .i64 0, Value.int .i64 0, Value.int .i64 0, Value.slice none 0 0, Value.int .i64 0, Value.int .i64 0, Value.int .i64 0, Value.int .i64 0, Value.int .i64 0, Value.slice none 0 0, Value.int .i64 0, Value.int .i64 0, Value.int .i64 0, Value.int .i64 0, Value.int .i64 0, Value.slice none 0 0, Value.int .i64 0, Value.int .i64 0, Value.int .i64 0, Value.int .i64 0, Value.int .i64 0, Value.slice none 0 0, Value.int .i64 0] := .mk' (v := .agg #[Value.int .i64 0, Value.int .i64 0, Value.int .i64 0, Value.int .i64 0, Value.slice none 0 0, Value.int .i64 0, Value.int .i64 0, Value.int .i64 0, Value.int .i64 0, Value.int .i64 0, Value.slice none 0 0, Value.int .i64 0, Value.int .i64 0, Value.int .i64 0, Value.int .i64 0, Value.int .i64 0, Value.slice none 0 0, Value.int .i64 0, Value.int .i64 0, Value.int .i64 0, Value.int .i64 0, Value.int .i64 0, Value.slice none 0 0, Value.int .i64 0, Value.int .i64 0, Value.int .i64 0, Value.int .i64 0, Value.int .i64 0, Value.slice none 0 0, Value.int .i64 0, Value.int .i64 0, Value.int .i64 0, Value.int .i64 0, Value.int .i64 0, Value.slice none 0 0, Value.int .i64 0]) (k := 36) (by kernel_rfl) (by kernel_rfl) rfl rfl
instance ty95 : Ty Tryd.prog 95 true [Value.int .i64 0, Value.pointer none, Value.int .i64 0, Value.int .i64 0, Value.int .i64 0, Value.int .i64 0, Value.slice none 0 0, Value.int .i64 0, Value.int .i64 0, Value.int .i64 0, Value.int .i64 0, Value.int .i64 0, Value.slice none 0 0, Value.int .i64 0, Value.int .i64 0, Value.int .i64 0, Value.int .i64 0, Value.int .i64 0, Value.slice none 0 0, Value.int .i64 0, Value.int .i64 0, Value.int .i64 0, Value.int .i64 0, Value.int .i64 0, Value.slice none 0 0, Value.int .i64 0, Value.int .i64 0, Value.int .i64 0, Value.int .i64 0, Value.int .i64 0, Value.slice none 0 0, Value.int .i64 0, Value.int .i64 0, Value.int .i64 0, Value.int .i64 0, Value.int .i64 0, Value.slice none 0 0, Value.int .i64 0] := .mk' (v := .agg #[Value.int .i64 0, Value.pointer none, Value.int .i64 0, Value.int .i64 0, Value.int .i64 0, Value.int .i64 0, Value.slice none 0 0, Value.int .i64 0, Value.int .i64 0, Value.int .i64 0, Value.int .i64 0, Value.int .i64 0, Value.slice none 0 0, Value.int .i64 0, Value.int .i64 0, Value.int .i64 0, Value.int .i64 0, Value.int .i64 0, Value.slice none 0 0, Value.int .i64 0, Value.int .i64 0, Value.int .i64 0, Value.int .i64 0, Value.int .i64 0, Value.slice none 0 0, Value.int .i64 0, Value.int .i64 0, Value.int .i64 0, Value.int .i64 0, Value.int .i64 0, Value.slice none 0 0, Value.int .i64 0, Value.int .i64 0, Value.int .i64 0, Value.int .i64 0, Value.int .i64 0, Value.slice none 0 0, Value.int .i64 0]) (k := 38) (by kernel_rfl) (by kernel_rfl) rfl rfl
instance ty96 : Ty Tryd.prog 96 true [Value.int .i64 0, Value.pointer none, Value.int .i64 0, Value.int .i64 0, Value.int .i64 0, Value.int .i64 0, Value.slice none 0 0, Value.int .i64 0, Value.int .i64 0, Value.int .i64 0, Value.int .i64 0, Value.int .i64 0, Value.slice none 0 0, Value.int .i64 0, Value.int .i64 0, Value.int .i64 0, Value.int .i64 0, Value.int .i64 0, Value.slice none 0 0, Value.int .i64 0, Value.int .i64 0, Value.int .i64 0, Value.int .i64 0, Value.int .i64 0, Value.slice none 0 0, Value.int .i64 0, Value.int .i64 0, Value.int .i64 0, Value.int .i64 0, Value.int .i64 0, Value.slice none 0 0, Value.int .i64 0, Value.int .i64 0, Value.int .i64 0, Value.int .i64 0, Value.int .i64 0, Value.slice none 0 0, Value.int .i64 0] := .mk' (v := .agg #[Value.int .i64 0, Value.pointer none, Value.int .i64 0, Value.int .i64 0, Value.int .i64 0, Value.int .i64 0, Value.slice none 0 0, Value.int .i64 0, Value.int .i64 0, Value.int .i64 0, Value.int .i64 0, Value.int .i64 0, Value.slice none 0 0, Value.int .i64 0, Value.int .i64 0, Value.int .i64 0, Value.int .i64 0, Value.int .i64 0, Value.slice none 0 0, Value.int .i64 0, Value.int .i64 0, Value.int .i64 0, Value.int .i64 0, Value.int .i64 0, Value.slice none 0 0, Value.int .i64 0, Value.int .i64 0, Value.int .i64 0, Value.int .i64 0, Value.int .i64 0, Value.slice none 0 0, Value.int .i64 0, Value.int .i64 0, Value.int .i64 0, Value.int .i64 0, Value.int .i64 0, Value.slice none 0 0, Value.int .i64 0]) (k := 38) (by kernel_rfl) (by kernel_rfl) rfl rfl
instance ty97 : Ty Tryd.prog 97 false [Value.nilFunc] := .mk' (v := Value.nilFunc) (k := 1) (by kernel_rfl) (by kernel_rfl) rfl rfl
instance ty99 : Ty Tryd.prog 99 false [Value.nilFunc] := .mk' (v := Value.nilFunc) (k := 1) (by kernel_rfl) (by kernel_rfl) rfl rfl
instance ty100 : Ty Tryd.prog 100 false [Value.nilFunc] := .mk' (v := Value.nilFunc) (k := 1) (by kernel_rfl) (by kernel_rfl) rfl rfl
instance ty101 : Ty Tryd.prog 101 false [Value.nilFunc] := .mk' (v := Value.nilFunc) (k := 1) (by kernel_rfl) (by kernel_rfl) rfl rfl
instance ty102 : Ty Tryd.prog 102 false [Value.nilFunc] := .mk' (v := Value.nilFunc) (k := 1) (by kernel_rfl) (by kernel_rfl) rfl rfl
instance ty103 : Ty Tryd.prog 103 false [Value.nilFunc] := .mk' (v := Value.nilFunc) (k := 1) (by kernel_rfl) (by kernel_rfl) rfl rfl
instance ty104 : Ty Tryd.prog 104 false [Value.nilFunc] := .mk' (v := Value.nilFunc) (k := 1) (by kernel_rfl) (by kernel_rfl) rfl rfl
instance ty105 : Ty Tryd.prog 105 false [Value.nilFunc] := .mk' (v := Value.nilFunc) (k := 1) (by kernel_rfl) (by kernel_rfl) rfl rfl
instance ty106 : Ty Tryd.prog 106 false [Value.nilFunc] := .mk' (v := Value.nilFunc) (k := 1) (by kernel_rfl) (by kernel_rfl) rfl rfl
instance ty107 : Ty Tryd.prog 107 false [Value.nilFunc] := .mk' (v := Value.nilFunc) (k := 1) (by kernel_rfl) (by kernel_rfl) rfl rfl
instance ty108 : Ty Tryd.prog 108 true [Value.string ⟨#[]⟩, Value.int .i64 0, Value.int .i64 0, Value.string ⟨#[]⟩] := .mk' (v := .agg #[Value.string ⟨#[]⟩, Value.int .i64 0, Value.int .i64 0, Value.string ⟨#[]⟩]) (k := 4) (by kernel_rfl) (by kernel_rfl) rfl rfl
instance ty109 : Ty Tryd.prog 109 true [Value.string ⟨#[]⟩, Value.int .i64 0, Value.int .i64 0, Value.string ⟨#[]⟩] := .mk' (v := .agg #[Value.string ⟨#[]⟩, Value.int .i64 0, Value.int .i64 0, Value.string ⟨#[]⟩]) (k := 4) (by kernel_rfl) (by kernel_rfl) rfl rfl
instance ty110 : Ty Tryd.prog 110 false [Value.nilFunc] := .mk' (v := Value.nilFunc) (k := 1) (by kernel_rfl) (by kernel_rfl) rfl rfl
instance ty111 : Ty Tryd.prog 111 false [Value.map none] := .mk' (v := Value.map none) (k := 1) (by kernel_rfl) (by kernel_rfl) rfl rfl
instance ty112 : Ty Tryd.prog 112 true [Value.map none] := .mk' (v := .agg #[Value.map none]) (k := 1) (by kernel_rfl) (by kernel_rfl) rfl rfl
instance ty113 : Ty Tryd.prog 113 true [Value.map none] := .mk' (v := .agg #[Value.map none]) (k := 1) (by kernel_rfl) (by kernel_rfl) rfl rfl
instance ty114 : Ty Tryd.prog 114 false [Value.nilFunc] := .mk' (v := Value.nilFunc) (k := 1) (by kernel_rfl) (by kernel_rfl) rfl rfl
instance ty115 : Ty Tryd.prog 115 false [Value.nilFunc] := .mk' (v := Value.nilFunc) (k := 1) (by kernel_rfl) (by kernel_rfl) rfl rfl
instance ty116 : Ty Tryd.prog 116 false [Value.int .u64 0] := .mk' (v := Value.int .u64 0) (k := 1) (by kernel_rfl) (by kernel_rfl) rfl rfl
instance ty117 : Ty Tryd.prog 117 false [Value.slice none 0 0] := .mk' (v := Value.slice none 0 0) (k := 1) (by kernel_rfl) (by kernel_rfl) rfl rfl
instance ty119 : Ty Tryd.prog 119 false [Value.nilFunc] := .mk' (v := Value.nilFunc) (k := 1) (by kernel_rfl) (by kernel_rfl) rfl rfl
instance ty120 : Ty Tryd.prog 120 false [Value.nilFunc] := .mk' (v := Value.nilFunc) (k := 1) (by kernel_rfl) (by kernel_rfl) rfl rfl
instance ty121 : Ty Tryd.prog 121 false [Value.nilIface] := .mk' (v := Value.nilIface) (k := 1) (by kernel_rfl) (by kernel_rfl) rfl rfl
instance ty122 : Ty Tryd.prog 122 false [Value.nilIface] := .mk' (v := Value.nilIface) (k := 1) (by kernel_rfl) (by kernel_rfl) rfl rfl
instance ty123 : Ty Tryd.prog 123 true [Value.nilIface] := .mk' (v := .agg #[Value.nilIface]) (k := 1) (by kernel_rfl) (by kernel_rfl) rfl rfl
instance ty124 : Ty Tryd.prog 124 true [Value.nilIface] := .mk' (v := .agg #[Value.nilIface]) (k := 1) (by kernel_rfl) (by kernel_rfl) rfl rfl
instance ty125 : Ty Tryd.prog 125 false [Value.nilFunc] := .mk' (v := Value.nilFunc) (k := 1) (by kernel_rfl) (by kernel_rfl) rfl rfl
instance ty126 : Ty Tryd.prog 126 false [Value.nilFunc] := .mk' (v := Value.nilFunc) (k := 1) (by kernel_rfl) (by kernel_rfl) rfl rfl
instance ty128 : Ty Tryd.prog 128 false [Value.nilFunc] := .mk' (v := Value.nilFunc) (k := 1) (by kernel_rfl) (by kernel_rfl) rfl rfl
instance ty129 : Ty Tryd.prog 129 false [Value.slice none 0 0] := .mk' (v := Value.slice none 0 0) (k := 1) (by kernel_rfl) (by kernel_rfl) rfl rfl
instance ty130 : Ty Tryd.prog 130 false [Value.nilFunc] := .mk' (v := Value.nilFunc) (k := 1) (by kernel_rfl) (by kernel_rfl) rfl rfl
instance ty131 : Ty Tryd.prog 131 false [Value.nilFunc] := .mk' (v := Value.nilFunc) (k := 1) (by kernel_rfl) (by kernel_rfl) rfl rfl
instance ty132 : Ty Tryd.prog 132 false [Value.nilFunc] := .mk' (v := Value.nilFunc) (k := 1) (by kernel_rfl) (by kernel_rfl) rfl rfl
instance ty134 : Ty Tryd.prog 134 false [Value.nilFunc] := .mk' (v := Value.nilFunc) (k := 1) (by kernel_rfl) (by kernel_rfl) rfl rfl
instance ty135 : Ty Tryd.prog 135 false [Value.nilFunc] := .mk' (v := Value.nilFunc) (k := 1) (by kernel_rfl) (by kernel_rfl) rfl rfl
instance ty137 : Ty Tryd.prog 137 false [Value.nilFunc] := .mk' (v := Value.nilFunc) (k := 1) (by kernel_rfl) (by kernel_rfl) rfl rfl
instance ty138 : Ty Tryd.prog 138 false [Value.nilFunc] := .mk' (v := Value.nilFunc) (k := 1) (by kernel_rfl) (by kernel_rfl) rfl rfl
instance ty139 : Ty Tryd.prog 139 false [Value.nilFunc] := .mk' (v := Value.nilFunc) (k := 1) (by kernel_rfl) (by kernel_rfl) rfl rfl
instance ty140 : Ty Tryd.prog 140 false [Value.int .u64 0] := .mk' (v := Value.int .u64 0) (k := 1) (by kernel_rfl) (by kernel_rfl) rfl rfl
instance ty141 : Ty Tryd.prog 141 false [Value.int .i64 0] := .mk' (v := Value.int .i64 0) (k := 1) (by kernel_rfl) (by kernel_rfl) rfl rfl
instance ty142 : Ty Tryd.prog 142 false [Value.string ⟨#[]⟩] := .mk' (v := Value.string ⟨#[]⟩) (k := 1) (by kernel_rfl) (by kernel_rfl) rfl rfl
instance ty143 : Ty Tryd.prog 143 false [Value.nilFunc] := .mk' (v := Value.nilFunc) (k := 1) (by kernel_rfl) (by kernel_rfl) rfl rfl
instance ty145 : Ty Tryd.prog 145 false [Value.nilFunc] := .mk' (v := Value.nilFunc) (k := 1) (by kernel_rfl) (by kernel_rfl) rfl rfl
instance ty147 : Ty Tryd.prog 147 true [Value.int .u8 0, Value.int .u8 0] := .mk' (v := .agg #[Value.int .u8 0, Value.int .u8 0]) (k := 2) (by kernel_rfl) (by kernel_rfl) rfl rfl
instance ty148 : Ty Tryd.prog 148 true [Value.int .u8 0, Value.int .u8 0] := .mk' (v := .agg #[Value.int .u8 0, Value.int .u8 0]) (k := 2) (by kernel_rfl) (by kernel_rfl) rfl rfl
instance ty149 : Ty Tryd.prog 149 true [Value.int .u8 0, Value.int .u8 0, Value.int .u8 0, Value.int .u8 0, Value.int .u8 0, Value.int .u8 0, Value.int .u8 0, Value.int .u8 0, Value.int .u8 0, Value.int .u8 0, Value.int .u8 0, Value.int .u8 0, Value.int .u8 0, Value.int .u8 0, Value.int .u8 0, Value.int .u8 0, Value.int .u8 0, Value.int .u8 0, Value.int .u8 0, Value.int .u8 0, Value.int .u8 0, Value.int .u8 0, Value.int .u8 0, Value.int .u8 0, Value.int .u8 0, Value.int .u8 0, Value.int .u8 0, Value.int .u8 0, Value.int .u8 0, Value.int .u8 0, Value.int .u8 0, Value.int .u8 0] := .mk' (v := .agg #[Value.int .u8 0, Value.int .u8 0, Value.int .u8 0, Value.int .u8 0, Value.int .u8 0, Value.int .u8 0, Value.int .u8 0, Value.int .u8 0, Value.int .u8 0, Value.int .u8 0, Value.int .u8 0, Value.int .u8 0, Value.int .u8 0, Value.int .u8 0, Value.int .u8 0, Value.int .u8 0, Value.int .u8 0, Value.int .u8 0, Value.int .u8 0, Value.int .u8 0, Value.int .u8 0, Value.int .u8 0, Value.int .u8 0, Value.int .u8 0, Value.int .u8 0, Value.int .u8 0, Value.int .u8 0, Value.int .u8 0, Value.int .u8 0, Value.int .u8 0, Value.int .u8 0, Value.int .u8 0]) (k := 32) (by kernel_rfl) (by kernel_rfl) rfl rfl
instance ty150 : Ty Tryd.prog 150 false [Value.nilFunc] := .mk' (v := Value.nilFunc) (k := 1) (by kernel_rfl) (by kernel_rfl) rfl rfl
instance ty151 : Ty Tryd.prog 151 true [Value.pointer none, Value.pointer none, Value.pointer none, Value.string ⟨#[]⟩] := .mk' (v := .agg #[Value.pointer none, Value.pointer none, Value.pointer none, Value.string ⟨#[]⟩]) (k := 4) (by kernel_rfl) (by kernel_rfl) rfl rfl
instance ty152 : Ty Tryd.prog 152 true [Value.pointer none, Value.pointer none, Value.pointer none, Value.string ⟨#[]⟩] := .mk' (v := .agg #[Value.pointer none, Value.pointer none, Value.pointer none, Value.string ⟨#[]⟩]) (k := 4) (by kernel_rfl) (by kernel_rfl) rfl rfl
instance ty153 : Ty Tryd.prog 153 true [] := .mk' (v := .agg #[]) (k := 0) (by kernel_rfl) (by kernel_rfl) rfl rfl
instance ty154 : Ty Tryd.prog 154 true [] := .mk' (v := .agg #[]) (k := 0) (by kernel_rfl) (by kernel_rfl) rfl rfl
instance ty155 : Ty Tryd.prog 155 true [] := .mk' (v := .agg #[]) (k := 0) (by kernel_rfl) (by kernel_rfl) rfl rfl
instance ty156 : Ty Tryd.prog 156 false [Value.int .u32 0] := .mk' (v := Value.int .u32 0) (k := 1) (by kernel_rfl) (by kernel_rfl) rfl rfl
instance ty157 : Ty Tryd.prog 157 false [Value.int .u8 0] := .mk' (v := Value.int .u8 0) (k := 1) (by kernel_rfl) (by kernel_rfl) rfl rfl
instance ty158 : Ty Tryd.prog 158 false [Value.int .u8 0] := .mk' (v := Value.int .u8 0) (k := 1) (by kernel_rfl) (by kernel_rfl) rfl rfl
instance ty159 : Ty Tryd.prog 159 false [Value.nilFunc] := .mk' (v := Value.nilFunc) (k := 1) (by kernel_rfl) (by kernel_rfl) rfl rfl
instance ty160 : Ty Tryd.prog 160 false [Value.pointer none] := .mk' (v := Value.pointer none) (k := 1) (by kernel_rfl) (by kernel_rfl) rfl rfl
instance ty161 : Ty Tryd.prog 161 false [Value.int .i32 0] := .mk' (v := Value.int .i32 0) (k := 1) (by kernel_rfl) (by kernel_rfl) rfl rfl
instance ty162 : Ty Tryd.prog 162 false [Value.int .i32 0] := .mk' (v := Value.int .i32 0) (k := 1) (by kernel_rfl) (by kernel_rfl) rfl rfl
instance ty163 : Ty Tryd.prog 163 true [Value.int .u64 0, Value.int .u64 0, Value.int .u32 0, Value.int .u8 0, Value.int .u8 0, Value.int .u8 0, Value.int .u8 0, Value.nilFunc, Value.pointer none, Value.int .i32 0, Value.int .i32 0] := .mk' (v := .agg #[Value.int .u64 0, Value.int .u64 0, Value.int .u32 0, Value.int .u8 0, Value.int .u8 0, Value.int .u8 0, Value.int .u8 0, Value.nilFunc, Value.pointer none, Value.int .i32 0, Value.int .i32 0]) (k := 11) (by kernel_rfl) (by kernel_rfl) rfl rfl
instance ty164 : Ty Tryd.prog 164 true [Value.int .u64 0, Value.int .u64 0, Value.int .u32 0, Value.int .u8 0, Value.int .u8 0, Value.int .u8 0, Value.int .u8 0, Value.nilFunc, Value.pointer none, Value.int .i32 0, Value.int .i32 0] := .mk' (v := .agg #[Value.int .u64 0, Value.int .u64 0, Value.int .u32 0, Value.int .u8 0, Value.int .u8 0, Value.int .u8 0, Value.int .u8 0, Value.nilFunc, Value.pointer none, Value.int .i32 0, Value.int .i32 0]) (k := 11) (by kernel_rfl) (by kernel_rfl) rfl rfl
instance ty165 : Ty Tryd.prog 165 false [Value.nilFunc] := .mk' (v := Value.nilFunc) (k := 1) (by kernel_rfl) (by kernel_rfl) rfl rfl
instance ty166 : Ty Tryd.prog 166 false [Value.pointer none] := .mk' (v := Value.pointer none) (k := 1) (by kernel_rfl) (by kernel_rfl) rfl rfl
instance el1 : El Tryd.prog 1 1 8 := .mk' (z := Value.nilFunc) (by kernel_rfl) rfl
instance it2 : IntTy Tryd.prog 2 .i64 := ⟨by kernel_rfl⟩
instance el2 : El Tryd.prog 2 1 8 := .mk' (z := Value.int .i64 0) (by kernel_rfl) rfl
instance it3 : IntTy Tryd.prog 3 .i64 := ⟨by kernel_rfl⟩
instance el3 : El Tryd.prog 3 1 8 := .mk' (z := Value.int .i64 0) (by kernel_rfl) rfl
instance el4 : El Tryd.prog 4 1 1 := .mk' (z := Value.bool false) (by kernel_rfl) rfl
instance it5 : IntTy Tryd.prog 5 .u8 := ⟨by kernel_rfl⟩
instance el5 : El Tryd.prog 5 1 1 := .mk' (z := Value.int .u8 0) (by kernel_rfl) rfl
instance it6 : IntTy Tryd.prog 6 .u8 := ⟨by kernel_rfl⟩
instance el6 : El Tryd.prog 6 1 1 := .mk' (z := Value.int .u8 0) (by kernel_rfl) rfl
instance el7 : El Tryd.prog 7 4 24 := .mk' (z := .agg #[Value.int .i64 0, Value.int .i64 0, Value.bool false, Value.int .u8 0]) (by kernel_rfl) rfl
instance fl7_0 : Fld Tryd.prog 7 0 0 2 := .mk' (by kernel_rfl) (by kernel_rfl)
instance fl7_1 : Fld Tryd.prog 7 1 1 3 := .mk' (by kernel_rfl) (by kernel_rfl)
instance fl7_2 : Fld Tryd.prog 7 2 2 4 := .mk' (by kernel_rfl) (by kernel_rfl)
instance fl7_3 : Fld Tryd.prog 7 3 3 6 := .mk' (by kernel_rfl) (by kernel_rfl)
instance su7 : St Tryd.prog 7 [(0, 1), (1, 1), (2, 1), (3, 1)] := ⟨by kernel_rfl⟩
instance el8 : El Tryd.prog 8 4 24 := .mk' (z := .agg #[Value.int .i64 0, Value.int .i64 0, Value.bool false, Value.int .u8 0]) (by kernel_rfl) rfl
instance fl8_0 : Fld Tryd.prog 8 0 0 2 := .mk' (by kernel_rfl) (by kernel_rfl)
instance fl8_1 : Fld Tryd.prog 8 1 1 3 := .mk' (by kernel_rfl) (by kernel_rfl)
instance fl8_2 : Fld Tryd.prog 8 2 2 4 := .mk' (by kernel_rfl) (by kernel_rfl)
instance fl8_3 : Fld Tryd.prog 8 3 3 6 := .mk' (by kernel_rfl) (by kernel_rfl)
instance su8 : St Tryd.prog 8 [(0, 1), (1, 1), (2, 1), (3, 1)] := ⟨by kernel_rfl⟩
instance st9 : StrTy Tryd.prog 9 := ⟨by kernel_rfl⟩
instance el9 : El Tryd.prog 9 1 16 := .mk' (z := Value.string ⟨#[]⟩) (by kernel_rfl) rfl
instance st10 : StrTy Tryd.prog 10 := ⟨by kernel_rfl⟩
instance el10 : El Tryd.prog 10 1 16 := .mk' (z := Value.string ⟨#[]⟩) (by kernel_rfl) rfl
instance st11 : StrTy Tryd.prog 11 := ⟨by kernel_rfl⟩
instance el11 : El Tryd.prog 11 1 16 := .mk' (z := Value.string ⟨#[]⟩) (by kernel_rfl) rfl
instance it12 : IntTy Tryd.prog 12 .u64 := ⟨by kernel_rfl⟩
instance el12 : El Tryd.prog 12 1 8 := .mk' (z := Value.int .u64 0) (by kernel_rfl) rfl
instance el13 : El Tryd.prog 13 2 24 := .mk' (z := .agg #[Value.string ⟨#[]⟩, Value.int .u64 0]) (by kernel_rfl) rfl
instance fl13_0 : Fld Tryd.prog 13 0 0 9 := .mk' (by kernel_rfl) (by kernel_rfl)
instance fl13_1 : Fld Tryd.prog 13 1 1 12 := .mk' (by kernel_rfl) (by kernel_rfl)
instance su13 : St Tryd.prog 13 [(0, 1), (1, 1)] := ⟨by kernel_rfl⟩
instance el14 : El Tryd.prog 14 2 24 := .mk' (z := .agg #[Value.string ⟨#[]⟩, Value.int .u64 0]) (by kernel_rfl) rfl
instance fl14_0 : Fld Tryd.prog 14 0 0 9 := .mk' (by kernel_rfl) (by kernel_rfl)
instance fl14_1 : Fld Tryd.prog 14 1 1 12 := .mk' (by kernel_rfl) (by kernel_rfl)
instance su14 : St Tryd.prog 14 [(0, 1), (1, 1)] := ⟨by kernel_rfl⟩
instance el15 : El Tryd.prog 15 1 8 := .mk' (z := Value.pointer none) (by kernel_rfl) rfl
instance el16 : El Tryd.prog 16 1 8 := .mk' (z := Value.pointer none) (by kernel_rfl) rfl
instance el17 : El Tryd.prog 17 1 8 := .mk' (z := Value.pointer none) (by kernel_rfl) rfl
instance el18 : El Tryd.prog 18 1 8 := .mk' (z := .agg #[Value.pointer none]) (by kernel_rfl) rfl
instance fl18_0 : Fld Tryd.prog 18 0 0 17 := .mk' (by kernel_rfl) (by kernel_rfl)
instance su18 : St Tryd.prog 18 [(0, 1)] := ⟨by kernel_rfl⟩
instance el19 : El Tryd.prog 19 1 8 := .mk' (z := .agg #[Value.pointer none]) (by kernel_rfl) rfl
instance fl19_0 : Fld Tryd.prog 19 0 0 17 := .mk' (by kernel_rfl) (by kernel_rfl)
instance su19 : St Tryd.prog 19 [(0, 1)] := ⟨by kernel_rfl⟩
instance el20 : El Tryd.prog 20 1 16 := .mk' (z := Value.nilIface) (by kernel_rfl) rfl
instance it21 : IntTy Tryd.prog 21 .i32 := ⟨by kernel_rfl⟩
instance el21 : El Tryd.prog 21 1 4 := .mk' (z := Value.int .i32 0) (by kernel_rfl) rfl
instance el22 : El Tryd.prog 22 1 24 := .mk' (z := Value.slice none 0 0) (by kernel_rfl) rfl
instance sl22 : Sl Tryd.prog 22 33 := ⟨by kernel_rfl⟩
instance el23 : El Tryd.prog 23 1 24 := .mk' (z := Value.slice none 0 0) (by kernel_rfl) rfl
instance sl23 : Sl Tryd.prog 23 3 := ⟨by kernel_rfl⟩
instance el24 : El Tryd.prog 24 1 8 := .mk' (z := Value.nilFunc) (by kernel_rfl) rfl
instance el25 : El Tryd.prog 25 1 24 := .mk' (z := Value.slice none 0 0) (by kernel_rfl) rfl
instance sl25 : Sl Tryd.prog 25 36 := ⟨by kernel_rfl⟩
instance el26 : El Tryd.prog 26 1 8 := .mk' (z := Value.nilFunc) (by kernel_rfl) rfl
instance el27 : El Tryd.prog 27 1 24 := .mk' (z := Value.slice none 0 0) (by kernel_rfl) rfl
instance sl27 : Sl Tryd.prog 27 25 := ⟨by kernel_rfl⟩
instance el28 : El Tryd.prog 28 1 8 := .mk' (z := Value.nilFunc) (by kernel_rfl) rfl
instance el29 : El Tryd.prog 29 1 8 := .mk' (z := Value.nilFunc) (by kernel_rfl) rfl
instance el30 : El Tryd.prog 30 1 8 := .mk' (z := Value.nilFunc) (by kernel_rfl) rfl
instance el31 : El Tryd.prog 31 1 24 := .mk' (z := Value.slice none 0 0) (by kernel_rfl) rfl
instance sl31 : Sl Tryd.prog 31 56 := ⟨by kernel_rfl⟩
instance el32 : El Tryd.prog 32 3 40 := .mk' (z := .agg #[Value.int .i64 0, Value.int .i64 0, Value.slice none 0 0]) (by kernel_rfl) rfl
instance fl32_0 : Fld Tryd.prog 32 0 0 3 := .mk' (by kernel_rfl) (by kernel_rfl)
instance fl32_1 : Fld Tryd.prog 32 1 1 2 := .mk' (by kernel_rfl) (by kernel_rfl)
instance fl32_2 : Fld Tryd.prog 32 2 2 31 := .mk' (by kernel_rfl) (by kernel_rfl)
instance su32 : St Tryd.prog 32 [(0, 1), (1, 1), (2, 1)] := ⟨by kernel_rfl⟩
instance el33 : El Tryd.prog 33 3 40 := .mk' (z := .agg #[Value.int .i64 0, Value.int .i64 0, Value.slice none 0 0]) (by kernel_rfl) rfl
instance fl33_0 : Fld Tryd.prog 33 0 0 3 := .mk' (by kernel_rfl) (by kernel_rfl)
instance fl33_1 : Fld Tryd.prog 33 1 1 2 := .mk' (by kernel_rfl) (by kernel_rfl)
instance fl33_2 : Fld Tryd.prog 33 2 2 31 := .mk' (by kernel_rfl) (by kernel_rfl)
instance su33 : St Tryd.prog 33 [(0, 1), (1, 1), (2, 1)] := ⟨by kernel_rfl⟩
instance it34 : IntTy Tryd.prog 34 .i64 := ⟨by kernel_rfl⟩
instance el34 : El Tryd.prog 34 1 8 := .mk' (z := Value.int .i64 0) (by kernel_rfl) rfl
instance el35 : El Tryd.prog 35 5 56 := .mk' (z := .agg #[Value.int .i64 0, Value.int .i64 0, Value.int .i64 0, Value.slice none 0 0, Value.int .i64 0]) (by kernel_rfl) rfl
instance fl35_0 : Fld Tryd.prog 35 0 0 2 := .mk' (by kernel_rfl) (by kernel_rfl)
instance fl35_1 : Fld Tryd.prog 35 1 1 33 := .mk' (by kernel_rfl) (by kernel_rfl)
instance fl35_2 : Fld Tryd.prog 35 2 4 34 := .mk' (by kernel_rfl) (by kernel_rfl)
instance su35 : St Tryd.prog 35 [(0, 1), (1, 3), (4, 1)] := ⟨by kernel_rfl⟩
instance el36 : El Tryd.prog 36 5 56 := .mk' (z := .agg #[Value.int .i64 0, Value.int .i64 0, Value.int .i64 0, Value.slice none 0 0, Value.int .i64 0]) (by kernel_rfl) rfl
instance fl36_0 : Fld Tryd.prog 36 0 0 2 := .mk' (by kernel_rfl) (by kernel_rfl)
instance fl36_1 : Fld Tryd.prog 36 1 1 33 := .mk' (by kernel_rfl) (by kernel_rfl)
instance fl36_2 : Fld Tryd.prog 36 2 4 34 := .mk' (by kernel_rfl) (by kernel_rfl)
instance su36 : St Tryd.prog 36 [(0, 1), (1, 3), (4, 1)] := ⟨by kernel_rfl⟩
instance el37 : El Tryd.prog 37 1 8 := .mk' (z := Value.nilFunc) (by kernel_rfl) rfl
instance el38 : El Tryd.prog 38 1 8 := .mk' (z := Value.nilFunc) (by kernel_rfl) rfl
instance el39 : El Tryd.prog 39 1 24 := .mk' (z := Value.slice none 0 0) (by kernel_rfl) rfl
instance sl39 : Sl Tryd.prog 39 109 := ⟨by kernel_rfl⟩
instance el40 : El Tryd.prog 40 1 24 := .mk' (z := .agg #[Value.slice none 0 0]) (by kernel_rfl) rfl
instance fl40_0 : Fld Tryd.prog 40 0 0 39 := .mk' (by kernel_rfl) (by kernel_rfl)
instance su40 : St Tryd.prog 40 [(0, 1)] := ⟨by kernel_rfl⟩
instance el41 : El Tryd.prog 41 1 24 := .mk' (z := .agg #[Value.slice none 0 0]) (by kernel_rfl) rfl
instance fl41_0 : Fld Tryd.prog 41 0 0 39 := .mk' (by kernel_rfl) (by kernel_rfl)
instance su41 : St Tryd.prog 41 [(0, 1)] := ⟨by kernel_rfl⟩
instance el42 : El Tryd.prog 42 6 48 := .mk' (z := .agg #[Value.int .i64 0, Value.int .i64 0, Value.int .i64 0, Value.int .i64 0, Value.int .i64 0, Value.int .i64 0]) (by kernel_rfl) rfl
instance el43 : El Tryd.prog 43 30 336 := .mk' (z := .agg #[Value.int .i64 0, Value.int .i64 0, Value.int .i64 0, Value.slice none 0 0, Value.int .i64 0, Value.int .i64 0, Value.int .i64 0, Value.int .i64 0, Value.slice none 0 0, Value.int .i64 0, Value.int .i64 0, Value.int .i64 0, Value.int .i64 0, Value.slice none 0 0, Value.int .i64 0, Value.int .i64 0, Value.int .i64 0, Value.int .i64 0, Value.slice none 0 0, Value.int .i64 0, Value.int .i64 0, Value.int .i64 0, Value.int .i64 0, Value.slice none 0 0, Value.int .i64 0, Value.int .i64 0, Value.int .i64 0, Value.int .i64 0, Value.slice none 0 0, Value.int .i64 0]) (by kernel_rfl) rfl
instance el44 : El Tryd.prog 44 38 416 := .mk' (z := .agg #[Value.int .i64 0, Value.slice none 0 0, Value.int .i64 0, Value.int .i64 0, Value.int .i64 0, Value.int .i64 0, Value.int .i64 0, Value.int .i64 0, Value.int .i64 0, Value.int .i64 0, Value.int .i64 0, Value.slice none 0 0, Value.int .i64 0, Value.int .i64 0, Value.int .i64 0, Value.int .i64 0, Value.slice none 0 0, Value.int .i64 0, Value.int .i64 0, Value.int .i64 0, Value.int .i64 0, Value.slice none 0 0, Value.int .i64 0, Value.int .i64 0, Value.int .i64 0, Value.int .i64 0, Value.slice none 0 0, Value.int .i64 0, Value.int .i64 0, Value.int .i64 0, Value.int .i64 0, Value.slice none 0 0, Value.int .i64 0, Value.int .i64 0, Value.int .i64 0, Value.int .i64 0, Value.slice none 0 0, Value.int .i64 0]) (by kernel_rfl) rfl
instance fl44_0 : Fld Tryd.prog 44 0 0 2 := .mk' (by kernel_rfl) (by kernel_rfl)
instance fl44_1 : Fld Tryd.prog 44 1 1 41 := .mk' (by kernel_rfl) (by kernel_rfl)
instance fl44_2 : Fld Tryd.prog 44 2 2 42 := .mk' (by kernel_rfl) (by kernel_rfl)
instance fl44_3 : Fld Tryd.prog 44 3 8 43 := .mk' (by kernel_rfl) (by kernel_rfl)
instance su44 : St Tryd.prog 44 [(0, 1), (1, 1), (2, 6), (8, 30)] := ⟨by kernel_rfl⟩
instance el45 : El Tryd.prog 45 38 416 := .mk' (z := .agg #[Value.int .i64 0, Value.slice none 0 0, Value.int .i64 0, Value.int .i64 0, Value.int .i64 0, Value.int .i64 0, Value.int .i64 0, Value.int .i64 0, Value.int .i64 0, Value.int .i64 0, Value.int .i64 0, Value.slice none 0 0, Value.int .i64 0, Value.int .i64 0, Value.int .i64 0, Value.int .i64 0, Value.slice none 0 0, Value.int .i64 0, Value.int .i64 0, Value.int .i64 0, Value.int .i64 0, Value.slice none 0 0, Value.int .i64 0, Value.int .i64 0, Value.int .i64 0, Value.int .i64 0, Value.slice none 0 0, Value.int .i64 0, Value.int .i64 0, Value.int .i64 0, Value.int .i64 0, Value.slice none 0 0, Value.int .i64 0, Value.int .i64 0, Value.int .i64 0, Value.int .i64 0, Value.slice none 0 0, Value.int .i64 0]) (by kernel_rfl) rfl
instance fl45_0 : Fld Tryd.prog 45 0 0 2 := .mk' (by kernel_rfl) (by kernel_rfl)
instance fl45_1 : Fld Tryd.prog 45 1 1 41 := .mk' (by kernel_rfl) (by kernel_rfl)
instance fl45_2 : Fld Tryd.prog 45 2 2 42 := .mk' (by kernel_rfl) (by kernel_rfl)
instance fl45_3 : Fld Tryd.prog 45 3 8 43 := .mk' (by kernel_rfl) (by kernel_rfl)
instance su45 : St Tryd.prog 45 [(0, 1), (1, 1), (2, 6), (8, 30)] := ⟨by kernel_rfl⟩
instance el47 : El Tryd.prog 47 1 8 := .mk' (z := Value.nilFunc) (by kernel_rfl) rfl
instance el48 : El Tryd.prog 48 1 8 := .mk' (z := Value.nilFunc) (by kernel_rfl) rfl
instance el49 : El Tryd.prog 49 1 8 := .mk' (z := Value.nilFunc) (by kernel_rfl) rfl
instance el50 : El Tryd.prog 50 1 8 := .mk' (z := Value.nilFunc) (by kernel_rfl) rfl
instance el51 : El Tryd.prog 51 1 8 := .mk' (z := Value.nilFunc) (by kernel_rfl) rfl
instance el52 : El Tryd.prog 52 1 8 := .mk' (z := Value.nilFunc) (by kernel_rfl) rfl
instance el53 : El Tryd.prog 53 3 32 := .mk' (z := .agg #[Value.int .i64 0, Value.int .i64 0, Value.string ⟨#[]⟩]) (by kernel_rfl) rfl
instance fl53_0 : Fld Tryd.prog 53 0 0 3 := .mk' (by kernel_rfl) (by kernel_rfl)
instance fl53_1 : Fld Tryd.prog 53 1 1 2 := .mk' (by kernel_rfl) (by kernel_rfl)
instance fl53_2 : Fld Tryd.prog 53 2 2 9 := .mk' (by kernel_rfl) (by kernel_rfl)
instance su53 : St Tryd.prog 53 [(0, 1), (1, 1), (2, 1)] := ⟨by kernel_rfl⟩
instance el54 : El Tryd.prog 54 3 32 := .mk' (z := .agg #[Value.int .i64 0, Value.int .i64 0, Value.string ⟨#[]⟩]) (by kernel_rfl) rfl
instance fl54_0 : Fld Tryd.prog 54 0 0 3 := .mk' (by kernel_rfl) (by kernel_rfl)
instance fl54_1 : Fld Tryd.prog 54 1 1 2 := .mk' (by kernel_rfl) (by kernel_rfl)
instance fl54_2 : Fld Tryd.prog 54 2 2 9 := .mk' (by kernel_rfl) (by kernel_rfl)
instance su54 : St Tryd.prog 54 [(0, 1), (1, 1), (2, 1)] := ⟨by kernel_rfl⟩
instance el55 : El Tryd.prog 55 9 96 := .mk' (z := .agg #[Value.int .i64 0, Value.string ⟨#[]⟩, Value.int .i64 0, Value.int .i64 0, Value.string ⟨#[]⟩, Value.int .i64 0, Value.int .i64 0, Value.string ⟨#[]⟩, Value.int .i64 0]) (by kernel_rfl) rfl
instance fl55_0 : Fld Tryd.prog 55 0 0 3 := .mk' (by kernel_rfl) (by kernel_rfl)
instance fl55_1 : Fld Tryd.prog 55 1 1 9 := .mk' (by kernel_rfl) (by kernel_rfl)
instance fl55_2 : Fld Tryd.prog 55 2 2 54 := .mk' (by kernel_rfl) (by kernel_rfl)
instance fl55_3 : Fld Tryd.prog 55 3 5 54 := .mk' (by kernel_rfl) (by kernel_rfl)
instance fl55_4 : Fld Tryd.prog 55 4 8 2 := .mk' (by kernel_rfl) (by kernel_rfl)
instance su55 : St Tryd.prog 55 [(0, 1), (1, 1), (2, 3), (5, 3), (8, 1)] := ⟨by kernel_rfl⟩
instance el56 : El Tryd.prog 56 9 96 := .mk' (z := .agg #[Value.int .i64 0, Value.string ⟨#[]⟩, Value.int .i64 0, Value.int .i64 0, Value.string ⟨#[]⟩, Value.int .i64 0, Value.int .i64 0, Value.string ⟨#[]⟩, Value.int .i64 0]) (by kernel_rfl) rfl
instance fl56_0 : Fld Tryd.prog 56 0 0 3 := .mk' (by kernel_rfl) (by kernel_rfl)
instance fl56_1 : Fld Tryd.prog 56 1 1 9 := .mk' (by kernel_rfl) (by kernel_rfl)
instance fl56_2 : Fld Tryd.prog 56 2 2 54 := .mk' (by kernel_rfl) (by kernel_rfl)
instance fl56_3 : Fld Tryd.prog 56 3 5 54 := .mk' (by kernel_rfl) (by kernel_rfl)
instance fl56_4 : Fld Tryd.prog 56 4 8 2 := .mk' (by kernel_rfl) (by kernel_rfl)
instance su56 : St Tryd.prog 56 [(0, 1), (1, 1), (2, 3), (5, 3), (8, 1)] := ⟨by kernel_rfl⟩
instance el58 : El Tryd.prog 58 1 8 := .mk' (z := Value.nilFunc) (by kernel_rfl) rfl
instance el59 : El Tryd.prog 59 1 8 := .mk' (z := Value.nilFunc) (by kernel_rfl) rfl
instance el60 : El Tryd.prog 60 1 8 := .mk' (z := Value.nilFunc) (by kernel_rfl) rfl
instance el62 : El Tryd.prog 62 1 8 := .mk' (z := Value.nilFunc) (by kernel_rfl) rfl
instance el63 : El Tryd.prog 63 1 8 := .mk' (z := Value.pointer none) (by kernel_rfl) rfl
instance el64 : El Tryd.prog 64 1 8 := .mk' (z := Value.nilFunc) (by kernel_rfl) rfl
instance el66 : El Tryd.prog 66 1 8 := .mk' (z := Value.nilFunc) (by kernel_rfl) rfl
instance el67 : El Tryd.prog 67 1 8 := .mk' (z := Value.nilFunc) (by kernel_rfl) rfl
instance el68 : El Tryd.prog 68 1 8 := .mk' (z := Value.nilFunc) (by kernel_rfl) rfl
instance el69 : El Tryd.prog 69 1 8 := .mk' (z := Value.nilFunc) (by kernel_rfl) rfl
instance el70 : El Tryd.prog 70 1 8 := .mk' (z := Value.nilFunc) (by kernel_rfl) rfl
instance el72 : El Tryd.prog 72 1 8 := .mk' (z := Value.nilFunc) (by kernel_rfl) rfl
instance el73 : El Tryd.prog 73 1 8 := .mk' (z := Value.pointer none) (by kernel_rfl) rfl
instance el74 : El Tryd.prog 74 1 8 := .mk' (z := Value.nilFunc) (by kernel_rfl) rfl
instance el75 : El Tryd.prog 75 2 32 := .mk' (z := .agg #[Value.pointer none, Value.slice none 0 0]) (by kernel_rfl) rfl
instance fl75_0 : Fld Tryd.prog 75 0 0 73 := .mk' (by kernel_rfl) (by kernel_rfl)
instance fl75_1 : Fld Tryd.prog 75 1 1 25 := .mk' (by kernel_rfl) (by kernel_rfl)
instance su75 : St Tryd.prog 75 [(0, 1), (1, 1)] := ⟨by kernel_rfl⟩
instance el76 : El Tryd.prog 76 2 32 := .mk' (z := .agg #[Value.pointer none, Value.slice none 0 0]) (by kernel_rfl) rfl
instance fl76_0 : Fld Tryd.prog 76 0 0 73 := .mk' (by kernel_rfl) (by kernel_rfl)
instance fl76_1 : Fld Tryd.prog 76 1 1 25 := .mk' (by kernel_rfl) (by kernel_rfl)
instance su76 : St Tryd.prog 76 [(0, 1), (1, 1)] := ⟨by kernel_rfl⟩
instance el78 : El Tryd.prog 78 1 8 := .mk' (z := Value.nilFunc) (by kernel_rfl) rfl
instance el79 : El Tryd.prog 79 1 8 := .mk' (z := Value.nilFunc) (by kernel_rfl) rfl
instance el80 : El Tryd.prog 80 1 8 := .mk' (z := Value.nilFunc) (by kernel_rfl) rfl
instance el81 : El Tryd.prog 81 1 8 := .mk' (z := Value.nilFunc) (by kernel_rfl) rfl
instance el82 : El Tryd.prog 82 1 8 := .mk' (z := Value.nilFunc) (by kernel_rfl) rfl
instance el83 : El Tryd.prog 83 1 24 := .mk' (z := Value.slice none 0 0) (by kernel_rfl) rfl
instance sl83 : Sl Tryd.prog 83 5 := ⟨by kernel_rfl⟩
instance el84 : El Tryd.prog 84 1 8 := .mk' (z := Value.nilFunc) (by kernel_rfl) rfl
instance el85 : El Tryd.prog 85 1 8 := .mk' (z := Value.nilFunc) (by kernel_rfl) rfl
instance el87 : El Tryd.prog 87 1 8 := .mk' (z := Value.nilFunc) (by kernel_rfl) rfl
instance el88 : El Tryd.prog 88 1 8 := .mk' (z := Value.nilFunc) (by kernel_rfl) rfl
instance el89 : El Tryd.prog 89 1 8 := .mk' (z := Value.nilFunc) (by kernel_rfl) rfl
instance el90 : El Tryd.prog 90 1 8 := .mk' (z := Value.pointer none) (by kernel_rfl) rfl
instance el91 : El Tryd.prog 91 1 8 := .mk' (z := Value.nilFunc) (by kernel_rfl) rfl
instance el92 : El Tryd.prog 92 6 64 := .mk' (z := .agg #[Value.int .i64 0, Value.int .i64 0, Value.int .i64 0, Value.int .i64 0, Value.slice none 0 0, Value.int .i64 0]) (by kernel_rfl) rfl
instance fl92_0 : Fld Tryd.prog 92 0 0 2 := .mk' (by kernel_rfl) (by kernel_rfl)
instance fl92_1 : Fld Tryd.prog 92 1 1 36 := .mk' (by kernel_rfl) (by kernel_rfl)
instance su92 : St Tryd.prog 92 [(0, 1), (1, 5)] := ⟨by kernel_rfl⟩
instance el93 : El Tryd.prog 93 6 64 := .mk' (z := .agg #[Value.int .i64 0, Value.int .i64 0, Value.int .i64 0, Value.int .i64 0, Value.slice none 0 0, Value.int .i64 0]) (by kernel_rfl) rfl
instance fl93_0 : Fld Tryd.prog 93 0 0 2 := .mk' (by kernel_rfl) (by kernel_rfl)
instance fl93_1 : Fld Tryd.prog 93 1 1 36 := .mk' (by kernel_rfl) (by kernel_rfl)
instance su93 : St Tryd.prog 93 [(0, 1), (1, 5)] := ⟨by kernel_rfl⟩
instance el94 : El Tryd.prog 94 36 384 := .mk' (z := .agg #[Value.int .i64 0, Value.int .i64 0, Value.int .i64 0, Value.int .i64 0, Value.slice none 0 0, Value.int .i64 0, Value.int .i64 0, Value.int .i64 0, Value.int .i64 0, Value.int .i64 0, Value.slice none 0 0, Value.int .i64 0, Value.int .i64 0, Value.int .i64 0, Value.int .i64 0, Value.int .i64 0, Value.slice none 0 0, Value.int .i64 0, Value.int .i64 0, Value.int .i64 0, Value.int .i64 0, Value.int .i64 0, Value.slice none 0 0, Value.int .i64 0, Value.int .i64 0, Value.int .i64 0, Value.int .i64 0, Value.int .i64 0, Value.slice none 0 0, Value.int .i64 0, Value.int .i64 0, Value.int .i64 0, Value.int .i64 0, Value.int .i64 0, Value.slice none 0 0, Value.int .i64 0]) (by kernel_rfl) rfl
instance el95 : El Tryd.prog 95 38 400 := .mk' (z := .agg #[Value.int .i64 0, Value.pointer none, Value.int .i64 0, Value.int .i64 0, Value.int .i64 0, Value.int .i64 0, Value.slice none 0 0, Value.int .i64 0, Value.int .i64 0, Value.int .i64 0, Value.int .i64 0, Value.int .i64 0, Value.slice none 0 0, Value.int .i64 0, Value.int .i64 0, Value.int .i64 0, Value.int .i64 0, Value.int .i64 0, Value.slice none 0 0, Value.int .i64 0, Value.int .i64 0, Value.int .i64 0, Value.int .i64 0, Value.int .i64 0, Value.slice none 0 0, Value.int .i64 0, Value.int .i64 0, Value.int .i64 0, Value.int .i64 0, Value.int .i64 0, Value.slice none 0 0, Value.int .i64 0, Value.int .i64 0, Value.int .i64 0, Value.int .i64 0, Value.int .i64 0, Value.slice none 0 0, Value.int .i64 0]) (by kernel_rfl) rfl
instance fl95_0 : Fld Tryd.prog 95 0 0 2 := .mk' (by kernel_rfl) (by kernel_rfl)
instance fl95_1 : Fld Tryd.prog 95 1 1 90 := .mk' (by kernel_rfl) (by kernel_rfl)
instance fl95_2 : Fld Tryd.prog 95 2 2 94 := .mk' (by kernel_rfl) (by kernel_rfl)
instance su95 : St Tryd.prog 95 [(0, 1), (1, 1), (2, 36)] := ⟨by kernel_rfl⟩
instance el96 : El Tryd.prog 96 38 400 := .mk' (z := .agg #[Value.int .i64 0, Value.pointer none, Value.int .i64 0, Value.int .i64 0, Value.int .i64 0, Value.int .i64 0, Value.slice none 0 0, Value.int .i64 0, Value.int .i64 0, Value.int .i64 0, Value.int .i64 0, Value.int .i64 0, Value.slice none 0 0, Value.int .i64 0, Value.int .i64 0, Value.int .i64 0, Value.int .i64 0, Value.int .i64 0, Value.slice none 0 0, Value.int .i64 0, Value.int .i64 0, Value.int .i64 0, Value.int .i64 0, Value.int .i64 0, Value.slice none 0 0, Value.int .i64 0, Value.int .i64 0, Value.int .i64 0, Value.int .i64 0, Value.int .i64 0, Value.slice none 0 0, Value.int .i64 0, Value.int .i64 0, Value.int .i64 0, Value.int .i64 0, Value.int .i64 0, Value.slice none 0 0, Value.int .i64 0]) (by kernel_rfl) rfl
instance fl96_0 : Fld Tryd.prog 96 0 0 2 := .mk' (by kernel_rfl) (by kernel_rfl)
instance fl96_1 : Fld Tryd.prog 96 1 1 90 := .mk' (by kernel_rfl) (by kernel_rfl)
instance fl96_2 : Fld Tryd.prog 96 2 2 94 := .mk' (by kernel_rfl) (by kernel_rfl)
instance su96 : St Tryd.prog 96 [(0, 1), (1, 1), (2, 36)] := ⟨by kernel_rfl⟩
instance el97 : El Tryd.prog 97 1 8 := .mk' (z := Value.nilFunc) (by kernel_rfl) rfl
instance el99 : El Tryd.prog 99 1 8 := .mk' (z := Value.nilFunc) (by kernel_rfl) rfl
instance el100 : El Tryd.prog 100 1 8 := .mk' (z := Value.nilFunc) (by kernel_rfl) rfl
instance el101 : El Tryd.prog 101 1 8 := .mk' (z := Value.nilFunc) (by kernel_rfl) rfl
instance el102 : El Tryd.prog 102 1 8 := .mk' (z := Value.nilFunc) (by kernel_rfl) rfl
instance el103 : El Tryd.prog 103 1 8 := .mk' (z := Value.nilFunc) (by kernel_rfl) rfl
instance el104 : El Tryd.prog 104 1 8 := .mk' (z := Value.nilFunc) (by kernel_rfl) rfl
instance el105 : El Tryd.prog 105 1 8 := .mk' (z := Value.nilFunc) (by kernel_rfl) rfl
instance el106 : El Tryd.prog 106 1 8 := .mk' (z := Value.nilFunc) (by kernel_rfl) rfl
instance el107 : El Tryd.prog 107 1 8 := .mk' (z := Value.nilFunc) (by kernel_rfl) rfl
instance el108 : El Tryd.prog 108 4 48 := .mk' (z := .agg #[Value.string ⟨#[]⟩, Value.int .i64 0, Value.int .i64 0, Value.string ⟨#[]⟩]) (by kernel_rfl) rfl
instance fl108_0 : Fld Tryd.prog 108 0 0 9 := .mk' (by kernel_rfl) (by kernel_rfl)
instance fl108_1 : Fld Tryd.prog 108 1 1 54 := .mk' (by kernel_rfl) (by kernel_rfl)
instance su108 : St Tryd.prog 108 [(0, 1), (1, 3)] := ⟨by kernel_rfl⟩
instance el109 : El Tryd.prog 109 4 48 := .mk' (z := .agg #[Value.string ⟨#[]⟩, Value.int .i64 0, Value.int .i64 0, Value.string ⟨#[]⟩]) (by kernel_rfl) rfl
instance fl109_0 : Fld Tryd.prog 109 0 0 9 := .mk' (by kernel_rfl) (by kernel_rfl)
instance fl109_1 : Fld Tryd.prog 109 1 1 54 := .mk' (by kernel_rfl) (by kernel_rfl)
instance su109 : St Tryd.prog 109 [(0, 1), (1, 3)] := ⟨by kernel_rfl⟩
instance el110 : El Tryd.prog 110 1 8 := .mk' (z := Value.nilFunc) (by kernel_rfl) rfl
instance el111 : El Tryd.prog 111 1 8 := .mk' (z := Value.map none) (by kernel_rfl) rfl
instance el112 : El Tryd.prog 112 1 8 := .mk' (z := .agg #[Value.map none]) (by kernel_rfl) rfl
instance fl112_0 : Fld Tryd.prog 112 0 0 111 := .mk' (by kernel_rfl) (by kernel_rfl)
instance su112 : St Tryd.prog 112 [(0, 1)] := ⟨by kernel_rfl⟩
instance el113 : El Tryd.prog 113 1 8 := .mk' (z := .agg #[Value.map none]) (by kernel_rfl) rfl
instance fl113_0 : Fld Tryd.prog 113 0 0 111 := .mk' (by kernel_rfl) (by kernel_rfl)
instance su113 : St Tryd.prog 113 [(0, 1)] := ⟨by kernel_rfl⟩
instance el114 : El Tryd.prog 114 1 8 := .mk' (z := Value.nilFunc) (by kernel_rfl) rfl
instance el115 : El Tryd.prog 115 1 8 := .mk' (z := Value.nilFunc) (by kernel_rfl) rfl
instance it116 : IntTy Tryd.prog 116 .u64 := ⟨by kernel_rfl⟩
instance el116 : El Tryd.prog 116 1 8 := .mk' (z := Value.int .u64 0) (by kernel_rfl) rfl
instance el117 : El Tryd.prog 117 1 24 := .mk' (z := Value.slice none 0 0) (by kernel_rfl) rfl
instance sl117 : Sl Tryd.prog 117 21 := ⟨by kernel_rfl⟩
instance el119 : El Tryd.prog 119 1 8 := .mk' (z := Value.nilFunc) (by kernel_rfl) rfl
instance el120 : El Tryd.prog 120 1 8 := .mk' (z := Value.nilFunc) (by kernel_rfl) rfl
instance el121 : El Tryd.prog 121 1 16 := .mk' (z := Value.nilIface) (by kernel_rfl) rfl
instance el122 : El Tryd.prog 122 1 16 := .mk' (z := Value.nilIface) (by kernel_rfl) rfl
instance el123 : El Tryd.prog 123 1 16 := .mk' (z := .agg #[Value.nilIface]) (by kernel_rfl) rfl
instance fl123_0 : Fld Tryd.prog 123 0 0 122 := .mk' (by kernel_rfl) (by kernel_rfl)
instance su123 : St Tryd.prog 123 [(0, 1)] := ⟨by kernel_rfl⟩
instance el124 : El Tryd.prog 124 1 16 := .mk' (z := .agg #[Value.nilIface]) (by kernel_rfl) rfl
instance fl124_0 : Fld Tryd.prog 124 0 0 122 := .mk' (by kernel_rfl) (by kernel_rfl)
instance su124 : St Tryd.prog 124 [(0, 1)] := ⟨by kernel_rfl⟩
instance el125 : El Tryd.prog 125 1 8 := .mk' (z := Value.nilFunc) (by kernel_rfl) rfl
instance el126 : El Tryd.prog 126 1 8 := .mk' (z := Value.nilFunc) (by kernel_rfl) rfl
instance el128 : El Tryd.prog 128 1 8 := .mk' (z := Value.nilFunc) (by kernel_rfl) rfl
instance el129 : El Tryd.prog 129 1 24 := .mk' (z := Value.slice none 0 0) (by kernel_rfl) rfl
instance sl129 : Sl Tryd.prog 129 2 := ⟨by kernel_rfl⟩
instance el130 : El Tryd.prog 130 1 8 := .mk' (z := Value.nilFunc) (by kernel_rfl) rfl
instance el131 : El Tryd.prog 131 1 8 := .mk' (z := Value.nilFunc) (by kernel_rfl) rfl
instance el132 : El Tryd.prog 132 1 8 := .mk' (z := Value.nilFunc) (by kernel_rfl) rfl
instance el134 : El Tryd.prog 134 1 8 := .mk' (z := Value.nilFunc) (by kernel_rfl) rfl
instance el135 : El Tryd.prog 135 1 8 := .mk' (z := Value.nilFunc) (by kernel_rfl) rfl
instance el137 : El Tryd.prog 137 1 8 := .mk' (z := Value.nilFunc) (by kernel_rfl) rfl
instance el138 : El Tryd.prog 138 1 8 := .mk' (z := Value.nilFunc) (by kernel_rfl) rfl
instance el139 : El Tryd.prog 139 1 8 := .mk' (z := Value.nilFunc) (by kernel_rfl) rfl
instance it140 : IntTy Tryd.prog 140 .u64 := ⟨by kernel_rfl⟩
instance el140 : El Tryd.prog 140 1 8 := .mk' (z := Value.int .u64 0) (by kernel_rfl) rfl
instance it141 : IntTy Tryd.prog 141 .i64 := ⟨by kernel_rfl⟩
instance el141 : El Tryd.prog 141 1 8 := .mk' (z := Value.int .i64 0) (by kernel_rfl) rfl
instance st142 : StrTy Tryd.prog 142 := ⟨by kernel_rfl⟩
instance el142 : El Tryd.prog 142 1 16 := .mk' (z := Value.string ⟨#[]⟩) (by kernel_rfl) rfl
instance el143 : El Tryd.prog 143 1 8 := .mk' (z := Value.nilFunc) (by kernel_rfl) rfl
instance el145 : El Tryd.prog 145 1 8 := .mk' (z := Value.nilFunc) (by kernel_rfl) rfl
instance el147 : El Tryd.prog 147 2 2 := .mk' (z := .agg #[Value.int .u8 0, Value.int .u8 0]) (by kernel_rfl) rfl
instance fl147_0 : Fld Tryd.prog 147 0 0 5 := .mk' (by kernel_rfl) (by kernel_rfl)
instance fl147_1 : Fld Tryd.prog 147 1 1 5 := .mk' (by kernel_rfl) (by kernel_rfl)
instance su147 : St Tryd.prog 147 [(0, 1), (1, 1)] := ⟨by kernel_rfl⟩
instance el148 : El Tryd.prog 148 2 2 := .mk' (z := .agg #[Value.int .u8 0, Value.int .u8 0]) (by kernel_rfl) rfl
instance fl148_0 : Fld Tryd.prog 148 0 0 5 := .mk' (by kernel_rfl) (by kernel_rfl)
instance fl148_1 : Fld Tryd.prog 148 1 1 5 := .mk' (by kernel_rfl) (by kernel_rfl)
instance su148 : St Tryd.prog 148 [(0, 1), (1, 1)] := ⟨by kernel_rfl⟩
instance el149 : El Tryd.prog 149 32 32 := .mk' (z := .agg #[Value.int .u8 0, Value.int .u8 0, Value.int .u8 0, Value.int .u8 0, Value.int .u8 0, Value.int .u8 0, Value.int .u8 0, Value.int .u8 0, Value.int .u8 0, Value.int .u8 0, Value.int .u8 0, Value.int .u8 0, Value.int .u8 0, Value.int .u8 0, Value.int .u8 0, Value.int .u8 0, Value.int .u8 0, Value.int .u8 0, Value.int .u8 0, Value.int .u8 0, Value.int .u8 0, Value.int .u8 0, Value.int .u8 0, Value.int .u8 0, Value.int .u8 0, Value.int .u8 0, Value.int .u8 0, Value.int .u8 0, Value.int .u8 0, Value.int .u8 0, Value.int .u8 0, Value.int .u8 0]) (by kernel_rfl) rfl
instance el150 : El Tryd.prog 150 1 8 := .mk' (z := Value.nilFunc) (by kernel_rfl) rfl
instance el151 : El Tryd.prog 151 4 40 := .mk' (z := .agg #[Value.pointer none, Value.pointer none, Value.pointer none, Value.string ⟨#[]⟩]) (by kernel_rfl) rfl
instance fl151_0 : Fld Tryd.prog 151 0 0 17 := .mk' (by kernel_rfl) (by kernel_rfl)
instance fl151_1 : Fld Tryd.prog 151 1 1 17 := .mk' (by kernel_rfl) (by kernel_rfl)
instance fl151_2 : Fld Tryd.prog 151 2 2 17 := .mk' (by kernel_rfl) (by kernel_rfl)
instance fl151_3 : Fld Tryd.prog 151 3 3 9 := .mk' (by kernel_rfl) (by kernel_rfl)
instance su151 : St Tryd.prog 151 [(0, 1), (1, 1), (2, 1), (3, 1)] := ⟨by kernel_rfl⟩
instance el152 : El Tryd.prog 152 4 40 := .mk' (z := .agg #[Value.pointer none, Value.pointer none, Value.pointer none, Value.string ⟨#[]⟩]) (by kernel_rfl) rfl
instance fl152_0 : Fld Tryd.prog 152 0 0 17 := .mk' (by kernel_rfl) (by kernel_rfl)
instance fl152_1 : Fld Tryd.prog 152 1 1 17 := .mk' (by kernel_rfl) (by kernel_rfl)
instance fl152_2 : Fld Tryd.prog 152 2 2 17 := .mk' (by kernel_rfl) (by kernel_rfl)
instance fl152_3 : Fld Tryd.prog 152 3 3 9 := .mk' (by kernel_rfl) (by kernel_rfl)
instance su152 : St Tryd.prog 152 [(0, 1), (1, 1), (2, 1), (3, 1)] := ⟨by kernel_rfl⟩
instance su154 : St Tryd.prog 154 [(0, 0)] := ⟨by kernel_rfl⟩
instance su155 : St Tryd.prog 155 [(0, 0)] := ⟨by kernel_rfl⟩
instance it156 : IntTy Tryd.prog 156 .u32 := ⟨by kernel_rfl⟩
instance el156 : El Tryd.prog 156 1 4 := .mk' (z := Value.int .u32 0) (by kernel_rfl) rfl
instance it157 : IntTy Tryd.prog 157 .u8 := ⟨by kernel_rfl⟩
instance el157 : El Tryd.prog 157 1 1 := .mk' (z := Value.int .u8 0) (by kernel_rfl) rfl
instance it158 : IntTy Tryd.prog 158 .u8 := ⟨by kernel_rfl⟩
instance el158 : El Tryd.prog 158 1 1 := .mk' (z := Value.int .u8 0) (by kernel_rfl) rfl
instance el159 : El Tryd.prog 159 1 8 := .mk' (z := Value.nilFunc) (by kernel_rfl) rfl
instance el160 : El Tryd.prog 160 1 8 := .mk' (z := Value.pointer none) (by kernel_rfl) rfl
instance it161 : IntTy Tryd.prog 161 .i32 := ⟨by kernel_rfl⟩
instance el161 : El Tryd.prog 161 1 4 := .mk' (z := Value.int .i32 0) (by kernel_rfl) rfl
instance it162 : IntTy Tryd.prog 162 .i32 := ⟨by kernel_rfl⟩
instance el162 : El Tryd.prog 162 1 4 := .mk' (z := Value.int .i32 0) (by kernel_rfl) rfl
instance el163 : El Tryd.prog 163 11 48 := .mk' (z := .agg #[Value.int .u64 0, Value.int .u64 0, Value.int .u32 0, Value.int .u8 0, Value.int .u8 0, Value.int .u8 0, Value.int .u8 0, Value.nilFunc, Value.pointer none, Value.int .i32 0, Value.int .i32 0]) (by kernel_rfl) rfl
instance fl163_0 : Fld Tryd.prog 163 0 0 12 := .mk' (by kernel_rfl) (by kernel_rfl)
instance fl163_1 : Fld Tryd.prog 163 1 1 12 := .mk' (by kernel_rfl) (by kernel_rfl)
instance fl163_2 : Fld Tryd.prog 163 2 2 156 := .mk' (by kernel_rfl) (by kernel_rfl)
instance fl163_3 : Fld Tryd.prog 163 3 3 157 := .mk' (by kernel_rfl) (by kernel_rfl)
instance fl163_4 : Fld Tryd.prog 163 4 4 5 := .mk' (by kernel_rfl) (by kernel_rfl)
instance fl163_5 : Fld Tryd.prog 163 5 5 5 := .mk' (by kernel_rfl) (by kernel_rfl)
instance fl163_6 : Fld Tryd.prog 163 6 6 158 := .mk' (by kernel_rfl) (by kernel_rfl)
instance fl163_7 : Fld Tryd.prog 163 7 7 159 := .mk' (by kernel_rfl) (by kernel_rfl)
instance fl163_8 : Fld Tryd.prog 163 8 8 160 := .mk' (by kernel_rfl) (by kernel_rfl)
instance fl163_9 : Fld Tryd.prog 163 9 9 161 := .mk' (by kernel_rfl) (by kernel_rfl)
instance fl163_10 : Fld Tryd.prog 163 10 10 162 := .mk' (by kernel_rfl) (by kernel_rfl)
instance su163 : St Tryd.prog 163 [(0, 1), (1, 1), (2, 1), (3, 1), (4, 1), (5, 1), (6, 1), (7, 1), (8, 1), (9, 1), (10, 1)] := ⟨by kernel_rfl⟩
instance el164 : El Tryd.prog 164 11 48 := .mk' (z := .agg #[Value.int .u64 0, Value.int .u64 0, Value.int .u32 0, Value.int .u8 0, Value.int .u8 0, Value.int .u8 0, Value.int .u8 0, Value.nilFunc, Value.pointer none, Value.int .i32 0, Value.int .i32 0]) (by kernel_rfl) rfl
instance fl164_0 : Fld Tryd.prog 164 0 0 12 := .mk' (by kernel_rfl) (by kernel_rfl)
instance fl164_1 : Fld Tryd.prog 164 1 1 12 := .mk' (by kernel_rfl) (by kernel_rfl)
instance fl164_2 : Fld Tryd.prog 164 2 2 156 := .mk' (by kernel_rfl) (by kernel_rfl)
instance fl164_3 : Fld Tryd.prog 164 3 3 157 := .mk' (by kernel_rfl) (by kernel_rfl)
instance fl164_4 : Fld Tryd.prog 164 4 4 5 := .mk' (by kernel_rfl) (by kernel_rfl)
instance fl164_5 : Fld Tryd.prog 164 5 5 5 := .mk' (by kernel_rfl) (by kernel_rfl)
instance fl164_6 : Fld Tryd.prog 164 6 6 158 := .mk' (by kernel_rfl) (by kernel_rfl)
instance fl164_7 : Fld Tryd.prog 164 7 7 159 := .mk' (by kernel_rfl) (by kernel_rfl)
instance fl164_8 : Fld Tryd.prog 164 8 8 160 := .mk' (by kernel_rfl) (by kernel_rfl)
instance fl164_9 : Fld Tryd.prog 164 9 9 161 := .mk' (by kernel_rfl) (by kernel_rfl)
instance fl164_10 : Fld Tryd.prog 164 10 10 162 := .mk' (by kernel_rfl) (by kernel_rfl)
instance su164 : St Tryd.prog 164 [(0, 1), (1, 1), (2, 1), (3, 1), (4, 1), (5, 1), (6, 1), (7, 1), (8, 1), (9, 1), (10, 1)] := ⟨by kernel_rfl⟩
instance el165 : El Tryd.prog 165 1 8 := .mk' (z := Value.nilFunc) (by kernel_rfl) rfl
instance el166 : El Tryd.prog 166 1 8 := .mk' (z := Value.pointer none) (by kernel_rfl) rfl
end Go.Proofs.YtcfaicomnngegaaDoor

/-
  The walk of the reference's May, by Sx.
-/
set_option linter.unusedVariables false
set_option maxRecDepth 10000
namespace Go.Proofs.YtcfaicomnngegaaDoor.Sw
open Go.RowKit Go.Sx

theorem empty_eq (s : ByteArray) (h : s.size = 0) : (s.toList == (⟨#[]⟩ : ByteArray).toList) = true := by
  have : s = ⟨#[]⟩ := by
    apply ByteArray.ext
    exact Array.eq_empty_of_size_eq_zero h
  rw [this]; simp
theorem toList_size (s : ByteArray) : s.toList.length = s.size := by
  rw [Go.ByteArray.toList_eq]
  rw [Array.length_toList]; rfl
theorem empty_ne (s : ByteArray) (h : s.size ≠ 0) : (s.toList == (⟨#[]⟩ : ByteArray).toList) = false := by
  rw [beq_eq_false_iff_ne]
  intro e
  have := congrArg List.length e
  rw [toList_size, toList_size] at this
  exact h this
theorem ofRaw_01 (k n : Int) (s : ByteArray) : (ofRaw k n s).2 = 0 ∨ (ofRaw k n s).2 = 1 := by
  unfold ofRaw
  split
  · exact .inl rfl
  · split
    · exact .inl rfl
    · split
      · exact .inl rfl
      · exact .inr rfl

set_option maxHeartbeats 4000000 in
theorem ref_May (k n : Int) (s : ByteArray) (w : World) (hs0 : s.size ≤ 1000000) :
    Calls Tryd.prog 59 ⟨[.agg #[.int .i64 k, .int .i64 n, .string s]]⟩ w fun e w' => e = .returned (.bool ((ofRaw k n s).2 == 0)) ∧ Below w.heap.size w w' := by
  have hw := Has.start (G := 0) (w := w) (Nat.zero_le _)
  refine enter Tryd.func59 Tryd.ntmps59 rfl rfl fun a hs => ?_
  repeat (first | (refine sxv hs hw ?_; clear hs; intro a hs) | refine sxc hs ?_ | (refine sxa hs hw ?_; clear hs hw; intro a b W hw hs) | (refine sxs hs hw ?_; clear hs hw; intro W hs hw))
  by_cases k0 : k = 0
  · subst k0
    by_cases n0 : n = 0
    · subst n0
      by_cases hz : s.size = 0
      · have e1 := empty_eq s hz
        have hO : ((ofRaw 0 0 s).2 == 0) = true := by unfold ofRaw; rw [if_pos ⟨rfl, rfl, hz⟩]; rfl
        repeat (first | (refine sxv hs hw ?_; clear hs; intro a hs) | refine sxc hs ?_ | (refine sxa hs hw ?_; clear hs hw; intro a b W hw hs) | (refine sxs hs hw ?_; clear hs hw; intro W hs hw))
        rw [e1] at hs
        repeat (first | (refine sxv hs hw ?_; clear hs; intro a hs) | refine sxc hs ?_ | (refine sxa hs hw ?_; clear hs hw; intro a b W hw hs) | (refine sxs hs hw ?_; clear hs hw; intro W hs hw))
        exact rt1 hs rfl rfl ⟨by rw [hO]; rfl, hw.end (by repeat (first | exact In.hd | apply In.tl))⟩
      · have e1 := empty_ne s hz
        have hO : ((ofRaw 0 0 s).2 == 0) = false := by unfold ofRaw; rw [if_neg (fun h => hz h.2.2), if_neg (fun h => by omega), if_neg (fun h => by omega)]; rfl
        repeat (first | (refine sxv hs hw ?_; clear hs; intro a hs) | refine sxc hs ?_ | (refine sxa hs hw ?_; clear hs hw; intro a b W hw hs) | (refine sxs hs hw ?_; clear hs hw; intro W hs hw))
        rw [e1] at hs
        repeat (first | (refine sxv hs hw ?_; clear hs; intro a hs) | refine sxc hs ?_ | (refine sxa hs hw ?_; clear hs hw; intro a b W hw hs) | (refine sxs hs hw ?_; clear hs hw; intro W hs hw))
        exact rt1 hs rfl rfl ⟨by rw [hO]; rfl, hw.end (by repeat (first | exact In.hd | apply In.tl))⟩
    · have e1 : (n == 0) = false := by simpa using n0
      have hO : ((ofRaw 0 n s).2 == 0) = false := by unfold ofRaw; rw [if_neg (fun h => n0 h.2.1), if_neg (fun h => by omega), if_neg (fun h => by omega)]; rfl
      repeat (first | (refine sxv hs hw ?_; clear hs; intro a hs) | refine sxc hs ?_ | (refine sxa hs hw ?_; clear hs hw; intro a b W hw hs) | (refine sxs hs hw ?_; clear hs hw; intro W hs hw))
      rw [e1] at hs
      repeat (first | (refine sxv hs hw ?_; clear hs; intro a hs) | refine sxc hs ?_ | (refine sxa hs hw ?_; clear hs hw; intro a b W hw hs) | (refine sxs hs hw ?_; clear hs hw; intro W hs hw))
      exact rt1 hs rfl rfl ⟨by rw [hO]; rfl, hw.end (by repeat (first | exact In.hd | apply In.tl))⟩
  by_cases k1 : k = 1
  · subst k1
    by_cases hz : s.size = 0
    · have e1 := empty_eq s hz
      have hO : ((ofRaw 1 n s).2 == 0) = true := by unfold ofRaw; rw [if_neg (fun h => by omega), if_pos ⟨rfl, hz⟩]; rfl
      repeat (first | (refine sxv hs hw ?_; clear hs; intro a hs) | refine sxc hs ?_ | (refine sxa hs hw ?_; clear hs hw; intro a b W hw hs) | (refine sxs hs hw ?_; clear hs hw; intro W hs hw))
      exact rt1 hs rfl rfl ⟨by rw [hO, e1], hw.end (by repeat (first | exact In.hd | apply In.tl))⟩
    · have e1 := empty_ne s hz
      have hO : ((ofRaw 1 n s).2 == 0) = false := by unfold ofRaw; rw [if_neg (fun h => by omega), if_neg (fun h => hz h.2), if_neg (fun h => by omega)]; rfl
      repeat (first | (refine sxv hs hw ?_; clear hs; intro a hs) | refine sxc hs ?_ | (refine sxa hs hw ?_; clear hs hw; intro a b W hw hs) | (refine sxs hs hw ?_; clear hs hw; intro W hs hw))
      exact rt1 hs rfl rfl ⟨by rw [hO, e1], hw.end (by repeat (first | exact In.hd | apply In.tl))⟩
  have e0 : (k == 0) = false := by simpa using k0
  have e1 : (k == 1) = false := by simpa using k1
  rw [e0] at hs
  repeat (first | (refine sxv hs hw ?_; clear hs; intro a hs) | refine sxc hs ?_ | (refine sxa hs hw ?_; clear hs hw; intro a b W hw hs) | (refine sxs hs hw ?_; clear hs hw; intro W hs hw))
  rw [e1] at hs
  by_cases k2 : k = 2
  · subst k2
    repeat (first | (refine sxv hs hw ?_; clear hs; intro a hs) | refine sxc hs ?_ | (refine sxa hs hw ?_; clear hs hw; intro a b W hw hs) | (refine sxs hs hw ?_; clear hs hw; intro W hs hw))
    refine st_call hs (hc := ref_Runes s _ hs0) (k := ?_); rintro _ W1 ⟨vl, va, rfl, _, _, hb⟩; refine ⟨_, rfl, ?_⟩; clear hs; intro a hs; replace hw := hw.below hb; clear hb
    repeat (first | (refine sxv hs hw ?_; clear hs; intro a hs) | refine sxc hs ?_ | (refine sxa hs hw ?_; clear hs hw; intro a b W hw hs) | (refine sxs hs hw ?_; clear hs hw; intro W hs hw))
    by_cases n0 : n = 0
    · subst n0
      cases hv : Lib.validD s.data.toList with
      | false =>
        have hO : ((ofRaw 2 0 s).2 == 0) = false := by unfold ofRaw; rw [if_neg (fun h => by omega), if_neg (fun h => by omega), if_neg (fun h => by rw [hv] at h; cases h.2.2.2)]; rfl
        rw [hv] at hs
        repeat (first | (refine sxv hs hw ?_; clear hs; intro a hs) | refine sxc hs ?_ | (refine sxa hs hw ?_; clear hs hw; intro a b W hw hs) | (refine sxs hs hw ?_; clear hs hw; intro W hs hw))
        exact rt1 hs rfl rfl ⟨by rw [hO]; rfl, hw.end (by repeat (first | exact In.hd | apply In.tl))⟩
      | true =>
        rw [hv] at hs
        repeat (first | (refine sxv hs hw ?_; clear hs; intro a hs) | refine sxc hs ?_ | (refine sxa hs hw ?_; clear hs hw; intro a b W hw hs) | (refine sxs hs hw ?_; clear hs hw; intro W hs hw))
        by_cases hl : s.size ≤ 200
        · have e3 : decide ((s.size : Int) ≤ 200) = true := by simp; omega
          have hO : ((ofRaw 2 0 s).2 == 0) = true := by unfold ofRaw; rw [if_neg (fun h => by omega), if_neg (fun h => by omega), if_pos ⟨rfl, rfl, hl, hv⟩]; rfl
          rw [e3] at hs
          exact rt1 hs rfl rfl ⟨by rw [hO]; rfl, hw.end (by repeat (first | exact In.hd | apply In.tl))⟩
        · have e3 : decide ((s.size : Int) ≤ 200) = false := by simp; omega
          have hO : ((ofRaw 2 0 s).2 == 0) = false := by unfold ofRaw; rw [if_neg (fun h => by omega), if_neg (fun h => by omega), if_neg (fun h => hl h.2.2.1)]; rfl
          rw [e3] at hs
          exact rt1 hs rfl rfl ⟨by rw [hO]; rfl, hw.end (by repeat (first | exact In.hd | apply In.tl))⟩
    · have e3 : (n == 0) = false := by simpa using n0
      have hO : ((ofRaw 2 n s).2 == 0) = false := by unfold ofRaw; rw [if_neg (fun h => by omega), if_neg (fun h => by omega), if_neg (fun h => n0 h.2.1)]; rfl
      rw [e3] at hs
      repeat (first | (refine sxv hs hw ?_; clear hs; intro a hs) | refine sxc hs ?_ | (refine sxa hs hw ?_; clear hs hw; intro a b W hw hs) | (refine sxs hs hw ?_; clear hs hw; intro W hs hw))
      exact rt1 hs rfl rfl ⟨by rw [hO]; rfl, hw.end (by repeat (first | exact In.hd | apply In.tl))⟩
  · have e2 : (k == 2) = false := by simpa using k2
    have hO : ((ofRaw k n s).2 == 0) = false := by unfold ofRaw; rw [if_neg (fun h => k0 h.1), if_neg (fun h => k1 h.1), if_neg (fun h => k2 h.1)]; rfl
    repeat (first | (refine sxv hs hw ?_; clear hs; intro a hs) | refine sxc hs ?_ | (refine sxa hs hw ?_; clear hs hw; intro a b W hw hs) | (refine sxs hs hw ?_; clear hs hw; intro W hs hw))
    rw [e2] at hs
    repeat (first | (refine sxv hs hw ?_; clear hs; intro a hs) | refine sxc hs ?_ | (refine sxa hs hw ?_; clear hs hw; intro a b W hw hs) | (refine sxs hs hw ?_; clear hs hw; intro W hs hw))
    exact rt1 hs rfl rfl ⟨by rw [hO], hw.end (by repeat (first | exact In.hd | apply In.tl))⟩

end Go.Proofs.YtcfaicomnngegaaDoor.Sw

/-
  The walk of runes.Key, for a seat that lacks its neighbours.
-/
set_option linter.unusedVariables false
set_option maxRecDepth 10000
namespace Go.Proofs.YtcfaicomnngegaaDoor
open Go.RowKit

set_option maxHeartbeats 400000 in
theorem runes_Key (s : ByteArray) (w : World) (hs : s.size ≤ 9223372036854775807) (hT : Tabs w) :
    Calls Tryd.prog 73 #[.string s] w fun e w' => e = .returned (.bool (Ph.keyB s.data.toList)) ∧ Below w.heap.size w w' := by
  have hcl := Ph.count_le s
  go_enter Tryd.func73, Tryd.ntmps73
  go_wp2
  go_loopw [3] (fun n wr => ∃ pos k : Nat, wr = w.iter s pos ∧ n = .int .i64 k ∧ k ≤ s.size ∧ Hid (k + (Ph.rs (s.data.toList.drop pos)).length = Ph.count s.data.toList) ∧ Hid (Ph.plainB (Ph.rs s.data.toList) = Ph.plainB (Ph.rs (s.data.toList.drop pos)))) (fun _ wr => s.size - wr.iterPos w.heap.size)
  case atStart => exact ⟨0, 0, rfl, rfl, by omega, by unfold Hid; simp [Ph.count], by unfold Hid; simp⟩
  case round =>
    obtain ⟨pos, k, rfl, rfl, hkb, HK, HP⟩ := hrel
    by_cases hp : pos < s.size
    · have hnx := fun ty => run_next_any (P := Tryd.prog) w s pos ty hp
      have HR : Hid (Ph.rs (s.data.toList.drop pos) = Utf8.decode s pos :: Ph.rs (s.data.toList.drop (pos + (Utf8.decode s pos).2))) := Ph.rs_at s pos hp
      have hk1 : k + 1 ≤ s.size := by
        have h1 := HK.out
        rw [HR.out, List.length_cons] at h1
        omega
      have bad : (Utf8.decode s pos).1 < 32 ∨ (Utf8.decode s pos).1 = 127 → Ph.keyB s.data.toList = false := fun h => Ph.keyB_bad (by rw [HP.out, HR.out, Ph.plainB_bad h])
      have BAD := Lib.hid bad
      clear bad
      by_cases h32 : (Utf8.decode s pos).1 < 32
      · have h32' : ((Utf8.decode s pos).1 : Int) < 32 := by omega
        go_wp2
        go_ret
        exact ⟨ret_bool (BAD.out (.inl h32)).symm, (Below.refl _ _).alloc (Nat.le_refl _) _⟩
      · by_cases h127 : (Utf8.decode s pos).1 = 127
        · have h32' : (32 : Int) ≤ ((Utf8.decode s pos).1 : Int) := by omega
          have h127' : (((Utf8.decode s pos).1 : Int) == 127) = true := by rw [beq_iff_eq]; omega
          have HB : Hid (Ph.keyB s.data.toList = false) := BAD.out (.inr h127)
          clear h127
          go_wp2
          go_ret
          exact ⟨ret_bool HB.out.symm, (Below.refl _ _).alloc (Nat.le_refl _) _⟩
        · have h32' : (32 : Int) ≤ ((Utf8.decode s pos).1 : Int) := by omega
          have h127' : (((Utf8.decode s pos).1 : Int) == 127) = false := by rw [beq_eq_false_iff_ne]; omega
          have HG : Hid (¬ ((Utf8.decode s pos).1 < 32 ∨ (Utf8.decode s pos).1 = 127)) := by show ¬ _; omega
          clear h127
          go_wp2
          go_roundw
          case rel =>
            refine ⟨pos + (Utf8.decode s pos).2, k + 1, rfl, by go_num, hk1, ?_, ?_⟩
            · have h1 := HK.out
              rw [HR.out, List.length_cons] at h1
              show _ = _
              omega
            · show _ = _
              rw [HP.out, HR.out, Ph.plainB_good HG.out]
          case measure =>
            have := Ph.width_pos s pos
            rw [World.iterPos_iter, World.iterPos_iter]
            omega
    · have hnx := fun ty => run_next_end (P := Tryd.prog) w s pos ty hp
      have hT2 : Tabs (w.iter s pos) := hT.keep ((Below.refl _ _).alloc (Nat.le_refl _) _)
      have HK2 : Hid (k = Ph.count s.data.toList ∧ Ph.plainB (Ph.rs s.data.toList) = true) := by
        have h1 := HK.out
        have h2 := HP.out
        rw [Ph.rs_end s pos hp] at h1 h2
        exact ⟨h1, h2⟩
      by_cases h1 : 1 ≤ k ∧ k ≤ 40
      · obtain ⟨ha, hb'⟩ := h1
        have ha' : (1 : Int) ≤ (k : Int) := by omega
        have hb'' : (k : Int) ≤ 40 := by omega
        go_wp2_with (go_at_call 84; refine (runes_Valid _ _ hs hT2).mono ?_; rintro e w' ⟨rfl, hb⟩)
        go_ret
        refine ⟨ret_bool ?_, ((Below.refl _ _).alloc (Nat.le_refl _) (.stringIter s _)).trans (hb.mono (by simp [World.iter]))⟩
        rw [Ph.keyB_long HK2.out.2 (by rw [← HK2.out.1]; omega) (by rw [← HK2.out.1]; omega)]
      · have HS : Hid (Ph.keyB s.data.toList = false) := Ph.keyB_short (by rw [← HK2.out.1]; exact h1)
        by_cases ha : 1 ≤ k
        · have ha' : (1 : Int) ≤ (k : Int) := by omega
          have hb'' : (40 : Int) < (k : Int) := by omega
          clear h1
          go_wp2
          go_ret
          exact ⟨ret_bool HS.out.symm, (Below.refl _ _).alloc (Nat.le_refl _) _⟩
        · have ha' : (k : Int) < 1 := by omega
          clear h1
          go_wp2
          go_ret
          exact ⟨ret_bool HS.out.symm, (Below.refl _ _).alloc (Nat.le_refl _) _⟩

end Go.Proofs.YtcfaicomnngegaaDoor

/-
  The walk of the reference's Key, for a seat that lacks its neighbours.
-/
set_option linter.unusedVariables false
set_option maxRecDepth 10000
namespace Go.Proofs.YtcfaicomnngegaaDoor
open Go.RowKit

set_option maxHeartbeats 400000 in
theorem ref_Key (s : ByteArray) (w : World) (hs : s.size ≤ 1000000) :
    Calls Tryd.prog 58 #[.string s] w fun e w' => e = .returned (.bool (Ph.keyB s.data.toList)) ∧ Below w.heap.size w w' := by
  have hcl := Ph.count_le s
  have hcl' : (Ph.rs s.data.toList).length ≤ s.size := hcl
  by_cases h1 : (Ph.rs s.data.toList).length < 1 ∨ 40 < (Ph.rs s.data.toList).length ∨ Lib.validD s.data.toList = false
  · have HF : Hid (Ph.keyB s.data.toList = false) := by
      show _ = _
      rcases h1 with h | h | h
      · exact Ph.keyB_short (by unfold Ph.count; omega)
      · exact Ph.keyB_short (by unfold Ph.count; omega)
      · simp [Ph.keyB, h]
    have H1 := Lib.hid h1
    clear h1
    by_cases c1 : (Ph.rs s.data.toList).length < 1
    · have c1' : ((Ph.rs s.data.toList).length : Int) < 1 := by omega
      go_enter Tryd.func58, Tryd.ntmps58
      go_wp2_with fail
      refine (ref_Runes s _ hs).mono ?_
      rintro e w' ⟨vl, va, rfl, hl, ha, hb⟩
      obtain ⟨Al, cl, rfl, _, _, fl⟩ := own_slice hl
      go_wp2
      go_ret
      exact ⟨ret_bool HF.out.symm, hb⟩
    · have c1' : (1 : Int) ≤ ((Ph.rs s.data.toList).length : Int) := by omega
      by_cases c2 : 40 < (Ph.rs s.data.toList).length
      · have c2' : (40 : Int) < ((Ph.rs s.data.toList).length : Int) := by omega
        go_enter Tryd.func58, Tryd.ntmps58
        go_wp2_with fail
        refine (ref_Runes s _ hs).mono ?_
        rintro e w' ⟨vl, va, rfl, hl, ha, hb⟩
        obtain ⟨Al, cl, rfl, _, _, fl⟩ := own_slice hl
        go_wp2
        go_ret
        exact ⟨ret_bool HF.out.symm, hb⟩
      · have c2' : ((Ph.rs s.data.toList).length : Int) ≤ 40 := by omega
        have c3 : Lib.validD s.data.toList = false := by
          rcases H1.out with h | h | h
          · omega
          · omega
          · exact h
        go_enter Tryd.func58, Tryd.ntmps58
        go_wp2_with fail
        refine (ref_Runes s _ hs).mono ?_
        rintro e w' ⟨vl, va, rfl, hl, ha, hb⟩
        rw [c3]
        clear c3
        obtain ⟨Al, cl, rfl, _, _, fl⟩ := own_slice hl
        go_wp2
        go_ret
        exact ⟨ret_bool HF.out.symm, hb⟩
  · have c1' : (1 : Int) ≤ ((Ph.rs s.data.toList).length : Int) := by omega
    have c2' : ((Ph.rs s.data.toList).length : Int) ≤ 40 := by omega
    have c3 : Lib.validD s.data.toList = true := by
      cases h : Lib.validD s.data.toList
      · exact absurd (.inr (.inr h)) h1
      · rfl
    have HK : Hid (Ph.keyB s.data.toList = Ph.plainB (Ph.rs s.data.toList)) := by
      show _ = _
      cases hp : Ph.plainB (Ph.rs s.data.toList)
      · exact Ph.keyB_bad hp
      · rw [Ph.keyB_long hp (by unfold Ph.count; omega) (by unfold Ph.count; omega), c3]
    have hok := Ph.rs_small s.data.toList
    have HOK := Lib.hid hok
    clear h1 hok
    go_enter Tryd.func58, Tryd.ntmps58
    go_wp2_with fail
    refine (ref_Runes s _ hs).mono ?_
    rintro e w' ⟨vl, va, rfl, hl, ha, hb⟩
    rw [c3]
    clear c3
    obtain ⟨Al, cl, rfl, _, _, fl⟩ := own_slice hl
    obtain ⟨g, rfl, fc⟩ := fl (by omega)
    have FC := Lib.hid fc
    clear fc fl
    go_wp2
    go_loop [6] (fun i => ∃ k : Nat, k ≤ (Ph.rs s.data.toList).length ∧ i = .int .i64 k ∧ Hid (Ph.keyB s.data.toList = Ph.plainB ((Ph.rs s.data.toList).drop k))) (fun i => (Ph.rs s.data.toList).length - (intOf i).toNat)
    case atStart => exact ⟨0, by omega, rfl, by show _ = _; rw [HK.out]; rfl⟩
    case round =>
      obtain ⟨k, hk, rfl, HP⟩ := hrel
      by_cases hlt : k < (Ph.rs s.data.toList).length
      · have hlt' : (k : Int) < ((Ph.rs s.data.toList).length : Int) := by omega
        have hc := FC.out k (by omega)
        rw [Ph.runeVals_get _ k hlt] at hc
        have HD : Hid ((Ph.rs s.data.toList).drop k = (Ph.rs s.data.toList)[k] :: (Ph.rs s.data.toList).drop (k + 1)) := List.drop_eq_getElem_cons hlt
        have hr := HOK.out _ (List.getElem_mem hlt)
        generalize (Ph.rs s.data.toList)[k] = d at *
        by_cases h32 : d.1 < 32
        · have h32' : (d.1 : Int) < 32 := by omega
          have HB : Hid (Ph.keyB s.data.toList = false) := by show _ = _; rw [HP.out, HD.out, Ph.plainB_bad (.inl h32)]
          go_wp2
          go_ret
          exact ⟨ret_bool HB.out.symm, hb⟩
        · have h32' : (32 : Int) ≤ (d.1 : Int) := by omega
          by_cases h127 : d.1 = 127
          · have h127' : ((d.1 : Int) == 127) = true := by rw [beq_iff_eq]; omega
            have HB : Hid (Ph.keyB s.data.toList = false) := by show _ = _; rw [HP.out, HD.out, Ph.plainB_bad (.inr h127)]
            clear h127
            go_wp2
            go_ret
            exact ⟨ret_bool HB.out.symm, hb⟩
          · have h127' : ((d.1 : Int) == 127) = false := by rw [beq_eq_false_iff_ne]; omega
            have HG : Hid (Ph.keyB s.data.toList = Ph.plainB ((Ph.rs s.data.toList).drop (k + 1))) := by show _ = _; rw [HP.out, HD.out, Ph.plainB_good (by omega)]
            clear h127
            go_wp2
            go_round
            case rel => exact ⟨k + 1, by omega, by go_num, HG⟩
            case measure => simp [intOf]; omega
      · have hlt' : ((Ph.rs s.data.toList).length : Int) ≤ (k : Int) := by omega
        have HB : Hid (Ph.keyB s.data.toList = true) := by
          show _ = _
          rw [HP.out, List.drop_eq_nil_of_le (by omega)]; rfl
        go_wp2
        go_ret
        exact ⟨ret_bool HB.out.symm, hb⟩


end Go.Proofs.YtcfaicomnngegaaDoor
