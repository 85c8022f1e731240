/-
  The walks of package value: Of, Kind, Raw, AsInt, MustInt, Eq; and of the reference's Eq, May.
-/
import Derived.Test.YtfnmfofipcnojaaDoorLawKit
set_option linter.unusedVariables false
namespace Go.Proofs.YtfnmfofipcnojaaDoor
open Go.RowKit

/-- A value: none, a number, a text; as the program holds it. -/
def vCell : Option (Int ⊕ ByteArray) → Value
  | none => .nilIface
  | some (.inl n) => .iface 81 (.int .i64 n)
  | some (.inr s) => .iface 82 (.string s)
/-- What Of makes of data. -/
def ofRaw (k n : Int) (s : ByteArray) : Option (Int ⊕ ByteArray) × Int :=
  if k = 0 ∧ n = 0 ∧ s.size = 0 then (none, 0)
  else if k = 1 ∧ s.size = 0 then (some (.inl n), 0)
  else if k = 2 ∧ n = 0 ∧ s.size ≤ 200 ∧ Lib.validD s.data.toList = true then (some (.inr s), 0)
  else (none, 1)

set_option maxRecDepth 100000 in
set_option maxHeartbeats 1000000 in
theorem of_none (s : ByteArray) (h : ¬ 0 < s.size) (w : World) (hs : s.size ≤ 9223372036854775807) :
    Calls Tryd.prog 36 #[.agg #[.int .i64 0, .int .i64 0, .string s]] w fun e w' => e = .returned (.tuple #[.agg #[vCell (ofRaw 0 0 s).1], .int .i64 (ofRaw 0 0 s).2]) ∧ Below w.heap.size w w' := by
  have HF : Hid (ofRaw 0 0 s = (none, 0)) := by
    show _ = _
    unfold ofRaw; rw [if_pos ⟨rfl, rfl, by omega⟩]
  have ex := Ph.empty_yes h
  go_enter Tryd.func36, Tryd.ntmps36
  go_wp2
  refine bodyPost_ret (v := .tuple #[.agg #[.nilIface], .int .i64 0]) (by simp [results, Tryd.results36, go_sem]) rfl ⟨?_, ?_⟩
  · rw [HF.out]
    rfl
  · exact ((Below.refl _ _).alloc (Nat.le_refl _) _).alloc (by simp) _

set_option maxRecDepth 100000 in
set_option maxHeartbeats 1000000 in
theorem of_int (n : Int) (s : ByteArray) (h : ¬ 0 < s.size) (w : World) (hs : s.size ≤ 9223372036854775807) :
    Calls Tryd.prog 36 #[.agg #[.int .i64 1, .int .i64 n, .string s]] w fun e w' => e = .returned (.tuple #[.agg #[vCell (ofRaw 1 n s).1], .int .i64 (ofRaw 1 n s).2]) ∧ Below w.heap.size w w' := by
  have HF : Hid (ofRaw 1 n s = (some (.inl n), 0)) := by
    show _ = _
    unfold ofRaw; rw [if_neg (by omega), if_pos ⟨rfl, by omega⟩]
  have ex := Ph.empty_yes h
  go_enter Tryd.func36, Tryd.ntmps36
  go_wp2
  refine bodyPost_ret (v := .tuple #[.agg #[.iface 81 (.int .i64 n)], .int .i64 0]) (by simp [results, Tryd.results36, go_sem]) rfl ⟨?_, ?_⟩
  · rw [HF.out]
    rfl
  · exact ((Below.refl _ _).alloc (Nat.le_refl _) _).alloc (by simp) _

set_option maxRecDepth 100000 in
set_option maxHeartbeats 1000000 in
theorem of_nonum (n : Int) (s : ByteArray) (h : n ≠ 0) (w : World) (hs : s.size ≤ 9223372036854775807) :
    Calls Tryd.prog 36 #[.agg #[.int .i64 0, .int .i64 n, .string s]] w fun e w' => e = .returned (.tuple #[.agg #[vCell (ofRaw 0 n s).1], .int .i64 (ofRaw 0 n s).2]) ∧ Below w.heap.size w w' := by
  have HF : Hid (ofRaw 0 n s = (none, 1)) := by
    show _ = _
    unfold ofRaw; rw [if_neg (by omega), if_neg (by omega), if_neg (by omega)]
  have h' : (n == 0) = false := by simpa using h
  clear h
  go_enter Tryd.func36, Tryd.ntmps36
  go_wp2
  refine bodyPost_ret (v := .tuple #[.agg #[.nilIface], .int .i64 1]) (by simp [results, Tryd.results36, go_sem]) rfl ⟨?_, ?_⟩
  · rw [HF.out]
    rfl
  · exact ((Below.refl _ _).alloc (Nat.le_refl _) _).alloc (by simp) _

set_option maxRecDepth 100000 in
set_option maxHeartbeats 1000000 in
theorem of_notext (s : ByteArray) (h : 0 < s.size) (w : World) (hs : s.size ≤ 9223372036854775807) :
    Calls Tryd.prog 36 #[.agg #[.int .i64 0, .int .i64 0, .string s]] w fun e w' => e = .returned (.tuple #[.agg #[vCell (ofRaw 0 0 s).1], .int .i64 (ofRaw 0 0 s).2]) ∧ Below w.heap.size w w' := by
  have HF : Hid (ofRaw 0 0 s = (none, 1)) := by
    show _ = _
    unfold ofRaw; rw [if_neg (by omega), if_neg (by omega), if_neg (by omega)]
  have ex := Ph.empty_no h
  go_enter Tryd.func36, Tryd.ntmps36
  go_wp2
  refine bodyPost_ret (v := .tuple #[.agg #[.nilIface], .int .i64 1]) (by simp [results, Tryd.results36, go_sem]) rfl ⟨?_, ?_⟩
  · rw [HF.out]
    rfl
  · exact ((Below.refl _ _).alloc (Nat.le_refl _) _).alloc (by simp) _

set_option maxRecDepth 100000 in
set_option maxHeartbeats 1000000 in
theorem of_intno (n : Int) (s : ByteArray) (h : 0 < s.size) (w : World) (hs : s.size ≤ 9223372036854775807) :
    Calls Tryd.prog 36 #[.agg #[.int .i64 1, .int .i64 n, .string s]] w fun e w' => e = .returned (.tuple #[.agg #[vCell (ofRaw 1 n s).1], .int .i64 (ofRaw 1 n s).2]) ∧ Below w.heap.size w w' := by
  have HF : Hid (ofRaw 1 n s = (none, 1)) := by
    show _ = _
    unfold ofRaw; rw [if_neg (by omega), if_neg (by omega), if_neg (by omega)]
  have ex := Ph.empty_no h
  go_enter Tryd.func36, Tryd.ntmps36
  go_wp2
  refine bodyPost_ret (v := .tuple #[.agg #[.nilIface], .int .i64 1]) (by simp [results, Tryd.results36, go_sem]) rfl ⟨?_, ?_⟩
  · rw [HF.out]
    rfl
  · exact ((Below.refl _ _).alloc (Nat.le_refl _) _).alloc (by simp) _

set_option maxRecDepth 100000 in
set_option maxHeartbeats 1000000 in
theorem of_textnum (n : Int) (s : ByteArray) (h : n ≠ 0) (w : World) (hs : s.size ≤ 9223372036854775807) :
    Calls Tryd.prog 36 #[.agg #[.int .i64 2, .int .i64 n, .string s]] w fun e w' => e = .returned (.tuple #[.agg #[vCell (ofRaw 2 n s).1], .int .i64 (ofRaw 2 n s).2]) ∧ Below w.heap.size w w' := by
  have HF : Hid (ofRaw 2 n s = (none, 1)) := by
    show _ = _
    unfold ofRaw; rw [if_neg (by omega), if_neg (by omega), if_neg (by omega)]
  have h' : (n == 0) = false := by simpa using h
  clear h
  go_enter Tryd.func36, Tryd.ntmps36
  go_wp2
  refine bodyPost_ret (v := .tuple #[.agg #[.nilIface], .int .i64 1]) (by simp [results, Tryd.results36, go_sem]) rfl ⟨?_, ?_⟩
  · rw [HF.out]
    rfl
  · exact ((Below.refl _ _).alloc (Nat.le_refl _) _).alloc (by simp) _

set_option maxRecDepth 100000 in
set_option maxHeartbeats 1000000 in
theorem of_textlong (s : ByteArray) (h : 200 < s.size) (w : World) (hs : s.size ≤ 9223372036854775807) :
    Calls Tryd.prog 36 #[.agg #[.int .i64 2, .int .i64 0, .string s]] w fun e w' => e = .returned (.tuple #[.agg #[vCell (ofRaw 2 0 s).1], .int .i64 (ofRaw 2 0 s).2]) ∧ Below w.heap.size w w' := by
  have HF : Hid (ofRaw 2 0 s = (none, 1)) := by
    show _ = _
    unfold ofRaw; rw [if_neg (by omega), if_neg (by omega), if_neg (by omega)]
  have h' : (200 : Int) < (s.size : Int) := by omega
  go_enter Tryd.func36, Tryd.ntmps36
  go_wp2
  refine bodyPost_ret (v := .tuple #[.agg #[.nilIface], .int .i64 1]) (by simp [results, Tryd.results36, go_sem]) rfl ⟨?_, ?_⟩
  · rw [HF.out]
    rfl
  · exact ((Below.refl _ _).alloc (Nat.le_refl _) _).alloc (by simp) _

set_option maxRecDepth 100000 in
set_option maxHeartbeats 1000000 in
theorem of_textbad (s : ByteArray) (h : s.size ≤ 200) (hv : Lib.validD s.data.toList = false) (w : World) (hs : s.size ≤ 9223372036854775807) (hT : Tabs w) :
    Calls Tryd.prog 36 #[.agg #[.int .i64 2, .int .i64 0, .string s]] w fun e w' => e = .returned (.tuple #[.agg #[vCell (ofRaw 2 0 s).1], .int .i64 (ofRaw 2 0 s).2]) ∧ Below w.heap.size w w' := by
  have HF : Hid (ofRaw 2 0 s = (none, 1)) := by
    show _ = _
    unfold ofRaw; rw [if_neg (by omega), if_neg (by omega), if_neg (by rw [hv]; simp)]
  have h' : (s.size : Int) ≤ 200 := by omega
  go_enter Tryd.func36, Tryd.ntmps36
  go_wp2_with fail
  refine (runes_Valid _ _ hs (hT.keep (((Below.refl _ _).alloc (Nat.le_refl _) _).alloc (by simp) _))).mono ?_
  rintro e w1 ⟨rfl, hb⟩
  rw [hv]
  clear hv
  have hz := hb.size
  have h1 : w1.cell? ⟨w.heap.size, 0, none⟩ = some (.int .i64 2) := by rw [hb.cell (p := ⟨w.heap.size, 0, none⟩) (by simp; omega)]; simp [go_sem]
  have h2 : w1.cell? ⟨w.heap.size, 2, none⟩ = some (.string s) := by rw [hb.cell (p := ⟨w.heap.size, 2, none⟩) (by simp; omega)]; simp [go_sem]
  have h3 : w1.cell? ⟨w.heap.size + 1, 0, none⟩ = some .nilIface := by rw [hb.cell (p := ⟨w.heap.size + 1, 0, none⟩) (by simp)]; simp [go_sem]
  have h4 : w1.frozen? ⟨w.heap.size + 1, 0, none⟩ = false := by rw [hb.frozen (p := ⟨w.heap.size + 1, 0, none⟩) (by simp)]; simp [go_sem]
  have h6 : ∀ u, (w1.setCell ⟨w.heap.size + 1, 0, none⟩ u).cell? ⟨w.heap.size + 1, 0, none⟩ = some u := fun u => World.cell?_setCell_same _ _ _ h3
  have h5 : w.heap.size + 1 < w1.heap.size := by simp at hz; omega
  go_wp2
  refine bodyPost_ret (v := .tuple #[.agg #[.nilIface], .int .i64 1]) (by simp [results, Tryd.results36, go_sem, h6]) rfl ⟨?_, ?_⟩
  · rw [HF.out]
    rfl
  · exact ((((Below.refl w.heap.size w).alloc (Nat.le_refl _) _).alloc (by simp) _).trans (hb.mono (by simp; omega))).setCell (by simp) _

set_option maxRecDepth 100000 in
set_option maxHeartbeats 1000000 in
theorem of_text (s : ByteArray) (h : s.size ≤ 200) (hv : Lib.validD s.data.toList = true) (w : World) (hs : s.size ≤ 9223372036854775807) (hT : Tabs w) :
    Calls Tryd.prog 36 #[.agg #[.int .i64 2, .int .i64 0, .string s]] w fun e w' => e = .returned (.tuple #[.agg #[vCell (ofRaw 2 0 s).1], .int .i64 (ofRaw 2 0 s).2]) ∧ Below w.heap.size w w' := by
  have HF : Hid (ofRaw 2 0 s = (some (.inr s), 0)) := by
    show _ = _
    unfold ofRaw; rw [if_neg (by omega), if_neg (by omega), if_pos ⟨rfl, rfl, h, hv⟩]
  have h' : (s.size : Int) ≤ 200 := by omega
  go_enter Tryd.func36, Tryd.ntmps36
  go_wp2_with fail
  refine (runes_Valid _ _ hs (hT.keep (((Below.refl _ _).alloc (Nat.le_refl _) _).alloc (by simp) _))).mono ?_
  rintro e w1 ⟨rfl, hb⟩
  rw [hv]
  clear hv
  have hz := hb.size
  have h1 : w1.cell? ⟨w.heap.size, 0, none⟩ = some (.int .i64 2) := by rw [hb.cell (p := ⟨w.heap.size, 0, none⟩) (by simp; omega)]; simp [go_sem]
  have h2 : w1.cell? ⟨w.heap.size, 2, none⟩ = some (.string s) := by rw [hb.cell (p := ⟨w.heap.size, 2, none⟩) (by simp; omega)]; simp [go_sem]
  have h3 : w1.cell? ⟨w.heap.size + 1, 0, none⟩ = some .nilIface := by rw [hb.cell (p := ⟨w.heap.size + 1, 0, none⟩) (by simp)]; simp [go_sem]
  have h4 : w1.frozen? ⟨w.heap.size + 1, 0, none⟩ = false := by rw [hb.frozen (p := ⟨w.heap.size + 1, 0, none⟩) (by simp)]; simp [go_sem]
  have h6 : ∀ u, (w1.setCell ⟨w.heap.size + 1, 0, none⟩ u).cell? ⟨w.heap.size + 1, 0, none⟩ = some u := fun u => World.cell?_setCell_same _ _ _ h3
  have h5 : w.heap.size + 1 < w1.heap.size := by simp at hz; omega
  go_wp2
  refine bodyPost_ret (v := .tuple #[.agg #[.iface 82 (.string s)], .int .i64 0]) (by simp [results, Tryd.results36, go_sem, h6]) rfl ⟨?_, ?_⟩
  · rw [HF.out]
    rfl
  · exact ((((Below.refl w.heap.size w).alloc (Nat.le_refl _) _).alloc (by simp) _).trans (hb.mono (by simp; omega))).setCell (by simp) _

set_option maxRecDepth 100000 in
set_option maxHeartbeats 1000000 in
theorem of_other (k n : Int) (s : ByteArray) (h0 : k ≠ 0) (h1 : k ≠ 1) (h2 : k ≠ 2) (w : World) (hs : s.size ≤ 9223372036854775807) :
    Calls Tryd.prog 36 #[.agg #[.int .i64 k, .int .i64 n, .string s]] w fun e w' => e = .returned (.tuple #[.agg #[vCell (ofRaw k n s).1], .int .i64 (ofRaw k n s).2]) ∧ Below w.heap.size w w' := by
  have HF : Hid (ofRaw k n s = (none, 1)) := by
    show _ = _
    unfold ofRaw; rw [if_neg (by omega), if_neg (by omega), if_neg (by omega)]
  have h0' : (k == 0) = false := by simpa using h0
  have h1' : (k == 1) = false := by simpa using h1
  have h2' : (k == 2) = false := by simpa using h2
  clear h0 h1 h2
  go_enter Tryd.func36, Tryd.ntmps36
  go_wp2
  refine bodyPost_ret (v := .tuple #[.agg #[.nilIface], .int .i64 1]) (by simp [results, Tryd.results36, go_sem]) rfl ⟨?_, ?_⟩
  · rw [HF.out]
    rfl
  · exact ((Below.refl _ _).alloc (Nat.le_refl _) _).alloc (by simp) _

/-- OF, at any data. -/
theorem value_Of (k n : Int) (s : ByteArray) (w : World) (hs : s.size ≤ 9223372036854775807) (hT : Tabs w) :
    Calls Tryd.prog 36 #[.agg #[.int .i64 k, .int .i64 n, .string s]] w fun e w' => e = .returned (.tuple #[.agg #[vCell (ofRaw k n s).1], .int .i64 (ofRaw k n s).2]) ∧ Below w.heap.size w w' := by
  by_cases k0 : k = 0
  · subst k0
    by_cases n0 : n = 0
    · subst n0
      by_cases s0 : 0 < s.size
      · exact of_notext s s0 w hs
      · exact of_none s s0 w hs
    · exact of_nonum n s n0 w hs
  by_cases k1 : k = 1
  · subst k1
    by_cases s0 : 0 < s.size
    · exact of_intno n s s0 w hs
    · exact of_int n s s0 w hs
  by_cases k2 : k = 2
  · subst k2
    by_cases n0 : n = 0
    · subst n0
      by_cases sl : s.size ≤ 200
      · cases hv : Lib.validD s.data.toList
        · exact of_textbad s sl hv w hs hT
        · exact of_text s sl hv w hs hT
      · exact of_textlong s (by omega) w hs
    · exact of_textnum n s n0 w hs
  exact of_other k n s k0 k1 k2 w hs

end Go.Proofs.YtfnmfofipcnojaaDoor
