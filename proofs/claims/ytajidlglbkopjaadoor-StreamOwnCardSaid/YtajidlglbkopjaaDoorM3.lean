/-
  Texts of the proof, one behind the other (part 3).
-/
import Derived.Test.YtajidlglbkopjaaDoorM2
import Derived.WalkKit
import Derived.WalkLawsBesides
import Derived.Laws.IdiomStrings
import Derived.Lib.UnsafeStr
import Derived.Lib.RuneBytes
import Derived.Deep.AppendLies
import Derived.Deep.Draws
/-
  A slice of bytes among the arguments: opened into what the walks read.
-/
set_option linter.unusedVariables false
set_option maxRecDepth 10000
namespace Go.Proofs.YtajidlglbkopjaaDoor
open Go.ChangeShapes Go.WideShapes Go.ChangeAt Go.RowKit Go.Lib Go.Sx Go.Proofs

theorem open_bytes {H : Type} {enc : TypeId × Value → H} {P : Program} {W : World} {spare : Nat → Bool} {t e : TypeId} {ad : Option Addr} {len cap : Nat} {d : DataW H} {p : List MemPlace}
    (ht : P.underlying t = some (.slice e)) (he : P.underlying e = some (.int .u8)) (hc : P.cellsOf e = 1) (h : DataW.Trod enc P W 0 spare true t (.slice ad len cap) d p) :
    ∃ l : List UInt8, RdB W (.slice ad len cap) l := by
  obtain ⟨fuel, hf⟩ := h
  have hlt := DataW.trod_lt _ _ _ _ hf
  rcases open_ints ht he hc hf with ⟨hcs, -⟩ | ⟨a, len', cap', zs, hcs, -, hl, hm, hz, hx, hcell, hwz⟩
  · simp [Value.cells] at hcs
    obtain ⟨rfl, rfl, rfl⟩ := hcs
    exact ⟨[], Rd.nil W 1 0 (by omega)⟩
  · simp [Value.cells] at hcs
    obtain ⟨rfl, rfl, rfl⟩ := hcs
    have hlz : len ≤ zs.length := by rw [hz]; split <;> omega
    have hlen : (zs.take len).length = len := by rw [List.length_take]; omega
    have hm' : cap ≤ 9223372036854775807 := by have : (maxLen : Nat) ≤ 9223372036854775807 := by decide
                                               omega
    refine ⟨(zs.take len).map fun z => UInt8.ofNat z.toNat, ?_⟩
    have hL : ((zs.take len).map fun z => UInt8.ofNat z.toNat).length = len := by rw [List.length_map, hlen]
    unfold RdB
    refine ⟨by simp, some a, cap, by rw [hL], by omega, hm', ?_⟩
    rw [hL]
    rcases Nat.eq_zero_or_pos len with h0 | h0
    · exact .inl h0
    · right
      obtain ⟨b, off, spot⟩ := a
      have hspot : spot = none := by simpa [Addr.add] using World.cell?_spot (hcell 0 (by omega))
      subst hspot
      refine ⟨b, off, rfl, ?_, fun j x hj => ?_⟩
      · have hx2 := congrArg Prod.snd hx
        simp only at hx2
        subst hx2
        have := hlt (.cell b off) (MemPlace.mem_row.2 ⟨0, by omega, rfl⟩)
        exact this
      · simp only [bys, List.map_map] at hj
        obtain ⟨z, hz1, rfl⟩ := List.getElem?_map .. |>.symm.trans hj |> Option.map_eq_some_iff.1
        obtain ⟨hj1, hj2⟩ := List.getElem?_eq_some_iff.1 hz1
        have hjl : j < len := by omega
        have e1 : zs[j]? = some z := by rw [List.getElem?_take, if_pos hjl] at hz1; exact hz1
        have hb := bounds_u8 (hwz z (List.mem_of_getElem? e1))
        rw [← add_plain, hcell j (by omega)]
        simp only [List.getD, e1, Option.getD_some, Function.comp]
        congr 2
        simp
        omega
end Go.Proofs.YtajidlglbkopjaaDoor

/-
  What the walks of all statements share: worlds joined; a text that is cut.
-/
set_option linter.unusedVariables false
namespace Go.Proofs.YtajidlglbkopjaaDoor
open Go.RowKit

theorem bjoin {w w1 w2 : World} (h : Below w.heap.size w w1) (k : Below w1.heap.size w1 w2) : Below w.heap.size w w2 := h.trans (k.mono h.size)

/-- A text that is not too long. -/
def cutS (s : ByteArray) (n : Nat) : ByteArray := if n < s.size then s.extract 0 n else s
theorem cutS_size (s : ByteArray) (n : Nat) : (cutS s n).size ≤ n := by
  unfold cutS; split
  · simp; omega
  · omega

theorem law1_Cut (s : ByteArray) (n : Int) (w : World) (hs : s.size ≤ 9223372036854775807) (h0 : 0 ≤ n) :
    Calls Tryd.prog 36 #[.string s, .int .i64 n] w fun e w' => e = .returned (.string (cutS s n.toNat)) ∧ w = w' := by
  obtain ⟨m, rfl⟩ := Int.eq_ofNat_of_zero_le h0
  by_cases h : m < s.size
  · have HC : Hid (cutS s m = s.extract 0 m) := by unfold Hid cutS; rw [if_pos h]
    have h' : (m : Int) < (s.size : Int) := by omega
    go_enter Tryd.func36, Tryd.ntmps36
    go_wp2
    go_ret
    exact ⟨ret_str (by rw [Int.toNat_natCast, HC.out]), rfl⟩
  · have HC : Hid (cutS s m = s) := by unfold Hid cutS; rw [if_neg h]
    have h' : (s.size : Int) ≤ (m : Int) := by omega
    go_enter Tryd.func36, Tryd.ntmps36
    go_wp2
    go_ret
    exact ⟨ret_str (by rw [Int.toNat_natCast, HC.out]), rfl⟩

end Go.Proofs.YtajidlglbkopjaaDoor

/-
  The walks of package value: Of, Kind, Raw, AsInt, MustInt, Eq; and of the reference's Eq, May.
-/
set_option linter.unusedVariables false
namespace Go.Proofs.YtajidlglbkopjaaDoor
open Go.RowKit

/-- A value: none, a number, a text; as the program holds it. -/
def vCell : Option (Int ⊕ ByteArray) → Value
  | none => .nilIface
  | some (.inl n) => .iface 134 (.int .i64 n)
  | some (.inr s) => .iface 135 (.string s)
/-- What Of makes of data. -/
def ofRaw (k n : Int) (s : ByteArray) : Option (Int ⊕ ByteArray) × Int :=
  if k = 0 ∧ n = 0 ∧ s.size = 0 then (none, 0)
  else if k = 1 ∧ s.size = 0 then (some (.inl n), 0)
  else if k = 2 ∧ n = 0 ∧ s.size ≤ 200 ∧ Lib.validD s.data.toList = true then (some (.inr s), 0)
  else (none, 1)

set_option maxRecDepth 100000 in
set_option maxHeartbeats 1000000 in
theorem of_none (s : ByteArray) (h : ¬ 0 < s.size) (w : World) (hs : s.size ≤ 9223372036854775807) :
    Calls Tryd.prog 66 #[.agg #[.int .i64 0, .int .i64 0, .string s]] w fun e w' => e = .returned (.tuple #[.agg #[vCell (ofRaw 0 0 s).1], .int .i64 (ofRaw 0 0 s).2]) ∧ Below w.heap.size w w' := by
  have HF : Hid (ofRaw 0 0 s = (none, 0)) := by
    show _ = _
    unfold ofRaw; rw [if_pos ⟨rfl, rfl, by omega⟩]
  have ex := Ph.empty_yes h
  go_enter Tryd.func66, Tryd.ntmps66
  go_wp2
  refine bodyPost_ret (v := .tuple #[.agg #[.nilIface], .int .i64 0]) (by simp [results, Tryd.results66, go_sem]) rfl ⟨?_, ?_⟩
  · rw [HF.out]
    rfl
  · exact ((Below.refl _ _).alloc (Nat.le_refl _) _).alloc (by simp) _

set_option maxRecDepth 100000 in
set_option maxHeartbeats 1000000 in
theorem of_int (n : Int) (s : ByteArray) (h : ¬ 0 < s.size) (w : World) (hs : s.size ≤ 9223372036854775807) :
    Calls Tryd.prog 66 #[.agg #[.int .i64 1, .int .i64 n, .string s]] w fun e w' => e = .returned (.tuple #[.agg #[vCell (ofRaw 1 n s).1], .int .i64 (ofRaw 1 n s).2]) ∧ Below w.heap.size w w' := by
  have HF : Hid (ofRaw 1 n s = (some (.inl n), 0)) := by
    show _ = _
    unfold ofRaw; rw [if_neg (by omega), if_pos ⟨rfl, by omega⟩]
  have ex := Ph.empty_yes h
  go_enter Tryd.func66, Tryd.ntmps66
  go_wp2
  refine bodyPost_ret (v := .tuple #[.agg #[.iface 134 (.int .i64 n)], .int .i64 0]) (by simp [results, Tryd.results66, go_sem]) rfl ⟨?_, ?_⟩
  · rw [HF.out]
    rfl
  · exact ((Below.refl _ _).alloc (Nat.le_refl _) _).alloc (by simp) _

set_option maxRecDepth 100000 in
set_option maxHeartbeats 1000000 in
theorem of_nonum (n : Int) (s : ByteArray) (h : n ≠ 0) (w : World) (hs : s.size ≤ 9223372036854775807) :
    Calls Tryd.prog 66 #[.agg #[.int .i64 0, .int .i64 n, .string s]] w fun e w' => e = .returned (.tuple #[.agg #[vCell (ofRaw 0 n s).1], .int .i64 (ofRaw 0 n s).2]) ∧ Below w.heap.size w w' := by
  have HF : Hid (ofRaw 0 n s = (none, 1)) := by
    show _ = _
    unfold ofRaw; rw [if_neg (by omega), if_neg (by omega), if_neg (by omega)]
  have h' : (n == 0) = false := by simpa using h
  clear h
  go_enter Tryd.func66, Tryd.ntmps66
  go_wp2
  refine bodyPost_ret (v := .tuple #[.agg #[.nilIface], .int .i64 1]) (by simp [results, Tryd.results66, go_sem]) rfl ⟨?_, ?_⟩
  · rw [HF.out]
    rfl
  · exact ((Below.refl _ _).alloc (Nat.le_refl _) _).alloc (by simp) _

set_option maxRecDepth 100000 in
set_option maxHeartbeats 1000000 in
theorem of_notext (s : ByteArray) (h : 0 < s.size) (w : World) (hs : s.size ≤ 9223372036854775807) :
    Calls Tryd.prog 66 #[.agg #[.int .i64 0, .int .i64 0, .string s]] w fun e w' => e = .returned (.tuple #[.agg #[vCell (ofRaw 0 0 s).1], .int .i64 (ofRaw 0 0 s).2]) ∧ Below w.heap.size w w' := by
  have HF : Hid (ofRaw 0 0 s = (none, 1)) := by
    show _ = _
    unfold ofRaw; rw [if_neg (by omega), if_neg (by omega), if_neg (by omega)]
  have ex := Ph.empty_no h
  go_enter Tryd.func66, Tryd.ntmps66
  go_wp2
  refine bodyPost_ret (v := .tuple #[.agg #[.nilIface], .int .i64 1]) (by simp [results, Tryd.results66, go_sem]) rfl ⟨?_, ?_⟩
  · rw [HF.out]
    rfl
  · exact ((Below.refl _ _).alloc (Nat.le_refl _) _).alloc (by simp) _

set_option maxRecDepth 100000 in
set_option maxHeartbeats 1000000 in
theorem of_intno (n : Int) (s : ByteArray) (h : 0 < s.size) (w : World) (hs : s.size ≤ 9223372036854775807) :
    Calls Tryd.prog 66 #[.agg #[.int .i64 1, .int .i64 n, .string s]] w fun e w' => e = .returned (.tuple #[.agg #[vCell (ofRaw 1 n s).1], .int .i64 (ofRaw 1 n s).2]) ∧ Below w.heap.size w w' := by
  have HF : Hid (ofRaw 1 n s = (none, 1)) := by
    show _ = _
    unfold ofRaw; rw [if_neg (by omega), if_neg (by omega), if_neg (by omega)]
  have ex := Ph.empty_no h
  go_enter Tryd.func66, Tryd.ntmps66
  go_wp2
  refine bodyPost_ret (v := .tuple #[.agg #[.nilIface], .int .i64 1]) (by simp [results, Tryd.results66, go_sem]) rfl ⟨?_, ?_⟩
  · rw [HF.out]
    rfl
  · exact ((Below.refl _ _).alloc (Nat.le_refl _) _).alloc (by simp) _

set_option maxRecDepth 100000 in
set_option maxHeartbeats 1000000 in
theorem of_textnum (n : Int) (s : ByteArray) (h : n ≠ 0) (w : World) (hs : s.size ≤ 9223372036854775807) :
    Calls Tryd.prog 66 #[.agg #[.int .i64 2, .int .i64 n, .string s]] w fun e w' => e = .returned (.tuple #[.agg #[vCell (ofRaw 2 n s).1], .int .i64 (ofRaw 2 n s).2]) ∧ Below w.heap.size w w' := by
  have HF : Hid (ofRaw 2 n s = (none, 1)) := by
    show _ = _
    unfold ofRaw; rw [if_neg (by omega), if_neg (by omega), if_neg (by omega)]
  have h' : (n == 0) = false := by simpa using h
  clear h
  go_enter Tryd.func66, Tryd.ntmps66
  go_wp2
  refine bodyPost_ret (v := .tuple #[.agg #[.nilIface], .int .i64 1]) (by simp [results, Tryd.results66, go_sem]) rfl ⟨?_, ?_⟩
  · rw [HF.out]
    rfl
  · exact ((Below.refl _ _).alloc (Nat.le_refl _) _).alloc (by simp) _

set_option maxRecDepth 100000 in
set_option maxHeartbeats 1000000 in
theorem of_textlong (s : ByteArray) (h : 200 < s.size) (w : World) (hs : s.size ≤ 9223372036854775807) :
    Calls Tryd.prog 66 #[.agg #[.int .i64 2, .int .i64 0, .string s]] w fun e w' => e = .returned (.tuple #[.agg #[vCell (ofRaw 2 0 s).1], .int .i64 (ofRaw 2 0 s).2]) ∧ Below w.heap.size w w' := by
  have HF : Hid (ofRaw 2 0 s = (none, 1)) := by
    show _ = _
    unfold ofRaw; rw [if_neg (by omega), if_neg (by omega), if_neg (by omega)]
  have h' : (200 : Int) < (s.size : Int) := by omega
  go_enter Tryd.func66, Tryd.ntmps66
  go_wp2
  refine bodyPost_ret (v := .tuple #[.agg #[.nilIface], .int .i64 1]) (by simp [results, Tryd.results66, go_sem]) rfl ⟨?_, ?_⟩
  · rw [HF.out]
    rfl
  · exact ((Below.refl _ _).alloc (Nat.le_refl _) _).alloc (by simp) _

set_option maxRecDepth 100000 in
set_option maxHeartbeats 1000000 in
theorem of_textbad (s : ByteArray) (h : s.size ≤ 200) (hv : Lib.validD s.data.toList = false) (w : World) (hs : s.size ≤ 9223372036854775807) (hT : Tabs w) :
    Calls Tryd.prog 66 #[.agg #[.int .i64 2, .int .i64 0, .string s]] w fun e w' => e = .returned (.tuple #[.agg #[vCell (ofRaw 2 0 s).1], .int .i64 (ofRaw 2 0 s).2]) ∧ Below w.heap.size w w' := by
  have HF : Hid (ofRaw 2 0 s = (none, 1)) := by
    show _ = _
    unfold ofRaw; rw [if_neg (by omega), if_neg (by omega), if_neg (by rw [hv]; simp)]
  have h' : (s.size : Int) ≤ 200 := by omega
  go_enter Tryd.func66, Tryd.ntmps66
  go_wp2_with fail
  refine (runes_Valid _ _ hs (hT.keep (((Below.refl _ _).alloc (Nat.le_refl _) _).alloc (by simp) _))).mono ?_
  rintro e w1 ⟨rfl, hb⟩
  rw [hv]
  clear hv
  have hz := hb.size
  have h1 : w1.cell? ⟨w.heap.size, 0, none⟩ = some (.int .i64 2) := by rw [hb.cell (p := ⟨w.heap.size, 0, none⟩) (by simp; omega)]; simp [go_sem]
  have h2 : w1.cell? ⟨w.heap.size, 2, none⟩ = some (.string s) := by rw [hb.cell (p := ⟨w.heap.size, 2, none⟩) (by simp; omega)]; simp [go_sem]
  have h3 : w1.cell? ⟨w.heap.size + 1, 0, none⟩ = some .nilIface := by rw [hb.cell (p := ⟨w.heap.size + 1, 0, none⟩) (by simp)]; simp [go_sem]
  have h4 : w1.frozen? ⟨w.heap.size + 1, 0, none⟩ = false := by rw [hb.frozen (p := ⟨w.heap.size + 1, 0, none⟩) (by simp)]; simp [go_sem]
  have h6 : ∀ u, (w1.setCell ⟨w.heap.size + 1, 0, none⟩ u).cell? ⟨w.heap.size + 1, 0, none⟩ = some u := fun u => World.cell?_setCell_same _ _ _ h3
  have h5 : w.heap.size + 1 < w1.heap.size := by simp at hz; omega
  go_wp2
  refine bodyPost_ret (v := .tuple #[.agg #[.nilIface], .int .i64 1]) (by simp [results, Tryd.results66, go_sem, h6]) rfl ⟨?_, ?_⟩
  · rw [HF.out]
    rfl
  · exact ((((Below.refl w.heap.size w).alloc (Nat.le_refl _) _).alloc (by simp) _).trans (hb.mono (by simp; omega))).setCell (by simp) _

set_option maxRecDepth 100000 in
set_option maxHeartbeats 1000000 in
theorem of_text (s : ByteArray) (h : s.size ≤ 200) (hv : Lib.validD s.data.toList = true) (w : World) (hs : s.size ≤ 9223372036854775807) (hT : Tabs w) :
    Calls Tryd.prog 66 #[.agg #[.int .i64 2, .int .i64 0, .string s]] w fun e w' => e = .returned (.tuple #[.agg #[vCell (ofRaw 2 0 s).1], .int .i64 (ofRaw 2 0 s).2]) ∧ Below w.heap.size w w' := by
  have HF : Hid (ofRaw 2 0 s = (some (.inr s), 0)) := by
    show _ = _
    unfold ofRaw; rw [if_neg (by omega), if_neg (by omega), if_pos ⟨rfl, rfl, h, hv⟩]
  have h' : (s.size : Int) ≤ 200 := by omega
  go_enter Tryd.func66, Tryd.ntmps66
  go_wp2_with fail
  refine (runes_Valid _ _ hs (hT.keep (((Below.refl _ _).alloc (Nat.le_refl _) _).alloc (by simp) _))).mono ?_
  rintro e w1 ⟨rfl, hb⟩
  rw [hv]
  clear hv
  have hz := hb.size
  have h1 : w1.cell? ⟨w.heap.size, 0, none⟩ = some (.int .i64 2) := by rw [hb.cell (p := ⟨w.heap.size, 0, none⟩) (by simp; omega)]; simp [go_sem]
  have h2 : w1.cell? ⟨w.heap.size, 2, none⟩ = some (.string s) := by rw [hb.cell (p := ⟨w.heap.size, 2, none⟩) (by simp; omega)]; simp [go_sem]
  have h3 : w1.cell? ⟨w.heap.size + 1, 0, none⟩ = some .nilIface := by rw [hb.cell (p := ⟨w.heap.size + 1, 0, none⟩) (by simp)]; simp [go_sem]
  have h4 : w1.frozen? ⟨w.heap.size + 1, 0, none⟩ = false := by rw [hb.frozen (p := ⟨w.heap.size + 1, 0, none⟩) (by simp)]; simp [go_sem]
  have h6 : ∀ u, (w1.setCell ⟨w.heap.size + 1, 0, none⟩ u).cell? ⟨w.heap.size + 1, 0, none⟩ = some u := fun u => World.cell?_setCell_same _ _ _ h3
  have h5 : w.heap.size + 1 < w1.heap.size := by simp at hz; omega
  go_wp2
  refine bodyPost_ret (v := .tuple #[.agg #[.iface 135 (.string s)], .int .i64 0]) (by simp [results, Tryd.results66, go_sem, h6]) rfl ⟨?_, ?_⟩
  · rw [HF.out]
    rfl
  · exact ((((Below.refl w.heap.size w).alloc (Nat.le_refl _) _).alloc (by simp) _).trans (hb.mono (by simp; omega))).setCell (by simp) _

set_option maxRecDepth 100000 in
set_option maxHeartbeats 1000000 in
theorem of_other (k n : Int) (s : ByteArray) (h0 : k ≠ 0) (h1 : k ≠ 1) (h2 : k ≠ 2) (w : World) (hs : s.size ≤ 9223372036854775807) :
    Calls Tryd.prog 66 #[.agg #[.int .i64 k, .int .i64 n, .string s]] w fun e w' => e = .returned (.tuple #[.agg #[vCell (ofRaw k n s).1], .int .i64 (ofRaw k n s).2]) ∧ Below w.heap.size w w' := by
  have HF : Hid (ofRaw k n s = (none, 1)) := by
    show _ = _
    unfold ofRaw; rw [if_neg (by omega), if_neg (by omega), if_neg (by omega)]
  have h0' : (k == 0) = false := by simpa using h0
  have h1' : (k == 1) = false := by simpa using h1
  have h2' : (k == 2) = false := by simpa using h2
  clear h0 h1 h2
  go_enter Tryd.func66, Tryd.ntmps66
  go_wp2
  refine bodyPost_ret (v := .tuple #[.agg #[.nilIface], .int .i64 1]) (by simp [results, Tryd.results66, go_sem]) rfl ⟨?_, ?_⟩
  · rw [HF.out]
    rfl
  · exact ((Below.refl _ _).alloc (Nat.le_refl _) _).alloc (by simp) _

/-- OF, at any data. -/
theorem value_Of (k n : Int) (s : ByteArray) (w : World) (hs : s.size ≤ 9223372036854775807) (hT : Tabs w) :
    Calls Tryd.prog 66 #[.agg #[.int .i64 k, .int .i64 n, .string s]] w fun e w' => e = .returned (.tuple #[.agg #[vCell (ofRaw k n s).1], .int .i64 (ofRaw k n s).2]) ∧ Below w.heap.size w w' := by
  by_cases k0 : k = 0
  · subst k0
    by_cases n0 : n = 0
    · subst n0
      by_cases s0 : 0 < s.size
      · exact of_notext s s0 w hs
      · exact of_none s s0 w hs
    · exact of_nonum n s n0 w hs
  by_cases k1 : k = 1
  · subst k1
    by_cases s0 : 0 < s.size
    · exact of_intno n s s0 w hs
    · exact of_int n s s0 w hs
  by_cases k2 : k = 2
  · subst k2
    by_cases n0 : n = 0
    · subst n0
      by_cases sl : s.size ≤ 200
      · cases hv : Lib.validD s.data.toList
        · exact of_textbad s sl hv w hs hT
        · exact of_text s sl hv w hs hT
      · exact of_textlong s (by omega) w hs
    · exact of_textnum n s n0 w hs
  exact of_other k n s k0 k1 k2 w hs

end Go.Proofs.YtajidlglbkopjaaDoor

/-
  Plain law: the reference's decoder, lead byte by lead byte, is the model's decoder.
-/
set_option linter.unusedVariables false
namespace Ph
open Go Go.Lib

/-- What the reference has reckoned at byte k. -/
def Rk (r0 : Int) (b : Nat → Nat) : Nat → Int
  | 0 => r0
  | 1 => r0
  | k + 2 => Rk r0 b (k + 1) * 64 + b (k + 1) - 128

/-- The bytes of a text, as numbers. -/
def bt (s : ByteArray) (k : Nat) : Nat := (s.data.toList.getD k 0).toNat
theorem bt_lt (s : ByteArray) (k : Nat) : bt s k < 256 := UInt8.toNat_lt _
theorem bt_at (s : ByteArray) (k : Nat) (h : k < s.size) : bt s k = (s[k]'h).toNat := by
  have hl := len_toList s
  unfold bt
  rw [List.getD_eq_getElem?_getD, List.getElem?_eq_getElem (by omega)]
  simp
  rfl
theorem decZ_bt (s : ByteArray) (h : 0 < s.size) : decZ s.data.toList = decodeN s.size (bt s 0) (bt s 1) (bt s 2) (bt s 3) := by
  rw [(decZ_ne h).1, decodeL_N, len_toList]
  rfl

theorem d1 (n b0 b1 b2 b3 : Nat) (h : b0 < 128) : decodeN n b0 b1 b2 b3 = (b0, 1) := by unfold decodeN; rw [if_pos h]
theorem d0 (n b0 b1 b2 b3 : Nat) (h : 128 ≤ b0 ∧ b0 < 192 ∨ 248 ≤ b0) (h' : b0 < 256) : decodeN n b0 b1 b2 b3 = (65533, 1) := decodeN_bad _ _ _ _ _ (by omega)

theorem d2s (n b0 b1 b2 b3 : Nat) (h : 192 ≤ b0 ∧ b0 < 224) (hn : n < 2) : decodeN n b0 b1 b2 b3 = (65533, 1) := by
  unfold decodeN; rw [if_neg (by omega), if_neg (by omega), if_neg (by omega), if_neg (by omega)]
theorem d2b (n : Nat) (b : Nat → Nat) (hb : ∀ k, b k < 256) (h : 192 ≤ b 0 ∧ b 0 < 224) (k : Nat) (h1 : 1 ≤ k) (h2 : k < 2) (hk : b k < 128 ∨ 191 < b k) : decodeN n (b 0) (b 1) (b 2) (b 3) = (65533, 1) := by
  obtain rfl : k = 1 := by omega
  have := hb 1
  unfold decodeN; rw [if_neg (by omega), if_neg (by omega), if_neg (by omega), if_neg (by omega)]
theorem d2e (n : Nat) (b : Nat → Nat) (h : 192 ≤ b 0 ∧ b 0 < 224) (hn : 2 ≤ n) (h1 : ∀ j, 1 ≤ j → j < 2 → 128 ≤ b j ∧ b j ≤ 191) (hr : Rk (b 0 - 192) b 2 < 128) : decodeN n (b 0) (b 1) (b 2) (b 3) = (65533, 1) := by
  have j1 := h1 1 (by omega) (by omega)
  simp only [Rk, Nat.reduceAdd] at hr
  unfold decodeN; rw [if_neg (by omega), if_pos ⟨by omega, by omega, by omega⟩, if_neg (by omega)]
theorem d2o (n : Nat) (b : Nat → Nat) (h : 192 ≤ b 0 ∧ b 0 < 224) (hn : 2 ≤ n) (h1 : ∀ j, 1 ≤ j → j < 2 → 128 ≤ b j ∧ b j ≤ 191) (hr : ¬ Rk (b 0 - 192) b 2 < 128) :
    ((decodeN n (b 0) (b 1) (b 2) (b 3)).1 : Int) = Rk (b 0 - 192) b 2 ∧ (decodeN n (b 0) (b 1) (b 2) (b 3)).2 = 2 ∧ Rk (b 0 - 192) b 2 < 55296 := by
  have j1 := h1 1 (by omega) (by omega)
  simp only [Rk, Nat.reduceAdd] at hr ⊢
  unfold decodeN; rw [if_neg (by omega), if_pos ⟨by omega, by omega, by omega⟩, if_pos (by omega)]
  exact ⟨by simp only; omega, rfl, by omega⟩

theorem d3s (n b0 b1 b2 b3 : Nat) (h : 224 ≤ b0 ∧ b0 < 240) (hn : n < 3) : decodeN n b0 b1 b2 b3 = (65533, 1) := by
  unfold decodeN; rw [if_neg (by omega), if_neg (by omega), if_neg (by omega), if_neg (by omega)]
theorem d3b (n : Nat) (b : Nat → Nat) (hb : ∀ k, b k < 256) (h : 224 ≤ b 0 ∧ b 0 < 240) (k : Nat) (h1 : 1 ≤ k) (h2 : k < 3) (hk : b k < 128 ∨ 191 < b k) : decodeN n (b 0) (b 1) (b 2) (b 3) = (65533, 1) := by
  have := hb 1
  have := hb 2
  unfold decodeN
  rcases (show k = 1 ∨ k = 2 by omega) with rfl | rfl
  · rw [if_neg (by omega), if_neg (by omega), if_neg (by omega), if_neg (by omega)]
  · rw [if_neg (by omega), if_neg (by omega), if_neg (by omega), if_neg (by omega)]
theorem d3e (n : Nat) (b : Nat → Nat) (h : 224 ≤ b 0 ∧ b 0 < 240) (hn : 3 ≤ n) (h1 : ∀ j, 1 ≤ j → j < 3 → 128 ≤ b j ∧ b j ≤ 191) (hr : Rk (b 0 - 224) b 3 < 2048 ∨ (55296 ≤ Rk (b 0 - 224) b 3 ∧ Rk (b 0 - 224) b 3 < 57344)) : decodeN n (b 0) (b 1) (b 2) (b 3) = (65533, 1) := by
  have j1 := h1 1 (by omega) (by omega)
  have j2 := h1 2 (by omega) (by omega)
  simp only [Rk, Nat.reduceAdd] at hr
  unfold decodeN; rw [if_neg (by omega), if_neg (by omega), if_pos ⟨by omega, ⟨by omega, by omega⟩, by omega, by omega⟩, if_neg (by omega)]
theorem d3o (n : Nat) (b : Nat → Nat) (h : 224 ≤ b 0 ∧ b 0 < 240) (hn : 3 ≤ n) (h1 : ∀ j, 1 ≤ j → j < 3 → 128 ≤ b j ∧ b j ≤ 191) (hr : ¬ (Rk (b 0 - 224) b 3 < 2048 ∨ (55296 ≤ Rk (b 0 - 224) b 3 ∧ Rk (b 0 - 224) b 3 < 57344))) :
    ((decodeN n (b 0) (b 1) (b 2) (b 3)).1 : Int) = Rk (b 0 - 224) b 3 ∧ (decodeN n (b 0) (b 1) (b 2) (b 3)).2 = 3 ∧ Rk (b 0 - 224) b 3 ≤ 1114111 := by
  have j1 := h1 1 (by omega) (by omega)
  have j2 := h1 2 (by omega) (by omega)
  simp only [Rk, Nat.reduceAdd] at hr ⊢
  unfold decodeN; rw [if_neg (by omega), if_neg (by omega), if_pos ⟨by omega, ⟨by omega, by omega⟩, by omega, by omega⟩, if_pos (by omega)]
  exact ⟨by simp only; omega, rfl, by omega⟩

theorem d4s (n b0 b1 b2 b3 : Nat) (h : 240 ≤ b0 ∧ b0 < 248) (hn : n < 4) : decodeN n b0 b1 b2 b3 = (65533, 1) := by
  unfold decodeN; rw [if_neg (by omega), if_neg (by omega), if_neg (by omega), if_neg (by omega)]
theorem d4b (n : Nat) (b : Nat → Nat) (hb : ∀ k, b k < 256) (h : 240 ≤ b 0 ∧ b 0 < 248) (k : Nat) (h1 : 1 ≤ k) (h2 : k < 4) (hk : b k < 128 ∨ 191 < b k) : decodeN n (b 0) (b 1) (b 2) (b 3) = (65533, 1) := by
  have := hb 1
  have := hb 2
  have := hb 3
  unfold decodeN
  rcases (show k = 1 ∨ k = 2 ∨ k = 3 by omega) with rfl | rfl | rfl
  · rw [if_neg (by omega), if_neg (by omega), if_neg (by omega), if_neg (by omega)]
  · rw [if_neg (by omega), if_neg (by omega), if_neg (by omega), if_neg (by omega)]
  · rw [if_neg (by omega), if_neg (by omega), if_neg (by omega), if_neg (by omega)]
theorem d4e (n : Nat) (b : Nat → Nat) (h : 240 ≤ b 0 ∧ b 0 < 248) (hn : 4 ≤ n) (h1 : ∀ j, 1 ≤ j → j < 4 → 128 ≤ b j ∧ b j ≤ 191) (hr : Rk (b 0 - 240) b 4 < 65536 ∨ 1114111 < Rk (b 0 - 240) b 4 ∨ (55296 ≤ Rk (b 0 - 240) b 4 ∧ Rk (b 0 - 240) b 4 < 57344)) : decodeN n (b 0) (b 1) (b 2) (b 3) = (65533, 1) := by
  have j1 := h1 1 (by omega) (by omega)
  have j2 := h1 2 (by omega) (by omega)
  have j3 := h1 3 (by omega) (by omega)
  simp only [Rk, Nat.reduceAdd] at hr
  unfold decodeN; rw [if_neg (by omega), if_neg (by omega), if_neg (by omega), if_pos ⟨by omega, ⟨by omega, by omega⟩, ⟨by omega, by omega⟩, by omega, by omega⟩, if_neg (by omega)]
theorem d4o (n : Nat) (b : Nat → Nat) (h : 240 ≤ b 0 ∧ b 0 < 248) (hn : 4 ≤ n) (h1 : ∀ j, 1 ≤ j → j < 4 → 128 ≤ b j ∧ b j ≤ 191) (hr : ¬ (Rk (b 0 - 240) b 4 < 65536 ∨ 1114111 < Rk (b 0 - 240) b 4 ∨ (55296 ≤ Rk (b 0 - 240) b 4 ∧ Rk (b 0 - 240) b 4 < 57344))) :
    ((decodeN n (b 0) (b 1) (b 2) (b 3)).1 : Int) = Rk (b 0 - 240) b 4 ∧ (decodeN n (b 0) (b 1) (b 2) (b 3)).2 = 4 := by
  have j1 := h1 1 (by omega) (by omega)
  have j2 := h1 2 (by omega) (by omega)
  have j3 := h1 3 (by omega) (by omega)
  simp only [Rk, Nat.reduceAdd] at hr ⊢
  unfold decodeN; rw [if_neg (by omega), if_neg (by omega), if_neg (by omega), if_pos ⟨by omega, ⟨by omega, by omega⟩, ⟨by omega, by omega⟩, by omega, by omega⟩, if_pos (by omega)]
  exact ⟨by simp only; omega, rfl⟩

/-- What has been reckoned stays small. -/
theorem Rk_bd (r0 : Int) (b : Nat → Nat) (h0 : 0 ≤ r0) (h1 : r0 < 32) : ∀ k, k ≤ 4 → (∀ j, 1 ≤ j → j < k → 128 ≤ b j ∧ b j ≤ 191) → 0 ≤ Rk r0 b k ∧ Rk r0 b k < 8388608
  | 0, _, _ => by simp only [Rk]; omega
  | 1, _, _ => by simp only [Rk]; omega
  | 2, _, h => by have := h 1 (by omega) (by omega); simp only [Rk, Nat.reduceAdd]; omega
  | 3, _, h => by have := h 1 (by omega) (by omega); have := h 2 (by omega) (by omega); simp only [Rk, Nat.reduceAdd]; omega
  | 4, _, h => by have := h 1 (by omega) (by omega); have := h 2 (by omega) (by omega); have := h 3 (by omega) (by omega); simp only [Rk, Nat.reduceAdd]; omega
theorem Rk_succ (r0 : Int) (b : Nat → Nat) (k : Nat) (h : 1 ≤ k) : Rk r0 b (k + 1) = Rk r0 b k * 64 + b k - 128 := by
  obtain ⟨j, rfl⟩ : ∃ j, k = j + 1 := ⟨k - 1, by omega⟩
  rfl
end Ph

/-
  The walk of the reference's decoder: it is the model's.
-/
set_option linter.unusedVariables false
namespace Go.Proofs.YtajidlglbkopjaaDoor
open Go.RowKit

theorem ret_dec {s : ByteArray} {a b : Int} (h1 : a = (Ph.decZ s.data.toList).1) (h2 : b = (Ph.decZ s.data.toList).2) : Ending.returned (.tuple #[.int .i32 a, .int .i64 b]) = .returned (.tuple #[.int .i32 (Ph.decZ s.data.toList).1, .int .i64 (Ph.decZ s.data.toList).2]) := by rw [h1, h2]
theorem ret_dec_err {s : ByteArray} (h : Ph.decZ s.data.toList = (65533, 1)) : Ending.returned (.tuple #[.int .i32 65533, .int .i64 1]) = .returned (.tuple #[.int .i32 (Ph.decZ s.data.toList).1, .int .i64 (Ph.decZ s.data.toList).2]) := by rw [h]; rfl

set_option maxRecDepth 100000 in
set_option maxHeartbeats 400000 in
theorem dec_short (s : ByteArray) (w : World) (hp : ¬ 0 < s.size) :
    Calls Tryd.prog 76 #[.string s] w fun e w' => e = .returned (.tuple #[.int .i32 (Ph.decZ s.data.toList).1, .int .i64 (Ph.decZ s.data.toList).2]) ∧ w = w' := by
  have ex := Ph.empty_yes hp
  have HD := Lib.hid (Ph.decZ_empty s hp)
  go_enter Tryd.func76, Tryd.ntmps76
  go_wp2
  go_ret2
  exact ⟨by rw [HD.out]; rfl, rfl⟩

set_option maxRecDepth 100000 in
set_option maxHeartbeats 400000 in
theorem dec_ascii (s : ByteArray) (w : World) (hp : 0 < s.size) (h0 : (s[0]'hp).toNat < 128) :
    Calls Tryd.prog 76 #[.string s] w fun e w' => e = .returned (.tuple #[.int .i32 (Ph.decZ s.data.toList).1, .int .i64 (Ph.decZ s.data.toList).2]) ∧ w = w' := by
  have ex := Ph.empty_no hp
  have HD : Hid (Ph.decZ s.data.toList = ((s[0]'hp).toNat, 1)) := by
    show _ = _
    rw [Ph.decZ_bt s hp, Ph.bt_at s 0 hp, Ph.d1 _ _ _ _ _ h0]
  have h0' : ((s[0]'hp).toNat : Int) < 128 := by omega
  have h0'' := (s[0]'hp).toNat_lt
  go_enter Tryd.func76, Tryd.ntmps76
  go_wp2
  go_ret2
  exact ⟨by rw [HD.out]; rfl, rfl⟩

set_option maxRecDepth 100000 in
set_option maxHeartbeats 400000 in
theorem dec_none (s : ByteArray) (w : World) (hp : 0 < s.size) (h0 : 128 ≤ (s[0]'hp).toNat ∧ (s[0]'hp).toNat < 192 ∨ 248 ≤ (s[0]'hp).toNat) :
    Calls Tryd.prog 76 #[.string s] w fun e w' => e = .returned (.tuple #[.int .i32 (Ph.decZ s.data.toList).1, .int .i64 (Ph.decZ s.data.toList).2]) ∧ w = w' := by
  have ex := Ph.empty_no hp
  have h0'' := (s[0]'hp).toNat_lt
  have HD : Hid (Ph.decZ s.data.toList = (65533, 1)) := by
    show _ = _
    rw [Ph.decZ_bt s hp, Ph.bt_at s 0 hp, Ph.d0 _ _ _ _ _ h0 (by omega)]
  rcases h0 with ⟨h1, h2⟩ | h1
  · have h1' : (128 : Int) ≤ ((s[0]'hp).toNat : Int) := by omega
    have h2' : ((s[0]'hp).toNat : Int) < 192 := by omega
    go_enter Tryd.func76, Tryd.ntmps76
    go_wp2
    go_ret2
    exact ⟨ret_dec_err HD.out, rfl⟩
  · have h1' : (248 : Int) ≤ ((s[0]'hp).toNat : Int) := by omega
    go_enter Tryd.func76, Tryd.ntmps76
    go_wp2
    go_ret2
    exact ⟨ret_dec_err HD.out, rfl⟩

set_option maxRecDepth 100000 in
set_option maxHeartbeats 800000 in
theorem dec_2 (s : ByteArray) (w : World) (hs : s.size ≤ 9223372036854775807) (hp : 0 < s.size) (h0 : 192 ≤ (s[0]'hp).toNat) (h1 : (s[0]'hp).toNat < 224) :
    Calls Tryd.prog 76 #[.string s] w fun e w' => e = .returned (.tuple #[.int .i32 (Ph.decZ s.data.toList).1, .int .i64 (Ph.decZ s.data.toList).2]) ∧ w = w' := by
  have ex := Ph.empty_no hp
  have hd := Ph.decZ_bt s hp
  have h0' : (192 : Int) ≤ ((s[0]'hp).toNat : Int) := by omega
  have h1' : ((s[0]'hp).toNat : Int) < 224 := by omega
  have HB : Hid (192 ≤ Ph.bt s 0 ∧ Ph.bt s 0 < 224) := by rw [Ph.bt_at s 0 hp]; exact ⟨h0, h1⟩
  have HZ : Hid (((s[0]'hp).toNat : Int) = Ph.bt s 0) := by show _ = _; rw [Ph.bt_at s 0 hp]
  by_cases hn : s.size < 2
  · have HD : Hid (Ph.decZ s.data.toList = (65533, 1)) := by
      show _ = _
      rw [hd, Ph.d2s _ _ _ _ _ HB.out hn]
    have hn' : (s.size : Int) < 2 := by omega
    clear hd
    go_enter Tryd.func76, Tryd.ntmps76
    go_wp2
    go_ret2
    exact ⟨ret_dec_err HD.out, rfl⟩
  · have hn' : (2 : Int) ≤ (s.size : Int) := by omega
    have HD := Lib.hid hd
    clear hd
    go_enter Tryd.func76, Tryd.ntmps76
    go_wp2
    go_loop [7, 8] (fun r i => ∃ k : Nat, 1 ≤ k ∧ k ≤ 2 ∧ i = .int .i64 k ∧ r = .int .i32 (Ph.Rk ((Ph.bt s 0 : Int) - 192) (Ph.bt s) k) ∧ Hid (∀ j, 1 ≤ j → j < k → 128 ≤ Ph.bt s j ∧ Ph.bt s j ≤ 191)) (fun _ i => 2 - (intOf i).toNat)
    case atStart => exact ⟨1, by omega, by omega, rfl, by rw [HZ.out]; rfl, fun j h1 h2 => by omega⟩
    case round =>
      obtain ⟨k, hk1, hk2, rfl, rfl, HJ⟩ := hrel
      have hR := Ph.Rk_bd ((Ph.bt s 0 : Int) - 192) (Ph.bt s) (by have := HB.out; omega) (by have := HB.out; omega) k (by omega) HJ.out
      obtain ⟨hR0, hR1⟩ := hR
      by_cases hk : k < 2
      · have hks : k < s.size := by omega
        have hbk := Ph.bt_at s k hks
        have hk' : (k : Int) < 2 := by omega
        have hbl := (s[k]'hks).toNat_lt
        have HK : Hid (Ph.bt s k = (s[k]'hks).toNat) := hbk
        clear hbk
        have bad : Ph.bt s k < 128 ∨ 191 < Ph.bt s k → Ph.decZ s.data.toList = (65533, 1) := fun h => by rw [HD.out, Ph.d2b _ _ (Ph.bt_lt s) HB.out k hk1 hk h]
        have BAD := Lib.hid bad
        clear bad
        by_cases hc1 : (s[k]'hks).toNat < 128
        · have hc1' : ((s[k]'hks).toNat : Int) < 128 := by omega
          go_wp2
          go_ret2
          exact ⟨ret_dec_err (BAD.out (.inl (by rw [HK.out]; exact hc1))), rfl⟩
        · have hc1' : (128 : Int) ≤ ((s[k]'hks).toNat : Int) := by omega
          by_cases hc2 : 191 < (s[k]'hks).toNat
          · have hc2' : (191 : Int) < ((s[k]'hks).toNat : Int) := by omega
            go_wp2
            go_ret2
            exact ⟨ret_dec_err (BAD.out (.inr (by rw [HK.out]; exact hc2))), rfl⟩
          · have hc2' : ((s[k]'hks).toNat : Int) ≤ 191 := by omega
            have HS : Hid (Ph.Rk ((Ph.bt s 0 : Int) - 192) (Ph.bt s) (k + 1) = Ph.Rk ((Ph.bt s 0 : Int) - 192) (Ph.bt s) k * 64 + ((s[k]'hks).toNat : Int) - 128) := by
              show _ = _
              rw [Ph.Rk_succ _ _ _ hk1, HK.out]
            go_wp2
            go_round
            case rel =>
              refine ⟨k + 1, by omega, by omega, by go_num, by rw [HS.out], fun j h1 h2 => ?_⟩
              by_cases hj : j < k
              · exact HJ.out j h1 hj
              · obtain rfl : j = k := by omega
                rw [HK.out]; omega
            case measure => simp [intOf]; omega
      · obtain rfl : k = 2 := by omega
        have hk' : ¬ ((2 : Nat) : Int) < 2 := by omega
        have bad := fun h => Ph.d2e s.size (Ph.bt s) HB.out (by omega) HJ.out h
        have good := fun h => Ph.d2o s.size (Ph.bt s) HB.out (by omega) HJ.out h
        rw [← HD.out] at bad good
        have BAD := Lib.hid bad
        have GOOD := Lib.hid good
        clear bad good
        generalize Ph.Rk ((Ph.bt s 0 : Int) - 192) (Ph.bt s) 2 = R at *
        go_wp2
        all_goals
          go_ret2
          refine ⟨?_, rfl⟩
          first
            | exact ret_dec_err (BAD.out (by omega))
            | (have G := GOOD.out (by omega); exact ret_dec G.1.symm (by rw [G.2.1]; rfl))
            | (exfalso; have G := GOOD.out (by omega); omega)

set_option maxRecDepth 100000 in
set_option maxHeartbeats 800000 in
theorem dec_3 (s : ByteArray) (w : World) (hs : s.size ≤ 9223372036854775807) (hp : 0 < s.size) (h0 : 224 ≤ (s[0]'hp).toNat) (h1 : (s[0]'hp).toNat < 240) :
    Calls Tryd.prog 76 #[.string s] w fun e w' => e = .returned (.tuple #[.int .i32 (Ph.decZ s.data.toList).1, .int .i64 (Ph.decZ s.data.toList).2]) ∧ w = w' := by
  have ex := Ph.empty_no hp
  have hd := Ph.decZ_bt s hp
  have h0' : (224 : Int) ≤ ((s[0]'hp).toNat : Int) := by omega
  have h1' : ((s[0]'hp).toNat : Int) < 240 := by omega
  have HB : Hid (224 ≤ Ph.bt s 0 ∧ Ph.bt s 0 < 240) := by rw [Ph.bt_at s 0 hp]; exact ⟨h0, h1⟩
  have HZ : Hid (((s[0]'hp).toNat : Int) = Ph.bt s 0) := by show _ = _; rw [Ph.bt_at s 0 hp]
  by_cases hn : s.size < 3
  · have HD : Hid (Ph.decZ s.data.toList = (65533, 1)) := by
      show _ = _
      rw [hd, Ph.d3s _ _ _ _ _ HB.out hn]
    have hn' : (s.size : Int) < 3 := by omega
    clear hd
    go_enter Tryd.func76, Tryd.ntmps76
    go_wp2
    go_ret2
    exact ⟨ret_dec_err HD.out, rfl⟩
  · have hn' : (3 : Int) ≤ (s.size : Int) := by omega
    have HD := Lib.hid hd
    clear hd
    go_enter Tryd.func76, Tryd.ntmps76
    go_wp2
    go_loop [7, 8] (fun r i => ∃ k : Nat, 1 ≤ k ∧ k ≤ 3 ∧ i = .int .i64 k ∧ r = .int .i32 (Ph.Rk ((Ph.bt s 0 : Int) - 224) (Ph.bt s) k) ∧ Hid (∀ j, 1 ≤ j → j < k → 128 ≤ Ph.bt s j ∧ Ph.bt s j ≤ 191)) (fun _ i => 3 - (intOf i).toNat)
    case atStart => exact ⟨1, by omega, by omega, rfl, by rw [HZ.out]; rfl, fun j h1 h2 => by omega⟩
    case round =>
      obtain ⟨k, hk1, hk2, rfl, rfl, HJ⟩ := hrel
      have hR := Ph.Rk_bd ((Ph.bt s 0 : Int) - 224) (Ph.bt s) (by have := HB.out; omega) (by have := HB.out; omega) k (by omega) HJ.out
      obtain ⟨hR0, hR1⟩ := hR
      by_cases hk : k < 3
      · have hks : k < s.size := by omega
        have hbk := Ph.bt_at s k hks
        have hk' : (k : Int) < 3 := by omega
        have hbl := (s[k]'hks).toNat_lt
        have HK : Hid (Ph.bt s k = (s[k]'hks).toNat) := hbk
        clear hbk
        have bad : Ph.bt s k < 128 ∨ 191 < Ph.bt s k → Ph.decZ s.data.toList = (65533, 1) := fun h => by rw [HD.out, Ph.d3b _ _ (Ph.bt_lt s) HB.out k hk1 hk h]
        have BAD := Lib.hid bad
        clear bad
        by_cases hc1 : (s[k]'hks).toNat < 128
        · have hc1' : ((s[k]'hks).toNat : Int) < 128 := by omega
          go_wp2
          go_ret2
          exact ⟨ret_dec_err (BAD.out (.inl (by rw [HK.out]; exact hc1))), rfl⟩
        · have hc1' : (128 : Int) ≤ ((s[k]'hks).toNat : Int) := by omega
          by_cases hc2 : 191 < (s[k]'hks).toNat
          · have hc2' : (191 : Int) < ((s[k]'hks).toNat : Int) := by omega
            go_wp2
            go_ret2
            exact ⟨ret_dec_err (BAD.out (.inr (by rw [HK.out]; exact hc2))), rfl⟩
          · have hc2' : ((s[k]'hks).toNat : Int) ≤ 191 := by omega
            have HS : Hid (Ph.Rk ((Ph.bt s 0 : Int) - 224) (Ph.bt s) (k + 1) = Ph.Rk ((Ph.bt s 0 : Int) - 224) (Ph.bt s) k * 64 + ((s[k]'hks).toNat : Int) - 128) := by
              show _ = _
              rw [Ph.Rk_succ _ _ _ hk1, HK.out]
            go_wp2
            go_round
            case rel =>
              refine ⟨k + 1, by omega, by omega, by go_num, by rw [HS.out], fun j h1 h2 => ?_⟩
              by_cases hj : j < k
              · exact HJ.out j h1 hj
              · obtain rfl : j = k := by omega
                rw [HK.out]; omega
            case measure => simp [intOf]; omega
      · obtain rfl : k = 3 := by omega
        have hk' : ¬ ((3 : Nat) : Int) < 3 := by omega
        have bad := fun h => Ph.d3e s.size (Ph.bt s) HB.out (by omega) HJ.out h
        have good := fun h => Ph.d3o s.size (Ph.bt s) HB.out (by omega) HJ.out h
        rw [← HD.out] at bad good
        have BAD := Lib.hid bad
        have GOOD := Lib.hid good
        clear bad good
        generalize Ph.Rk ((Ph.bt s 0 : Int) - 224) (Ph.bt s) 3 = R at *
        go_wp2
        all_goals
          go_ret2
          refine ⟨?_, rfl⟩
          first
            | exact ret_dec_err (BAD.out (by omega))
            | (have G := GOOD.out (by omega); exact ret_dec G.1.symm (by rw [G.2.1]; rfl))
            | (exfalso; have G := GOOD.out (by omega); omega)

set_option maxRecDepth 100000 in
set_option maxHeartbeats 800000 in
theorem dec_4 (s : ByteArray) (w : World) (hs : s.size ≤ 9223372036854775807) (hp : 0 < s.size) (h0 : 240 ≤ (s[0]'hp).toNat) (h1 : (s[0]'hp).toNat < 248) :
    Calls Tryd.prog 76 #[.string s] w fun e w' => e = .returned (.tuple #[.int .i32 (Ph.decZ s.data.toList).1, .int .i64 (Ph.decZ s.data.toList).2]) ∧ w = w' := by
  have ex := Ph.empty_no hp
  have hd := Ph.decZ_bt s hp
  have h0' : (240 : Int) ≤ ((s[0]'hp).toNat : Int) := by omega
  have h1' : ((s[0]'hp).toNat : Int) < 248 := by omega
  have HB : Hid (240 ≤ Ph.bt s 0 ∧ Ph.bt s 0 < 248) := by rw [Ph.bt_at s 0 hp]; exact ⟨h0, h1⟩
  have HZ : Hid (((s[0]'hp).toNat : Int) = Ph.bt s 0) := by show _ = _; rw [Ph.bt_at s 0 hp]
  by_cases hn : s.size < 4
  · have HD : Hid (Ph.decZ s.data.toList = (65533, 1)) := by
      show _ = _
      rw [hd, Ph.d4s _ _ _ _ _ HB.out hn]
    have hn' : (s.size : Int) < 4 := by omega
    clear hd
    go_enter Tryd.func76, Tryd.ntmps76
    go_wp2
    go_ret2
    exact ⟨ret_dec_err HD.out, rfl⟩
  · have hn' : (4 : Int) ≤ (s.size : Int) := by omega
    have HD := Lib.hid hd
    clear hd
    go_enter Tryd.func76, Tryd.ntmps76
    go_wp2
    go_loop [7, 8] (fun r i => ∃ k : Nat, 1 ≤ k ∧ k ≤ 4 ∧ i = .int .i64 k ∧ r = .int .i32 (Ph.Rk ((Ph.bt s 0 : Int) - 240) (Ph.bt s) k) ∧ Hid (∀ j, 1 ≤ j → j < k → 128 ≤ Ph.bt s j ∧ Ph.bt s j ≤ 191)) (fun _ i => 4 - (intOf i).toNat)
    case atStart => exact ⟨1, by omega, by omega, rfl, by rw [HZ.out]; rfl, fun j h1 h2 => by omega⟩
    case round =>
      obtain ⟨k, hk1, hk2, rfl, rfl, HJ⟩ := hrel
      have hR := Ph.Rk_bd ((Ph.bt s 0 : Int) - 240) (Ph.bt s) (by have := HB.out; omega) (by have := HB.out; omega) k (by omega) HJ.out
      obtain ⟨hR0, hR1⟩ := hR
      by_cases hk : k < 4
      · have hks : k < s.size := by omega
        have hbk := Ph.bt_at s k hks
        have hk' : (k : Int) < 4 := by omega
        have hbl := (s[k]'hks).toNat_lt
        have HK : Hid (Ph.bt s k = (s[k]'hks).toNat) := hbk
        clear hbk
        have bad : Ph.bt s k < 128 ∨ 191 < Ph.bt s k → Ph.decZ s.data.toList = (65533, 1) := fun h => by rw [HD.out, Ph.d4b _ _ (Ph.bt_lt s) HB.out k hk1 hk h]
        have BAD := Lib.hid bad
        clear bad
        by_cases hc1 : (s[k]'hks).toNat < 128
        · have hc1' : ((s[k]'hks).toNat : Int) < 128 := by omega
          go_wp2
          go_ret2
          exact ⟨ret_dec_err (BAD.out (.inl (by rw [HK.out]; exact hc1))), rfl⟩
        · have hc1' : (128 : Int) ≤ ((s[k]'hks).toNat : Int) := by omega
          by_cases hc2 : 191 < (s[k]'hks).toNat
          · have hc2' : (191 : Int) < ((s[k]'hks).toNat : Int) := by omega
            go_wp2
            go_ret2
            exact ⟨ret_dec_err (BAD.out (.inr (by rw [HK.out]; exact hc2))), rfl⟩
          · have hc2' : ((s[k]'hks).toNat : Int) ≤ 191 := by omega
            have HS : Hid (Ph.Rk ((Ph.bt s 0 : Int) - 240) (Ph.bt s) (k + 1) = Ph.Rk ((Ph.bt s 0 : Int) - 240) (Ph.bt s) k * 64 + ((s[k]'hks).toNat : Int) - 128) := by
              show _ = _
              rw [Ph.Rk_succ _ _ _ hk1, HK.out]
            go_wp2
            go_round
            case rel =>
              refine ⟨k + 1, by omega, by omega, by go_num, by rw [HS.out], fun j h1 h2 => ?_⟩
              by_cases hj : j < k
              · exact HJ.out j h1 hj
              · obtain rfl : j = k := by omega
                rw [HK.out]; omega
            case measure => simp [intOf]; omega
      · obtain rfl : k = 4 := by omega
        have hk' : ¬ ((4 : Nat) : Int) < 4 := by omega
        have bad := fun h => Ph.d4e s.size (Ph.bt s) HB.out (by omega) HJ.out h
        have good := fun h => Ph.d4o s.size (Ph.bt s) HB.out (by omega) HJ.out h
        rw [← HD.out] at bad good
        have BAD := Lib.hid bad
        have GOOD := Lib.hid good
        clear bad good
        generalize Ph.Rk ((Ph.bt s 0 : Int) - 240) (Ph.bt s) 4 = R at *
        go_wp2
        all_goals
          go_ret2
          refine ⟨?_, rfl⟩
          first
            | exact ret_dec_err (BAD.out (by omega))
            | (have G := GOOD.out (by omega); exact ret_dec G.1.symm (by rw [G.2]; rfl))
            | (exfalso; have G := GOOD.out (by omega); omega)

/-- THE REFERENCE's DECODER, at every text. -/
theorem ref_Decode (s : ByteArray) (w : World) (hs : s.size ≤ 9223372036854775807) :
    Calls Tryd.prog 76 #[.string s] w fun e w' => e = .returned (.tuple #[.int .i32 (Ph.decZ s.data.toList).1, .int .i64 (Ph.decZ s.data.toList).2]) ∧ w = w' := by
  by_cases hp : 0 < s.size
  · have hl := (s[0]'hp).toNat_lt
    by_cases h1 : (s[0]'hp).toNat < 128
    · exact dec_ascii s w hp h1
    · by_cases h2 : (s[0]'hp).toNat < 192
      · exact dec_none s w hp (.inl ⟨by omega, h2⟩)
      · by_cases h3 : (s[0]'hp).toNat < 224
        · exact dec_2 s w hs hp (by omega) h3
        · by_cases h4 : (s[0]'hp).toNat < 240
          · exact dec_3 s w hs hp (by omega) h4
          · by_cases h5 : (s[0]'hp).toNat < 248
            · exact dec_4 s w hs hp (by omega) h5
            · exact dec_none s w hp (.inr (by omega))
  · exact dec_short s w hp
end Go.Proofs.YtajidlglbkopjaaDoor

/-
  Words for memory, used by all walks of this seat: a slice of bytes that the call owns, a slice of bytes that is read, and what becomes of them.
-/
set_option linter.unusedVariables false
namespace Go.Proofs.YtajidlglbkopjaaDoor
open Go.RowKit

section
variable {P : Program} {w w' : World} {base e : Nat} {v : Value} {l : List UInt8}

theorem byteCells_len (l : List UInt8) : (Lib.byteCells l).length = l.length := by simp [Lib.byteCells]
theorem byteCells_app (a b : List UInt8) : Lib.byteCells (a ++ b) = Lib.byteCells a ++ Lib.byteCells b := by simp [Lib.byteCells]
theorem byteCells_get (l : List UInt8) (j : Nat) (h : j < l.length) : (Lib.byteCells l)[j]? = some (.int .u8 l[j].toNat) := by
  simp [Lib.byteCells, h]

/-- 'string(b)' of bytes that the call owns. -/
theorem run_string_own (src dst e : TypeId) (hs : P.underlying src = some (.slice e)) (he : P.underlying e = some (.int .u8)) (hd : P.underlying dst = some .string)
    (h : w.ownsRow base e 1 v l.length (Lib.byteCells l)) : (convert src dst v).run P w = .ok (.string ⟨l.toArray⟩) w := by
  rcases h.2 with ⟨rfl, h0⟩ | ⟨g, cap, cur, rfl, _, hg, hn, hm, hsz, hx⟩
  · have : l = [] := List.length_eq_zero_iff.1 h0
    subst this
    rw [run_convert_bytes_string w src dst e none 0 0 hs he hd]
    simp [Conv.bytesToString]
    rfl
  · refine run_convert_bytes_back w src dst e ⟨g, 0, none⟩ cap l hs he hd fun j hj => ?_
    exact h.cells (g := g) rfl j _ (byteCells_get l j hj)

/-- What the call owns stays while nothing that lies is written. -/
theorem own_below {size n : Nat} {xs : List Value} (h : w.ownsRow base e size v n xs) (hb : Below w.heap.size w w') : w'.ownsRow base e size v n xs := by
  refine ⟨h.1, ?_⟩
  rcases h.2 with hn | ⟨g, cap, cur, rfl, hg, hh, rest⟩
  · exact .inl hn
  · exact .inr ⟨g, cap, cur, rfl, hg, (hb.block g (Array.getElem?_eq_some_iff.1 hh).1).trans hh, rest⟩
/-- The value of a row that the call owns, and its cells. -/
theorem own_slice {size n : Nat} {xs : List Value} (h : w.ownsRow base e size v n xs) : ∃ A c, v = .slice A n c ∧ n ≤ c ∧ c ≤ maxLen ∧ (0 < n → ∃ g, A = some ⟨g, 0, none⟩ ∧ ∀ j, j < n * size → w.cell? ⟨g, j, none⟩ = xs[j]?) := by
  rcases h.2 with ⟨rfl, rfl⟩ | ⟨g, cap, cur, rfl, hg, hh, hnc, hm, hsz, hx⟩
  · exact ⟨none, 0, rfl, by omega, by omega, fun h => by omega⟩
  · exact ⟨_, cap, rfl, hnc, hm, fun _ => ⟨g, rfl, fun j hj => h.cellAt j hj⟩⟩
/-- One byte more. -/
theorem own_snoc {z : Int} {c : UInt8} (h : w.ownsRow base e 1 v (l.length + 1) (Lib.byteCells l ++ [.int .u8 z])) (hz : z = (c.toNat : Int)) : w.ownsRow base e 1 v (l ++ [c]).length (Lib.byteCells (l ++ [c])) := by
  subst hz
  rw [byteCells_app, List.length_append]
  exact h
theorem own_more {xs : List UInt8} {n : Nat} {cs : List Value} (h : w.ownsRow base e 1 v n (Lib.byteCells l ++ cs)) (hn : n = l.length + xs.length) (hc : cs = Lib.byteCells xs) : w.ownsRow base e 1 v (l ++ xs).length (Lib.byteCells (l ++ xs)) := by
  subst hn hc
  rw [byteCells_app, List.length_append]
  exact h
theorem bytes_app (a b : List UInt8) : (⟨a.toArray⟩ : ByteArray) ++ ⟨b.toArray⟩ = ⟨(a ++ b).toArray⟩ := by
  apply ByteArray.ext
  simp
end
end Go.Proofs.YtajidlglbkopjaaDoor

/-
  Plain law: what the reference lists of a text's runes: the runes, where each begins, whether all are true ones.
-/
set_option linter.unusedVariables false
namespace Ph
open Go Go.Lib

def offsFrom : Nat → List (Nat × Nat) → List Nat
  | _, [] => []
  | a, q :: p => a :: offsFrom (a + q.2) p
def offs (p : List (Nat × Nat)) : List Nat := offsFrom 0 p
theorem offsFrom_snoc : ∀ (p : List (Nat × Nat)) (a : Nat) (q : Nat × Nat), offsFrom a (p ++ [q]) = offsFrom a p ++ [a + wid p]
  | [], a, q => by simp [offsFrom, wid_nil]
  | x :: p, a, q => by
    simp only [List.cons_append, offsFrom, offsFrom_snoc p, wid_cons]
    simp; omega
theorem offs_snoc (p : List (Nat × Nat)) (q : Nat × Nat) : offs (p ++ [q]) = offs p ++ [wid p] := by
  unfold offs; rw [offsFrom_snoc]; simp
theorem offsFrom_len : ∀ (p : List (Nat × Nat)) (a : Nat), (offsFrom a p).length = p.length
  | [], _ => rfl
  | x :: p, a => by simp [offsFrom, offsFrom_len p]
theorem offs_len (p : List (Nat × Nat)) : (offs p).length = p.length := offsFrom_len p 0
theorem offsFrom_get : ∀ (p : List (Nat × Nat)) (a k : Nat), k < p.length → (offsFrom a p)[k]? = some (a + wid (p.take k))
  | [], _, _, h => by simp at h
  | x :: p, a, 0, _ => by simp [offsFrom, wid_nil]
  | x :: p, a, k + 1, h => by
    simp only [offsFrom, List.getElem?_cons_succ, List.take_succ_cons, wid_cons]
    rw [offsFrom_get p (a + x.2) k (by simpa using h)]
    simp; omega
theorem offs_get (p : List (Nat × Nat)) (k : Nat) (h : k < p.length) : (offs p)[k]? = some (wid (p.take k)) := by
  unfold offs; rw [offsFrom_get p 0 k h]; simp

/-- Is each rune but U+FFFD, or one of three bytes? -/
def goodB (p : List (Nat × Nat)) : Bool := p.all fun q => !(q.1 == 65533) || q.2 == 3
theorem goodB_snoc (p : List (Nat × Nat)) (q : Nat × Nat) : goodB (p ++ [q]) = (goodB p && (!(q.1 == 65533) || q.2 == 3)) := by simp [goodB]
theorem good_a {g : Bool} {d : Nat × Nat} (hg : g = true) (h : (d.1 : Int) = 65533) : ((d.2 : Int) == 3) = (g && (!(d.1 == 65533) || d.2 == 3)) := by
  have h1 : d.1 = 65533 := by omega
  have e : ((d.2 : Int) == 3) = (d.2 == 3) := by
    rw [Bool.eq_iff_iff, beq_iff_eq, beq_iff_eq]
    omega
  rw [e]
  simp [hg, h1]
theorem good_b {g : Bool} {d : Nat × Nat} (hg : g = true) (h : ¬ (d.1 : Int) = 65533) : true = (g && (!(d.1 == 65533) || d.2 == 3)) := by
  have h1 : ¬ d.1 = 65533 := by omega
  simp [hg, h1]
theorem good_c {g : Bool} {d : Nat × Nat} (hg : ¬ g = true) : false = (g && (!(d.1 == 65533) || d.2 == 3)) := by
  simp at hg; simp [hg]
theorem err_width (l : List UInt8) (h : (decodeL l).1 = 65533) : (decodeL l).2 = 1 ∨ (decodeL l).2 = 3 := by
  rw [decodeL_N] at h ⊢
  have h1 := (l.getD 1 0).toNat_lt
  rcases decodeN_shape l.length (l.getD 0 0).toNat (l.getD 1 0).toNat (l.getD 2 0).toNat (l.getD 3 0).toNat with ⟨c, e⟩ | ⟨c1, c2, c3, cv, e⟩ | ⟨c1, c2, c3, c4, cv, cs, e⟩ | ⟨c1, c2, c3, c4, c5, cv, cw, e⟩ | e
  all_goals (rw [e] at h ⊢; simp only at h ⊢)
  · omega
  · omega
  · exact .inr trivial
  · omega
  · exact .inl trivial
theorem goodB_rs : ∀ l : List UInt8, goodB (rs l) = validD l :=
  rs_induct rfl (fun l he ih => by
    rw [rs_step l he, validD_step l he, goodB, List.all_cons]
    show (_ && goodB (rs (l.drop (decodeL l).2))) = _
    rw [ih]
    by_cases h : (decodeL l).1 = 65533
    · rcases err_width l h with h2 | h2
      · simp [h, h2]
      · simp [h, h2]
    · simp [h])

theorem decZ_extract (s : ByteArray) (pos : Nat) (h : pos < s.size) : decZ (s.extract pos s.size).data.toList = Utf8.decode s pos := by
  have hs : (s.extract pos s.size).size = s.size - pos := by simp
  rw [(decZ_ne (s := s.extract pos s.size) (by omega)).1, extract_drop, decodeL_drop]

def runeVals (p : List (Nat × Nat)) : List Value := p.map fun q => Value.int .i32 q.1
def intVals (l : List Nat) : List Value := l.map fun (n : Nat) => Value.int .i64 (n : Int)
theorem runeVals_snoc (p : List (Nat × Nat)) (q : Nat × Nat) : runeVals (p ++ [q]) = runeVals p ++ [.int .i32 q.1] := by simp [runeVals]
theorem intVals_snoc (p : List Nat) (q : Nat) : intVals (p ++ [q]) = intVals p ++ [.int .i64 q] := by simp [intVals]
theorem runeVals_get (p : List (Nat × Nat)) (k : Nat) (h : k < p.length) : (runeVals p)[k]? = some (.int .i32 (p[k]'h).1) := by simp [runeVals, h]
theorem intVals_get (p : List Nat) (k : Nat) (x : Nat) (h : p[k]? = some x) : (intVals p)[k]? = some (.int .i64 x) := by simp [intVals, h]
end Ph

/-
  The walk of the reference's list of a text's runes.
-/
set_option linter.unusedVariables false
set_option maxRecDepth 10000
namespace Go.Proofs.YtajidlglbkopjaaDoor
open Go.RowKit

theorem info_rune : (Tryd.prog.info? 21).map (fun i => (i.zero, i.size, i.bytes)) = some (some (.int .i32 0), 1, 4) := by kernel_rfl
theorem info_int : (Tryd.prog.info? 3).map (fun i => (i.zero, i.size, i.bytes)) = some (some (.int .i64 0), 1, 8) := by kernel_rfl

/-- A row that the call owns stays while a row of another element type is appended to. -/
theorem own_ne {w : World} {b b' e e' size size' n n' : Nat} {v v' : Value} {xs xs' : List Value} (h : w.ownsRow b e size v n xs) (h' : w.ownsRow b' e' size' v' n' xs') (hne : e ≠ e') : v.ownBlock = none ∨ v.ownBlock ≠ v'.ownBlock := by
  rcases h.2 with ⟨rfl, _⟩ | ⟨g, cap, cur, rfl, _, hh, _⟩
  · left; rfl
  · right
    rcases h'.2 with ⟨rfl, _⟩ | ⟨g', cap', cur', rfl, _, hh', _⟩
    · simp [Value.ownBlock]
    · simp only [Value.ownBlock, ne_eq, Option.some.injEq]
      rintro rfl
      rw [hh] at hh'
      injection hh' with hh'
      injection hh' with _ ht
      exact hne ht

set_option maxHeartbeats 800000 in
theorem ref_Runes (s : ByteArray) (w : World) (hs : s.size ≤ 1000000) :
    Calls Tryd.prog 72 #[.string s] w fun e w' => ∃ vl va, e = .returned (.tuple #[vl, va, .bool (Lib.validD s.data.toList)]) ∧
      w'.ownsRow w.heap.size 21 1 vl (Ph.rs s.data.toList).length (Ph.runeVals (Ph.rs s.data.toList)) ∧ w'.ownsRow w.heap.size 3 1 va (Ph.rs s.data.toList).length (Ph.intVals (Ph.offs (Ph.rs s.data.toList))) ∧ Below w.heap.size w w' := by
  have hcl := Ph.count_le s
  obtain ⟨ir, hir, hrz, hrs, hrb⟩ := info_parts info_rune
  obtain ⟨ii, hii, hiz, his, hib⟩ := info_parts info_int
  go_enter Tryd.func72, Tryd.ntmps72
  go_wp2
  go_loopw [5, 6, 7, 8] (fun l at_ good i wr => ∃ pos k : Nat, i = .int .i64 pos ∧ pos ≤ s.size ∧ k ≤ s.size ∧ good = .bool (Ph.goodB ((Ph.rs s.data.toList).take k)) ∧
      wr.ownsRow w.heap.size 21 1 l k (Ph.runeVals ((Ph.rs s.data.toList).take k)) ∧ wr.ownsRow w.heap.size 3 1 at_ k (Ph.intVals (Ph.offs ((Ph.rs s.data.toList).take k))) ∧
      Below w.heap.size w wr ∧ Hid (Ph.rs (s.data.toList.drop pos) = (Ph.rs s.data.toList).drop k) ∧ Hid (pos = Ph.wid ((Ph.rs s.data.toList).take k))) (fun _ _ _ i _ => s.size - (intOf i).toNat)
  case atStart =>
    exact ⟨0, 0, rfl, by omega, by omega, rfl, World.ownsRow_nil _ _ _ _, World.ownsRow_nil _ _ _ _, Below.refl _ _, by unfold Hid; simp, by unfold Hid; simp [Ph.wid_nil]⟩
  case round =>
    obtain ⟨pos, k, rfl, hpos, hk, rfl, hl, ha, hbw, HK, HP⟩ := hrel
    by_cases hp : pos < s.size
    · have hp' : (pos : Int) < (s.size : Int) := by omega
      have hst := Ph.step_take (HK.out.symm.trans (Ph.rs_at s pos hp))
      have hk1 : k + 1 ≤ s.size := by have := hst.1; unfold Ph.count at hcl; omega
      have HS : Hid ((Ph.rs s.data.toList).take (k + 1) = (Ph.rs s.data.toList).take k ++ [Utf8.decode s pos] ∧ (Ph.rs s.data.toList).drop (k + 1) = Ph.rs (s.data.toList.drop (pos + (Utf8.decode s pos).2))) := hst.2
      clear hst
      have hw1 := Ph.width_pos s pos
      have hw2 := Ph.width_le s pos hp
      go_wp2_with fail
      refine (ref_Decode (s.extract pos s.size) _ (by simp; omega)).mono ?_
      rintro e w' ⟨rfl, rfl⟩
      rw [Ph.decZ_extract s pos hp]
      generalize hd : Utf8.decode s pos = d at *
      have HD := Lib.hid hd
      clear hd
      go_wp2_with (at_builtin; refine wpList_append_own _ rfl (.tmp 22) (.tmp 24) 130 rfl w.heap.size 21 ir (.int .i32 0) 1 4 Tryd.underlying130 hir hrz hrs hrb rfl (by decide) _ k _ rfl (hl.alloc _) ⟨wr.heap.size, 0, none⟩ 1 1 [.int .i32 (d.1 : Int)] rfl rfl ?c1 ?c2 ?c3 ?c4 ?c5 ?_)
      case c1 => exact (cell_one_new _ _ _)
      case c2 => simp [Value.oneCell']
      case c3 => unfold maxLen; omega
      case c4 => omega
      case c5 => have := hbw.size; simp; omega
      intro l1 w1 hl1 hg1 _
      have hb1 : Below w.heap.size w w1 := (hbw.alloc hbw.size _).grown hg1 (by have := hbw.size; simp; omega) (fun g hg => (hl.lt g hg).1)
      have ha1 : w1.ownsRow w.heap.size 3 1 u6 k (Ph.intVals (Ph.offs ((Ph.rs s.data.toList).take k))) := (ha.alloc _).kept hg1 (own_ne ha hl (by decide))
      go_wp2_with (at_builtin; refine wpList_append_own _ rfl (.tmp 26) (.tmp 28) 50 rfl w.heap.size 3 ii (.int .i64 0) 1 8 Tryd.underlying50 hii hiz his hib rfl (by decide) _ k _ rfl (ha1.alloc _) ⟨w1.heap.size, 0, none⟩ 1 1 [.int .i64 (pos : Int)] rfl rfl ?d1 ?d2 ?d3 ?d4 ?d5 ?_)
      case d1 => exact (cell_one_new _ _ _)
      case d2 => simp [Value.oneCell']
      case d3 => unfold maxLen; omega
      case d4 => omega
      case d5 => have := hb1.size; simp; omega
      intro a1 w2 ha2 hg2 _
      have hb2 : Below w.heap.size w w2 := (hb1.alloc hb1.size _).grown hg2 (by have := hb1.size; simp; omega) (fun g hg => (ha1.lt g hg).1)
      have hl2 : w2.ownsRow w.heap.size 21 1 l1 (k + 1) (Ph.runeVals ((Ph.rs s.data.toList).take k) ++ [.int .i32 (d.1 : Int)]) := (hl1.alloc _).kept hg2 (own_ne hl1 ha1 (by decide))
      rw [← Ph.runeVals_snoc] at hl2
      have hl3 : w2.ownsRow w.heap.size 21 1 l1 (k + 1) (Ph.runeVals ((Ph.rs s.data.toList).take (k + 1))) := by rw [HS.out.1]; exact hl2
      have ha3 : w2.ownsRow w.heap.size 3 1 a1 (k + 1) (Ph.intVals (Ph.offs ((Ph.rs s.data.toList).take (k + 1)))) := by
        rw [HS.out.1, Ph.offs_snoc, Ph.intVals_snoc, ← HP.out]
        exact ha2
      have HP2 : Hid (pos + d.2 = Ph.wid ((Ph.rs s.data.toList).take (k + 1))) := by
        show _ = _
        rw [HS.out.1, Ph.wid_append, ← HP.out]
        simp [Ph.wid_cons, Ph.wid_nil]
      clear hl ha hl1 ha1 hl2 ha2 hg1 hg2 hb1 hbw
      go_wp2
      all_goals
        go_roundw
        case rel =>
          refine ⟨pos + d.2, k + 1, by go_num, by omega, by omega, ?_, hl3, ha3, hb2, HS.out.2.symm, HP2⟩
          rw [HS.out.1, Ph.goodB_snoc]
          first | exact congrArg Value.bool (Ph.good_a ‹_› ‹_›) | exact congrArg Value.bool (Ph.good_b ‹_› ‹_›) | exact congrArg Value.bool (Ph.good_c ‹_›)
        case measure => simp [intOf]; omega
    · have hp' : (s.size : Int) ≤ (pos : Int) := by omega
      have hle := Ph.drop_nil_le (HK.out.symm.trans (Ph.rs_end s pos hp))
      have hk2 := hl.1
      rw [Ph.runeVals, List.length_map, List.length_take] at hk2
      obtain rfl : k = (Ph.rs s.data.toList).length := by omega
      have e := List.take_of_length_le (l := Ph.rs s.data.toList) (Nat.le_refl _)
      rw [e] at hl ha
      have HG : Hid (Ph.goodB ((Ph.rs s.data.toList).take (Ph.rs s.data.toList).length) = Lib.validD s.data.toList) := by
        show _ = _
        rw [e, Ph.goodB_rs]
      clear e hk2
      go_wp2
      go_ret3
      refine ⟨_, _, ?_, hl, ha, hbw⟩
      rw [← HG.out]
      rfl
end Go.Proofs.YtajidlglbkopjaaDoor
