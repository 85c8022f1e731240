/-
  The walks of package runes that write: Encode, Fold.
-/
import Derived.Test.YtmppeellnpepfaaDoorRunesB
import Derived.Test.YtmppeellnpepfaaDoorWords
import Derived.Lib.OthersKept
set_option linter.unusedVariables false
namespace Go.Proofs.YtmppeellnpepfaaDoor
open Go.RowKit

theorem u8s : Tryd.prog.underlying 39 = some (.slice 5) := Tryd.underlying39
theorem runeCells_bytes (r : Int) : Lib.runeCells r = Lib.byteCells (Lib.encodeRune r) := (Lib.byteCells_encodeRune r).symm

/-- utf8.AppendRune onto bytes that the call owns, in our words. -/
theorem append_rune (B : Nat) (v : Value) (l : List UInt8) (r : Int) (h0 : -2147483648 ≤ r) (h1 : r ≤ 2147483647) (w : World) (hown : w.ownsRow B 5 1 v l.length (Lib.byteCells l)) (hlen : l.length ≤ 140737488355000) (hB : B ≤ w.heap.size) :
    Calls Tryd.prog 32 #[v, .int .i32 r] w fun e w' => ∃ v', e = .returned v' ∧ w'.ownsRow B 5 1 v' (l ++ Lib.encodeRune r).length (Lib.byteCells (l ++ Lib.encodeRune r)) ∧ ∃ o, (w.alloc o).grownBy w' v.ownBlock := by
  refine (Tryd.utf8_AppendRune_plain B v l.length (Lib.byteCells l) r h0 h1 w hown (by omega) hB).mono ?_
  rintro e w' ⟨v', he, ho, hg⟩
  refine ⟨v', he, ?_, hg⟩
  rw [runeCells_bytes, ← byteCells_app, byteCells_len, ← List.length_append] at ho
  exact ho

set_option maxHeartbeats 400000 in
theorem runes_Encode (r : Int) (w : World) (h0 : -2147483648 ≤ r) (h1 : r ≤ 2147483647) :
    Calls Tryd.prog 25 #[.int .i32 r] w fun e w' => e = .returned (.string ⟨(Lib.encodeRune r).toArray⟩) ∧ Below w.heap.size w w' := by
  go_enter Tryd.func25, Tryd.ntmps25
  go_wp2_with (go_at_call 32; refine (append_rune w.heap.size _ [] r h0 h1 _ (World.ownsRow_nil _ _ _ _) (by simp) (Nat.le_refl _)).mono ?_)
  rintro e w' ⟨v', rfl, ho, o, hg⟩
  rw [List.nil_append] at ho
  have hc := run_string_own (P := Tryd.prog) 39 9 5 Tryd.underlying39 Tryd.underlying5 Tryd.underlying9 ho
  go_wp2
  go_ret
  refine ⟨rfl, ((Below.refl _ _).alloc (Nat.le_refl _) o).grown hg (by simp) ?_⟩
  intro k hk
  simp [Value.ownBlock] at hk

set_option maxHeartbeats 800000 in
theorem runes_Fold (s : ByteArray) (w : World) (hs : s.size ≤ 35184372088000) :
    Calls Tryd.prog 23 #[.string s] w fun e w' => e = .returned (.string ⟨(Ph.foldL s.data.toList).toArray⟩) ∧ Below w.heap.size w w' := by
  have hcl := Ph.count_le s
  go_enter Tryd.func23, Tryd.ntmps23
  go_wp2
  go_loopw [3] (fun b wr => ∃ pos k : Nat, wr.heap[w.heap.size]? = some (.stringIter s pos) ∧ wr.ownsRow (w.heap.size + 1) 5 1 b (Ph.foldR ((Ph.rs s.data.toList).take k)).length (Lib.byteCells (Ph.foldR ((Ph.rs s.data.toList).take k))) ∧ Below w.heap.size w wr ∧ w.heap.size + 1 ≤ wr.heap.size ∧ Hid (Ph.rs (s.data.toList.drop pos) = (Ph.rs s.data.toList).drop k)) (fun _ wr => s.size - wr.iterPos w.heap.size)
  case atStart =>
    refine ⟨0, 0, ?_, ?_, (Below.refl _ _).alloc (Nat.le_refl _) _, by simp [World.iter], by unfold Hid; simp⟩
    · simpa [World.iter] using World.iter_heap w s 0
    · exact World.ownsRow_nil _ _ _ _
  case round =>
    obtain ⟨pos, k, hit, hown, hbw, hsz, HK⟩ := hrel
    by_cases hp : pos < s.size
    · have hnx : ∀ ty, (Instr.next (.pointer (some ⟨w.heap.size, 0, none⟩)) true ty).run Tryd.prog wr = _ := fun ty => Lib.run_next_any_at wr w.heap.size s pos ty hit hp
      have hit2 := Lib.iterAt_heap wr w.heap.size s pos (pos + (Utf8.decode s pos).2) hit
      have hbw2 := Lib.below_iterAt hbw (k := w.heap.size) (Nat.le_refl _) s (pos + (Utf8.decode s pos).2)
      have hown2 := ownsRow_iterAt hown (k := w.heap.size) (by omega) s (pos + (Utf8.decode s pos).2)
      have hsz2 : w.heap.size + 1 ≤ (wr.iterAt w.heap.size s (pos + (Utf8.decode s pos).2)).heap.size := by rw [Lib.iterAt_size]; omega
      have hr := Ph.rune_le s pos
      have hlr := Ph.lower_range _ hr
      have hfl := Ph.foldR_len ((Ph.rs s.data.toList).take k)
      have htk : ((Ph.rs s.data.toList).take k).length ≤ s.size := by rw [List.length_take]; unfold Ph.count at hcl; omega
      have hst := Ph.step_take (HK.out.symm.trans (Ph.rs_at s pos hp))
      have HS : Hid ((Ph.rs s.data.toList).take (k + 1) = (Ph.rs s.data.toList).take k ++ [Utf8.decode s pos] ∧ (Ph.rs s.data.toList).drop (k + 1) = Ph.rs (s.data.toList.drop (pos + (Utf8.decode s pos).2))) := hst.2
      clear hst
      go_wp2_with (go_at_call 27; refine (runes_Lower _ _ (by omega) (by omega)).mono ?_; rintro e w' ⟨rfl, rfl⟩)
      refine (append_rune (w.heap.size + 1) _ _ _ hlr.1 hlr.2 _ hown2 (by omega) hsz2).mono ?_
      rintro e w' ⟨v', rfl, ho, o, hg⟩
      have hbw3 : Below w.heap.size w w' := (hbw2.alloc (by omega) o).grown hg (by simp; omega) (fun g hg' => by have := (hown2.lt g hg').1; omega)
      have hit3 : w'.heap[w.heap.size]? = some (.stringIter s (pos + (Utf8.decode s pos).2)) := by
        rw [hg.block w.heap.size (by simp; omega) (fun e => by have := (hown2.lt _ e.symm).1; omega), Below.heap_alloc _ _ _ (by omega)]
        exact hit2
      have hsz3 : w.heap.size + 1 ≤ w'.heap.size := by have := hg.size; simp at this; omega
      rw [← Ph.foldR_snoc, ← HS.out.1] at ho
      go_wp2
      go_roundw
      case rel => exact ⟨pos + (Utf8.decode s pos).2, k + 1, hit3, ho, hbw3, hsz3, HS.out.2.symm⟩
      case measure =>
        have := Ph.width_pos s pos
        rw [iterPos_of hit3, iterPos_of hit]
        omega
    · have hnx : ∀ ty, (Instr.next (.pointer (some ⟨w.heap.size, 0, none⟩)) true ty).run Tryd.prog wr = _ := fun ty => Lib.run_next_end_at wr w.heap.size s pos ty hit hp
      have hle := Ph.drop_nil_le (HK.out.symm.trans (Ph.rs_end s pos hp))
      rw [List.take_of_length_le hle] at hown
      have hc := run_string_own (P := Tryd.prog) 39 9 5 Tryd.underlying39 Tryd.underlying5 Tryd.underlying9 hown
      go_wp2
      go_ret
      exact ⟨rfl, hbw⟩
end Go.Proofs.YtmppeellnpepfaaDoor
