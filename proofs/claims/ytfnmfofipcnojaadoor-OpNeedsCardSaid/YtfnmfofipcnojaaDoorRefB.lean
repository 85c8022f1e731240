/-
  The walk of the reference's list of a text's runes.
-/
import Derived.Test.YtfnmfofipcnojaaDoorRefA
import Derived.Test.YtfnmfofipcnojaaDoorWords
import Derived.Test.YtfnmfofipcnojaaDoorRefRunesPlain
set_option linter.unusedVariables false
namespace Go.Proofs.YtfnmfofipcnojaaDoor
open Go.RowKit

theorem info_rune : (Tryd.prog.info? 21).map (fun i => (i.zero, i.size, i.bytes)) = some (some (.int .i32 0), 1, 4) := by kernel_rfl
theorem info_int : (Tryd.prog.info? 3).map (fun i => (i.zero, i.size, i.bytes)) = some (some (.int .i64 0), 1, 8) := by kernel_rfl

/-- A row that the call owns stays while a row of another element type is appended to. -/
theorem own_ne {w : World} {b b' e e' size size' n n' : Nat} {v v' : Value} {xs xs' : List Value} (h : w.ownsRow b e size v n xs) (h' : w.ownsRow b' e' size' v' n' xs') (hne : e ≠ e') : v.ownBlock = none ∨ v.ownBlock ≠ v'.ownBlock := by
  rcases h.2 with ⟨rfl, _⟩ | ⟨g, cap, cur, rfl, _, hh, _⟩
  · left; rfl
  · right
    rcases h'.2 with ⟨rfl, _⟩ | ⟨g', cap', cur', rfl, _, hh', _⟩
    · simp [Value.ownBlock]
    · simp only [Value.ownBlock, ne_eq, Option.some.injEq]
      rintro rfl
      rw [hh] at hh'
      injection hh' with hh'
      injection hh' with _ ht
      exact hne ht

set_option maxHeartbeats 800000 in
theorem ref_Runes (s : ByteArray) (w : World) (hs : s.size ≤ 1000000) :
    Calls Tryd.prog 37 #[.string s] w fun e w' => ∃ vl va, e = .returned (.tuple #[vl, va, .bool (Lib.validD s.data.toList)]) ∧
      w'.ownsRow w.heap.size 21 1 vl (Ph.rs s.data.toList).length (Ph.runeVals (Ph.rs s.data.toList)) ∧ w'.ownsRow w.heap.size 3 1 va (Ph.rs s.data.toList).length (Ph.intVals (Ph.offs (Ph.rs s.data.toList))) ∧ Below w.heap.size w w' := by
  have hcl := Ph.count_le s
  obtain ⟨ir, hir, hrz, hrs, hrb⟩ := info_parts info_rune
  obtain ⟨ii, hii, hiz, his, hib⟩ := info_parts info_int
  go_enter Tryd.func37, Tryd.ntmps37
  go_wp2
  go_loopw [5, 6, 7, 8] (fun l at_ good i wr => ∃ pos k : Nat, i = .int .i64 pos ∧ pos ≤ s.size ∧ k ≤ s.size ∧ good = .bool (Ph.goodB ((Ph.rs s.data.toList).take k)) ∧
      wr.ownsRow w.heap.size 21 1 l k (Ph.runeVals ((Ph.rs s.data.toList).take k)) ∧ wr.ownsRow w.heap.size 3 1 at_ k (Ph.intVals (Ph.offs ((Ph.rs s.data.toList).take k))) ∧
      Below w.heap.size w wr ∧ Hid (Ph.rs (s.data.toList.drop pos) = (Ph.rs s.data.toList).drop k) ∧ Hid (pos = Ph.wid ((Ph.rs s.data.toList).take k))) (fun _ _ _ i _ => s.size - (intOf i).toNat)
  case atStart =>
    exact ⟨0, 0, rfl, by omega, by omega, rfl, World.ownsRow_nil _ _ _ _, World.ownsRow_nil _ _ _ _, Below.refl _ _, by unfold Hid; simp, by unfold Hid; simp [Ph.wid_nil]⟩
  case round =>
    obtain ⟨pos, k, rfl, hpos, hk, rfl, hl, ha, hbw, HK, HP⟩ := hrel
    by_cases hp : pos < s.size
    · have hp' : (pos : Int) < (s.size : Int) := by omega
      have hst := Ph.step_take (HK.out.symm.trans (Ph.rs_at s pos hp))
      have hk1 : k + 1 ≤ s.size := by have := hst.1; unfold Ph.count at hcl; omega
      have HS : Hid ((Ph.rs s.data.toList).take (k + 1) = (Ph.rs s.data.toList).take k ++ [Utf8.decode s pos] ∧ (Ph.rs s.data.toList).drop (k + 1) = Ph.rs (s.data.toList.drop (pos + (Utf8.decode s pos).2))) := hst.2
      clear hst
      have hw1 := Ph.width_pos s pos
      have hw2 := Ph.width_le s pos hp
      go_wp2_with fail
      refine (ref_Decode (s.extract pos s.size) _ (by simp; omega)).mono ?_
      rintro e w' ⟨rfl, rfl⟩
      rw [Ph.decZ_extract s pos hp]
      generalize hd : Utf8.decode s pos = d at *
      have HD := Lib.hid hd
      clear hd
      go_wp2_with (at_builtin; refine wpList_append_own _ rfl (.tmp 22) (.tmp 24) 64 rfl w.heap.size 21 ir (.int .i32 0) 1 4 Tryd.underlying64 hir hrz hrs hrb rfl (by decide) _ k _ rfl (hl.alloc _) ⟨wr.heap.size, 0, none⟩ 1 1 [.int .i32 (d.1 : Int)] rfl rfl ?c1 ?c2 ?c3 ?c4 ?c5 ?_)
      case c1 => exact (cell_one_new _ _ _)
      case c2 => simp [Value.oneCell']
      case c3 => unfold maxLen; omega
      case c4 => omega
      case c5 => have := hbw.size; simp; omega
      intro l1 w1 hl1 hg1 _
      have hb1 : Below w.heap.size w w1 := (hbw.alloc hbw.size _).grown hg1 (by have := hbw.size; simp; omega) (fun g hg => (hl.lt g hg).1)
      have ha1 : w1.ownsRow w.heap.size 3 1 u6 k (Ph.intVals (Ph.offs ((Ph.rs s.data.toList).take k))) := (ha.alloc _).kept hg1 (own_ne ha hl (by decide))
      go_wp2_with (at_builtin; refine wpList_append_own _ rfl (.tmp 26) (.tmp 28) 65 rfl w.heap.size 3 ii (.int .i64 0) 1 8 Tryd.underlying65 hii hiz his hib rfl (by decide) _ k _ rfl (ha1.alloc _) ⟨w1.heap.size, 0, none⟩ 1 1 [.int .i64 (pos : Int)] rfl rfl ?d1 ?d2 ?d3 ?d4 ?d5 ?_)
      case d1 => exact (cell_one_new _ _ _)
      case d2 => simp [Value.oneCell']
      case d3 => unfold maxLen; omega
      case d4 => omega
      case d5 => have := hb1.size; simp; omega
      intro a1 w2 ha2 hg2 _
      have hb2 : Below w.heap.size w w2 := (hb1.alloc hb1.size _).grown hg2 (by have := hb1.size; simp; omega) (fun g hg => (ha1.lt g hg).1)
      have hl2 : w2.ownsRow w.heap.size 21 1 l1 (k + 1) (Ph.runeVals ((Ph.rs s.data.toList).take k) ++ [.int .i32 (d.1 : Int)]) := (hl1.alloc _).kept hg2 (own_ne hl1 ha1 (by decide))
      rw [← Ph.runeVals_snoc] at hl2
      have hl3 : w2.ownsRow w.heap.size 21 1 l1 (k + 1) (Ph.runeVals ((Ph.rs s.data.toList).take (k + 1))) := by rw [HS.out.1]; exact hl2
      have ha3 : w2.ownsRow w.heap.size 3 1 a1 (k + 1) (Ph.intVals (Ph.offs ((Ph.rs s.data.toList).take (k + 1)))) := by
        rw [HS.out.1, Ph.offs_snoc, Ph.intVals_snoc, ← HP.out]
        exact ha2
      have HP2 : Hid (pos + d.2 = Ph.wid ((Ph.rs s.data.toList).take (k + 1))) := by
        show _ = _
        rw [HS.out.1, Ph.wid_append, ← HP.out]
        simp [Ph.wid_cons, Ph.wid_nil]
      clear hl ha hl1 ha1 hl2 ha2 hg1 hg2 hb1 hbw
      go_wp2
      all_goals
        go_roundw
        case rel =>
          refine ⟨pos + d.2, k + 1, by go_num, by omega, by omega, ?_, hl3, ha3, hb2, HS.out.2.symm, HP2⟩
          rw [HS.out.1, Ph.goodB_snoc]
          first | exact congrArg Value.bool (Ph.good_a ‹_› ‹_›) | exact congrArg Value.bool (Ph.good_b ‹_› ‹_›) | exact congrArg Value.bool (Ph.good_c ‹_›)
        case measure => simp [intOf]; omega
    · have hp' : (s.size : Int) ≤ (pos : Int) := by omega
      have hle := Ph.drop_nil_le (HK.out.symm.trans (Ph.rs_end s pos hp))
      have hk2 := hl.1
      rw [Ph.runeVals, List.length_map, List.length_take] at hk2
      obtain rfl : k = (Ph.rs s.data.toList).length := by omega
      have e := List.take_of_length_le (l := Ph.rs s.data.toList) (Nat.le_refl _)
      rw [e] at hl ha
      have HG : Hid (Ph.goodB ((Ph.rs s.data.toList).take (Ph.rs s.data.toList).length) = Lib.validD s.data.toList) := by
        show _ = _
        rw [e, Ph.goodB_rs]
      clear e hk2
      go_wp2
      go_ret3
      refine ⟨_, _, ?_, hl, ha, hbw⟩
      rw [← HG.out]
      rfl
end Go.Proofs.YtfnmfofipcnojaaDoor
