/-
  Texts of the proof, one behind the other (part 6).
-/
import Derived.Test.YtmalklakaalaoaaDoorM5
import Derived.Test.YtmalklakaalaoaaDoorChecked
import Derived.Sort.Grow
import Derived.WalkKit
import Derived.WalkLawsBesides
import Derived.WalkSpells
import Derived.Lib.Hide
import Derived.Deep.QuietTactic
import Derived.BigQuiet
import Derived.Below
import Derived.Shelf.SlSortCmp.Whole1
import Derived.Shelf.SlIter.Collect
import Derived.Shelf.SlSortCmp.NoneTotal
import Derived.Ground.GgzProg
import Derived.Ground.SlsfProg
import Derived.Test.YtmalklakaalaoaaDoorProg
import Derived.Maps.Own
import Derived.Maps.Views
import Derived.Sort.KeysCollected
import Derived.Laws.Small
set_option linter.unusedVariables false
namespace Go.Proofs.YtmalklakaalaoaaDoor
open Go.RowKit
def Bel (w w' : World) : Prop := Below w.heap.size w w' ∧ w.drawn ≤ w'.drawn
theorem Bel.refl (w : World) : Bel w w := ⟨Below.refl _ _, Nat.le_refl _⟩
theorem Bel.trans {a b c : World} (h : Bel a b) (k : Bel b c) : Bel a c := ⟨h.1.trans (k.1.mono h.1.size), Nat.le_trans h.2 k.2⟩
theorem bel_iter (w : World) (s : ByteArray) (pos : Nat) : Bel w (w.iter s pos) := ⟨(Below.refl _ _).alloc (Nat.le_refl _) _, Nat.le_refl _⟩
theorem bel_drewN {w w' : World} (h : Bel w w') (n : Nat) : Bel w (w'.drewN n) := ⟨h.1.trans ⟨rfl, rfl, rfl, Nat.le_refl _, fun _ _ => rfl⟩, Nat.le_trans h.2 (Nat.le_add_right _ _)⟩
theorem Bel.grown {w w' : World} (h : Bel w w') : ∃ q os, w' = Sort.grow (w.drewN q) os := by
  obtain ⟨⟨h1, h2, h3, h4, h5⟩, h6⟩ := h
  refine ⟨w'.drawn - w.drawn, w'.heap.extract w.heap.size w'.heap.size, ?_⟩
  have e : w'.heap = w.heap ++ w'.heap.extract w.heap.size w'.heap.size := by
    refine Array.ext_getElem? fun k => ?_
    rw [Array.getElem?_append]
    split
    · rename_i hk; exact h5 k hk
    · rename_i hk
      rw [Array.getElem?_extract]
      split
      · rw [show w.heap.size + (k - w.heap.size) = k by omega]
      · rename_i hk2
        rw [Array.getElem?_eq_none (by omega)]
  have e2 : w'.drawn = w.drawn + (w'.drawn - w.drawn) := by omega
  cases w'
  cases w
  simp only at h1 h2 h3 e e2
  simp only [Sort.grow, World.drewN]
  subst h1 h2 h3
  rw [← e, ← e2]
set_option maxHeartbeats 400000 in
theorem runes_CutD (s : ByteArray) (n : Int) (w : World) (hs : s.size ≤ 9223372036854775807) :
    Calls Tryd.prog 73 #[.string s, .int .i64 n] w fun e w' => e = .returned (.string ⟨(Ph.cutL s.data.toList n).toArray⟩) ∧ Bel w w' := by
  have hcl := Ph.count_le s
  by_cases hn : n < 1
  · have HF : Hid (Ph.cutL s.data.toList n = []) := by unfold Hid Ph.cutL; rw [if_pos hn]
    go_enter Tryd.func73, Tryd.ntmps73
    go_wp2
    go_ret
    exact ⟨by rw [HF.out]; rfl, Bel.refl _⟩
  · obtain ⟨m, rfl⟩ := Int.eq_ofNat_of_zero_le (show 0 ≤ n by omega)
    go_enter Tryd.func73, Tryd.ntmps73
    go_wp2
    go_loopw [5] (fun c wr => ∃ pos k : Nat, wr = w.iter s pos ∧ c = .int .i64 k ∧ k ≤ m ∧ Hid ((Ph.rs (s.data.toList.drop pos)) = (Ph.rs s.data.toList).drop k) ∧ Hid (pos = Ph.wid ((Ph.rs s.data.toList).take k))) (fun _ wr => s.size - wr.iterPos w.heap.size)
    case atStart => exact ⟨0, 0, rfl, rfl, by omega, by unfold Hid; simp, by unfold Hid; simp [Ph.wid_nil]⟩
    case round =>
      obtain ⟨pos, k, rfl, rfl, hkm, HK, HP⟩ := hrel
      by_cases hp : pos < s.size
      · have hnx := fun ty => run_next_any (P := Tryd.prog) w s pos ty hp
        by_cases he : k = m
        · subst he
          go_wp2
          go_ret
          refine ⟨?_, bel_iter _ _ _⟩
          have HP' := HP.out
          subst HP'
          show Ending.returned (.string (s.extract 0 _)) = _
          rw [Ph.extract_eq, Ph.cutL, if_neg (by omega)]
          rfl
        · have he' : ((k : Int) == (m : Int)) = false := by simp; omega
          have hst := Ph.step_take (HK.out.symm.trans (Ph.rs_at s pos hp))
          have hkl : k + 1 ≤ s.size := by have := hst.1; unfold Ph.count at hcl; omega
          have HS : Hid ((Ph.rs s.data.toList).take (k + 1) = (Ph.rs s.data.toList).take k ++ [Utf8.decode s pos] ∧ (Ph.rs s.data.toList).drop (k + 1) = Ph.rs (s.data.toList.drop (pos + (Utf8.decode s pos).2))) := hst.2
          clear hst
          go_wp2
          go_roundw
          case rel =>
            refine ⟨pos + (Utf8.decode s pos).2, k + 1, rfl, by go_num, by omega, HS.out.2.symm, ?_⟩
            show _ = _
            rw [HS.out.1, Ph.wid_append, ← HP.out]
            simp [Ph.wid_cons, Ph.wid_nil]
          case measure =>
            have := Ph.width_pos s pos
            rw [World.iterPos_iter, World.iterPos_iter]
            omega
      · have hnx := fun ty => run_next_end (P := Tryd.prog) w s pos ty hp
        go_wp2
        go_ret
        have hle := Ph.drop_nil_le (HK.out.symm.trans (Ph.rs_end s pos hp))
        refine ⟨?_, bel_iter _ _ _⟩
        rw [Ph.cutL_all _ _ (by unfold Ph.count; omega) (by omega), Ph.eta_bytes]
        rfl
set_option maxHeartbeats 400000 in
theorem runes_DecodeD (s : ByteArray) (w : World) (hs : s.size ≤ 9223372036854775807) :
    Calls Tryd.prog 61 #[.string s] w fun e w' => e = .returned (.tuple #[.int .i32 (Ph.decZ s.data.toList).1, .int .i64 (Ph.decZ s.data.toList).2]) ∧ Bel w w' := by
  by_cases hp : 0 < s.size
  · have hnx := fun ty => run_next_any (P := Tryd.prog) w s 0 ty hp
    have HD : Hid (Ph.decZ s.data.toList = Utf8.decode s 0 ∧ (Ph.cutL s.data.toList 1).length = (Utf8.decode s 0).2) := Ph.decZ_at s hp
    go_enter Tryd.func61, Tryd.ntmps61
    go_wp2
    go_loopw [] (fun wr => wr = w.iter s 0) (fun wr => 0)
    case atStart => rfl
    case round =>
      obtain rfl := hrel
      go_wp2_with (go_at_call 73; refine (runes_CutD _ _ _ hs).mono ?_; rintro e w' ⟨rfl, hb⟩)
      go_ret2
      refine ⟨ret_tab ?_ ?_, (bel_iter _ _ _).trans hb⟩
      · rw [HD.out.1]
      · rw [HD.out.1, ← HD.out.2]
  · have hnx := fun ty => run_next_end (P := Tryd.prog) w s 0 ty hp
    have HD : Hid (Ph.decZ s.data.toList = (65533, 0)) := Ph.decZ_empty s hp
    go_enter Tryd.func61, Tryd.ntmps61
    go_wp2
    go_loopw [] (fun wr => wr = w.iter s 0) (fun wr => 0)
    case atStart => rfl
    case round =>
      obtain rfl := hrel
      go_wp2
      go_ret2
      rw [HD.out]
      exact ⟨rfl, bel_iter _ _ _⟩
def strLenD : Value → Nat | .string s => s.size | _ => 0
set_option maxHeartbeats 800000 in
theorem runes_LessD (a b : ByteArray) (w : World) (ha : a.size ≤ 9223372036854775807) (hb : b.size ≤ 9223372036854775807) :
    Calls Tryd.prog 42 #[.string a, .string b] w fun e w' => e = .returned (.bool (Ph.lessL a.data.toList b.data.toList)) ∧ Bel w w' := by
  go_enter Tryd.func42, Tryd.ntmps42
  go_wp2
  go_loopw [5, 6] (fun x y wr => ∃ X Y : ByteArray, x = .string X ∧ y = .string Y ∧ X.size ≤ 9223372036854775807 ∧ Y.size ≤ 9223372036854775807 ∧ Hid (Ph.lessL a.data.toList b.data.toList = Ph.lessAt a.data.toList b.data.toList X.data.toList Y.data.toList) ∧ Bel w wr) (fun x _ _ => strLenD x)
  case atStart => exact ⟨a, b, rfl, rfl, ha, hb, rfl, Bel.refl _⟩
  case round =>
    obtain ⟨X, Y, rfl, rfl, hX, hY, HL, hbw⟩ := hrel
    by_cases hx : 0 < X.size
    · have ex := Ph.empty_no hx
      by_cases hy : 0 < Y.size
      · have ey := Ph.empty_no hy
        obtain ⟨eX, lX, uX⟩ := Ph.decZ_ne hx
        obtain ⟨eY, lY, uY⟩ := Ph.decZ_ne hy
        have EX := Lib.hid eX
        have EY := Lib.hid eY
        clear eX eY
        go_wp2_with fail
        refine (runes_DecodeD X _ hX).mono ?_
        rintro e w1 ⟨rfl, hb1⟩
        go_wp2_with fail
        refine (runes_DecodeD Y _ hY).mono ?_
        rintro e w2 ⟨rfl, hb2⟩
        have hb3 : Bel w w2 := (hbw.trans hb1).trans hb2
        clear hb1 hb2
        by_cases hne : (Ph.decZ X.data.toList).1 = (Ph.decZ Y.data.toList).1
        · have hne' : (((Ph.decZ X.data.toList).1 : Int) != ((Ph.decZ Y.data.toList).1 : Int)) = false := by rw [hne]; simp
          have HN : Hid (Ph.lessAt a.data.toList b.data.toList X.data.toList Y.data.toList = Ph.lessAt a.data.toList b.data.toList (X.data.toList.drop (Ph.decZ X.data.toList).2) (Y.data.toList.drop (Ph.decZ Y.data.toList).2)) := by
            show _ = _
            rw [Ph.lessAt_eq _ _ _ _ (Ph.ne_of_size hx) (Ph.ne_of_size hy) (by rw [← EX.out, ← EY.out]; exact hne), EX.out, EY.out]
          clear hne
          generalize (Ph.decZ X.data.toList).2 = n at *
          generalize (Ph.decZ Y.data.toList).2 = m at *
          have g1 : (0 : Int) ≤ (n : Int) := by omega
          have g2 : (n : Int) ≤ (X.size : Int) := by omega
          have g3 : (0 : Int) ≤ (m : Int) := by omega
          have g4 : (m : Int) ≤ (Y.size : Int) := by omega
          go_wp2_with fail
          go_quiet (fail)
          go_wp2
          go_roundw
          case rel =>
            have e1 : (X.extract n X.size).size = X.size - n := by simp
            have e2 : (Y.extract m Y.size).size = Y.size - m := by simp
            refine ⟨X.extract n X.size, Y.extract m Y.size, rfl, rfl, by rw [e1]; omega, by rw [e2]; omega, ?_, bel_drewN hb3 _⟩
            show _ = _
            rw [HL.out, HN.out, Ph.extract_drop, Ph.extract_drop]
          case measure =>
            show (X.extract n X.size).size < X.size
            have e1 : (X.extract n X.size).size = X.size - n := by simp
            omega
        · have hne' : (((Ph.decZ X.data.toList).1 : Int) != ((Ph.decZ Y.data.toList).1 : Int)) = true := by rw [bne_iff_ne]; omega
          have HN : Hid (Ph.lessL a.data.toList b.data.toList = decide ((Ph.decZ X.data.toList).1 < (Ph.decZ Y.data.toList).1)) := by
            show _ = _
            rw [HL.out, Ph.lessAt_ne _ _ _ _ (Ph.ne_of_size hx) (Ph.ne_of_size hy) (by rw [← EX.out, ← EY.out]; exact hne), EX.out, EY.out]
          clear hne
          go_wp2
          go_ret
          exact ⟨ret_bool HN.out.symm, hb3⟩
      · have ey := Ph.empty_yes hy
        have HN : Hid (Ph.lessL a.data.toList b.data.toList = false) := by
          show _ = _
          rw [HL.out, Ph.nil_of_size hy, Ph.lessAt_right _ _ _ (Ph.ne_of_size hx)]
        go_wp2
        go_ret
        exact ⟨ret_bool HN.out.symm, hbw⟩
    · have ex := Ph.empty_yes hx
      by_cases hy : 0 < Y.size
      · have ey := Ph.empty_no hy
        have HN : Hid (Ph.lessL a.data.toList b.data.toList = true) := by
          show _ = _
          rw [HL.out, Ph.nil_of_size hx, Ph.lessAt_left _ _ _ (Ph.ne_of_size hy)]
        go_wp2
        go_ret
        exact ⟨ret_bool HN.out.symm, hbw⟩
      · have ey := Ph.empty_yes hy
        have HN : Hid (Ph.lessL a.data.toList b.data.toList = Op.bytesLess a.toList b.toList) := by
          show _ = _
          rw [HL.out, Ph.nil_of_size hx, Ph.nil_of_size hy, Ph.lessAt_none, Ph.bytesLess_toList]
        go_wp2
        go_ret
        exact ⟨ret_bool HN.out.symm, hbw⟩
def cmpK (a b : ByteArray) : Int := if Ph.lessL a.data.toList b.data.toList = true then -1 else if Ph.lessL b.data.toList a.data.toList = true then 1 else 0
set_option maxHeartbeats 800000 in
theorem doc_Keys1 (a b : ByteArray) (w : World) (ha : a.size ≤ 9223372036854775807) (hb : b.size ≤ 9223372036854775807) :
    Calls Tryd.prog 41 #[.string a, .string b] w fun e w' => e = .returned (.int .i64 (cmpK a b)) ∧ Bel w w' := by
  have HC : Hid (cmpK a b = if Ph.lessL a.data.toList b.data.toList = true then -1 else if Ph.lessL b.data.toList a.data.toList = true then 1 else 0) := rfl
  go_enter Tryd.func41, Tryd.ntmps41
  go_wp2_with fail
  refine (runes_LessD a b _ ha hb).mono ?_
  rintro e w1 ⟨rfl, hb1⟩
  cases h1 : Ph.lessL a.data.toList b.data.toList with
  | true =>
    rw [h1] at HC
    go_wp2
    go_ret
    exact ⟨by rw [HC.out]; rfl, hb1⟩
  | false =>
    rw [h1] at HC
    go_wp2_with fail
    refine (runes_LessD b a _ hb ha).mono ?_
    rintro e w2 ⟨rfl, hb2⟩
    cases h2 : Ph.lessL b.data.toList a.data.toList with
    | true =>
      rw [h2] at HC
      go_wp2
      go_ret
      exact ⟨by rw [HC.out]; rfl, hb1.trans hb2⟩
    | false =>
      rw [h2] at HC
      go_wp2
      go_ret
      exact ⟨by rw [HC.out]; rfl, hb1.trans hb2⟩
end Go.Proofs.YtmalklakaalaoaaDoor

set_option linter.unusedVariables false
namespace Go.Sx
open Go.RowKit Go.Sort Go.Proofs
theorem put_cells {α : Type} [Inhabited α] (enc : α → Value) (d d' : Array α) (hd : d'.size = d.size) (ext : List Value) : putCells enc 0 d' ⟨d.toList.map enc ++ ext⟩ = ⟨d'.toList.map enc ++ ext⟩ := by
  apply Array.ext_getElem?
  intro k
  unfold putCells
  simp only [Array.getElem?_mapIdx, List.getElem?_toArray, Nat.zero_le, Nat.zero_add, true_and, Nat.sub_zero]
  by_cases hk : k < d'.size
  · have h1 : k < (d.toList.map enc).length := by simp; omega
    have h2 : k < (d'.toList.map enc).length := by simp; omega
    rw [List.getElem?_append_left h1, List.getElem?_append_left h2, List.getElem?_eq_getElem h1, List.getElem?_eq_getElem h2, Option.map_some, if_pos hk]
    simp [getElem!_pos d' k hk]
  · rw [List.getElem?_append_right (by simp; omega), List.getElem?_append_right (by simp; omega)]
    have e : (d.toList.map enc).length = (d'.toList.map enc).length := by simp [hd]
    rw [e]
    cases ext[k - (d'.toList.map enc).length]? with
    | none => rfl
    | some y => rw [Option.map_some, if_neg hk]
section
variable {α : Type} [Inhabited α] {enc : α → Value} {G g : Nat} {w W : World} {T : TypeId} {R : List Res} {d d' : Array α} {ext : List Value}
theorem Has.sorted (hd : d'.size = d.size) (h : Has G w W (Cells g (d.toList.map enc ++ ext) T :: R)) (m : Nat) (os : Array Obj) : Has G w (sortWorld enc W g 0 m d' os) (Cells g (d'.toList.map enc ++ ext) T :: R) := by
  obtain ⟨F1, h1, ⟨h2, h2'⟩, h3⟩ := h.has.upd (Upd.hd (r' := Cells g (d'.toList.map enc ++ ext) T))
  have hg := h1 g h2
  have hh : (sortWorld enc W g 0 m d' os).heap = W.heap.modify g (onCells (putCells enc 0 d')) ++ os := rfl
  have hsz : W.heap.size ≤ (sortWorld enc W g 0 m d' os).heap.size := by rw [hh]; simp
  have hat : (sortWorld enc W g 0 m d' os).heap[g]? = some (.cells ⟨d'.toList.map enc ++ ext⟩ T (0, 0)) := by
    rw [hh, Array.getElem?_append, if_pos (by simpa using hg.2), Array.getElem?_modify, if_pos rfl, h2', Option.map_some]
    show some (Obj.cells (putCells enc 0 d' ⟨d.toList.map enc ++ ext⟩) T (0, 0)) = _
    rw [put_cells enc d d' hd ext]
  have hne : ∀ b, b < W.heap.size → b ≠ g → (sortWorld enc W g 0 m d' os).heap[b]? = W.heap[b]? := fun b hb hn => by
    rw [hh, Array.getElem?_append, if_pos (by simpa using hb), Array.getElem?_modify, if_neg (fun e => hn e.symm)]
  refine ⟨h.ext.trans ⟨rfl, rfl, rfl, hsz, fun c hc => hne c (by have := hg.1; have := h.globW; omega) (by have := hg.1; omega)⟩, h.glob, h3 _ _ (fun c => c = g) (fun c hc => ⟨hc.1, by have := hc.2; omega⟩) ?_ ?_ ⟨rfl, hat⟩⟩
  · rintro c rfl
    exact ⟨⟨hg.1, by have := hg.2; omega⟩, fun _ => h2⟩
  · intro c hc hn
    exact hne c hc.2 fun e => hn (by rw [e]; exact h2)
theorem Has.holds (h : Has G w W (Cells g (d.toList.map enc ++ ext) T :: R)) : Holds enc W g 0 d := by
  intro j hj
  have hb := (h.block In.hd).1
  have hl : j < (d.toList.map enc).length := by simp; omega
  constructor
  · rw [cell_block hb, Nat.zero_add, List.getElem?_append_left hl, List.getElem?_eq_getElem hl]
    simp [getElem!_pos d j hj]
  · unfold World.frozen?
    simp [hb]
end
end Go.Sx

namespace Go.Proofs
open Go.Shelf
def Tryd.keysD_ren : Go.Shelf.Ren := ⟨fun | 7 => 40 | 10 => 60 | n => n, fun | 23 => 83 | 26 => 9 | 3 => 82 | 28 => 91 | 0 => 0 | 27 => 90 | 33 => 77 | 4 => 4 | n => n, fun | n => n⟩
theorem Tryd.keysD : Go.Proofs.SlLaysZ.n7 Tryd.prog Tryd.keysD_ren := {
  mixed := by kernel_rfl
  f7 := ⟨Tryd.f40.name, by decide, Tryd.func40.trans (congrArg some (by kernel_rfl))⟩
  f10 := ⟨Tryd.f60.name, by decide, Tryd.func60.trans (congrArg some (by kernel_rfl))⟩
  t0 := Tryd.underlying0
  a0 := Tryd.isAgg0
  z0 := Tryd.sizeOf0
  v0 := Tryd.zeroValue0
  t4 := Tryd.underlying4
  a4 := Tryd.isAgg4
  z4 := Tryd.sizeOf4
  v4 := Tryd.zeroValue4
  t23 := Tryd.underlying83
  a23 := Tryd.isAgg83
  z23 := Tryd.sizeOf83
  v23 := Tryd.zeroValue83
  t26 := Tryd.underlying9
  a26 := Tryd.isAgg9
  z26 := Tryd.sizeOf9
  v26 := Tryd.zeroValue9
  t27 := Tryd.underlying90
  a27 := Tryd.isAgg90
  z27 := Tryd.sizeOf90
  v27 := Tryd.zeroValue90
  t28 := Tryd.underlying91
  a28 := Tryd.isAgg91
  z28 := Tryd.sizeOf91
  v28 := Tryd.zeroValue91
  t33 := Tryd.underlying77
  a33 := Tryd.isAgg77
  z33 := Tryd.sizeOf77
  v33 := Tryd.zeroValue77 }
def Tryd.collD_ren : Go.Shelf.Ren := ⟨fun | 8 => 58 | 11 => 70 | n => n, fun | 26 => 9 | 28 => 91 | 24 => 54 | 0 => 0 | 33 => 77 | 4 => 4 | n => n, fun | n => n⟩
theorem Tryd.collD : Go.Proofs.SlLaysZ.n8 Tryd.prog Tryd.collD_ren := {
  mixed := by kernel_rfl
  f8 := ⟨Tryd.f58.name, by decide, Tryd.func58.trans (congrArg some (by kernel_rfl))⟩
  f11 := ⟨Tryd.f70.name, by decide, Tryd.func70.trans (congrArg some (by kernel_rfl))⟩
  t0 := Tryd.underlying0
  a0 := Tryd.isAgg0
  z0 := Tryd.sizeOf0
  v0 := Tryd.zeroValue0
  t24 := Tryd.underlying54
  a24 := Tryd.isAgg54
  z24 := Tryd.sizeOf54
  v24 := Tryd.zeroValue54
  t26 := Tryd.underlying9
  a26 := Tryd.isAgg9
  z26 := Tryd.sizeOf9
  v26 := Tryd.zeroValue9
  t28 := Tryd.underlying91
  a28 := Tryd.isAgg91
  z28 := Tryd.sizeOf91
  v28 := Tryd.zeroValue91
  i26 := by kernel_rfl }
def Tryd.sortD_ren : Go.Shelf.Ren := ⟨fun | 6 => 59 | 15 => 72 | 14 => 71 | 28 => 83 | 29 => 84 | 20 => 75 | 21 => 76 | 22 => 77 | 23 => 78 | 24 => 79 | 25 => 80 | 26 => 81 | 27 => 82 | 46 => 86 | 47 => 87 | 48 => 88 | 49 => 89 | 50 => 90 | 57 => 91 | n => n, fun | 22 => 54 | 24 => 9 | 25 => 94 | 3 => 3 | 39 => 116 | 0 => 0 | 53 => 144 | 55 => 115 | 4 => 4 | 46 => 137 | 45 => 136 | 50 => 141 | 5 => 5 | 9 => 9 | 66 => 151 | 70 => 155 | 76 => 157 | 77 => 158 | n => n, fun | n => n⟩
theorem Tryd.sortD : Go.Proofs.SlLaysF.n6 Tryd.prog Tryd.sortD_ren := {
  mixed := by kernel_rfl
  f6 := ⟨Tryd.f59.name, by decide, Tryd.func59.trans (congrArg some (by kernel_rfl))⟩
  f14 := ⟨Tryd.f71.name, by decide, Tryd.func71.trans (congrArg some (by kernel_rfl))⟩
  f15 := Tryd.func72.trans (congrArg some (by kernel_rfl))
  f20 := ⟨Tryd.f75.name, by decide, Tryd.func75.trans (congrArg some (by kernel_rfl))⟩
  f21 := ⟨Tryd.f76.name, by decide, Tryd.func76.trans (congrArg some (by kernel_rfl))⟩
  f22 := ⟨Tryd.f77.name, by decide, Tryd.func77.trans (congrArg some (by kernel_rfl))⟩
  f23 := ⟨Tryd.f78.name, by decide, Tryd.func78.trans (congrArg some (by kernel_rfl))⟩
  f24 := ⟨Tryd.f79.name, by decide, Tryd.func79.trans (congrArg some (by kernel_rfl))⟩
  f25 := ⟨Tryd.f80.name, by decide, Tryd.func80.trans (congrArg some (by kernel_rfl))⟩
  f26 := ⟨Tryd.f81.name, by decide, Tryd.func81.trans (congrArg some (by kernel_rfl))⟩
  f27 := ⟨Tryd.f82.name, by decide, Tryd.func82.trans (congrArg some (by kernel_rfl))⟩
  f28 := Tryd.func83.trans (congrArg some (by kernel_rfl))
  f29 := Tryd.func84.trans (congrArg some (by kernel_rfl))
  f46 := ⟨Tryd.f86.name, by decide, Tryd.func86.trans (congrArg some (by kernel_rfl))⟩
  f47 := Tryd.func87.trans (congrArg some (by kernel_rfl))
  f48 := Tryd.func88.trans (congrArg some (by kernel_rfl))
  f49 := ⟨Tryd.f89.name, by decide, Tryd.func89.trans (congrArg some (by kernel_rfl))⟩
  f50 := ⟨Tryd.f90.name, by decide, Tryd.func90.trans (congrArg some (by kernel_rfl))⟩
  f57 := ⟨Tryd.f91.name, by decide, Tryd.func91.trans (congrArg some (by kernel_rfl))⟩
  t0 := Tryd.underlying0
  a0 := Tryd.isAgg0
  z0 := Tryd.sizeOf0
  v0 := Tryd.zeroValue0
  t3 := Tryd.underlying3
  a3 := Tryd.isAgg3
  z3 := Tryd.sizeOf3
  v3 := Tryd.zeroValue3
  t4 := Tryd.underlying4
  a4 := Tryd.isAgg4
  z4 := Tryd.sizeOf4
  v4 := Tryd.zeroValue4
  t5 := Tryd.underlying5
  a5 := Tryd.isAgg5
  z5 := Tryd.sizeOf5
  v5 := Tryd.zeroValue5
  t9 := Tryd.underlying9
  a9 := Tryd.isAgg9
  z9 := Tryd.sizeOf9
  v9 := Tryd.zeroValue9
  t22 := Tryd.underlying54
  a22 := Tryd.isAgg54
  z22 := Tryd.sizeOf54
  v22 := Tryd.zeroValue54
  a24 := Tryd.isAgg9
  z24 := Tryd.sizeOf9
  t25 := Tryd.underlying94
  a25 := Tryd.isAgg94
  z25 := Tryd.sizeOf94
  v25 := Tryd.zeroValue94
  t39 := Tryd.underlying116
  a39 := Tryd.isAgg116
  z39 := Tryd.sizeOf116
  v39 := Tryd.zeroValue116
  t45 := Tryd.underlying136
  a45 := Tryd.isAgg136
  z45 := Tryd.sizeOf136
  v45 := Tryd.zeroValue136
  t46 := Tryd.underlying137
  a46 := Tryd.isAgg137
  z46 := Tryd.sizeOf137
  v46 := Tryd.zeroValue137
  t50 := Tryd.underlying141
  a50 := Tryd.isAgg141
  z50 := Tryd.sizeOf141
  v50 := Tryd.zeroValue141
  t53 := Tryd.underlying144
  a53 := Tryd.isAgg144
  z53 := Tryd.sizeOf144
  v53 := Tryd.zeroValue144
  t55 := Tryd.underlying115
  a55 := Tryd.isAgg115
  z55 := Tryd.sizeOf115
  v55 := Tryd.zeroValue115
  t66 := Tryd.underlying151
  a66 := Tryd.isAgg151
  z66 := Tryd.sizeOf151
  v66 := Tryd.zeroValue151
  t70 := Tryd.underlying155
  a70 := Tryd.isAgg155
  z70 := Tryd.sizeOf155
  v70 := Tryd.zeroValue155
  t76 := Tryd.underlying157
  a76 := Tryd.isAgg157
  z76 := Tryd.sizeOf157
  v76 := Tryd.zeroValue157
  t77 := Tryd.underlying158
  a77 := Tryd.isAgg158
  z77 := Tryd.sizeOf158
  v77 := Tryd.zeroValue158 }
end Go.Proofs

set_option linter.unusedVariables false
set_option maxRecDepth 10000
namespace Go.Proofs.YtmalklakaalaoaaDoor.Sw
open Go.RowKit Go.Sx Go.Sort Go.Proofs
abbrev KA := {s : ByteArray // s.size ≤ 1000000}
instance : Inhabited KA := ⟨⟨ByteArray.empty, Nat.zero_le _⟩⟩
def encA (x : KA) : Value := .string x.1
def cfA (x y : KA) : Int := cmpK x.1 y.1
theorem lt_A (x y : KA) : ltOf cfA x y = lessK x.1 y.1 := by
  unfold ltOf cfA cmpK lessK
  cases h : Ph.lessL x.1.data.toList y.1.data.toList with
  | true => simp
  | false =>
    rw [if_neg (by simp)]
    split <;> simp
theorem swo_A : SWO (ltOf cfA) := by
  refine ⟨fun x => ?_, fun x y z h1 h2 => ?_, fun x y z h1 h2 => ?_⟩
  · rw [lt_A]; exact lessK_irr _
  · rw [lt_A] at *; exact lessK_trans h1 h2
  · rw [lt_A] at *
    cases h : lessK x.1 z.1 with
    | false => rfl
    | true =>
      by_cases e : x.1 = y.1
      · rw [e, h2] at h; cases h
      · rcases lessK_total e with k | k
        · rw [h1] at k; cases k
        · rw [lessK_trans k h] at h2; cases h2
theorem enc_list (ks : List ByteArray) (hks : ∀ k ∈ ks, k.size ≤ 1000000) : (ks.pmap (fun k h => (⟨k, h⟩ : KA)) hks).toArray.toList.map encA = ks.map Value.string := by
  rw [List.map_pmap]
  exact List.pmap_eq_map ..
theorem sort_keys (w0 W : World) (sv : Value) (ks : List ByteArray) (R : List Res) (hks : ∀ k ∈ ks, k.size ≤ 1000000) (hn : ks.length < 4611686018427387904) (hw : Has 0 w0 W (Own 9 1 sv ks.length (ks.map Value.string) :: R)) :
    Calls Tryd.prog 59 ⟨[sv, .func (.func 41) #[] #[]]⟩ W fun e W' => e = .returned (.tuple #[]) ∧ ∃ ks' : List ByteArray, ks'.Perm ks ∧ ks'.Pairwise (fun a b => lessK b a = false) ∧
      Has 0 w0 W' (Own 9 1 sv ks'.length (ks'.map Value.string) :: R) := by
  obtain ⟨ad, cap, rfl⟩ : ∃ ad cap, sv = .slice ad ks.length cap := by
    obtain ⟨F1, h1, h2, h3⟩ := hw.has
    obtain ⟨_, ⟨e, h0⟩ | ⟨g, cap, cur, e, _⟩⟩ := h2
    · exact ⟨none, 0, by rw [e, h0]⟩
    · exact ⟨_, _, e⟩
  by_cases hz : ks = []
  · subst hz
    exact (AnyF.slices_SortFunc_none { Tryd.sortD with } ad cap (.func (.func 41) #[] #[]) W).mono fun e W' ⟨h1, h2⟩ => ⟨h1, [], List.Perm.refl _, List.Pairwise.nil, by rw [h2]; exact hw⟩
  have hpos : 0 < ks.length := by cases ks with | nil => exact absurd rfl hz | cons => simp
  obtain ⟨g, cur, rfl, ht, hl, hkc, hcm, hw⟩ := hw.open_own hpos
  have he := enc_list ks hks
  have hsz : (ks.pmap (fun k h => (⟨k, h⟩ : KA)) hks).toArray.size = ks.length := by simp
  generalize hd : (ks.pmap (fun k h => (⟨k, h⟩ : KA)) hks).toArray = d at he hsz
  have hcur : cur = d.toList.map encA ++ cur.drop ks.length := by rw [he, ← ht, Nat.mul_one]; exact (List.take_append_drop _ _).symm
  generalize cur.drop ks.length = ext at hcur
  subst hcur
  have hcmp : CmpLays1 Tryd.prog 41 #[] encA cfA g 0 d.size W := by
    intro m os dk hdk x y
    refine (doc_Keys1 x.1 y.1 _ (by have := x.2; omega) (by have := y.2; omega)).mono ?_
    rintro e W' ⟨rfl, hb⟩
    exact ⟨rfl, hb.grown⟩
  have hS := Any.slices_SortFunc (P := Tryd.prog) Tryd.sortD encA (fun _ => rfl) cfA swo_A 41 #[] g 0 cap d W (enters_of Tryd.func41 (by kernel_rfl) rfl) hcmp hw.holds (hw.block In.hd).2.2 (by omega)
  rw [hsz] at hS
  refine Calls.mono hS ?_
  · rintro e W' ⟨rfl, d', n, os, hp, hs, rfl⟩
    have hd' : d'.size = d.size := hp.1
    have hpm : d'.toList.Perm d.toList := by
      have := hp.2.2
      rwa [Array.extract_eq_self_of_le (by omega), Array.extract_eq_self_of_le (by omega)] at this
    have hdk : d.toList.map (·.1) = ks := by
      rw [← hd]
      show List.map _ (List.pmap _ _ _) = _
      rw [List.map_pmap]
      simp
    have hlen : (d'.toList.map (·.1)).length = ks.length := by simp; omega
    refine ⟨rfl, d'.toList.map (·.1), hdk ▸ hpm.map _, ?_, ?_⟩
    · rw [List.pairwise_map, List.pairwise_iff_getElem]
      intro i j hi hj hij
      have h := hs i j (Nat.zero_le _) hij (by simp at hj; omega)
      rw [lt_A, getElem!_pos d' i (by simp at hi; omega), getElem!_pos d' j (by simp at hj; omega)] at h
      simpa using h
    · rw [hlen]
      refine (hw.sorted hd' n os).shut_own ?_ ?_ hkc hcm
      · rw [List.map_map, Nat.mul_one]
        show List.take ks.length (d'.toList.map encA ++ ext) = d'.toList.map encA
        rw [List.take_left']
        simp; omega
      · rw [← hl]; simp [hd']
end Go.Proofs.YtmalklakaalaoaaDoor.Sw

set_option linter.unusedVariables false
namespace Go.Sx
open Go.RowKit Go.Maps
open Go.WideElems (Fit rd rg rd_mk rg_of)
theorem key_str {P : Program} {K : TypeId} (hK : P.underlying K = some .string) {s : ByteArray} (hs : s.size ≤ maxLen) : keyOf P K (.string s) = some (.string s.data.toList) := by
  unfold keyOf
  rw [hK]
  simp [mapKey, hK, hs]
theorem map_owns {P : Program} {K : TypeId} (hK : P.underlying K = some .string) {W : World} {b c : Nat} {es : List Ent} (h : MapAt W b es c) (hn : (es.map (·.k)).Nodup) (hs : ∀ e ∈ es, e.k.size ≤ maxLen) (hl : es.length ≤ maxLen) :
    ∃ D0 : DataW Unit, W.ownsMap P K (fun _ => some (.nil, [])) b es.length D0 ∧ (strKeys D0).Perm (es.map fun e => e.k.data.toList) ∧ Maps.size D0 = es.length := by
  have hrd : ∀ e ∈ es, rd (H := Unit) P K (fun _ => some (.nil, [])) e.raw = some (.string e.k.data.toList, .nil) := fun e he => rd_mk (yv := (.nil, [])) (key_str hK (hs e he)) rfl
  refine ⟨_, ⟨⟨es.map Ent.raw⟩, c, h.at_, ⟨by simpa using hl, ⟨?_, ?_, ?_⟩, ?_⟩, by simp, rfl⟩, ?_, ?_⟩
  · intro x hx
    obtain ⟨e, he, rfl⟩ := List.mem_map.1 hx
    exact h.lt e he
  · show ((es.map Ent.raw).map (·.born)).Nodup
    rw [List.map_map]
    exact h.nodup
  · show ((es.map Ent.raw).map (·.key)).Nodup
    rw [List.map_map]
    have : es.map ((·.key) ∘ Ent.raw) = (es.map (·.k)).map Value.string := by rw [List.map_map]; rfl
    rw [this]
    exact List.Pairwise.map (R := (· ≠ ·)) (S := (· ≠ ·)) Value.string (fun a b hab e => hab (by injection e)) hn
  · intro x hx
    obtain ⟨e, he, rfl⟩ := List.mem_map.1 hx
    exact ⟨_, hrd e he⟩
  · show (List.map (fun p : Lit × DataW Unit => strOf p.1) _).Perm _
    refine ((WideShapes.sorted_perm _).map _).trans ?_
    show (List.map _ (List.map _ (es.map Ent.raw))).Perm _
    rw [List.map_map, List.map_map]
    refine List.Perm.of_eq (List.map_congr_left fun e he => ?_)
    show strOf (rg P K _ e.raw).1 = _
    rw [rg_of (hrd e he)]
    rfl
  · show List.length _ = _
    rw [(WideShapes.sorted_perm _).length_eq]
    simp
end Go.Sx

set_option linter.unusedVariables false
namespace Go.Sx
open Go.RowKit
section
variable {P : Program} {ops : Array Oper} {rest : List Oper} {Q : Exit → Act → World → Prop} {a : Act} {n G : Nat} {L : List (Nat × Value)} {w W W' : World} {R : List Res} {d : Nat} {T S E : TypeId} {p : String} {e : Array Edge} {x y lo hi : Operand} {v : Value} {xs cs : List Value} {k sz : Nat} {i j : Int} {q q' : IntKind} {z : List Value} {H : Fh}
theorem run_slice_rdH {agg : Bool} [sl : Sl P S E] [t : Ty P E agg z] (r : RdH H sz v k xs) (hz : z.length = sz) (l h : Option Value) {i' j' : Nat} (h0 : i' ≤ j') (h1 : j' ≤ k)
    (hl : l = none ∧ i' = 0 ∨ ∃ q, l = some (.int q i')) (hh : h = none ∧ j' = k ∨ ∃ q, h = some (.int q j')) :
    ∃ v', (Instr.sliceAt S v l h none).run P W = .ok v' W ∧ RdH H sz v' (j' - i') ((xs.drop (i' * sz)).take ((j' - i') * sz)) := by
  subst hz
  obtain ⟨hx, ad, cap, rfl, h3, h4, h5⟩ := r
  have hb : ∀ (u : Value) (m y : Nat) (c : BoundsCode) (q : IntKind), u = .int q m → m ≤ y → (Instr.sliceBound u y c).run P W = .ok m W := by
    rintro u m y c q rfl hm
    have : (0 : Int) ≤ (m : Int) ∧ (m : Int) ≤ (y : Int) := ⟨by omega, by omega⟩
    simp only [Instr.sliceBound, asIntOf, Sem.run_bind, Sem.run_pure, Result.andThen_ok]
    rw [if_pos this]
    simp
  have hbs : (Instr.sliceBounds true k cap l h none).run P W = .ok (i', j', cap) W := by
    unfold Instr.sliceBounds
    rcases hh with ⟨rfl, rfl⟩ | ⟨q2, rfl⟩ <;> rcases hl with ⟨rfl, rfl⟩ | ⟨q1, rfl⟩
    · simp
    · simp [hb _ i' j' .sliceB q1 rfl h0]
    · simp [hb _ j' cap .sliceAcap q2 rfl (by omega)]
    · simp [hb _ j' cap .sliceAcap q2 rfl (by omega), hb _ i' j' .sliceB q1 rfl h0]
  refine ⟨.slice (if cap = i' then ad else ad.map (·.add (i' * z.length))) (j' - i') (cap - i'), ?_, ?_, _, _, rfl, by omega, by omega, ?_⟩
  · simp only [Instr.sliceAt, Instr.slice, Sem.run_bind, run_underlying sl.out, Result.andThen_ok, hbs, t.sizeOf, Sem.run_pure]
  · rw [List.length_take, List.length_drop, hx]
    have : (j' - i') * z.length ≤ k * z.length - i' * z.length := by rw [← Nat.sub_mul]; exact Nat.mul_le_mul_right _ (by omega)
    omega
  · rcases h5 with rfl | ⟨b, o, cs, T, zz, rfl, hlt, hc⟩
    · exact .inl (by omega)
    · by_cases hci : cap = i'
      · exact .inl (by omega)
      · refine .inr ⟨b, o + i' * z.length, cs, T, zz, by rw [if_neg hci]; simp [addr_add], hlt, fun m u hu => ?_⟩
        rw [List.getElem?_take] at hu
        split at hu
        · rw [List.getElem?_drop] at hu
          rw [Nat.add_assoc]
          exact hc _ _ hu
        · cases hu
theorem st_sliceH_lo {agg : Bool} [sl : Sl P S E] [t : Ty P E agg z] (hs : Slots a n L) (r : RdH H sz v k xs) (h0 : 0 ≤ i) (h1 : i ≤ k) (hx : ev L x = some v := by with_unfolding_all exact rfl) (hl : ev L lo = some (.int q i) := by with_unfolding_all exact rfl) (hd : Nat.blt d n = true := by with_unfolding_all exact rfl) (hz : z.length = sz := by with_unfolding_all exact rfl)
    (c : ∀ a' v', RdH H sz v' (k - i.toNat) (xs.drop (i.toNat * sz)) → Slots a' n ((d, v') :: L) → wpList P ops Q rest a' W) : wpList P ops Q (⟨some d, .slice S x (some lo) none none, T, p, e, none⟩ :: rest) a W := by
  obtain ⟨m, rfl⟩ := Int.eq_ofNat_of_zero_le h0
  obtain ⟨v', h2, h3⟩ := run_slice_rdH (P := P) (S := S) (W := W) r hz (some (.int q m)) none (i' := m) (j' := k) (by omega) (Nat.le_refl _) (.inr ⟨q, rfl⟩) (.inl ⟨rfl, rfl⟩)
  refine st_value hs hd (v := v') (W' := W) ?_ fun a' hs' => c a' v' ?_ hs'
  · simp only [execOp, Option.map_some, Option.map_none, hs.ev hx, hs.ev hl]
    simp only [Sem.run_bind, h2, Result.andThen_ok]
    rfl
  · rw [List.take_of_length_le (by rw [List.length_drop, r.1, Nat.sub_mul]; omega)] at h3
    simpa using h3
theorem st_min {ts : Array TypeId} (hs : Slots a n L) (hx : ev L x = some (.int q i) := by with_unfolding_all exact rfl) (hy : ev L y = some (.int q' j) := by with_unfolding_all exact rfl) (hd : Nat.blt d n = true := by with_unfolding_all exact rfl)
    (k : ∀ a', Slots a' n ((d, .int q (if j < i then j else i)) :: L) → wpList P ops Q rest a' W) : wpList P ops Q (⟨some d, .call { callee := .builtin .min, args := #[x, y], argTypes := ts }, T, p, e, none⟩ :: rest) a W :=
  st_value hs hd (by simp only [execOp, resolve, invoke, builtin, List.map_toArray, List.map_cons, List.map_nil, hs.ev hx, hs.ev hy, Sem.run_bind, Sem.run_pure, Result.andThen_ok, run_min_int2]) k
theorem Has.freeze_lit {b m : Nat} (h : Has G w W (Cells b cs E :: Fz H :: R)) (hl : cs.length = m * sz) (hm : m ≤ 9223372036854775807) : ∃ H', H.le H' ∧ Has G w W (Fz H' :: R) ∧ RdH H' sz (.slice (some ⟨b, 0, none⟩) m m) m cs := by
  obtain ⟨H', h1, h2, F, ⟨hF, hb⟩, h4⟩ := h.freeze (R' := [])
  exact ⟨H', h1, h2, hl, some ⟨b, 0, none⟩, m, rfl, Nat.le_refl _, hm, .inr ⟨b, 0, ⟨cs⟩, E, (0, 0), rfl, h4 b _ hF hb, fun j x hx => by simpa using hx⟩⟩
end
end Go.Sx

set_option linter.unusedVariables false
set_option maxRecDepth 10000
namespace Go.Sx
open Go.RowKit
theorem Has.newOwn {G : Nat} {w W W' : World} {R : List Res} {E : TypeId} {size n : Nat} {v : Value} {xs : List Value} (h : Has G w W R) (hb : Below W.heap.size W W') (ho : OwnAt (fun b => W.heap.size ≤ b ∧ b < W'.heap.size) W' E size v n xs) : Has G w W' (Own E size v n xs :: R) := by
  have h1 := h.below hb
  refine ⟨h1.ext, h1.glob, _, ?_, ho, ?_⟩
  · rintro b ⟨hb1, hb2⟩
    exact ⟨Nat.le_trans h.globW hb1, hb2⟩
  · refine (h.has.loc fun b hb' => hb.block b hb'.2).mono fun b hb' => ⟨⟨hb'.1, Nat.lt_of_lt_of_le hb'.2 hb.size⟩, by omega⟩
section
variable {P : Program} {W : World}
end
section
variable {P : Program} {ops : Array Oper} {rest : List Oper} {Q : Exit → Act → World → Prop} {a : Act} {n G : Nat} {L : List (Nat × Value)} {w W : World} {R : List Res} {d : Nat} {T S S' E E' : TypeId} {p : String} {e : Array Edge} {x y hi mx : Operand} {v u : Value} {cur xs news : List Value} {g k m len cap size bytes : Nat} {q q' : IntKind} {z : List Value}
end
section
variable {P : Program} {ops : Array Oper} {rest : List Oper} {Q : Exit → Act → World → Prop} {a : Act} {n G : Nat} {L : List (Nat × Value)} {w W : World} {R : List Res} {d : Nat} {T S E : TypeId} {p : String} {e : Array Edge} {x lo : Operand} {g k m cap size : Nat} {q : IntKind} {z cur : List Value} {H : Fh}
end
end Go.Sx

set_option linter.unusedVariables false
set_option maxRecDepth 10000
namespace Go.Proofs.YtmalklakaalaoaaDoor.Sw
open Go.RowKit Go.Sx Go.Sort Go.Proofs Go.Maps
theorem maps_Keys (w0 W : World) (m : Nat) (R : List Res) (hw : Has 0 w0 W R) :
    Calls Tryd.prog 40 ⟨[.map (some m)]⟩ W fun e W' => ∃ q, e = .returned (.func (.func 60) #[] #[.pointer (some ⟨q, 0, none⟩)]) ∧ Has 0 w0 W' (Cells q [.map (some m)] (Tryd.keysD_ren.t 23) :: R) :=
  (callsIn_wide.1 (AnyZ.keys_in Tryd.keysD Fence.wide 5 trivial rfl (some m) W)).mono (by
    rintro e W' ⟨rfl, rfl⟩
    exact ⟨_, rfl, hw.new [.map (some m)] _⟩)
theorem keys_collect (w0 W : World) (q m : Nat) (d : Dm) (R : List Res) (hd : DocOk d) (hw : Has 0 w0 W (Cells q [.map (some m)] (Tryd.keysD_ren.t 23) :: MapOf m (kvOf d) :: R)) :
    Calls Tryd.prog 58 ⟨[.func (.func 60) #[] #[.pointer (some ⟨q, 0, none⟩)]]⟩ W fun e W' => ∃ (sv : Value) (ks : List ByteArray), e = .returned sv ∧ ks.Perm (d.map (·.1)) ∧
      Has 0 w0 W' (Own 9 1 sv ks.length (ks.map Value.string) :: Cells q [.map (some m)] (Tryd.keysD_ren.t 23) :: MapOf m (kvOf d) :: R) := by
  obtain ⟨es, c, hm, he⟩ := hw.map_at (In.tl In.hd)
  have hk : es.map (·.k) = d.map (·.1) := by
    have := congrArg (List.map (·.1)) he
    rw [kvOf_keys] at this
    rw [← this, List.map_map]
    rfl
  have hlen : es.length = d.length := by simpa using congrArg List.length hk
  have hl := hd.len
  have hsz : ∀ e ∈ es, e.k.size ≤ maxLen := by
    intro e he'
    have h1 : e.k ∈ d.map (·.1) := hk ▸ List.mem_map_of_mem he'
    obtain ⟨p, hp, hpe⟩ := List.mem_map.1 h1
    have h2 := (hd.all p hp).key
    rw [hpe] at h2
    exact Nat.le_trans h2 (by decide)
  obtain ⟨D0, ho, hp, hs⟩ := map_owns (P := Tryd.prog) (K := Tryd.keysD_ren.t 26) (by kernel_rfl) hm (by rw [hk]; exact hd.keys) hsz (Nat.le_trans (by omega : es.length ≤ 50) (by decide))
  have hq := hw.block In.hd
  have hseq : SeqGives Fence.wide 3 Tryd.prog (Tryd.keysD_ren.f 10) #[.pointer (some ⟨q, 0, none⟩)] encStr (fun ss => ss.Perm (strKeys D0)) (Maps.size D0) W :=
    AnyZ.keys_gives (ρ := Tryd.keysD_ren) { Tryd.keysD with } Fence.wide _ trivial rfl (by omega) q m es.length D0 W hq.2.2 (by rw [cell_block hq.1]; rfl) ho
  refine (callsIn_wide.1 (AnyZ.collect_in Tryd.collD Fence.wide 5 trivial trivial rfl (by omega) (Tryd.keysD_ren.f 10) #[.pointer (some ⟨q, 0, none⟩)] trivial (enters_of Tryd.func60 (by kernel_rfl) rfl) _ _ (by rw [hs]; exact Nat.le_trans (by omega : es.length ≤ 50) (by decide)) (by rw [hs]; omega) W hseq)).mono ?_
  rintro e W' ⟨v, ss, rfl, hS, hrow, hnil, hb⟩
  have hks : (ss.map fun s => (⟨s.toArray⟩ : ByteArray)).map Value.string = ss.map encStr := by rw [List.map_map]; rfl
  refine ⟨v, ss.map fun s => (⟨s.toArray⟩ : ByteArray), rfl, ?_, ?_⟩
  · refine ((hS.trans hp).map _).trans (List.Perm.of_eq ?_)
    rw [List.map_map, ← hk]
    refine List.map_congr_left fun e _ => ?_
    show (⟨e.k.data.toList.toArray⟩ : ByteArray) = e.k
    simp
  · rw [hks, List.length_map]
    refine hw.newOwn hb ?_
    obtain ⟨h1, h2⟩ := hrow
    refine ⟨h1, h2.imp id ?_⟩
    rintro ⟨g, cap, cur, h3, h4, h5, h6, h7, h8, h9⟩
    exact ⟨g, cap, cur.toList, h3, ⟨h4, (Array.getElem?_eq_some_iff.1 h5).1⟩, h5, h6, h7, by simpa using h8, h9⟩
set_option maxHeartbeats 8000000 in
theorem sorted_keys (w0 W : World) (q m : Nat) (d : Dm) (R : List Res) (hd : DocOk d) (hw : Has 0 w0 W (Cells q [.map (some m)] (Tryd.keysD_ren.t 23) :: MapOf m (kvOf d) :: R)) :
    Calls Tryd.prog 39 ⟨[.func (.func 60) #[] #[.pointer (some ⟨q, 0, none⟩)], .func (.func 41) #[] #[]]⟩ W fun e W' => ∃ (sv : Value) (ks : List ByteArray), e = .returned sv ∧ ks.Perm (d.map (·.1)) ∧ ks.Pairwise (fun a b => lessK b a = false) ∧
      Has 0 w0 W' (Own 9 1 sv ks.length (ks.map Value.string) :: Cells q [.map (some m)] (Tryd.keysD_ren.t 23) :: MapOf m (kvOf d) :: R) := by
  refine enter Tryd.func39 Tryd.ntmps39 rfl rfl fun a hs => ?_
  repeat (first | (refine sxv hs hw ?_; clear hs; intro a hs) | refine sxc hs ?_ | (refine sxa hs hw ?_; clear hs hw; intro a b W hw hs) | (refine sxs hs hw ?_; clear hs hw; intro W hs hw) | ((with_reducible first | refine st_ptrSome hs (k := ?_) | refine st_ptrNone hs (k := ?_)); clear hs; intro a hs))
  refine st_call hs (hc := keys_collect w0 _ q m d _ hd hw) (k := ?_); rintro e0 W1 ⟨sv, ks, rfl, hp, hw1⟩; refine ⟨_, rfl, ?_⟩; clear hs hw; intro a hs; have hw := hw1; clear hw1
  repeat (first | (refine sxv hs hw ?_; clear hs; intro a hs) | refine sxc hs ?_ | (refine sxa hs hw ?_; clear hs hw; intro a b W hw hs) | (refine sxs hs hw ?_; clear hs hw; intro W hs hw) | ((with_reducible first | refine st_ptrSome hs (k := ?_) | refine st_ptrNone hs (k := ?_)); clear hs; intro a hs))
  have hlen : ks.length = d.length := by simpa using hp.length_eq
  have hl := hd.len
  refine st_call hs (hc := sort_keys w0 _ sv ks _ (fun k hk => ?hk) (by omega) hw) (k := ?_)
  case hk =>
    obtain ⟨p, hp', rfl⟩ := List.mem_map.1 (hp.mem_iff.1 hk)
    exact (hd.all p hp').key
  rintro e0 W1 ⟨rfl, ks', hp2, hsr, hw1⟩; refine ⟨_, rfl, ?_⟩; clear hs hw; intro a hs; have hw := hw1; clear hw1
  repeat (first | (refine sxv hs hw ?_; clear hs; intro a hs) | refine sxc hs ?_ | (refine sxa hs hw ?_; clear hs hw; intro a b W hw hs) | (refine sxs hs hw ?_; clear hs hw; intro W hs hw) | ((with_reducible first | refine st_ptrSome hs (k := ?_) | refine st_ptrNone hs (k := ?_)); clear hs; intro a hs))
  exact rt1 hs rfl rfl ⟨_, ks', rfl, hp2.trans hp, hsr, hw⟩
set_option maxHeartbeats 8000000 in
theorem doc_Keys (w0 W : World) (p : Nat) (d : Dm) (R : List Res) (hd : DocFine d) (hw : Has 0 w0 W (DocAt p d :: R)) :
    Calls Tryd.prog 19 ⟨[.pointer (some ⟨p, 0, none⟩)]⟩ W fun e W' => ∃ sv, e = .returned sv ∧ Has 0 w0 W' (Own 9 1 sv d.length (d.map fun x => Value.string x.1) :: DocAt p d :: R) := by
  obtain ⟨m, d', hp, hk, hw⟩ := docOpen hw
  have hd' : DocOk d' := ⟨(dKeys_perm hp).2 hk, by rw [hp.length_eq]; exact hd.ok.len, fun x hx => hd.ok.all x (hp.mem_iff.1 hx)⟩
  refine enter Tryd.func19 Tryd.ntmps19 rfl rfl fun a hs => ?_
  repeat (first | (refine sxv hs hw ?_; clear hs; intro a hs) | refine sxc hs ?_ | (refine sxa hs hw ?_; clear hs hw; intro a b W hw hs) | (refine sxs hs hw ?_; clear hs hw; intro W hs hw) | ((with_reducible first | refine st_ptrSome hs (k := ?_) | refine st_ptrNone hs (k := ?_)); clear hs; intro a hs))
  refine st_call hs (hc := maps_Keys w0 _ m _ hw) (k := ?_); rintro e0 W1 ⟨q, rfl, hw1⟩; refine ⟨_, rfl, ?_⟩; clear hs hw; intro a hs
  have hw : Has 0 w0 W1 (Cells q [.map (some m)] (Tryd.keysD_ren.t 23) :: MapOf m (kvOf d') :: Cells p [.map (some m)] 85 :: R) := hw1.perm (by repeat (first | exact List.Perm.refl _ | refine perm_pick (by repeat (first | exact Pick.hd | apply Pick.tl)) ?_))
  clear hw1
  repeat (first | (refine sxv hs hw ?_; clear hs; intro a hs) | refine sxc hs ?_ | (refine sxa hs hw ?_; clear hs hw; intro a b W hw hs) | (refine sxs hs hw ?_; clear hs hw; intro W hs hw) | ((with_reducible first | refine st_ptrSome hs (k := ?_) | refine st_ptrNone hs (k := ?_)); clear hs; intro a hs))
  refine st_call hs (hc := sorted_keys w0 _ q m d' _ hd' hw) (k := ?_); rintro e0 W2 ⟨sv, ks, rfl, hpk, hsr, hw1⟩; refine ⟨_, rfl, ?_⟩; clear hs hw; intro a hs; have hw := hw1; clear hw1
  have hpd : ks.Perm (d.map (·.1)) := hpk.trans (hp.map _)
  have hks : ks = d.map (·.1) := srt_unique hpd (srt_of_not (hpd.nodup_iff.2 hk) hsr) hd.srt.keys
  subst hks
  repeat (first | (refine sxv hs hw ?_; clear hs; intro a hs) | refine sxc hs ?_ | (refine sxa hs hw ?_; clear hs hw; intro a b W hw hs) | (refine sxs hs hw ?_; clear hs hw; intro W hs hw) | ((with_reducible first | refine st_ptrSome hs (k := ?_) | refine st_ptrNone hs (k := ?_)); clear hs; intro a hs))
  refine rt1 hs rfl rfl ⟨sv, rfl, ?_⟩
  have hw : Has 0 w0 W2 (Cells p [.map (some m)] 85 :: MapOf m (kvOf d') :: Own 9 1 sv (d.map (·.1)).length ((d.map (·.1)).map Value.string) :: R) := (hw.sub (List.Sublist.cons_cons _ (List.Sublist.cons _ (List.Sublist.refl _)))).perm (by repeat (first | exact List.Perm.refl _ | refine perm_pick (by repeat (first | exact Pick.hd | apply Pick.tl)) ?_))
  have hw := (docShut hw hp hk).perm (List.Perm.swap _ _ _)
  rwa [List.length_map, List.map_map] at hw
end Go.Proofs.YtmalklakaalaoaaDoor.Sw

set_option linter.unusedVariables false
set_option maxRecDepth 10000
namespace Go.Proofs.YtmalklakaalaoaaDoor.Sw
open Go.RowKit Go.Sx
set_option maxHeartbeats 8000000 in
theorem doc_Get (w0 W : World) (p : Nat) (d : Dm) (k : ByteArray) (R : List Res) (hw : Has 0 w0 W (DocAt p d :: R)) :
    Calls Tryd.prog 17 ⟨[.pointer (some ⟨p, 0, none⟩), .string k]⟩ W fun e W' => e = .returned (.tuple ⟨[.agg ⟨rawCells (getK d k)⟩, .bool (getK d k).isSome]⟩) ∧ Has 0 w0 W' (DocAt p d :: R) := by
  refine enter Tryd.func17 Tryd.ntmps17 rfl rfl fun a hs => ?_
  repeat (first | (refine sxv hs hw ?_; clear hs; intro a hs) | refine sxc hs ?_ | (refine sxa hs hw ?_; clear hs hw; intro a b W hw hs) | (refine sxs hs hw ?_; clear hs hw; intro W hs hw) | ((with_reducible first | refine st_ptrSome hs (k := ?_) | refine st_ptrNone hs (k := ?_)); clear hs; intro a hs))
  obtain ⟨b4, q4⟩ := nm1 hw; subst q4
  refine st_call hs (hc := doc_has w0 _ p d k _ (hw.perm (List.Perm.swap _ _ _))) (k := ?_); rintro e0 W1 ⟨rfl, hw1⟩; refine ⟨_, rfl, ?_⟩; clear hs hw; intro a hs; have hw := hw1; clear hw1
  cases hg : (getK d k).isSome with
  | false =>
    rw [hg] at hs
    have hn : getK d k = none := by simpa using hg
    repeat (first | (refine sxv hs hw ?_; clear hs; intro a hs) | refine sxc hs ?_ | (refine sxa hs hw ?_; clear hs hw; intro a b W hw hs) | (refine sxs hs hw ?_; clear hs hw; intro W hs hw) | ((with_reducible first | refine st_ptrSome hs (k := ?_) | refine st_ptrNone hs (k := ?_)); clear hs; intro a hs))
    refine rc2 hs rfl rfl hw (In.tl In.hd) rfl rfl ?_
    rw [hn]
    exact ⟨rfl, hw.sub (List.Sublist.cons_cons _ (List.Sublist.cons _ (List.Sublist.refl _)))⟩
  | true =>
    rw [hg] at hs
    obtain ⟨m, d', hp, hk, hw⟩ := docOpen hw
    repeat (first | (refine sxv hs hw ?_; clear hs; intro a hs) | refine sxc hs ?_ | (refine sxa hs hw ?_; clear hs hw; intro a b W hw hs) | (refine sxs hs hw ?_; clear hs hw; intro W hs hw) | ((with_reducible first | refine st_ptrSome hs (k := ?_) | refine st_ptrNone hs (k := ?_)); clear hs; intro a hs))
    refine st_lookup hs (hw := hw) (hz := zeroVal) (c := ?_); clear hs; intro a hs
    rw [dget_kv, getK_perm hp ((dKeys_perm hp).2 hk)] at hs
    repeat (first | (refine sxv hs hw ?_; clear hs; intro a hs) | refine sxc hs ?_ | (refine sxa hs hw ?_; clear hs hw; intro a b W hw hs) | (refine sxs hs hw ?_; clear hs hw; intro W hs hw) | ((with_reducible first | refine st_ptrSome hs (k := ?_) | refine st_ptrNone hs (k := ?_)); clear hs; intro a hs))
    refine st_call hs (hc := Raw_any (getK d k) _) (k := ?_); rintro e0 W1 ⟨rfl, hb⟩; refine ⟨_, rfl, ?_⟩; clear hs; intro a hs; replace hw := hw.below hb; clear hb
    repeat (first | (refine sxv hs hw ?_; clear hs; intro a hs) | refine sxc hs ?_ | (refine sxa hs hw ?_; clear hs hw; intro a b W hw hs) | (refine sxs hs hw ?_; clear hs hw; intro W hs hw) | ((with_reducible first | refine st_ptrSome hs (k := ?_) | refine st_ptrNone hs (k := ?_)); clear hs; intro a hs))
    refine rc2 hs rfl rfl hw (In.tl (In.tl In.hd)) rfl rfl ?_
    exact ⟨rfl, docShut (hw.sub (List.Sublist.cons_cons _ (List.Sublist.cons_cons _ (List.Sublist.cons _ (List.Sublist.refl _))))) hp hk⟩
end Go.Proofs.YtmalklakaalaoaaDoor.Sw

set_option linter.unusedVariables false
set_option maxRecDepth 10000
namespace Go.Sx
open Go.RowKit
section
variable {P : Program} {ops : Array Oper} {rest : List Oper} {Q : Exit → Act → World → Prop} {a : Act} {n : Nat} {L : List (Nat × Value)} {W : World} {d : Nat} {T : TypeId} {p : String} {e : Array Edge}
end
theorem keepB {w W : World} {p : Fh → Prop} {b : Bool} (h : Has 0 w W ((if b = true then Ex (fun H => Fz H :: Fact ((fr w).le H ∧ p H) :: []) else Fz (fr w)) :: [])) : Below w.heap.size w W := by
  cases b with
  | false => exact h.endF In.hd (Fh.le.refl _)
  | true =>
    have h : Has 0 w W (Ex (fun H => Fz H :: Fact ((fr w).le H ∧ p H) :: []) :: []) := h
    obtain ⟨H, h⟩ := Has.open h
    have h : Has 0 w W (Fz H :: Fact ((fr w).le H ∧ p H) :: []) := h
    have h2 := h.told (In.tl In.hd)
    exact h.endF In.hd h2.1
inductive Sel : List Res → List Res → Prop
  | nil {L : List Res} : Sel [] L
  | refl (L : List Res) : Sel L L
  | cons {r : Res} {K L L' : List Res} : Pick r L L' → Sel K L' → Sel (r :: K) L
  | skip {r : Res} {K L : List Res} : Sel K L → Sel K (r :: L)
theorem Sel.perm {K L : List Res} (s : Sel K L) : ∃ M, L.Perm (K ++ M) := by
  induction s with
  | nil => exact ⟨_, List.Perm.refl _⟩
  | refl L => exact ⟨[], by rw [List.append_nil]⟩
  | cons p _ ih =>
    obtain ⟨M, h⟩ := ih
    exact ⟨M, perm_pick p h⟩
  | @skip r K L _ ih =>
    obtain ⟨M, h⟩ := ih
    exact ⟨r :: M, (h.cons r).trans List.perm_middle.symm⟩
theorem Has.sel {G : Nat} {w W : World} {K L : List Res} (h : Has G w W L) (s : Sel K L) : Has G w W K := by
  obtain ⟨M, hp⟩ := s.perm
  exact (h.perm hp).sub (List.sublist_append_left K M)
end Go.Sx

set_option linter.unusedVariables false
namespace Go.Sx
open Go.RowKit
theorem chMap {α : Type} (f : α → Value) : ∀ l : List α, Ch (fun a c => c = [f a]) l (l.map f)
  | [] => rfl
  | a :: l => ⟨[f a], l.map f, rfl, rfl, chMap f l⟩
end Go.Sx

set_option linter.unusedVariables false
set_option maxRecDepth 10000
namespace Go.Proofs.YtmalklakaalaoaaDoor.Sw
open Go.RowKit Go.Sx
-- pieces
theorem getK_at {d : Dm} (hk : dKeys d) {i : Nat} {o : ByteArray × DV} (h : d[i]? = some o) : getK d o.1 = some o.2 := (getK_mem hk).2 (List.mem_of_getElem? h)
end Go.Proofs.YtmalklakaalaoaaDoor.Sw

set_option linter.unusedVariables false
set_option maxRecDepth 10000
namespace Go.Proofs.YtmalklakaalaoaaDoor.Sw
open Go.RowKit Go.Sx
theorem pairs_len : ∀ {m : Dm}, (∀ p ∈ m, PairOk p) → (m.flatMap pairB).length ≤ m.length * 1000300
  | [], _ => by simp
  | p :: m, h => by
    have h1 := pairB_len (h p (by simp))
    have h2 := (h p (by simp)).key
    have h3 := pairs_len (m := m) fun q hq => h q (by simp [hq])
    rw [List.flatMap_cons, List.length_append, List.length_cons]
    omega
def docA (d : Dm) (i : Nat) : List UInt8 := Ph.putI (d.length : Int) ++ (d.take i).flatMap pairB
theorem docA_len {d : Dm} (h : DocOk d) (i : Nat) : (docA d i).length ≤ 60000000 := by
  have h1 := pairs_len (m := d.take i) fun q hq => h.all q (List.mem_of_mem_take hq)
  have h2 := Ph.putI_length_le (d.length : Int)
  have h3 := h.len
  have h4 : (d.take i).length ≤ 50 := by rw [List.length_take]; omega
  unfold docA
  rw [List.length_append]
  omega
theorem docA_all (d : Dm) : docA d d.length = docB d := by unfold docA docB; rw [List.take_length]
theorem docA_next {d : Dm} {i : Nat} {o : ByteArray × DV} (h : d[i]? = some o) : docA d (i + 1) = docA d i ++ Ph.putT o.1.data.toList ++ putR (kindOf (some o.2)) (intIn (some o.2)) (textIn (some o.2)) := by
  unfold docA
  rw [List.take_add_one, h, List.flatMap_append]
  simp [pairB, rawB]
theorem kind_i64 (v : DV) : -9223372036854775808 ≤ kindOf (some v) ∧ kindOf (some v) ≤ 9223372036854775807 := by
  rcases v with n | s
  · exact ⟨(by decide : (-9223372036854775808 : Int) ≤ 1), (by decide : (1 : Int) ≤ 9223372036854775807)⟩
  · exact ⟨(by decide : (-9223372036854775808 : Int) ≤ 2), (by decide : (2 : Int) ≤ 9223372036854775807)⟩
set_option maxHeartbeats 16000000 in
theorem doc_Encode (w0 W : World) (p : Nat) (d : Dm) (R : List Res) (hd : DocFine d) (hw : Has 0 w0 W (DocAt p d :: R)) :
    Calls Tryd.prog 37 ⟨[.pointer (some ⟨p, 0, none⟩)]⟩ W fun e W' => ∃ ad cap, e = .returned (.slice ad (docB d).length cap) ∧ Has 0 w0 W' (Sx.OwnB 5 (.slice ad (docB d).length cap) (docB d) :: DocAt p d :: R) := by
  have hl := hd.ok.len
  obtain ⟨m, d', hp, hk, hw⟩ := docOpen hw
  have hlen : d'.length = d.length := hp.length_eq
  have hlen' : (kvOf d').length = d'.length := by simp [kvOf]
  refine enter Tryd.func37 Tryd.ntmps37 rfl rfl fun a hs => ?_
  repeat (first | (refine sxv hs hw ?_; clear hs; intro a hs) | refine sxc hs ?_ | (refine sxa hs hw ?_; clear hs hw; intro a b W hw hs) | (refine sxs hs hw ?_; clear hs hw; intro W hs hw) | ((with_reducible first | refine st_ptrSome hs (k := ?_) | refine st_ptrNone hs (k := ?_)); clear hs; intro a hs))
  refine st_len_map hs (hw := hw) (c := ?_); clear hs; intro a hs
  rw [hlen', hlen] at hs
  repeat (first | (refine sxv hs hw ?_; clear hs; intro a hs) | refine sxc hs ?_ | (refine sxa hs hw ?_; clear hs hw; intro a b W hw hs) | (refine sxs hs hw ?_; clear hs hw; intro W hs hw) | ((with_reducible first | refine st_ptrSome hs (k := ?_) | refine st_ptrNone hs (k := ?_)); clear hs; intro a hs))
  have hw := hw.nilB 5
  refine st_call hs (hc := num_Put w0 _ (.slice none 0 0) [] (d.length : Int) _ (by omega) (by omega) (by simp) hw) (k := ?_); rintro e0 W1 ⟨ad, cap, rfl, hw1⟩; refine ⟨_, rfl, ?_⟩; clear hs hw; intro a hs; have hw := hw1; clear hw1
  rw [List.nil_append] at hs hw
  repeat (first | (refine sxv hs hw ?_; clear hs; intro a hs) | refine sxc hs ?_ | (refine sxa hs hw ?_; clear hs hw; intro a b W hw hs) | (refine sxs hs hw ?_; clear hs hw; intro W hs hw) | ((with_reducible first | refine st_ptrSome hs (k := ?_) | refine st_ptrNone hs (k := ?_)); clear hs; intro a hs))
  have hw : Has 0 w0 _ (Cells p [.map (some m)] 85 :: MapOf m (kvOf d') :: Sx.OwnB 5 (.slice ad (Ph.putI (d.length : Int)).length cap) (Ph.putI (d.length : Int)) :: R) := hw.perm (by repeat (first | exact List.Perm.refl _ | refine perm_pick (by repeat (first | exact Pick.hd | apply Pick.tl)) ?_))
  have hw := docShut hw hp hk
  clear hp hk hlen hlen'
  refine st_call hs (hc := doc_Keys w0 _ p d _ hd hw) (k := ?_); rintro e0 W1 ⟨kv, rfl, hw1⟩; refine ⟨_, rfl, ?_⟩; clear hs hw; intro a hs; have hw := hw1; clear hw1
  obtain ⟨kad, kcap, rfl⟩ : ∃ kad kcap, kv = .slice kad d.length kcap := by
    obtain ⟨_, ad, cap, e, _⟩ := hw.rd_own In.hd
    exact ⟨ad, cap, e⟩
  obtain ⟨m, d', hp, hk, hw⟩ := docOpen (hw.perm (List.Perm.swap _ _ _))
  repeat (first | (refine sxv hs hw ?_; clear hs; intro a hs) | refine sxc hs ?_ | (refine sxa hs hw ?_; clear hs hw; intro a b W hw hs) | (refine sxs hs hw ?_; clear hs hw; intro W hs hw) | ((with_reducible first | refine st_ptrSome hs (k := ?_) | refine st_ptrNone hs (k := ?_)); clear hs; intro a hs))
  refine st_loop (σ := Nat × Option Addr × Nat) (fun s => [(0, .pointer (some ⟨p, 0, none⟩)), (15, .slice kad d.length kcap), (16, .int .i64 (d.length : Int)), (17, .int .i64 (s.1 : Int)), (3, .slice s.2.1 (docA d s.1).length s.2.2)]) (fun s => Sx.OwnB 5 (.slice s.2.1 (docA d s.1).length s.2.2) (docA d s.1) :: Own 9 1 (.slice kad d.length kcap) d.length (d.map fun x => Value.string x.1) :: Cells p [.map (some m)] 85 :: MapOf m (kvOf d') :: R) (fun s => s.1 ≤ d.length) (fun s => d.length - s.1) (0, ad, cap) (Nat.zero_le _) hs ⟨rfl, rfl, rfl, rfl, by simp only [docA, List.take_zero, List.flatMap_nil, List.append_nil]; rfl, trivial⟩ (by
    have e0 : docA d 0 = Ph.putI (d.length : Int) := by simp [docA]
    simp only [e0]
    exact hw.perm (by repeat (first | exact List.Perm.refl _ | refine perm_pick (by repeat (first | exact Pick.hd | apply Pick.tl)) ?_))) ?_
  clear hs hw
  rintro ⟨i, oad, ocap⟩ a W hi hs hw
  simp only at hi hs hw
  repeat (first | (refine sxv hs hw ?_; clear hs; intro a hs) | refine sxc hs ?_ | (refine sxa hs hw ?_; clear hs hw; intro a b W hw hs) | (refine sxs hs hw ?_; clear hs hw; intro W hs hw) | ((with_reducible first | refine st_ptrSome hs (k := ?_) | refine st_ptrNone hs (k := ?_)); clear hs; intro a hs))
  refine cd_split hs (kt := fun hcc => ?_) (kf := fun hcc => ?_)
  · have hi' : i < d.length := by simpa using hcc
    obtain ⟨o, hoi⟩ : ∃ o, d[i]? = some o := ⟨d[i], List.getElem?_eq_getElem hi'⟩
    have hgk := getK_at hd.ok.keys hoi
    have hpo := hd.ok.all o (List.mem_of_getElem? hoi)
    have hrr := raw_range (k := o.1) (v := o.2) hpo
    have hkk := hpo.key
    have hki := kind_i64 o.2
    have hal := docA_len hd.ok i
    have hal2 := docA_len hd.ok (i + 1)
    have hnx := docA_next hoi
    rw [hnx] at hal2
    simp only [List.length_append] at hal2
    repeat (first | (refine sxv hs hw ?_; clear hs; intro a hs) | refine sxc hs ?_ | (refine sxa hs hw ?_; clear hs hw; intro a b W hw hs) | (refine sxs hs hw ?_; clear hs hw; intro W hs hw) | ((with_reducible first | refine st_ptrSome hs (k := ?_) | refine st_ptrNone hs (k := ?_)); clear hs; intro a hs))
    refine st_index_ch hs (r := hw.rd_own (In.tl In.hd)) (hk := fun _ _ h => by rw [h]; rfl) (ch := chMap (fun x : ByteArray × DV => Value.string x.1) d) (ho := hoi) (hlen := rfl) (c := ?_); clear hs; intro a g off c hc hcl hpc hlt hs
    subst hc
    repeat (first | (refine sxv hs hw ?_; clear hs; intro a hs) | refine sxc hs ?_ | (refine sxa hs hw ?_; clear hs hw; intro a b W hw hs) | (refine sxs hs hw ?_; clear hs hw; intro W hs hw) | ((with_reducible first | refine st_ptrSome hs (k := ?_) | refine st_ptrNone hs (k := ?_)); clear hs; intro a hs))
    refine st_load_at hs (hc := hpc 0 _ rfl) (c := ?_); clear hs hpc; intro a hs
    repeat (first | (refine sxv hs hw ?_; clear hs; intro a hs) | refine sxc hs ?_ | (refine sxa hs hw ?_; clear hs hw; intro a b W hw hs) | (refine sxs hs hw ?_; clear hs hw; intro W hs hw) | ((with_reducible first | refine st_ptrSome hs (k := ?_) | refine st_ptrNone hs (k := ?_)); clear hs; intro a hs))
    refine rg_drawU (σ := Option Addr × Nat) (V := fun u => [.slice oad (docA d i).length ocap, .string o.1, .slice (u 2).1 (docA d i ++ Ph.putT o.1.data.toList).length (u 2).2, .pointer (some ⟨p, 0, none⟩), .pointer (some ⟨p, 0, none⟩), .pointer (some ⟨p, 0 + 0, none⟩), .map (some m), .string o.1, .agg ⟨[vCell (some o.2)]⟩, .agg ⟨rawCells (some o.2)⟩, .slice (u 10).1 (docA d i ++ Ph.putT o.1.data.toList ++ putR (kindOf (some o.2)) (intIn (some o.2)) (textIn (some o.2))).length (u 10).2, .slice (u 11).1 (docA d i ++ Ph.putT o.1.data.toList ++ putR (kindOf (some o.2)) (intIn (some o.2)) (textIn (some o.2))).length (u 11).2])
      (Rs := fun u D => (if D 11 then Sx.OwnB 5 (.slice (u 11).1 (docA d i ++ Ph.putT o.1.data.toList ++ putR (kindOf (some o.2)) (intIn (some o.2)) (textIn (some o.2))).length (u 11).2) (docA d i ++ Ph.putT o.1.data.toList ++ putR (kindOf (some o.2)) (intIn (some o.2)) (textIn (some o.2))) else if D 10 then Sx.OwnB 5 (.slice (u 10).1 (docA d i ++ Ph.putT o.1.data.toList ++ putR (kindOf (some o.2)) (intIn (some o.2)) (textIn (some o.2))).length (u 10).2) (docA d i ++ Ph.putT o.1.data.toList ++ putR (kindOf (some o.2)) (intIn (some o.2)) (textIn (some o.2))) else if D 2 then Sx.OwnB 5 (.slice (u 2).1 (docA d i ++ Ph.putT o.1.data.toList).length (u 2).2) (docA d i ++ Ph.putT o.1.data.toList) else Sx.OwnB 5 (.slice oad (docA d i).length ocap) (docA d i)) :: Own 9 1 (.slice kad d.length kcap) d.length (d.map fun x => Value.string x.1) :: Cells p [.map (some m)] 85 :: MapOf m (kvOf d') :: R) (fun _ => (none, 0)) hs hw (hVu := ?vu_c) (ho := ⟨?_, ?_, ?c2_c, ?_, ?_, ?_, ?_, ?_, ?c8_c, ?c9_c, ?c10_c, ?c11_c, trivial⟩) (k := ?k_c)
    case vu_c =>
      intro u u' j h
      rcases j with _ | _ | _ | _ | _ | _ | _ | _ | _ | _ | _ | _ | j
      all_goals first | rfl | simp [h]
    case c2_c =>
      intro u LD D a W hcl hi hp hs hw
      have hA := Go.Sx.not_done hcl hi 10 (by kernel_rfl)
      have hB := Go.Sx.not_done hcl hA 11 (by kernel_rfl)
      simp only [hi, hA, hB, Bool.false_eq_true, if_false] at hw
      refine st_call hs (hc := num_PutText w0 _ _ (docA d i) o.1 _ (by omega) (by omega) hw) (k := ?_); rintro e0 W1 ⟨ad, cap, rfl, hw1⟩; refine ⟨_, rfl, ?_⟩; clear hs hw; intro a hs; have hw := hw1; clear hw1
      repeat (first | (refine sxv hs hw ?_; clear hs; intro a hs) | refine sxc hs ?_ | (refine sxa hs hw ?_; clear hs hw; intro a b W hw hs) | (refine sxs hs hw ?_; clear hs hw; intro W hs hw) | ((with_reducible first | refine st_ptrSome hs (k := ?_) | refine st_ptrNone hs (k := ?_)); clear hs; intro a hs))
      refine Or.inr ⟨(ad, cap), hs, ?_⟩
      show Has 0 w0 _ ((if (Nat.beq 11 2 || D 11) = true then _ else if (Nat.beq 10 2 || D 10) = true then _ else _) :: _)
      rw [hA, hB]
      exact hw
    case c8_c =>
      intro u LD D a W hcl hi hp hs hw
      refine st_lookup hs (hw := hw) (hz := zeroVal) (c := ?_); clear hs; intro a hs
      rw [dget_kv, getK_perm ‹d'.Perm d› ((dKeys_perm ‹d'.Perm d›).2 hk), hgk] at hs
      repeat (first | (refine sxv hs hw ?_; clear hs; intro a hs) | refine sxc hs ?_ | (refine sxa hs hw ?_; clear hs hw; intro a b W hw hs) | (refine sxs hs hw ?_; clear hs hw; intro W hs hw) | ((with_reducible first | refine st_ptrSome hs (k := ?_) | refine st_ptrNone hs (k := ?_)); clear hs; intro a hs))
      exact Or.inl ⟨hs, hw⟩
    case c9_c =>
      intro u LD D a W hcl hi hp hs hw
      refine st_call hs (hc := Raw_any (some o.2) _) (k := ?_); rintro e0 W1 ⟨rfl, hb⟩; refine ⟨_, rfl, ?_⟩; clear hs; intro a hs; replace hw := hw.below hb; clear hb
      repeat (first | (refine sxv hs hw ?_; clear hs; intro a hs) | refine sxc hs ?_ | (refine sxa hs hw ?_; clear hs hw; intro a b W hw hs) | (refine sxs hs hw ?_; clear hs hw; intro W hs hw) | ((with_reducible first | refine st_ptrSome hs (k := ?_) | refine st_ptrNone hs (k := ?_)); clear hs; intro a hs))
      exact Or.inl ⟨hs, hw⟩
    case c10_c =>
      intro u LD D a W hcl hi hp hs hw
      have hB := Go.Sx.not_done hcl hi 11 (by kernel_rfl)
      have h2 := Go.Sx.done hp 2 (by kernel_rfl)
      simp only [hi, h2, hB, Bool.false_eq_true, if_false, if_true] at hw
      refine st_call hs (hc := value_Put w0 _ _ (docA d i ++ Ph.putT o.1.data.toList) (kindOf (some o.2)) (intIn (some o.2)) (textIn (some o.2)) _ hki.1 hki.2 hrr.1.1 hrr.1.2 (by omega) (by rw [List.length_append]; omega) hw) (k := ?_); rintro e0 W1 ⟨ad, cap, rfl, hw1⟩; refine ⟨_, rfl, ?_⟩; clear hs hw; intro a hs; have hw := hw1; clear hw1
      repeat (first | (refine sxv hs hw ?_; clear hs; intro a hs) | refine sxc hs ?_ | (refine sxa hs hw ?_; clear hs hw; intro a b W hw hs) | (refine sxs hs hw ?_; clear hs hw; intro W hs hw) | ((with_reducible first | refine st_ptrSome hs (k := ?_) | refine st_ptrNone hs (k := ?_)); clear hs; intro a hs))
      refine Or.inr ⟨(ad, cap), hs, ?_⟩
      show Has 0 w0 _ ((if (Nat.beq 11 10 || D 11) = true then _ else _) :: _)
      rw [hB]
      exact hw
    case c11_c =>
      intro u LD D a W hcl hi hp hs hw
      have hA := Go.Sx.done hp 10 (by kernel_rfl)
      simp only [hi, hA, Bool.false_eq_true, if_false, if_true] at hw
      repeat (first | (refine sxv hs hw ?_; clear hs; intro a hs) | refine sxc hs ?_ | (refine sxa hs hw ?_; clear hs hw; intro a b W hw hs) | (refine sxs hs hw ?_; clear hs hw; intro W hs hw) | ((with_reducible first | refine st_ptrSome hs (k := ?_) | refine st_ptrNone hs (k := ?_)); clear hs; intro a hs))
      exact Or.inr ⟨u 10, hs, hw⟩
    case k_c =>
      clear hs hw
      intro u a W hs hw
      rw [← hnx] at hs
      simp only [← hnx] at hw
      replace hw : Has 0 w0 W (Sx.OwnB 5 (.slice (u 11).1 (docA d (i + 1)).length (u 11).2) (docA d (i + 1)) :: Own 9 1 (.slice kad d.length kcap) d.length (d.map fun x => Value.string x.1) :: Cells p [.map (some m)] 85 :: MapOf m (kvOf d') :: R) := hw
      replace hs : Slots a 34 [(0, .pointer (some ⟨p, 0, none⟩)), (15, .slice kad d.length kcap), (16, .int .i64 (d.length : Int)), (17, .int .i64 (i : Int)), (3, .slice (u 11).1 (docA d (i + 1)).length (u 11).2)] := hs.of ⟨rfl, rfl, rfl, rfl, rfl, trivial⟩
      generalize (u 11).1 = ad1 at *
      generalize (u 11).2 = cap1 at *
      clear u
      repeat (first | (refine sxv hs hw ?_; clear hs; intro a hs) | refine sxc hs ?_ | (refine sxa hs hw ?_; clear hs hw; intro a b W hw hs) | (refine sxs hs hw ?_; clear hs hw; intro W hs hw) | ((with_reducible first | refine st_ptrSome hs (k := ?_) | refine st_ptrNone hs (k := ?_)); clear hs; intro a hs))
      exact st_again (i + 1, ad1, cap1) hs hw hi' (by show d.length - (i + 1) < d.length - i; omega) ⟨rfl, rfl, rfl, int_eq (by show IntKind.i64.wrap ((i : Int) + 1) = ((i + 1 : Nat) : Int); rw [IntWalk.i64_in _ (by omega)]; omega), rfl, trivial⟩
    all_goals
      intro u LD D a W hcl hi hp hs hw
      repeat (first | (refine sxv hs hw ?_; clear hs; intro a hs) | refine sxc hs ?_ | (refine sxa hs hw ?_; clear hs hw; intro a b W hw hs) | (refine sxs hs hw ?_; clear hs hw; intro W hs hw) | ((with_reducible first | refine st_ptrSome hs (k := ?_) | refine st_ptrNone hs (k := ?_)); clear hs; intro a hs))
      exact Or.inl ⟨hs, hw⟩
  · have hi' : i = d.length := by have : ¬ i < d.length := by simpa using hcc
                                  omega
    subst hi'
    rw [docA_all] at hs hw
    repeat (first | (refine sxv hs hw ?_; clear hs; intro a hs) | refine sxc hs ?_ | (refine sxa hs hw ?_; clear hs hw; intro a b W hw hs) | (refine sxs hs hw ?_; clear hs hw; intro W hs hw) | ((with_reducible first | refine st_ptrSome hs (k := ?_) | refine st_ptrNone hs (k := ?_)); clear hs; intro a hs))
    refine rt1 hs rfl rfl ⟨_, _, rfl, ?_⟩
    have hw : Has 0 w0 _ (Cells p [.map (some m)] 85 :: MapOf m (kvOf d') :: Sx.OwnB 5 (.slice oad (docB d).length ocap) (docB d) :: Own 9 1 (.slice kad d.length kcap) d.length (d.map fun x => Value.string x.1) :: R) := hw.perm (by repeat (first | exact List.Perm.refl _ | refine perm_pick (by repeat (first | exact Pick.hd | apply Pick.tl)) ?_))
    exact ((docShut hw hp hk).sub (List.Sublist.cons_cons _ (List.Sublist.cons_cons _ (List.Sublist.cons _ (List.Sublist.refl _))))).swap2
end Go.Proofs.YtmalklakaalaoaaDoor.Sw

set_option linter.unusedVariables false
set_option maxRecDepth 10000
namespace Go.Sx
open Go.RowKit
def CellsM (b : Nat) (cs : List Value) (T : TypeId) : Res where
  ok F W := F b ∧ W.heap[b]? = some (.cells ⟨cs⟩ T (cs.length, cs.length + 1))
  loc F W W' h := fun ⟨h1, h2⟩ => ⟨h1, (h b h1).trans h2⟩
section
variable {P : Program} {ops : Array Oper} {rest : List Oper} {Q : Exit → Act → World → Prop} {a : Act} {n G : Nat} {L : List (Nat × Value)} {w W W' : World} {R R' : List Res} {d b : Nat} {T S S' E : TypeId} {p : String} {e : Array Edge} {x y : Operand} {v : Value} {cs cs' : List Value} {s : ByteArray} {l : List UInt8}
theorem Has.blockM {R0 : List Res} (h : Has G w W R0) (i : In (CellsM b cs E) R0) : W.heap[b]? = some (.cells ⟨cs⟩ E (cs.length, cs.length + 1)) ∧ G ≤ b ∧ b < W.heap.size := by
  obtain ⟨F, h1, h2⟩ := h.of_in i
  exact ⟨h2.2, h1 b h2.1⟩
theorem cell_m {fr : Nat × Nat} (h : W.heap[b]? = some (.cells ⟨cs⟩ E fr)) (j : Nat) : W.cell? ⟨b, j, none⟩ = cs[j]? := by
  unfold World.cell?
  rw [h]
  simp
theorem st_bytes [t : StrTy P S] [sl : Sl P S' E] [u : IntTy P E .u8] (hs : Slots a n L) (hw : Has G w W R) (hl : s.size ≤ 1000000000) (hx : ev L x = some (.string s) := by with_unfolding_all exact rfl) (hd : Nat.blt d n = true := by with_unfolding_all exact rfl)
    (c : ∀ a' b cap ext W', Has G w W' (CellsM b (bys s.data.toList ++ ext) E :: R) → RdB W' (.slice (some ⟨b, 0, none⟩) s.data.toList.length cap) s.data.toList → Slots a' n ((d, .slice (some ⟨b, 0, none⟩) s.data.toList.length cap) :: L) → wpList P ops Q rest a' W') : wpList P ops Q (⟨some d, .convert S S' x, T, p, e, none⟩ :: rest) a W := by
  have hr := run_bytes_of_string W S S' E s t.out sl.out u.out
  have hge : s.size ≤ grownCap W s.size 0 E := grownCap_ge W s.size 0 E
  have hcm : grownCap W s.size 0 E ≤ maxLen := grownCap_le_maxLen W s.size 0 E (by unfold maxLen; omega)
  generalize grownCap W s.size 0 E = cap at *
  have hsz : s.data.toList.length = s.size := by rw [Array.length_toList]; rfl
  have hrow : bytesRow s cap = ⟨bys s.data.toList ++ List.replicate (cap - s.size) (Value.int .u8 0)⟩ := by
    unfold bytesRow bys
    apply Array.toList_inj.1
    simp
  rw [hrow] at hr
  have hnew := heap_alloc_new W.drew (.cells ⟨bys s.data.toList ++ List.replicate (cap - s.size) (Value.int .u8 0)⟩ E ((bys s.data.toList ++ List.replicate (cap - s.size) (Value.int .u8 0)).length, (bys s.data.toList ++ List.replicate (cap - s.size) (Value.int .u8 0)).length + 1))
  refine st_value hs hd (v := .slice (some ⟨W.heap.size, 0, none⟩) s.data.toList.length cap) (W' := W.drew.alloc (.cells ⟨bys s.data.toList ++ List.replicate (cap - s.size) (Value.int .u8 0)⟩ E ((bys s.data.toList ++ List.replicate (cap - s.size) (Value.int .u8 0)).length, (bys s.data.toList ++ List.replicate (cap - s.size) (Value.int .u8 0)).length + 1))) ?_ fun a' hs' => c a' W.heap.size cap (List.replicate (cap - s.size) (Value.int .u8 0)) _ ((hw.below (Below.refl _ _).drew).newObj ⟨rfl, hnew⟩) ?_ hs'
  · simp only [execOp, hs.ev hx, Sem.run_bind, hr, Result.andThen_ok, hsz]
    rfl
  · refine ⟨by simp, some ⟨W.heap.size, 0, none⟩, cap, rfl, by omega, by unfold maxLen at hcm; omega, .inr ⟨W.heap.size, 0, rfl, lt_of_block hnew, fun j u hj => ?_⟩⟩
    have hnew' : (W.drew.alloc (.cells ⟨bys s.data.toList ++ List.replicate (cap - s.size) (Value.int .u8 0)⟩ E ((bys s.data.toList ++ List.replicate (cap - s.size) (Value.int .u8 0)).length, (bys s.data.toList ++ List.replicate (cap - s.size) (Value.int .u8 0)).length + 1))).heap[W.heap.size]? = _ := hnew
    rw [cell_m hnew', Nat.zero_add]
    have hj2 := (List.getElem?_eq_some_iff.1 hj).1
    rw [List.getElem?_append_left hj2]; exact hj
end
end Go.Sx

set_option linter.unusedVariables false
set_option maxRecDepth 10000
namespace Go.Sx
theorem Has.freezeM {w W : World} {R : List Res} {H : Fh} {b n cap : Nat} {cs xs : List Value} {E : TypeId} (h : Has 0 w W (CellsM b cs E :: Fz H :: R)) (r : Rd W 1 (.slice (some ⟨b, 0, none⟩) n cap) n xs) : ∃ H', H.le H' ∧ Has 0 w W (Fz H' :: R) ∧ RdH H' 1 (.slice (some ⟨b, 0, none⟩) n cap) n xs := by
  have hb := (h.blockM In.hd).1
  obtain ⟨H', h1, h2, F, hF, h4⟩ := h.freeze (R' := [])
  obtain ⟨r1, ad, cp, e, r2, r3, r4⟩ := r
  injection e with e1 e2 e3
  subst e1 e3
  have hFb : F b := hF.1
  refine ⟨H', h1, h2, r1, _, _, rfl, r2, r3, r4.imp id ?_⟩
  rintro ⟨b', o, e, hlt, hc⟩
  injection e with e
  injection e with e1 e2 _
  subst e1 e2
  refine ⟨b, 0, ⟨cs⟩, E, _, rfl, h4 b _ hFb hb, fun j x hj => ?_⟩
  have := hc j x hj
  rw [cell_m hb] at this
  simpa using this
end Go.Sx
namespace Go.Proofs.YtmalklakaalaoaaDoor.Sw
open Go.RowKit Go.Sx
-- pieces
set_option maxHeartbeats 8000000 in
theorem sl_Index (l : List Int) (v : Value) (x : Int) (W : World) (hl : l.length ≤ 1000) (r : Rd W 1 v l.length (l.map (Value.int .i64))) :
    Calls Tryd.prog 55 ⟨[v, .int .i64 x]⟩ W fun e W' => ∃ i : Int, e = .returned (.int .i64 i) ∧ (0 ≤ i ↔ x ∈ l) ∧ Below W.heap.size W W' := by
  have hw := Has.start (G := 0) (w := W) (Nat.zero_le _)
  obtain ⟨sad, scap, rfl⟩ : ∃ ad cap, v = .slice ad l.length cap := by obtain ⟨_, ad, cap, e, _⟩ := r; exact ⟨ad, cap, e⟩
  refine enter Tryd.func55 Tryd.ntmps55 rfl rfl fun a hs => ?_
  repeat (first | (refine sxv hs hw ?_; clear hs; intro a hs) | refine sxc hs ?_ | (refine sxa hs hw ?_; clear hs hw; intro a b W hw hs) | (refine sxs hs hw ?_; clear hs hw; intro W hs hw))
  refine st_loop (σ := Nat) (fun t => [(0, .slice sad l.length scap), (1, .int .i64 x), (7, .int .i64 (l.length : Int)), (8, .int .i64 (t : Int))]) (fun _ => Old W 0 :: []) (fun t => t ≤ l.length ∧ x ∉ l.take t) (fun t => l.length - t) 0 ⟨Nat.zero_le _, by simp⟩ hs ⟨rfl, rfl, rfl, rfl, trivial⟩ hw ?_
  clear hs hw
  rintro i a W2 ⟨hi, hn⟩ hs hw
  repeat (first | (refine sxv hs hw ?_; clear hs; intro a hs) | refine sxc hs ?_ | (refine sxa hs hw ?_; clear hs hw; intro a b W hw hs) | (refine sxs hs hw ?_; clear hs hw; intro W hs hw))
  refine cd_split hs (kt := fun hcc => ?_) (kf := fun hcc => ?_)
  · have hi' : i < l.length := by simpa using hcc
    obtain ⟨o, hoi⟩ : ∃ o, l[i]? = some o := ⟨l[i], List.getElem?_eq_getElem hi'⟩
    repeat (first | (refine sxv hs hw ?_; clear hs; intro a hs) | refine sxc hs ?_ | (refine sxa hs hw ?_; clear hs hw; intro a b W hw hs) | (refine sxs hs hw ?_; clear hs hw; intro W hs hw))
    refine st_index_ch hs (i := i) (r := hw.rd (by repeat (first | exact In.hd | apply In.tl)) hw.ext.size r) (hk := fun _ _ h => by rw [h]; rfl) (ch := chMap (Value.int .i64) l) (ho := hoi) (hlen := rfl) (c := ?_); clear hs; intro a g off c hc hcl hpc hlt hs
    subst hc
    refine st_load_at hs (hc := hpc 0 _ rfl) (c := ?_); clear hs hpc; intro a hs
    repeat (first | (refine sxv hs hw ?_; clear hs; intro a hs) | refine sxc hs ?_ | (refine sxa hs hw ?_; clear hs hw; intro a b W hw hs) | (refine sxs hs hw ?_; clear hs hw; intro W hs hw))
    cases he : (x == o) with
    | true =>
      rw [he] at hs
      repeat (first | (refine sxv hs hw ?_; clear hs; intro a hs) | refine sxc hs ?_ | (refine sxa hs hw ?_; clear hs hw; intro a b W hw hs) | (refine sxs hs hw ?_; clear hs hw; intro W hs hw))
      have : x = o := by simpa using he
      exact rt1 hs rfl rfl ⟨i, rfl, ⟨fun _ => this ▸ List.mem_of_getElem? hoi, fun _ => by omega⟩, hw.end (by repeat (first | exact In.hd | apply In.tl))⟩
    | false =>
      rw [he] at hs
      repeat (first | (refine sxv hs hw ?_; clear hs; intro a hs) | refine sxc hs ?_ | (refine sxa hs hw ?_; clear hs hw; intro a b W hw hs) | (refine sxs hs hw ?_; clear hs hw; intro W hs hw))
      have hne : x ≠ o := by simpa using he
      refine st_again (i + 1) hs hw ⟨hi', ?_⟩ (by show l.length - (i + 1) < l.length - i; omega) ⟨rfl, rfl, rfl, int_eq (by show IntKind.i64.wrap ((i : Int) + 1) = ((i + 1 : Nat) : Int); rw [IntWalk.i64_in _ (by omega)]; omega), trivial⟩
      rw [take_of hoi, List.mem_append, List.mem_singleton]
      rintro (h | h)
      · exact hn h
      · exact hne h
  · have hi' : i = l.length := by have : ¬ i < l.length := by simpa using hcc
                                  omega
    subst hi'
    rw [List.take_length] at hn
    repeat (first | (refine sxv hs hw ?_; clear hs; intro a hs) | refine sxc hs ?_ | (refine sxa hs hw ?_; clear hs hw; intro a b W hw hs) | (refine sxs hs hw ?_; clear hs hw; intro W hs hw))
    exact rt1 hs rfl rfl ⟨-1, rfl, ⟨fun h => absurd h (by decide), fun h => absurd h hn⟩, hw.end (by repeat (first | exact In.hd | apply In.tl))⟩
set_option maxHeartbeats 4000000 in
theorem sl_Contains (l : List Int) (v : Value) (x : Int) (W : World) (hl : l.length ≤ 1000) (r : Rd W 1 v l.length (l.map (Value.int .i64))) :
    Calls Tryd.prog 28 ⟨[v, .int .i64 x]⟩ W fun e W' => e = .returned (.bool (decide (x ∈ l))) ∧ Below W.heap.size W W' := by
  have hw := Has.start (G := 0) (w := W) (Nat.zero_le _)
  refine enter Tryd.func28 Tryd.ntmps28 rfl rfl fun a hs => ?_
  repeat (first | (refine sxv hs hw ?_; clear hs; intro a hs) | refine sxc hs ?_ | (refine sxa hs hw ?_; clear hs hw; intro a b W hw hs) | (refine sxs hs hw ?_; clear hs hw; intro W hs hw))
  refine st_call hs (hc := sl_Index l v x _ hl r) (k := ?_); rintro e0 W1 ⟨i, rfl, hi, hb⟩; refine ⟨_, rfl, ?_⟩; clear hs; intro a hs; replace hw := hw.below hb; clear hb
  repeat (first | (refine sxv hs hw ?_; clear hs; intro a hs) | refine sxc hs ?_ | (refine sxa hs hw ?_; clear hs hw; intro a b W hw hs) | (refine sxs hs hw ?_; clear hs hw; intro W hs hw))
  exact rt1 hs rfl rfl ⟨by rw [show decide (i ≥ 0) = decide (x ∈ l) from decide_eq_decide.2 hi], hw.end (by repeat (first | exact In.hd | apply In.tl))⟩
set_option maxHeartbeats 8000000 in
theorem foldr_num (w0 W : World) (H : Fh) (p : Nat) (sv : Value) (s : List UInt8 × Bool) (R : List Res) (i : In (Fz H) R) (r : RdH H 1 sv s.1.length (bys s.1)) (hw : Has 0 w0 W (Cells p [sv, .bool s.2] 66 :: R)) :
    Calls Tryd.prog 23 ⟨[.pointer (some ⟨p, 0, none⟩)]⟩ W fun e W' => ∃ sv', e = .returned (.int .i64 (Ph.getI s.1).1) ∧ RdH H 1 sv' (rdNum s).1.length (bys (rdNum s).1) ∧ Has 0 w0 W' (Cells p [sv', .bool (rdNum s).2] 66 :: R) := by
  obtain ⟨l, bad⟩ := s
  simp only at r hw
  obtain ⟨sad, scap, rfl⟩ := r.slice
  have hle := Ph.getI_le l
  have hlen := r.len
  refine enter Tryd.func23 Tryd.ntmps23 rfl rfl fun a hs => ?_
  repeat (first | (refine sxv hs hw ?_; clear hs; intro a hs) | refine sxc hs ?_ | (refine sxa hs hw ?_; clear hs hw; intro a b W hw hs) | (refine sxs hs hw ?_; clear hs hw; intro W hs hw) | ((with_reducible first | refine st_ptrSome hs (k := ?_) | refine st_ptrNone hs (k := ?_)); clear hs; intro a hs))
  refine st_call hs (hc := num_Get _ _ l (hw.rdH (In.tl i) r)) (k := ?_); rintro e0 W1 ⟨rfl, rfl⟩; refine ⟨_, rfl, ?_⟩; clear hs; intro a hs
  unfold rdNum tk
  simp only
  generalize Ph.getI l = g at *
  obtain ⟨n, k, er⟩ := g
  simp only at hle hs ⊢
  cases bad with
  | true =>
    repeat (first | (refine sxv hs hw ?_; clear hs; intro a hs) | refine sxc hs ?_ | (refine sxa hs hw ?_; clear hs hw; intro a b W hw hs) | (refine sxs hs hw ?_; clear hs hw; intro W hs hw) | ((with_reducible first | refine st_ptrSome hs (k := ?_) | refine st_ptrNone hs (k := ?_)); clear hs; intro a hs))
    exact rt1 hs rfl rfl ⟨_, rfl, r, hw⟩
  | false =>
  repeat (first | (refine sxv hs hw ?_; clear hs; intro a hs) | refine sxc hs ?_ | (refine sxa hs hw ?_; clear hs hw; intro a b W hw hs) | (refine sxs hs hw ?_; clear hs hw; intro W hs hw) | ((with_reducible first | refine st_ptrSome hs (k := ?_) | refine st_ptrNone hs (k := ?_)); clear hs; intro a hs))
  cases he : (er != 0) with
  | true =>
    rw [he] at hs hw
    repeat (first | (refine sxv hs hw ?_; clear hs; intro a hs) | refine sxc hs ?_ | (refine sxa hs hw ?_; clear hs hw; intro a b W hw hs) | (refine sxs hs hw ?_; clear hs hw; intro W hs hw) | ((with_reducible first | refine st_ptrSome hs (k := ?_) | refine st_ptrNone hs (k := ?_)); clear hs; intro a hs))
    exact rt1 hs rfl rfl ⟨_, rfl, r, hw⟩
  | false =>
    rw [he] at hs hw
    repeat (first | (refine sxv hs hw ?_; clear hs; intro a hs) | refine sxc hs ?_ | (refine sxa hs hw ?_; clear hs hw; intro a b W hw hs) | (refine sxs hs hw ?_; clear hs hw; intro W hs hw) | ((with_reducible first | refine st_ptrSome hs (k := ?_) | refine st_ptrNone hs (k := ?_)); clear hs; intro a hs))
    refine st_sliceH_lo hs (i := (k : Int)) (z := [.int .u8 0]) r (by omega) (by omega) (c := ?_); clear hs; intro a v1 r1 hs
    rw [Int.toNat_natCast, bys_drop, ← List.length_drop] at r1
    obtain ⟨ad1, cap1, rfl⟩ := r1.slice
    repeat (first | (refine sxv hs hw ?_; clear hs; intro a hs) | refine sxc hs ?_ | (refine sxa hs hw ?_; clear hs hw; intro a b W hw hs) | (refine sxs hs hw ?_; clear hs hw; intro W hs hw) | ((with_reducible first | refine st_ptrSome hs (k := ?_) | refine st_ptrNone hs (k := ?_)); clear hs; intro a hs))
    exact rt1 hs rfl rfl ⟨_, rfl, r1, hw⟩
set_option maxHeartbeats 8000000 in
theorem foldr_text (w0 W : World) (H : Fh) (p : Nat) (sv : Value) (s : List UInt8 × Bool) (R : List Res) (i : In (Fz H) R) (r : RdH H 1 sv s.1.length (bys s.1)) (hw : Has 0 w0 W (Cells p [sv, .bool s.2] 66 :: R)) :
    Calls Tryd.prog 25 ⟨[.pointer (some ⟨p, 0, none⟩)]⟩ W fun e W' => ∃ sv', e = .returned (.string ⟨(Ph.getT s.1).1.toArray⟩) ∧ RdH H 1 sv' (rdTxt s).1.length (bys (rdTxt s).1) ∧ Has 0 w0 W' (Cells p [sv', .bool (rdTxt s).2] 66 :: R) := by
  obtain ⟨l, bad⟩ := s
  simp only at r hw
  obtain ⟨sad, scap, rfl⟩ := r.slice
  have hle := getT_le l
  have hlen := r.len
  refine enter Tryd.func25 Tryd.ntmps25 rfl rfl fun a hs => ?_
  repeat (first | (refine sxv hs hw ?_; clear hs; intro a hs) | refine sxc hs ?_ | (refine sxa hs hw ?_; clear hs hw; intro a b W hw hs) | (refine sxs hs hw ?_; clear hs hw; intro W hs hw) | ((with_reducible first | refine st_ptrSome hs (k := ?_) | refine st_ptrNone hs (k := ?_)); clear hs; intro a hs))
  refine st_call hs (hc := num_GetText _ _ l (hw.rdH (In.tl i) r)) (k := ?_); rintro e0 W1 ⟨rfl, rfl⟩; refine ⟨_, rfl, ?_⟩; clear hs; intro a hs
  unfold rdTxt tk
  simp only
  generalize Ph.getT l = g at *
  obtain ⟨n, k, er⟩ := g
  simp only at hle hs ⊢
  cases bad with
  | true =>
    repeat (first | (refine sxv hs hw ?_; clear hs; intro a hs) | refine sxc hs ?_ | (refine sxa hs hw ?_; clear hs hw; intro a b W hw hs) | (refine sxs hs hw ?_; clear hs hw; intro W hs hw) | ((with_reducible first | refine st_ptrSome hs (k := ?_) | refine st_ptrNone hs (k := ?_)); clear hs; intro a hs))
    exact rt1 hs rfl rfl ⟨_, rfl, r, hw⟩
  | false =>
  repeat (first | (refine sxv hs hw ?_; clear hs; intro a hs) | refine sxc hs ?_ | (refine sxa hs hw ?_; clear hs hw; intro a b W hw hs) | (refine sxs hs hw ?_; clear hs hw; intro W hs hw) | ((with_reducible first | refine st_ptrSome hs (k := ?_) | refine st_ptrNone hs (k := ?_)); clear hs; intro a hs))
  cases he : (er != 0) with
  | true =>
    rw [he] at hs hw
    repeat (first | (refine sxv hs hw ?_; clear hs; intro a hs) | refine sxc hs ?_ | (refine sxa hs hw ?_; clear hs hw; intro a b W hw hs) | (refine sxs hs hw ?_; clear hs hw; intro W hs hw) | ((with_reducible first | refine st_ptrSome hs (k := ?_) | refine st_ptrNone hs (k := ?_)); clear hs; intro a hs))
    exact rt1 hs rfl rfl ⟨_, rfl, r, hw⟩
  | false =>
    rw [he] at hs hw
    repeat (first | (refine sxv hs hw ?_; clear hs; intro a hs) | refine sxc hs ?_ | (refine sxa hs hw ?_; clear hs hw; intro a b W hw hs) | (refine sxs hs hw ?_; clear hs hw; intro W hs hw) | ((with_reducible first | refine st_ptrSome hs (k := ?_) | refine st_ptrNone hs (k := ?_)); clear hs; intro a hs))
    refine st_sliceH_lo hs (i := (k : Int)) (z := [.int .u8 0]) r (by omega) (by omega) (c := ?_); clear hs; intro a v1 r1 hs
    rw [Int.toNat_natCast, bys_drop, ← List.length_drop] at r1
    obtain ⟨ad1, cap1, rfl⟩ := r1.slice
    repeat (first | (refine sxv hs hw ?_; clear hs; intro a hs) | refine sxc hs ?_ | (refine sxa hs hw ?_; clear hs hw; intro a b W hw hs) | (refine sxs hs hw ?_; clear hs hw; intro W hs hw) | ((with_reducible first | refine st_ptrSome hs (k := ?_) | refine st_ptrNone hs (k := ?_)); clear hs; intro a hs))
    exact rt1 hs rfl rfl ⟨_, rfl, r1, hw⟩
set_option maxHeartbeats 4000000 in
theorem fold_fine (e : Int) (W : World) : Calls Tryd.prog 27 ⟨[.int .i64 e]⟩ W fun r W' => r = .returned (.bool (fineE e)) ∧ Below W.heap.size W W' := by
  have hw := Has.start (G := 0) (w := W) (Nat.zero_le _)
  unfold fineE
  refine enter Tryd.func27 Tryd.ntmps27 rfl rfl fun a hs => ?_
  repeat (first | (refine sxv hs hw ?_; clear hs; intro a hs) | refine sxc hs ?_ | (refine sxa hs hw ?_; clear hs hw; intro a b W hw hs) | (refine sxs hs hw ?_; clear hs hw; intro W hs hw))
  cases c0 : (e == 0) with
  | true =>
    rw [c0] at hs
    repeat (first | (refine sxv hs hw ?_; clear hs; intro a hs) | refine sxc hs ?_ | (refine sxa hs hw ?_; clear hs hw; intro a b W hw hs) | (refine sxs hs hw ?_; clear hs hw; intro W hs hw))
    exact rt1 hs rfl rfl ⟨rfl, hw.end (by repeat (first | exact In.hd | apply In.tl))⟩
  | false =>
  rw [c0] at hs
  repeat (first | (refine sxv hs hw ?_; clear hs; intro a hs) | refine sxc hs ?_ | (refine sxa hs hw ?_; clear hs hw; intro a b W hw hs) | (refine sxs hs hw ?_; clear hs hw; intro W hs hw))
  cases c1 : (e == 6) with
  | true =>
    rw [c1] at hs
    repeat (first | (refine sxv hs hw ?_; clear hs; intro a hs) | refine sxc hs ?_ | (refine sxa hs hw ?_; clear hs hw; intro a b W hw hs) | (refine sxs hs hw ?_; clear hs hw; intro W hs hw))
    exact rt1 hs rfl rfl ⟨rfl, hw.end (by repeat (first | exact In.hd | apply In.tl))⟩
  | false =>
  rw [c1] at hs
  repeat (first | (refine sxv hs hw ?_; clear hs; intro a hs) | refine sxc hs ?_ | (refine sxa hs hw ?_; clear hs hw; intro a b W hw hs) | (refine sxs hs hw ?_; clear hs hw; intro W hs hw))
  cases c2 : (e == 7) with
  | true =>
    rw [c2] at hs
    repeat (first | (refine sxv hs hw ?_; clear hs; intro a hs) | refine sxc hs ?_ | (refine sxa hs hw ?_; clear hs hw; intro a b W hw hs) | (refine sxs hs hw ?_; clear hs hw; intro W hs hw))
    exact rt1 hs rfl rfl ⟨rfl, hw.end (by repeat (first | exact In.hd | apply In.tl))⟩
  | false =>
  rw [c2] at hs
  repeat (first | (refine sxv hs hw ?_; clear hs; intro a hs) | refine sxc hs ?_ | (refine sxa hs hw ?_; clear hs hw; intro a b W hw hs) | (refine sxs hs hw ?_; clear hs hw; intro W hs hw))
  cases c3 : (e == 8) with
  | true =>
    rw [c3] at hs
    repeat (first | (refine sxv hs hw ?_; clear hs; intro a hs) | refine sxc hs ?_ | (refine sxa hs hw ?_; clear hs hw; intro a b W hw hs) | (refine sxs hs hw ?_; clear hs hw; intro W hs hw))
    exact rt1 hs rfl rfl ⟨rfl, hw.end (by repeat (first | exact In.hd | apply In.tl))⟩
  | false =>
  rw [c3] at hs
  repeat (first | (refine sxv hs hw ?_; clear hs; intro a hs) | refine sxc hs ?_ | (refine sxa hs hw ?_; clear hs hw; intro a b W hw hs) | (refine sxs hs hw ?_; clear hs hw; intro W hs hw))
  exact rt1 hs rfl rfl ⟨by simp, hw.end (by repeat (first | exact In.hd | apply In.tl))⟩
end Go.Proofs.YtmalklakaalaoaaDoor.Sw

set_option linter.unusedVariables false
set_option maxRecDepth 10000
namespace Go.Proofs.YtmalklakaalaoaaDoor.Sw
open Go.RowKit Go.Sx
def accF (f : FoldD) (c : Nat) : List UInt8 := Ph.putI f.place ++ Ph.putT (docB f.d) ++ ((f.told.drop 1).take (c - 1)).flatMap seqB
theorem putT_le2 (l : List UInt8) : (Ph.putT l).length ≤ l.length + 10 := by
  have := Ph.putI_length_le (l.length : Int)
  unfold Ph.putT
  rw [List.length_append]; omega
theorem seqB_len {place : Int} {c : Nat} {x : Int × RowD} (h : x = (0, zeroRow) ∨ (1 ≤ c ∧ ToldFine place c x)) : (seqB x).length ≤ 1300 := by
  have h1 := Ph.putI_length_le x.1
  have h2 := Ph.putI_length_le x.2.place
  have h3 := Ph.putI_length_le x.2.err
  have h4 := putT_le2 (encB x.2.b)
  unfold seqB
  rcases h with rfl | ⟨_, h⟩
  · simp only [List.length_append]
    rw [if_neg (by decide)]
    simp only [List.length_nil]
    have h1 : (Ph.putI 0).length ≤ 10 := h1
    omega
  · have h5 := encB_le h.may
    rw [List.length_append]
    split
    · simp only [List.length_append]; omega
    · simp only [List.length_nil]; omega
theorem accF_len {f : FoldD} (hf : FoldFine f) (c : Nat) : (accF f c).length ≤ 100000 := by
  have h1 := Ph.putI_length_le f.place
  have h2 := putT_le2 (docB f.d)
  have h3 := hf.doc.len
  have h4 : ∀ l : List (Int × RowD), (∀ x ∈ l, (seqB x).length ≤ 1300) → (l.flatMap seqB).length ≤ l.length * 1300 := by
    intro l
    induction l with
    | nil => intro _; simp
    | cons x l ih =>
      intro h
      have a := h x (by simp)
      have b := ih fun y hy => h y (by simp [hy])
      rw [List.flatMap_cons, List.length_append, List.length_cons]; omega
  have h5 := h4 ((f.told.drop 1).take (c - 1)) fun x hx => by
    obtain ⟨i, hi⟩ := List.mem_iff_getElem?.1 (List.mem_of_mem_drop (List.mem_of_mem_take hx))
    exact seqB_len (hf.told i x hi)
  have h6 : ((f.told.drop 1).take (c - 1)).length ≤ 5 := by rw [List.length_take, List.length_drop, hf.six]; omega
  unfold accF
  simp only [List.length_append]
  omega
theorem accF_all {f : FoldD} (hf : FoldFine f) : accF f 6 = foldB f := by
  unfold accF foldB
  rw [List.take_of_length_le (by rw [List.length_drop, hf.six]; decide)]
theorem accF_next {f : FoldD} {c : Nat} (hc : 1 ≤ c) {x : Int × RowD} (hx : f.told[c]? = some x) : accF f (c + 1) = accF f c ++ seqB x := by
  obtain ⟨k, rfl⟩ : ∃ k, c = k + 1 := ⟨c - 1, by omega⟩
  have h : (f.told.drop 1)[k]? = some x := by rw [List.getElem?_drop, Nat.add_comm]; exact hx
  unfold accF
  rw [show k + 1 + 1 - 1 = k + 1 from rfl, show k + 1 - 1 = k from rfl, List.take_add_one, h, List.flatMap_append]
  simp
set_option maxHeartbeats 32000000 in
theorem fold_Encode (w0 W : World) (H : Fh) (p : Nat) (f : FoldD) (R : List Res) (hf : FoldFine f) (hH : (fr w0).le H) (hT : Tabs w0) (hw : Has 0 w0 W (FoldAt H p f :: Fz H :: R)) :
    Calls Tryd.prog 18 ⟨[.pointer (some ⟨p, 0, none⟩)]⟩ W fun e W' => ∃ ad cap, e = .returned (.slice ad (foldB f).length cap) ∧ Has 0 w0 W' (Sx.OwnB 5 (.slice ad (foldB f).length cap) (foldB f) :: FoldAt H p f :: Fz H :: R) := by
  obtain ⟨pd, xs, ht, hw⟩ := foldOpen hw
  have hdl := hf.doc.len
  have hpl := Ph.putI_length_le f.place
  have htl := putT_le2 (docB f.d)
  refine enter Tryd.func18 Tryd.ntmps18 rfl rfl fun a hs => ?_
  repeat (first | (refine sxv hs hw ?_; clear hs; intro a hs) | refine sxc hs ?_ | (refine sxa hs hw ?_; clear hs hw; intro a b W hw hs) | (refine sxs hs hw ?_; clear hs hw; intro W hs hw) | ((with_reducible first | refine st_ptrSome hs (k := ?_) | refine st_ptrNone hs (k := ?_)); clear hs; intro a hs))
  have hw := hw.free.free
  refine rg_drawU (σ := Option Addr × Nat) (V := fun u => [.pointer (some ⟨p, 0, none⟩), .pointer (some ⟨p, 0, none⟩), .pointer (some ⟨p, 0 + 0, none⟩), .int .i64 f.place, (.slice (u 4).1 (Ph.putI f.place).length (u 4).2), .pointer (some ⟨p, 0, none⟩), .pointer (some ⟨p, 0, none⟩), .pointer (some ⟨p, 0 + 1, none⟩), .pointer (some ⟨pd, 0, none⟩), (.slice (u 9).1 (docB f.d).length (u 9).2), .string ⟨(docB f.d).toArray⟩, (.slice (u 11).1 (Ph.putI f.place ++ Ph.putT (docB f.d)).length (u 11).2), (.slice (u 12).1 (Ph.putI f.place ++ Ph.putT (docB f.d)).length (u 12).2)])
    (Rs := fun u D => (if D 12 then Sx.OwnB 5 (.slice (u 12).1 (Ph.putI f.place ++ Ph.putT (docB f.d)).length (u 12).2) (Ph.putI f.place ++ Ph.putT (docB f.d)) else if D 11 then Sx.OwnB 5 (.slice (u 11).1 (Ph.putI f.place ++ Ph.putT (docB f.d)).length (u 11).2) (Ph.putI f.place ++ Ph.putT (docB f.d)) else if D 4 then Sx.OwnB 5 (.slice (u 4).1 (Ph.putI f.place).length (u 4).2) (Ph.putI f.place) else Free) :: (if D 9 then Sx.OwnB 5 (.slice (u 9).1 (docB f.d).length (u 9).2) (docB f.d) else Free) :: Cells p (foldCells f.place pd xs) 61 :: DocAt pd f.d :: Fz H :: R) (fun _ => (none, 0)) hs hw (hVu := ?vu_3) (ho := ⟨?_, ?_, ?_, ?_, ?c4_3, ?_, ?_, ?_, ?_, ?c9_3, ?c10_3, ?c11_3, ?c12_3, trivial⟩) (k := ?k_3)
  case vu_3 =>
    intro u u' j h
    rcases j with _ | _ | _ | _ | _ | _ | _ | _ | _ | _ | _ | _ | _ | j
    all_goals first | rfl | simp [h]
  case c4_3 =>
    intro u LD D a W hcl hi hp hs hw
    have h11 := Go.Sx.not_done hcl hi 11 (by kernel_rfl)
    have h12 := Go.Sx.not_done hcl h11 12 (by kernel_rfl)
    simp only [hi, h11, h12, Bool.false_eq_true, if_false] at hw
    replace hw := hw.nilB 5
    refine st_call hs (hc := num_Put w0 _ _ [] f.place _ (by have := hf.place.1; omega) hf.place.2 (by simp) hw) (k := ?_); rintro e0 W1 ⟨ad, cap, rfl, hw1⟩; refine ⟨_, rfl, ?_⟩; clear hs hw; intro a hs; have hw := hw1; clear hw1
    rw [List.nil_append] at hs hw
    repeat (first | (refine sxv hs hw ?_; clear hs; intro a hs) | refine sxc hs ?_ | (refine sxa hs hw ?_; clear hs hw; intro a b W hw hs) | (refine sxs hs hw ?_; clear hs hw; intro W hs hw) | ((with_reducible first | refine st_ptrSome hs (k := ?_) | refine st_ptrNone hs (k := ?_)); clear hs; intro a hs))
    refine Or.inr ⟨(ad, cap), hs, ?_⟩
    show Has 0 w0 _ ((if (Nat.beq 12 4 || D 12) = true then _ else if (Nat.beq 11 4 || D 11) = true then _ else _) :: _)
    rw [h12, h11]
    exact hw.fill Upd.hd
  case c9_3 =>
    intro u LD D a W hcl hi hp hs hw
    have h11 := Go.Sx.not_done hcl hi 11 (by kernel_rfl)
    have h12 := Go.Sx.not_done hcl h11 12 (by kernel_rfl)
    simp only [hi, h11, h12, Bool.false_eq_true, if_false] at hw
    replace hw : Has 0 w0 W (DocAt pd f.d :: (if D 4 = true then Sx.OwnB 5 (.slice (u 4).1 (Ph.putI f.place).length (u 4).2) (Ph.putI f.place) else Free) :: Free :: Cells p (foldCells f.place pd xs) 61 :: Fz H :: R) := hw.perm (by repeat (first | exact List.Perm.refl _ | refine perm_pick (by repeat (first | exact Pick.hd | apply Pick.tl)) ?_))
    refine st_call hs (hc := doc_Encode w0 _ pd f.d _ hf.doc hw) (k := ?_); rintro e0 W1 ⟨ad, cap, rfl, hw1⟩; refine ⟨_, rfl, ?_⟩; clear hs hw; intro a hs; have hw := hw1; clear hw1
    repeat (first | (refine sxv hs hw ?_; clear hs; intro a hs) | refine sxc hs ?_ | (refine sxa hs hw ?_; clear hs hw; intro a b W hw hs) | (refine sxs hs hw ?_; clear hs hw; intro W hs hw) | ((with_reducible first | refine st_ptrSome hs (k := ?_) | refine st_ptrNone hs (k := ?_)); clear hs; intro a hs))
    refine Or.inr ⟨(ad, cap), hs, ?_⟩
    show Has 0 w0 _ ((if (Nat.beq 12 9 || D 12) = true then _ else if (Nat.beq 11 9 || D 11) = true then _ else _) :: _)
    rw [h12, h11]
    replace hw := hw.fill (Upd.tl (Upd.tl Upd.hd))
    exact hw.perm (by repeat (first | exact List.Perm.refl _ | refine perm_pick (by repeat (first | exact Pick.hd | apply Pick.tl)) ?_))
  case c10_3 =>
    intro u LD D a W hcl hi hp hs hw
    have h9 := Go.Sx.done hp 9 (by kernel_rfl)
    have hw0 := hw
    simp only [h9, if_true] at hw
    refine st_string_b hs (r := hw.rd_own (In.tl In.hd)) (k := ?_); clear hs; intro a hs
    repeat (first | (refine sxv hs hw ?_; clear hs; intro a hs) | refine sxc hs ?_ | (refine sxa hs hw ?_; clear hs hw; intro a b W hw hs) | (refine sxs hs hw ?_; clear hs hw; intro W hs hw) | ((with_reducible first | refine st_ptrSome hs (k := ?_) | refine st_ptrNone hs (k := ?_)); clear hs; intro a hs))
    exact Or.inl ⟨hs, hw0⟩
  case c11_3 =>
    intro u LD D a W hcl hi hp hs hw
    have h4 := Go.Sx.done hp 4 (by kernel_rfl)
    have h12 := Go.Sx.not_done hcl hi 12 (by kernel_rfl)
    simp only [hi, h4, h12, Bool.false_eq_true, if_false, if_true] at hw
    refine st_call hs (hc := num_PutText w0 _ _ (Ph.putI f.place) ⟨(docB f.d).toArray⟩ _ (by show (docB f.d).toArray.size ≤ _; simp; omega) (by omega) hw) (k := ?_); rintro e0 W1 ⟨ad, cap, rfl, hw1⟩; refine ⟨_, rfl, ?_⟩; clear hs hw; intro a hs; have hw := hw1; clear hw1
    repeat (first | (refine sxv hs hw ?_; clear hs; intro a hs) | refine sxc hs ?_ | (refine sxa hs hw ?_; clear hs hw; intro a b W hw hs) | (refine sxs hs hw ?_; clear hs hw; intro W hs hw) | ((with_reducible first | refine st_ptrSome hs (k := ?_) | refine st_ptrNone hs (k := ?_)); clear hs; intro a hs))
    refine Or.inr ⟨(ad, cap), hs, ?_⟩
    show Has 0 w0 _ ((if (Nat.beq 12 11 || D 12) = true then _ else _) :: _)
    rw [h12]
    exact hw
  case c12_3 =>
    intro u LD D a W hcl hi hp hs hw
    have h11 := Go.Sx.done hp 11 (by kernel_rfl)
    simp only [hi, h11, Bool.false_eq_true, if_false, if_true] at hw
    repeat (first | (refine sxv hs hw ?_; clear hs; intro a hs) | refine sxc hs ?_ | (refine sxa hs hw ?_; clear hs hw; intro a b W hw hs) | (refine sxs hs hw ?_; clear hs hw; intro W hs hw) | ((with_reducible first | refine st_ptrSome hs (k := ?_) | refine st_ptrNone hs (k := ?_)); clear hs; intro a hs))
    exact Or.inr ⟨u 11, hs, hw⟩
  case k_3 =>
    clear hs hw
    intro u a W hs hw
    replace hw : Has 0 w0 W (Sx.OwnB 5 (.slice (u 12).1 (Ph.putI f.place ++ Ph.putT (docB f.d)).length (u 12).2) (Ph.putI f.place ++ Ph.putT (docB f.d)) :: Sx.OwnB 5 (.slice (u 9).1 (docB f.d).length (u 9).2) (docB f.d) :: Cells p (foldCells f.place pd xs) 61 :: DocAt pd f.d :: Fz H :: R) := hw
    replace hw := hw.drop2
    replace hs : Slots a 54 [(0, .pointer (some ⟨p, 0, none⟩)), (3, (.slice (u 12).1 (Ph.putI f.place ++ Ph.putT (docB f.d)).length (u 12).2))] := hs.of ⟨rfl, rfl, trivial⟩
    generalize (u 12).1 = ad0 at *
    generalize (u 12).2 = cap0 at *
    clear u
    repeat (first | (refine sxv hs hw ?_; clear hs; intro a hs) | refine sxc hs ?_ | (refine sxa hs hw ?_; clear hs hw; intro a b W hw hs) | (refine sxs hs hw ?_; clear hs hw; intro W hs hw) | ((with_reducible first | refine st_ptrSome hs (k := ?_) | refine st_ptrNone hs (k := ?_)); clear hs; intro a hs))
    refine st_loop (σ := Value × Nat) (fun s => [(0, .pointer (some ⟨p, 0, none⟩)), (3, s.1), (4, .int .i64 (s.2 : Int))]) (fun s => Sx.OwnB 5 s.1 (accF f s.2) :: Cells p (foldCells f.place pd xs) 61 :: DocAt pd f.d :: Fz H :: R) (fun s => 1 ≤ s.2 ∧ s.2 ≤ 6) (fun s => 6 - s.2) (.slice ad0 (Ph.putI f.place ++ Ph.putT (docB f.d)).length cap0, 1) ⟨by show 1 ≤ 1; decide, by show 1 ≤ 6; decide⟩ hs ⟨rfl, rfl, rfl, trivial⟩ (by rw [show accF f 1 = Ph.putI f.place ++ Ph.putT (docB f.d) from by simp [accF]]; exact hw) ?_
    clear hs hw
    rintro ⟨v, c⟩ a W ⟨hc1, hc6⟩ hs hw
    simp only at hc1 hc6 hs hw
    obtain ⟨ad, cap, rfl⟩ := hw.own_slice
    repeat (first | (refine sxv hs hw ?_; clear hs; intro a hs) | refine sxc hs ?_ | (refine sxa hs hw ?_; clear hs hw; intro a b W hw hs) | (refine sxs hs hw ?_; clear hs hw; intro W hs hw) | ((with_reducible first | refine st_ptrSome hs (k := ?_) | refine st_ptrNone hs (k := ?_)); clear hs; intro a hs))
    refine cd_split hs (kt := fun hcc => ?_) (kf := fun hcc => ?_)
    · have hc5 : c ≤ 5 := by have := of_decide_eq_true hcc; omega
      obtain ⟨x, hx⟩ : ∃ x, f.told[c]? = some x := ⟨f.told[c]'(by rw [hf.six]; omega), List.getElem?_eq_getElem _⟩
      have hfx := hf.told c x hx
      have hsl := seqB_len hfx
      have hal := accF_len hf c
      have hnext := accF_next hc1 hx
      generalize accF f c = acc at *
      obtain ⟨sv, hsv, h6⟩ := told_get ht hx
      obtain ⟨sad, scap, rfl⟩ := hsv.slice
      repeat (first | (refine sxv hs hw ?_; clear hs; intro a hs) | refine sxc hs ?_ | (refine sxa hs hw ?_; clear hs hw; intro a b W hw hs) | (refine sxs hs hw ?_; clear hs hw; intro W hs hw) | ((with_reducible first | refine st_ptrSome hs (k := ?_) | refine st_ptrNone hs (k := ?_)); clear hs; intro a hs))
      refine st_index_arr hs (h0 := by omega) (h1 := by omega) (c := ?_); clear hs; intro a hs
      rw [Int.toNat_natCast] at hs
      repeat (first | (refine sxv hs hw ?_; clear hs; intro a hs) | refine sxc hs ?_ | (refine sxa hs hw ?_; clear hs hw; intro a b W hw hs) | (refine sxs hs hw ?_; clear hs hw; intro W hs hw) | ((with_reducible first | refine st_ptrSome hs (k := ?_) | refine st_ptrNone hs (k := ?_)); clear hs; intro a hs))
      refine st_load_ats (z := ztold) hs (cs := .int .i64 x.1 :: rowCells x.2 (.slice sad x.2.b.l.length scap)) (hc := fun j u hu => ?hcc) (hl := rfl) (c := ?_)
      case hcc =>
        rw [cell_block (hw.block (In.tl In.hd)).1]
        show (foldCells f.place pd xs)[0 + 2 + c * 6 + j]? = _
        rw [show 0 + 2 + c * 6 + j = c * 6 + j + 1 + 1 by omega]
        have h9 := congrArg (fun t => t[j]?) h6
        simp only [cut_eq, List.getElem?_take, List.getElem?_drop] at h9
        rw [hu] at h9
        split at h9
        · simpa [foldCells] using h9
        · cases h9
      clear hs; intro a hs
      repeat (first | (refine sxv hs hw ?_; clear hs; intro a hs) | refine sxc hs ?_ | (refine sxa hs hw ?_; clear hs hw; intro a b W hw hs) | (refine sxs hs hw ?_; clear hs hw; intro W hs hw) | ((with_reducible first | refine st_ptrSome hs (k := ?_) | refine st_ptrNone hs (k := ?_)); clear hs; intro a hs))
      obtain ⟨b5, q5⟩ := nm1 hw; subst q5
      replace hw : Has 0 w0 _ (Sx.OwnB 5 (.slice ad acc.length cap) acc :: Cells b5 (.int .i64 x.1 :: rowCells x.2 (.slice sad x.2.b.l.length scap)) 58 :: Cells p (foldCells f.place pd xs) 61 :: DocAt pd f.d :: Fz H :: R) := hw.perm (by repeat (first | exact List.Perm.refl _ | refine perm_pick (by repeat (first | exact Pick.hd | apply Pick.tl)) ?_))
      have hxi : i64 x.1 := by
        rcases hfx with rfl | ⟨_, e⟩
        · exact ⟨by decide, by decide⟩
        · have := e.ok.q; rw [e.seq]; exact this
      refine st_call hs (hc := num_Put w0 _ _ acc x.1 _ hxi.1 hxi.2 (by omega) hw) (k := ?_); rintro e0 W1 ⟨ad1, cap1, rfl, hw1⟩; refine ⟨_, rfl, ?_⟩; clear hs hw; intro a hs; have hw := hw1; clear hw1
      repeat (first | (refine sxv hs hw ?_; clear hs; intro a hs) | refine sxc hs ?_ | (refine sxa hs hw ?_; clear hs hw; intro a b W hw hs) | (refine sxs hs hw ?_; clear hs hw; intro W hs hw) | ((with_reducible first | refine st_ptrSome hs (k := ?_) | refine st_ptrNone hs (k := ?_)); clear hs; intro a hs))
      rcases hfx with rfl | ⟨_, hfine⟩
      · repeat (first | (refine sxv hs hw ?_; clear hs; intro a hs) | refine sxc hs ?_ | (refine sxa hs hw ?_; clear hs hw; intro a b W hw hs) | (refine sxs hs hw ?_; clear hs hw; intro W hs hw) | ((with_reducible first | refine st_ptrSome hs (k := ?_) | refine st_ptrNone hs (k := ?_)); clear hs; intro a hs))
        rw [show acc ++ Ph.putI ((0 : Int), zeroRow).1 = accF f (c + 1) from by rw [hnext]; simp [seqB]] at hs hw
        exact st_again (_, c + 1) hs (hw.drop2) ⟨by show 1 ≤ c + 1; omega, by show c + 1 ≤ 6; omega⟩ (by show 6 - (c + 1) < 6 - c; omega) ⟨rfl, rfl, int_eq (by show IntKind.i64.wrap ((c : Int) + 1) = ((c + 1 : Nat) : Int); rw [IntWalk.i64_in _ (by omega)]; omega), trivial⟩
      · have hpos := hfine.pos
        have hpi : i64 x.2.place := ⟨by have := hfine.pl.1; omega, by have := hfine.pl.2; have := hf.place.2; omega⟩
        have hei := fineE_i64 hfine.err
        have hel := encB_le hfine.may
        have hok := hfine.ok
        have hmay : mayBatch x.2.b.c x.2.b.q x.2.b.l = true := hfine.may
        have h1l := Ph.putI_length_le x.2.place
        have h2l := putT_le2 (encB x.2.b)
        have h0l := Ph.putI_length_le x.1
        have hnx : accF f (c + 1) = acc ++ Ph.putI x.1 ++ Ph.putI x.2.place ++ Ph.putT (encB x.2.b) ++ Ph.putI x.2.err := by
          rw [hnext]; unfold seqB; rw [if_pos hpos]; simp
        have hl1 : (acc ++ Ph.putI x.1).length ≤ 100010 := by rw [List.length_append]; omega
        rw [show decide (x.1 > 0) = true from decide_eq_true hpos] at hs
        generalize acc ++ Ph.putI x.1 = acc1 at *
        repeat (first | (refine sxv hs hw ?_; clear hs; intro a hs) | refine sxc hs ?_ | (refine sxa hs hw ?_; clear hs hw; intro a b W hw hs) | (refine sxs hs hw ?_; clear hs hw; intro W hs hw) | ((with_reducible first | refine st_ptrSome hs (k := ?_) | refine st_ptrNone hs (k := ?_)); clear hs; intro a hs))
        replace hw : Has 0 w0 _ (Sx.OwnB 5 (.slice ad1 acc1.length cap1) (acc1) :: Free :: Cells b5 (.int .i64 x.1 :: rowCells x.2 (.slice sad x.2.b.l.length scap)) 58 :: Cells p (foldCells f.place pd xs) 61 :: DocAt pd f.d :: Fz H :: R) := hw.free.swap2
        refine rg_drawU (σ := Option Addr × Nat) (V := fun u => [(.slice ad1 acc1.length cap1), .pointer (some ⟨b5, 0 + 1, none⟩), .pointer (some ⟨b5, 0 + 1 + 0, none⟩), .int .i64 x.2.place, (.slice (u 4).1 (acc1 ++ Ph.putI x.2.place).length (u 4).2), .pointer (some ⟨b5, 0 + 1, none⟩), .pointer (some ⟨b5, 0 + 1 + 1, none⟩), .agg ⟨batCells x.2.b (.slice sad x.2.b.l.length scap)⟩, (.slice (u 8).1 (encB x.2.b).length (u 8).2), .string ⟨(encB x.2.b).toArray⟩, (.slice (u 10).1 (acc1 ++ Ph.putI x.2.place ++ Ph.putT (encB x.2.b)).length (u 10).2), (.slice (u 11).1 (acc1 ++ Ph.putI x.2.place ++ Ph.putT (encB x.2.b)).length (u 11).2)])
          (Rs := fun u D => (if D 11 then Sx.OwnB 5 (.slice (u 11).1 (acc1 ++ Ph.putI x.2.place ++ Ph.putT (encB x.2.b)).length (u 11).2) (acc1 ++ Ph.putI x.2.place ++ Ph.putT (encB x.2.b)) else if D 10 then Sx.OwnB 5 (.slice (u 10).1 (acc1 ++ Ph.putI x.2.place ++ Ph.putT (encB x.2.b)).length (u 10).2) (acc1 ++ Ph.putI x.2.place ++ Ph.putT (encB x.2.b)) else if D 4 then Sx.OwnB 5 (.slice (u 4).1 (acc1 ++ Ph.putI x.2.place).length (u 4).2) (acc1 ++ Ph.putI x.2.place) else Sx.OwnB 5 (.slice ad1 acc1.length cap1) (acc1)) :: (if D 8 then Sx.OwnB 5 (.slice (u 8).1 (encB x.2.b).length (u 8).2) (encB x.2.b) else Free) :: Cells b5 (.int .i64 x.1 :: rowCells x.2 (.slice sad x.2.b.l.length scap)) 58 :: Cells p (foldCells f.place pd xs) 61 :: DocAt pd f.d :: Fz H :: R) (fun _ => (none, 0)) hs hw (hVu := ?vu_10) (ho := ⟨?_, ?_, ?_, ?_, ?c4_10, ?_, ?_, ?_, ?c8_10, ?c9_10, ?c10_10, ?c11_10, trivial⟩) (k := ?k_10)
        case vu_10 =>
          intro u u' j h
          rcases j with _ | _ | _ | _ | _ | _ | _ | _ | _ | _ | _ | _ | j
          all_goals first | rfl | simp [h]
        case c4_10 =>
          intro u LD D a W hcl hi hp hs hw
          have h10 := Go.Sx.not_done hcl hi 10 (by kernel_rfl)
          have h11 := Go.Sx.not_done hcl h10 11 (by kernel_rfl)
          simp only [hi, h10, h11, Bool.false_eq_true, if_false] at hw
          refine st_call hs (hc := num_Put w0 _ _ acc1 x.2.place _ hpi.1 hpi.2 (by omega) hw) (k := ?_); rintro e0 W1 ⟨ad, cap, rfl, hw1⟩; refine ⟨_, rfl, ?_⟩; clear hs hw; intro a hs; have hw := hw1; clear hw1
          repeat (first | (refine sxv hs hw ?_; clear hs; intro a hs) | refine sxc hs ?_ | (refine sxa hs hw ?_; clear hs hw; intro a b W hw hs) | (refine sxs hs hw ?_; clear hs hw; intro W hs hw) | ((with_reducible first | refine st_ptrSome hs (k := ?_) | refine st_ptrNone hs (k := ?_)); clear hs; intro a hs))
          refine Or.inr ⟨(ad, cap), hs, ?_⟩
          show Has 0 w0 _ ((if (Nat.beq 11 4 || D 11) = true then _ else if (Nat.beq 10 4 || D 10) = true then _ else _) :: _)
          rw [h11, h10]
          exact hw
        case c8_10 =>
          intro u LD D a W hcl hi hp hs hw
          have h10 := Go.Sx.not_done hcl hi 10 (by kernel_rfl)
          have h11 := Go.Sx.not_done hcl h10 11 (by kernel_rfl)
          simp only [hi, h10, h11, Bool.false_eq_true, if_false] at hw
          refine st_call hs (hc := op_Encode x.2.b.c x.2.b.q x.2.b.l _ _ hok.c hok.q hok.ops (hw.rdH (In.tl (In.tl (In.tl (In.tl (In.tl In.hd))))) hsv) (hT.keep (hw.endF (In.tl (In.tl (In.tl (In.tl (In.tl In.hd))))) hH))) (k := ?_); rintro e0 W1 ⟨ad, cap, rfl, hnil, hw1⟩; refine ⟨_, rfl, ?_⟩; clear hs; intro a hs; replace hw := hw.call hw1; clear hw1
          rw [hmay] at hs hw
          simp only [if_true] at hs hw
          repeat (first | (refine sxv hs hw ?_; clear hs; intro a hs) | refine sxc hs ?_ | (refine sxa hs hw ?_; clear hs hw; intro a b W hw hs) | (refine sxs hs hw ?_; clear hs hw; intro W hs hw) | ((with_reducible first | refine st_ptrSome hs (k := ?_) | refine st_ptrNone hs (k := ?_)); clear hs; intro a hs))
          refine Or.inr ⟨(ad, cap), hs, ?_⟩
          show Has 0 w0 _ ((if (Nat.beq 11 8 || D 11) = true then _ else if (Nat.beq 10 8 || D 10) = true then _ else _) :: _)
          rw [h11, h10]
          exact hw.fill (Upd.tl Upd.hd)
        case c9_10 =>
          intro u LD D a W hcl hi hp hs hw
          have h8 := Go.Sx.done hp 8 (by kernel_rfl)
          have hw0 := hw
          simp only [h8, if_true] at hw
          refine st_string_b hs (r := hw.rd_own (In.tl In.hd)) (k := ?_); clear hs; intro a hs
          repeat (first | (refine sxv hs hw ?_; clear hs; intro a hs) | refine sxc hs ?_ | (refine sxa hs hw ?_; clear hs hw; intro a b W hw hs) | (refine sxs hs hw ?_; clear hs hw; intro W hs hw) | ((with_reducible first | refine st_ptrSome hs (k := ?_) | refine st_ptrNone hs (k := ?_)); clear hs; intro a hs))
          exact Or.inl ⟨hs, hw0⟩
        case c10_10 =>
          intro u LD D a W hcl hi hp hs hw
          have h4 := Go.Sx.done hp 4 (by kernel_rfl)
          have h11 := Go.Sx.not_done hcl hi 11 (by kernel_rfl)
          simp only [hi, h4, h11, Bool.false_eq_true, if_false, if_true] at hw
          refine st_call hs (hc := num_PutText w0 _ _ (acc1 ++ Ph.putI x.2.place) ⟨(encB x.2.b).toArray⟩ _ (by show (encB x.2.b).toArray.size ≤ _; simp; omega) (by rw [List.length_append]; omega) hw) (k := ?_); rintro e0 W1 ⟨ad, cap, rfl, hw1⟩; refine ⟨_, rfl, ?_⟩; clear hs hw; intro a hs; have hw := hw1; clear hw1
          repeat (first | (refine sxv hs hw ?_; clear hs; intro a hs) | refine sxc hs ?_ | (refine sxa hs hw ?_; clear hs hw; intro a b W hw hs) | (refine sxs hs hw ?_; clear hs hw; intro W hs hw) | ((with_reducible first | refine st_ptrSome hs (k := ?_) | refine st_ptrNone hs (k := ?_)); clear hs; intro a hs))
          refine Or.inr ⟨(ad, cap), hs, ?_⟩
          show Has 0 w0 _ ((if (Nat.beq 11 10 || D 11) = true then _ else _) :: _)
          rw [h11]
          exact hw
        case c11_10 =>
          intro u LD D a W hcl hi hp hs hw
          have h10 := Go.Sx.done hp 10 (by kernel_rfl)
          simp only [hi, h10, Bool.false_eq_true, if_false, if_true] at hw
          repeat (first | (refine sxv hs hw ?_; clear hs; intro a hs) | refine sxc hs ?_ | (refine sxa hs hw ?_; clear hs hw; intro a b W hw hs) | (refine sxs hs hw ?_; clear hs hw; intro W hs hw) | ((with_reducible first | refine st_ptrSome hs (k := ?_) | refine st_ptrNone hs (k := ?_)); clear hs; intro a hs))
          exact Or.inr ⟨u 10, hs, hw⟩
        case k_10 =>
          clear hs hw
          intro u a W hs hw
          replace hw : Has 0 w0 W (Sx.OwnB 5 (.slice (u 11).1 (acc1 ++ Ph.putI x.2.place ++ Ph.putT (encB x.2.b)).length (u 11).2) (acc1 ++ Ph.putI x.2.place ++ Ph.putT (encB x.2.b)) :: Sx.OwnB 5 (.slice (u 8).1 (encB x.2.b).length (u 8).2) (encB x.2.b) :: Cells b5 (.int .i64 x.1 :: rowCells x.2 (.slice sad x.2.b.l.length scap)) 58 :: Cells p (foldCells f.place pd xs) 61 :: DocAt pd f.d :: Fz H :: R) := hw
          replace hw := hw.drop2
          replace hs : Slots a 54 [(0, .pointer (some ⟨p, 0, none⟩)), (3, (.slice (u 11).1 (acc1 ++ Ph.putI x.2.place ++ Ph.putT (encB x.2.b)).length (u 11).2)), (4, .int .i64 (c : Int)), (5, .pointer (some ⟨b5, 0, none⟩))] := hs.of ⟨rfl, rfl, rfl, rfl, trivial⟩
          generalize (u 11).1 = ad2 at *
          generalize (u 11).2 = cap2 at *
          clear u
          repeat (first | (refine sxv hs hw ?_; clear hs; intro a hs) | refine sxc hs ?_ | (refine sxa hs hw ?_; clear hs hw; intro a b W hw hs) | (refine sxs hs hw ?_; clear hs hw; intro W hs hw) | ((with_reducible first | refine st_ptrSome hs (k := ?_) | refine st_ptrNone hs (k := ?_)); clear hs; intro a hs))
          refine st_call hs (hc := num_Put w0 _ _ (acc1 ++ Ph.putI x.2.place ++ Ph.putT (encB x.2.b)) x.2.err _ hei.1 hei.2 (by simp only [List.length_append]; omega) hw) (k := ?_); rintro e0 W1 ⟨ad3, cap3, rfl, hw1⟩; refine ⟨_, rfl, ?_⟩; clear hs hw; intro a hs; have hw := hw1; clear hw1
          rw [← hnx] at hs hw
          repeat (first | (refine sxv hs hw ?_; clear hs; intro a hs) | refine sxc hs ?_ | (refine sxa hs hw ?_; clear hs hw; intro a b W hw hs) | (refine sxs hs hw ?_; clear hs hw; intro W hs hw) | ((with_reducible first | refine st_ptrSome hs (k := ?_) | refine st_ptrNone hs (k := ?_)); clear hs; intro a hs))
          exact st_again (_, c + 1) hs (hw.drop2) ⟨by show 1 ≤ c + 1; omega, by show c + 1 ≤ 6; omega⟩ (by show 6 - (c + 1) < 6 - c; omega) ⟨rfl, rfl, int_eq (by show IntKind.i64.wrap ((c : Int) + 1) = ((c + 1 : Nat) : Int); rw [IntWalk.i64_in _ (by omega)]; omega), trivial⟩
        all_goals
          intro u LD D a W hcl hi hp hs hw
          repeat (first | (refine sxv hs hw ?_; clear hs; intro a hs) | refine sxc hs ?_ | (refine sxa hs hw ?_; clear hs hw; intro a b W hw hs) | (refine sxs hs hw ?_; clear hs hw; intro W hs hw) | ((with_reducible first | refine st_ptrSome hs (k := ?_) | refine st_ptrNone hs (k := ?_)); clear hs; intro a hs))
          exact Or.inl ⟨hs, hw⟩
    · have hc : c = 6 := by have := of_decide_eq_false hcc; omega
      subst hc
      rw [accF_all hf] at hs hw
      repeat (first | (refine sxv hs hw ?_; clear hs; intro a hs) | refine sxc hs ?_ | (refine sxa hs hw ?_; clear hs hw; intro a b W hw hs) | (refine sxs hs hw ?_; clear hs hw; intro W hs hw) | ((with_reducible first | refine st_ptrSome hs (k := ?_) | refine st_ptrNone hs (k := ?_)); clear hs; intro a hs))
      have hw : Has 0 w0 _ (Cells p (foldCells f.place pd xs) 61 :: DocAt pd f.d :: Sx.OwnB 5 (.slice ad (foldB f).length cap) (foldB f) :: Fz H :: R) := hw.perm (by repeat (first | exact List.Perm.refl _ | refine perm_pick (by repeat (first | exact Pick.hd | apply Pick.tl)) ?_))
      exact rt1 hs rfl rfl ⟨ad, cap, rfl, (foldShut hw ht).swap2⟩
  all_goals
    intro u LD D a W hcl hi hp hs hw
    repeat (first | (refine sxv hs hw ?_; clear hs; intro a hs) | refine sxc hs ?_ | (refine sxa hs hw ?_; clear hs hw; intro a b W hw hs) | (refine sxs hs hw ?_; clear hs hw; intro W hs hw) | ((with_reducible first | refine st_ptrSome hs (k := ?_) | refine st_ptrNone hs (k := ?_)); clear hs; intro a hs))
    exact Or.inl ⟨hs, hw⟩
set_option maxHeartbeats 8000000 in
theorem fold_Eq (w0 W : World) (H : Fh) (p q : Nat) (f g : FoldD) (R : List Res) (hf : FoldFine f) (hg : FoldFine g) (hH : (fr w0).le H) (hT : Tabs w0) (hw : Has 0 w0 W (FoldAt H p f :: FoldAt H q g :: Fz H :: R)) :
    Calls Tryd.prog 15 ⟨[.pointer (some ⟨p, 0, none⟩), .pointer (some ⟨q, 0, none⟩)]⟩ W fun e W' => e = .returned (.bool (foldB f == foldB g)) ∧ Has 0 w0 W' (FoldAt H p f :: FoldAt H q g :: Fz H :: R) := by
  refine enter Tryd.func15 Tryd.ntmps15 rfl rfl fun a hs => ?_
  repeat (first | (refine sxv hs hw ?_; clear hs; intro a hs) | refine sxc hs ?_ | (refine sxa hs hw ?_; clear hs hw; intro a b W hw hs) | (refine sxs hs hw ?_; clear hs hw; intro W hs hw) | ((with_reducible first | refine st_ptrSome hs (k := ?_) | refine st_ptrNone hs (k := ?_)); clear hs; intro a hs))
  have hw : Has 0 w0 _ (FoldAt H p f :: Fz H :: FoldAt H q g :: R) := hw.perm (by repeat (first | exact List.Perm.refl _ | refine perm_pick (by repeat (first | exact Pick.hd | apply Pick.tl)) ?_))
  refine st_call hs (hc := fold_Encode w0 _ H p f _ hf hH hT hw) (k := ?_); rintro e0 W1 ⟨ad, cap, rfl, hw1⟩; refine ⟨_, rfl, ?_⟩; clear hs hw; intro a hs; have hw := hw1; clear hw1
  repeat (first | (refine sxv hs hw ?_; clear hs; intro a hs) | refine sxc hs ?_ | (refine sxa hs hw ?_; clear hs hw; intro a b W hw hs) | (refine sxs hs hw ?_; clear hs hw; intro W hs hw) | ((with_reducible first | refine st_ptrSome hs (k := ?_) | refine st_ptrNone hs (k := ?_)); clear hs; intro a hs))
  replace hw : Has 0 w0 _ (FoldAt H q g :: Fz H :: Sx.OwnB 5 (.slice ad (foldB f).length cap) (foldB f) :: FoldAt H p f :: R) := hw.perm (by repeat (first | exact List.Perm.refl _ | refine perm_pick (by repeat (first | exact Pick.hd | apply Pick.tl)) ?_))
  refine st_call hs (hc := fold_Encode w0 _ H q g _ hg hH hT hw) (k := ?_); rintro e0 W1 ⟨ad2, cap2, rfl, hw1⟩; refine ⟨_, rfl, ?_⟩; clear hs hw; intro a hs; have hw := hw1; clear hw1
  refine st_call hs (hc := bytes_Equal (foldB f) (foldB g) _ _ _ (hw.rd_own (In.tl (In.tl (In.tl In.hd)))) (hw.rd_own In.hd)) (k := ?_); rintro e0 W1 ⟨rfl, hb⟩; refine ⟨_, rfl, ?_⟩; clear hs; intro a hs; replace hw := hw.below hb; clear hb
  repeat (first | (refine sxv hs hw ?_; clear hs; intro a hs) | refine sxc hs ?_ | (refine sxa hs hw ?_; clear hs hw; intro a b W hw hs) | (refine sxs hs hw ?_; clear hs hw; intro W hs hw) | ((with_reducible first | refine st_ptrSome hs (k := ?_) | refine st_ptrNone hs (k := ?_)); clear hs; intro a hs))
  exact rt1 hs rfl rfl ⟨rfl, hw.sel (by repeat (first | exact Sel.nil | exact Sel.refl _ | refine Sel.cons (by repeat (first | exact Pick.hd | apply Pick.tl)) ?_ | refine Sel.skip ?_))⟩
end Go.Proofs.YtmalklakaalaoaaDoor.Sw

set_option linter.unusedVariables false
set_option maxRecDepth 10000
namespace Go.Proofs.YtmalklakaalaoaaDoor.Sw
open Go.RowKit Go.Sx
-- pieces
abbrev kindV (v : DV) : Int := kindOf (some v)
def ddRes (H : Fh) (w0 : World) (R : List Res) (l : List UInt8) (e : Ending) (W' : World) : Prop :=
  (decDoc l = none ∧ e = .returned (.tuple ⟨[.pointer none, .int .i64 1]⟩) ∧ Has 0 w0 W' R) ∨ ∃ d p, decDoc l = some d ∧ e = .returned (.tuple ⟨[.pointer (some ⟨p, 0, none⟩), .int .i64 0]⟩) ∧ Has 0 w0 W' (DocAt p d :: R)
set_option maxHeartbeats 16000000 in
theorem doc_Decode (w0 W : World) (H : Fh) (l : List UInt8) (v : Value) (R : List Res) (hl : l.length ≤ 1000000) (r : RdH H 1 v l.length (bys l)) (i : In (Fz H) R) (hH : (fr w0).le H) (hT : Tabs w0) (hw : Has 0 w0 W R) :
    Calls Tryd.prog 24 ⟨[v]⟩ W (ddRes H w0 R l) := by
  obtain ⟨sad, scap, rfl⟩ := r.slice
  have hgl := Ph.getI_le l
  have hgr := getI_range l
  refine enter Tryd.func24 Tryd.ntmps24 rfl rfl fun a hs => ?_
  repeat (first | (refine sxv hs hw ?_; clear hs; intro a hs) | refine sxc hs ?_ | (refine sxa hs hw ?_; clear hs hw; intro a b W hw hs) | (refine sxs hs hw ?_; clear hs hw; intro W hs hw))
  refine st_call hs (hc := doc_New w0 _ _ hw) (k := ?_); rintro e0 W1 ⟨p, rfl, hw1⟩; refine ⟨_, rfl, ?_⟩; clear hs hw; intro a hs; have hw := hw1; clear hw1
  repeat (first | (refine sxv hs hw ?_; clear hs; intro a hs) | refine sxc hs ?_ | (refine sxa hs hw ?_; clear hs hw; intro a b W hw hs) | (refine sxs hs hw ?_; clear hs hw; intro W hs hw))
  refine st_call hs (hc := num_Get _ _ l (hw.rdH (In.tl i) r)) (k := ?_); rintro e0 W1 ⟨rfl, rfl⟩; refine ⟨_, rfl, ?_⟩; clear hs; intro a hs
  have hdec : decDoc l = if (Ph.getI l).2.2 = 0 ∧ 0 ≤ (Ph.getI l).1 ∧ (Ph.getI l).1 ≤ 50 then (match rdPairs (Ph.getI l).1.toNat [] (l.drop (Ph.getI l).2.1) with | none => none | some d => if docB d = l then some d else none) else none := rfl
  generalize Ph.getI l = g at *
  obtain ⟨n, at_, er⟩ := g
  simp only at hgl hgr hdec hs
  by_cases he : er = 0
  · subst he
    repeat (first | (refine sxv hs hw ?_; clear hs; intro a hs) | refine sxc hs ?_ | (refine sxa hs hw ?_; clear hs hw; intro a b W hw hs) | (refine sxs hs hw ?_; clear hs hw; intro W hs hw))
    cases c1 : decide (n < 0) with
    | true =>
      rw [c1] at hs
      have g1 := of_decide_eq_true c1
      repeat (first | (refine sxv hs hw ?_; clear hs; intro a hs) | refine sxc hs ?_ | (refine sxa hs hw ?_; clear hs hw; intro a b W hw hs) | (refine sxs hs hw ?_; clear hs hw; intro W hs hw))
      exact rt2 hs rfl rfl rfl (.inl ⟨by rw [hdec, if_neg (by omega)], rfl, hw.sub (List.Sublist.cons _ (List.Sublist.refl _))⟩)
    | false =>
    rw [c1] at hs
    have g1 := of_decide_eq_false c1
    repeat (first | (refine sxv hs hw ?_; clear hs; intro a hs) | refine sxc hs ?_ | (refine sxa hs hw ?_; clear hs hw; intro a b W hw hs) | (refine sxs hs hw ?_; clear hs hw; intro W hs hw))
    cases c2 : decide (n > 50) with
    | true =>
      rw [c2] at hs
      have g2 := of_decide_eq_true c2
      repeat (first | (refine sxv hs hw ?_; clear hs; intro a hs) | refine sxc hs ?_ | (refine sxa hs hw ?_; clear hs hw; intro a b W hw hs) | (refine sxs hs hw ?_; clear hs hw; intro W hs hw))
      exact rt2 hs rfl rfl rfl (.inl ⟨by rw [hdec, if_neg (by omega)], rfl, hw.sub (List.Sublist.cons _ (List.Sublist.refl _))⟩)
    | false =>
    rw [c2] at hs
    have g2 := of_decide_eq_false c2
    rw [if_pos (by omega)] at hdec
    obtain ⟨nn, rfl⟩ : ∃ nn : Nat, n = (nn : Int) := ⟨n.toNat, by omega⟩
    rw [Int.toNat_natCast] at hdec
    repeat (first | (refine sxv hs hw ?_; clear hs; intro a hs) | refine sxc hs ?_ | (refine sxa hs hw ?_; clear hs hw; intro a b W hw hs) | (refine sxs hs hw ?_; clear hs hw; intro W hs hw))
    generalize hR : rdPairs nn [] (l.drop at_) = RR at hdec
    have none_ : ∀ {W : World}, RR = none → Has 0 w0 W R → ddRes H w0 R l (.returned (.tuple ⟨[.pointer none, .int .i64 1]⟩)) W := fun h hw => .inl ⟨by rw [hdec, h], rfl, hw⟩
    refine st_loop (σ := Nat × Dm × Nat) (fun t => [(0, .slice sad l.length scap), (4, .pointer (some ⟨p, 0, none⟩)), (6, .int .i64 (t.2.2 : Int)), (32, .int .i64 (nn : Int)), (33, .int .i64 (t.1 : Int))]) (fun t => DocAt p t.2.1 :: R) (fun t => t.1 ≤ nn ∧ t.2.2 ≤ l.length ∧ rdPairs (nn - t.1) t.2.1 (l.drop t.2.2) = RR) (fun t => nn - t.1) (0, [], at_) ⟨Nat.zero_le _, hgl, hR⟩ hs ⟨rfl, rfl, rfl, rfl, rfl, trivial⟩ hw ?_
    clear hs hw
    rintro ⟨j, d, at2⟩ a W ⟨hj, hat, hrd⟩ hs hw
    simp only at hj hat hrd hs hw
    have hkd := docKeys hw
    repeat (first | (refine sxv hs hw ?_; clear hs; intro a hs) | refine sxc hs ?_ | (refine sxa hs hw ?_; clear hs hw; intro a b W hw hs) | (refine sxs hs hw ?_; clear hs hw; intro W hs hw))
    refine cd_split hs (kt := fun hcc => ?_) (kf := fun hcc => ?_)
    · have hj' : j < nn := by simpa using hcc
      rw [show nn - j = (nn - (j + 1)) + 1 from by omega] at hrd
      simp only [rdPairs] at hrd
      repeat (first | (refine sxv hs hw ?_; clear hs; intro a hs) | refine sxc hs ?_ | (refine sxa hs hw ?_; clear hs hw; intro a b W hw hs) | (refine sxs hs hw ?_; clear hs hw; intro W hs hw))
      refine st_sliceH_lo hs (i := (at2 : Int)) (z := [.int .u8 0]) r (by omega) (by omega) (c := ?_); clear hs; intro a v1 r1 hs
      rw [Int.toNat_natCast, bys_drop, ← List.length_drop] at r1
      have hsl : (l.drop at2).length = l.length - at2 := List.length_drop
      have hsd : ∀ k, (l.drop at2).drop k = l.drop (at2 + k) := fun k => List.drop_drop
      rw [hsd, hsd] at hrd
      generalize l.drop at2 = s at *
      have hkle := getT_le s
      have hksz := getT_size s
      repeat (first | (refine sxv hs hw ?_; clear hs; intro a hs) | refine sxc hs ?_ | (refine sxa hs hw ?_; clear hs hw; intro a b W hw hs) | (refine sxs hs hw ?_; clear hs hw; intro W hs hw))
      refine st_call hs (hc := num_GetText _ _ s (hw.rdH (In.tl i) r1)) (k := ?_); rintro e0 W1 ⟨rfl, rfl⟩; refine ⟨_, rfl, ?_⟩; clear hs; intro a hs
      generalize Ph.getT s = G at *
      obtain ⟨kt, kk, ke⟩ := G
      simp only at hkle hksz hrd hs
      by_cases ke0 : ke = 0
      · subst ke0
        repeat (first | (refine sxv hs hw ?_; clear hs; intro a hs) | refine sxc hs ?_ | (refine sxa hs hw ?_; clear hs hw; intro a b W hw hs) | (refine sxs hs hw ?_; clear hs hw; intro W hs hw))
        refine st_call hs (hc := runes_Key ⟨kt.toArray⟩ _ (by omega) (hT.keep (hw.endF (In.tl i) hH))) (k := ?_); rintro e0 W1 ⟨rfl, hb⟩; refine ⟨_, rfl, ?_⟩; clear hs; intro a hs; replace hw := hw.below hb; clear hb
        have ek : Ph.keyB (⟨kt.toArray⟩ : ByteArray).data.toList = Ph.keyB kt := rfl
        rw [ek] at hs
        cases hK : Ph.keyB kt with
        | false =>
          rw [hK] at hs hrd
          simp only [Bool.and_false] at hrd
          repeat (first | (refine sxv hs hw ?_; clear hs; intro a hs) | refine sxc hs ?_ | (refine sxa hs hw ?_; clear hs hw; intro a b W hw hs) | (refine sxs hs hw ?_; clear hs hw; intro W hs hw))
          exact rt2 hs rfl rfl rfl (none_ hrd.symm (hw.sel (by repeat (first | exact Sel.refl _ | refine Sel.skip ?_))))
        | true =>
        rw [hK] at hs hrd
        simp only [Bool.and_true] at hrd
        repeat (first | (refine sxv hs hw ?_; clear hs; intro a hs) | refine sxc hs ?_ | (refine sxa hs hw ?_; clear hs hw; intro a b W hw hs) | (refine sxs hs hw ?_; clear hs hw; intro W hs hw))
        rw [show IntKind.i64.wrap ((at2 : Int) + (kk : Int)) = ((at2 + kk : Nat) : Int) from by rw [IntWalk.i64_in _ (by omega)]; omega] at hs
        refine st_sliceH_lo hs (i := ((at2 + kk : Nat) : Int)) (z := [.int .u8 0]) r (by omega) (by omega) (c := ?_); clear hs; intro a v2 r2 hs
        rw [Int.toNat_natCast, bys_drop, ← List.length_drop] at r2
        have hgle := getR_le (l.drop (at2 + kk))
        have hgrr := getR_range (l.drop (at2 + kk))
        have hsl2 : (l.drop (at2 + kk)).length = l.length - (at2 + kk) := List.length_drop
        have hsd2 : ∀ k, (l.drop (at2 + kk)).drop k = l.drop (at2 + kk + k) := fun k => List.drop_drop
        have e3 : ∀ m, l.drop (at2 + (kk + m)) = l.drop (at2 + kk + m) := fun m => by rw [Nat.add_assoc]
        rw [e3] at hrd
        generalize l.drop (at2 + kk) = s2 at *
        repeat (first | (refine sxv hs hw ?_; clear hs; intro a hs) | refine sxc hs ?_ | (refine sxa hs hw ?_; clear hs hw; intro a b W hw hs) | (refine sxs hs hw ?_; clear hs hw; intro W hs hw))
        refine st_call hs (hc := value_Get _ _ s2 (hw.rdH (In.tl i) r2) (hT.keep (hw.endF (In.tl i) hH))) (k := ?_); rintro e0 W1 ⟨rfl, hb⟩; refine ⟨_, rfl, ?_⟩; clear hs; intro a hs; replace hw := hw.below hb; clear hb
        generalize getR s2 = G2 at *
        obtain ⟨⟨rk, rn, rs⟩, rm, re⟩ := G2
        simp only at hgle hgrr hrd hs
        by_cases re0 : re = 0
        · subst re0
          repeat (first | (refine sxv hs hw ?_; clear hs; intro a hs) | refine sxc hs ?_ | (refine sxa hs hw ?_; clear hs hw; intro a b W hw hs) | (refine sxs hs hw ?_; clear hs hw; intro W hs hw))
          have hns : rs.size ≤ 9223372036854775807 := by omega
          refine st_call hs (hc := value_Of rk rn rs _ hns (hT.keep (hw.endF (In.tl (In.tl i)) hH))) (k := ?_); rintro e0 W1 ⟨rfl, hb⟩; refine ⟨_, rfl, ?_⟩; clear hs; intro a hs; replace hw := hw.below hb; clear hb
          generalize hof : (ofRaw rk rn rs).1 = x at *
          repeat (first | (refine sxv hs hw ?_; clear hs; intro a hs) | refine sxc hs ?_ | (refine sxa hs hw ?_; clear hs hw; intro a b W hw hs) | (refine sxs hs hw ?_; clear hs hw; intro W hs hw))
          obtain ⟨b11, q11⟩ := nm2 hw; subst q11
          obtain ⟨b13, q13⟩ := nm1 hw; subst q13
          refine st_store hs (hw := hw) (vs := [vCell x]) (h1 := by rcases x with _ | n | s <;> rfl) (k := ?_); clear hs hw; intro W hs hw
          repeat (first | (refine sxv hs hw ?_; clear hs; intro a hs) | refine sxc hs ?_ | (refine sxa hs hw ?_; clear hs hw; intro a b W hw hs) | (refine sxs hs hw ?_; clear hs hw; intro W hs hw))
          refine st_call hs (hc := Kind_any x _) (k := ?_); rintro e0 W1 ⟨rfl, hb⟩; refine ⟨_, rfl, ?_⟩; clear hs; intro a hs; replace hw := hw.below hb; clear hb
          cases x with
          | none =>
            repeat (first | (refine sxv hs hw ?_; clear hs; intro a hs) | refine sxc hs ?_ | (refine sxa hs hw ?_; clear hs hw; intro a b W hw hs) | (refine sxs hs hw ?_; clear hs hw; intro W hs hw))
            exact rt2 hs rfl rfl rfl (none_ hrd.symm (hw.sel (by repeat (first | exact Sel.refl _ | refine Sel.skip ?_))))
          | some v =>
            rw [show kindOf (some v) = kindV v from rfl] at hs
            have hk0 : (kindV v == 0) = false := by rcases v with n | s <;> rfl
            repeat (first | (refine sxv hs hw ?_; clear hs; intro a hs) | refine sxc hs ?_ | (refine sxa hs hw ?_; clear hs hw; intro a b W hw hs) | (refine sxs hs hw ?_; clear hs hw; intro W hs hw))
            rw [hk0] at hs
            have hw : Has 0 w0 _ (DocAt p d :: Cells b13 [vCell (some v)] 82 :: R) := hw.sel (by repeat (first | exact Sel.nil | exact Sel.refl _ | refine Sel.cons (by repeat (first | exact Pick.hd | apply Pick.tl)) ?_ | refine Sel.skip ?_))
            obtain ⟨m, d2, hp, hk, hw⟩ := docOpen hw
            obtain ⟨d3, h3, h4⟩ := dset_kv (⟨kt.toArray⟩ : ByteArray) v ((dKeys_perm hp).2 hk)
            repeat (first | (refine sxv hs hw ?_; clear hs; intro a hs) | refine sxc hs ?_ | (refine sxa hs hw ?_; clear hs hw; intro a b W hw hs) | (refine sxs hs hw ?_; clear hs hw; intro W hs hw))
            refine rg_draw (V := [.pointer (some ⟨p, 0, none⟩), .pointer (some ⟨p, 0, none⟩), .pointer (some ⟨p, 0 + 0, none⟩), .map (some m), .string ⟨kt.toArray⟩, .agg ⟨[vCell (some v)]⟩, .bool true])
              (Rs := fun D => Cells p [.map (some m)] 85 :: (if D 6 then MapOf m (kvOf d3) else MapOf m (kvOf d2)) :: Cells b13 [vCell (some v)] 82 :: R) hs hw (ho := ⟨?_, ?_, ?_, ?_, ?_, ?_, ?c6_1, trivial⟩) (k := ?k_1)
            case c6_1 =>
              intro LD D a W hcl hi hp hs hw
              simp only [hi, Bool.false_eq_true, if_false] at hw
              refine st_update hs (hw := hw) (v := vOf v) (c := ?_); clear hs hw; intro W hs hw
              rw [h3] at hw
              repeat (first | (refine sxv hs hw ?_; clear hs; intro a hs) | refine sxc hs ?_ | (refine sxa hs hw ?_; clear hs hw; intro a b W hw hs) | (refine sxs hs hw ?_; clear hs hw; intro W hs hw))
              exact ⟨hs, hw⟩
            case k_1 =>
              clear hs hw
              intro a W hs hw
              replace hw : Has 0 w0 W (Cells p [.map (some m)] 85 :: MapOf m (kvOf d3) :: Cells b13 [vCell (some v)] 82 :: R) := hw
              have hw := docShut (hw.sub (List.Sublist.cons_cons _ (List.Sublist.cons_cons _ (List.Sublist.cons _ (List.Sublist.refl _))))) (h4.trans (setD_perm hp ⟨kt.toArray⟩ v)) (setD_keys hk ⟨kt.toArray⟩ v)
              have hw := docLike hw (setL_perm d ⟨kt.toArray⟩ v).symm
              repeat (first | (refine sxv hs hw ?_; clear hs; intro a hs) | refine sxc hs ?_ | (refine sxa hs hw ?_; clear hs hw; intro a b W hw hs) | (refine sxs hs hw ?_; clear hs hw; intro W hs hw))
              refine st_again (j + 1, setL d ⟨kt.toArray⟩ v, at2 + kk + rm) hs hw ⟨hj', by show at2 + kk + rm ≤ l.length; omega, hrd⟩ (by show nn - (j + 1) < nn - j; omega) ⟨rfl, rfl, int_eq ?_, rfl, int_eq ?_, trivial⟩
              · show IntKind.i64.wrap ((at2 : Int) + IntKind.i64.wrap ((kk : Int) + (rm : Int))) = ((at2 + kk + rm : Nat) : Int)
                rw [IntWalk.i64_in ((kk : Int) + (rm : Int)) (by omega), IntWalk.i64_in _ (by omega)]; omega
              · show IntKind.i64.wrap ((j : Int) + 1) = ((j + 1 : Nat) : Int)
                rw [IntWalk.i64_in _ (by omega)]; omega
            all_goals
              intro LD D a W hcl hi hp hs hw
              repeat (first | (refine sxv hs hw ?_; clear hs; intro a hs) | refine sxc hs ?_ | (refine sxa hs hw ?_; clear hs hw; intro a b W hw hs) | (refine sxs hs hw ?_; clear hs hw; intro W hs hw))
              exact ⟨hs, hw⟩
        · have e1 : (re != 0) = true := by simpa using re0
          have e2 : (re == 0) = false := by simpa using re0
          rw [e2] at hrd
          repeat (first | (refine sxv hs hw ?_; clear hs; intro a hs) | refine sxc hs ?_ | (refine sxa hs hw ?_; clear hs hw; intro a b W hw hs) | (refine sxs hs hw ?_; clear hs hw; intro W hs hw))
          rw [e1] at hs
          repeat (first | (refine sxv hs hw ?_; clear hs; intro a hs) | refine sxc hs ?_ | (refine sxa hs hw ?_; clear hs hw; intro a b W hw hs) | (refine sxs hs hw ?_; clear hs hw; intro W hs hw))
          exact rt2 hs rfl rfl rfl (none_ hrd.symm (hw.sel (by repeat (first | exact Sel.refl _ | refine Sel.skip ?_))))
      · have e1 : (ke != 0) = true := by simpa using ke0
        have e2 : (ke == 0) = false := by simpa using ke0
        rw [e2] at hrd
        simp only [Bool.false_and] at hrd
        repeat (first | (refine sxv hs hw ?_; clear hs; intro a hs) | refine sxc hs ?_ | (refine sxa hs hw ?_; clear hs hw; intro a b W hw hs) | (refine sxs hs hw ?_; clear hs hw; intro W hs hw))
        rw [e1] at hs
        repeat (first | (refine sxv hs hw ?_; clear hs; intro a hs) | refine sxc hs ?_ | (refine sxa hs hw ?_; clear hs hw; intro a b W hw hs) | (refine sxs hs hw ?_; clear hs hw; intro W hs hw))
        exact rt2 hs rfl rfl rfl (none_ hrd.symm (hw.sel (by repeat (first | exact Sel.refl _ | refine Sel.skip ?_))))
    · have hj' : j = nn := by have : ¬ j < nn := by simpa using hcc
                              omega
      subst hj'
      rw [Nat.sub_self] at hrd
      simp only [rdPairs] at hrd
      subst hrd
      have hfd := rdPairs_some j [] _ d hR (by rw [List.length_drop]; omega) (by simp; omega) DocFine.nil
      repeat (first | (refine sxv hs hw ?_; clear hs; intro a hs) | refine sxc hs ?_ | (refine sxa hs hw ?_; clear hs hw; intro a b W hw hs) | (refine sxs hs hw ?_; clear hs hw; intro W hs hw))
      refine st_call hs (hc := doc_Encode w0 _ p d _ hfd hw) (k := ?_); rintro e0 W1 ⟨ad, cap, rfl, hw1⟩; refine ⟨_, rfl, ?_⟩; clear hs hw; intro a hs; have hw := hw1; clear hw1
      repeat (first | (refine sxv hs hw ?_; clear hs; intro a hs) | refine sxc hs ?_ | (refine sxa hs hw ?_; clear hs hw; intro a b W hw hs) | (refine sxs hs hw ?_; clear hs hw; intro W hs hw))
      refine st_call hs (hc := bytes_Equal (docB d) l _ _ _ (hw.rd_own In.hd) (hw.rdH (In.tl (In.tl i)) r)) (k := ?_); rintro e0 W1 ⟨rfl, hb⟩; refine ⟨_, rfl, ?_⟩; clear hs; intro a hs; replace hw := hw.below hb; clear hb
      simp only at hdec
      by_cases heq : docB d = l
      · rw [if_pos heq] at hdec
        rw [show (docB d == l) = true from by simpa using heq] at hs
        repeat (first | (refine sxv hs hw ?_; clear hs; intro a hs) | refine sxc hs ?_ | (refine sxa hs hw ?_; clear hs hw; intro a b W hw hs) | (refine sxs hs hw ?_; clear hs hw; intro W hs hw))
        exact rt2 hs rfl rfl rfl (.inr ⟨d, p, hdec, rfl, hw.sub (List.Sublist.cons _ (List.Sublist.refl _))⟩)
      · rw [if_neg heq] at hdec
        rw [show (docB d == l) = false from by simpa using heq] at hs
        repeat (first | (refine sxv hs hw ?_; clear hs; intro a hs) | refine sxc hs ?_ | (refine sxa hs hw ?_; clear hs hw; intro a b W hw hs) | (refine sxs hs hw ?_; clear hs hw; intro W hs hw))
        exact rt2 hs rfl rfl rfl (.inl ⟨hdec, rfl, hw.sub (List.Sublist.cons _ (List.Sublist.cons _ (List.Sublist.refl _)))⟩)
  · have e1 : (er != 0) = true := by simpa using he
    repeat (first | (refine sxv hs hw ?_; clear hs; intro a hs) | refine sxc hs ?_ | (refine sxa hs hw ?_; clear hs hw; intro a b W hw hs) | (refine sxs hs hw ?_; clear hs hw; intro W hs hw))
    rw [e1] at hs
    repeat (first | (refine sxv hs hw ?_; clear hs; intro a hs) | refine sxc hs ?_ | (refine sxa hs hw ?_; clear hs hw; intro a b W hw hs) | (refine sxs hs hw ?_; clear hs hw; intro W hs hw))
    exact rt2 hs rfl rfl rfl (.inl ⟨by rw [hdec, if_neg (by omega)], rfl, hw.sub (List.Sublist.cons _ (List.Sublist.refl _))⟩)
end Go.Proofs.YtmalklakaalaoaaDoor.Sw

namespace Go
def Code.regionIn (id : Nat) : Code → Option Code
  | .region i ops b => if Nat.beq i id then some (.region i ops b) else none
  | .seq x y => match Code.regionIn id x with | some r => some r | none => Code.regionIn id y
  | .cond _ x y => match Code.regionIn id x with | some r => some r | none => Code.regionIn id y
  | .block _ x => Code.regionIn id x
  | .loop x => Code.regionIn id x
  | _ => none
def Code.regionOf (id : Nat) (b : Option Code) : Code := match b with | some c => (Code.regionIn id c).getD .skip | none => .skip
end Go
