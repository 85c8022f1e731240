/-
  Texts of the proof, one behind the other (part 4).
-/
import Derived.Test.YthpenehgfogloaaDoorM3
import Derived.WalkKit
import Derived.WalkLawsBesides
import Derived.Laws.IdiomStrings
import Derived.Lib.UnsafeStr
import Derived.Lib.RuneBytes
import Derived.Deep.AppendLies
import Derived.Deep.Draws
import Derived.WalkSpells
import Derived.Lib.Hide
import Derived.Deep.QuietTactic
import Derived.BigQuiet
import Derived.Laws.StructEq
import Derived.Laws.Bits64
import Derived.Laws.Bits64b
import Derived.Laws.BitsLemmas
import Derived.Laws.DeepNot64
import Derived.WalkSmall
import Derived.Test.YthpenehgfogloaaDoorChecked
/-
  Words for memory, used by all walks of this seat: a slice of bytes that the call owns, a slice of bytes that is read, and what becomes of them.
-/
set_option linter.unusedVariables false
namespace Go.Proofs.YthpenehgfogloaaDoor
open Go.RowKit

section
variable {P : Program} {w w' : World} {base e : Nat} {v : Value} {l : List UInt8}

theorem byteCells_len (l : List UInt8) : (Lib.byteCells l).length = l.length := by simp [Lib.byteCells]
theorem byteCells_app (a b : List UInt8) : Lib.byteCells (a ++ b) = Lib.byteCells a ++ Lib.byteCells b := by simp [Lib.byteCells]
theorem byteCells_get (l : List UInt8) (j : Nat) (h : j < l.length) : (Lib.byteCells l)[j]? = some (.int .u8 l[j].toNat) := by
  simp [Lib.byteCells, h]

/-- 'string(b)' of bytes that the call owns. -/
theorem run_string_own (src dst e : TypeId) (hs : P.underlying src = some (.slice e)) (he : P.underlying e = some (.int .u8)) (hd : P.underlying dst = some .string)
    (h : w.ownsRow base e 1 v l.length (Lib.byteCells l)) : (convert src dst v).run P w = .ok (.string ⟨l.toArray⟩) w := by
  rcases h.2 with ⟨rfl, h0⟩ | ⟨g, cap, cur, rfl, _, hg, hn, hm, hsz, hx⟩
  · have : l = [] := List.length_eq_zero_iff.1 h0
    subst this
    rw [run_convert_bytes_string w src dst e none 0 0 hs he hd]
    simp [Conv.bytesToString]
    rfl
  · refine run_convert_bytes_back w src dst e ⟨g, 0, none⟩ cap l hs he hd fun j hj => ?_
    exact h.cells (g := g) rfl j _ (byteCells_get l j hj)

/-- What the call owns stays while nothing that lies is written. -/
theorem own_below {size n : Nat} {xs : List Value} (h : w.ownsRow base e size v n xs) (hb : Below w.heap.size w w') : w'.ownsRow base e size v n xs := by
  refine ⟨h.1, ?_⟩
  rcases h.2 with hn | ⟨g, cap, cur, rfl, hg, hh, rest⟩
  · exact .inl hn
  · exact .inr ⟨g, cap, cur, rfl, hg, (hb.block g (Array.getElem?_eq_some_iff.1 hh).1).trans hh, rest⟩
/-- The value of a row that the call owns, and its cells. -/
theorem own_slice {size n : Nat} {xs : List Value} (h : w.ownsRow base e size v n xs) : ∃ A c, v = .slice A n c ∧ n ≤ c ∧ c ≤ maxLen ∧ (0 < n → ∃ g, A = some ⟨g, 0, none⟩ ∧ ∀ j, j < n * size → w.cell? ⟨g, j, none⟩ = xs[j]?) := by
  rcases h.2 with ⟨rfl, rfl⟩ | ⟨g, cap, cur, rfl, hg, hh, hnc, hm, hsz, hx⟩
  · exact ⟨none, 0, rfl, by omega, by omega, fun h => by omega⟩
  · exact ⟨_, cap, rfl, hnc, hm, fun _ => ⟨g, rfl, fun j hj => h.cellAt j hj⟩⟩
/-- One byte more. -/
theorem own_snoc {z : Int} {c : UInt8} (h : w.ownsRow base e 1 v (l.length + 1) (Lib.byteCells l ++ [.int .u8 z])) (hz : z = (c.toNat : Int)) : w.ownsRow base e 1 v (l ++ [c]).length (Lib.byteCells (l ++ [c])) := by
  subst hz
  rw [byteCells_app, List.length_append]
  exact h
theorem own_more {xs : List UInt8} {n : Nat} {cs : List Value} (h : w.ownsRow base e 1 v n (Lib.byteCells l ++ cs)) (hn : n = l.length + xs.length) (hc : cs = Lib.byteCells xs) : w.ownsRow base e 1 v (l ++ xs).length (Lib.byteCells (l ++ xs)) := by
  subst hn hc
  rw [byteCells_app, List.length_append]
  exact h
theorem bytes_app (a b : List UInt8) : (⟨a.toArray⟩ : ByteArray) ++ ⟨b.toArray⟩ = ⟨(a ++ b).toArray⟩ := by
  apply ByteArray.ext
  simp
end
end Go.Proofs.YthpenehgfogloaaDoor

/-
  Plain law: what the reference lists of a text's runes: the runes, where each begins, whether all are true ones.
-/
set_option linter.unusedVariables false
namespace Ph
open Go Go.Lib

def offsFrom : Nat → List (Nat × Nat) → List Nat
  | _, [] => []
  | a, q :: p => a :: offsFrom (a + q.2) p
def offs (p : List (Nat × Nat)) : List Nat := offsFrom 0 p
theorem offsFrom_snoc : ∀ (p : List (Nat × Nat)) (a : Nat) (q : Nat × Nat), offsFrom a (p ++ [q]) = offsFrom a p ++ [a + wid p]
  | [], a, q => by simp [offsFrom, wid_nil]
  | x :: p, a, q => by
    simp only [List.cons_append, offsFrom, offsFrom_snoc p, wid_cons]
    simp; omega
theorem offs_snoc (p : List (Nat × Nat)) (q : Nat × Nat) : offs (p ++ [q]) = offs p ++ [wid p] := by
  unfold offs; rw [offsFrom_snoc]; simp
theorem offsFrom_len : ∀ (p : List (Nat × Nat)) (a : Nat), (offsFrom a p).length = p.length
  | [], _ => rfl
  | x :: p, a => by simp [offsFrom, offsFrom_len p]
theorem offs_len (p : List (Nat × Nat)) : (offs p).length = p.length := offsFrom_len p 0
theorem offsFrom_get : ∀ (p : List (Nat × Nat)) (a k : Nat), k < p.length → (offsFrom a p)[k]? = some (a + wid (p.take k))
  | [], _, _, h => by simp at h
  | x :: p, a, 0, _ => by simp [offsFrom, wid_nil]
  | x :: p, a, k + 1, h => by
    simp only [offsFrom, List.getElem?_cons_succ, List.take_succ_cons, wid_cons]
    rw [offsFrom_get p (a + x.2) k (by simpa using h)]
    simp; omega
theorem offs_get (p : List (Nat × Nat)) (k : Nat) (h : k < p.length) : (offs p)[k]? = some (wid (p.take k)) := by
  unfold offs; rw [offsFrom_get p 0 k h]; simp

/-- Is each rune but U+FFFD, or one of three bytes? -/
def goodB (p : List (Nat × Nat)) : Bool := p.all fun q => !(q.1 == 65533) || q.2 == 3
theorem goodB_snoc (p : List (Nat × Nat)) (q : Nat × Nat) : goodB (p ++ [q]) = (goodB p && (!(q.1 == 65533) || q.2 == 3)) := by simp [goodB]
theorem good_a {g : Bool} {d : Nat × Nat} (hg : g = true) (h : (d.1 : Int) = 65533) : ((d.2 : Int) == 3) = (g && (!(d.1 == 65533) || d.2 == 3)) := by
  have h1 : d.1 = 65533 := by omega
  have e : ((d.2 : Int) == 3) = (d.2 == 3) := by
    rw [Bool.eq_iff_iff, beq_iff_eq, beq_iff_eq]
    omega
  rw [e]
  simp [hg, h1]
theorem good_b {g : Bool} {d : Nat × Nat} (hg : g = true) (h : ¬ (d.1 : Int) = 65533) : true = (g && (!(d.1 == 65533) || d.2 == 3)) := by
  have h1 : ¬ d.1 = 65533 := by omega
  simp [hg, h1]
theorem good_c {g : Bool} {d : Nat × Nat} (hg : ¬ g = true) : false = (g && (!(d.1 == 65533) || d.2 == 3)) := by
  simp at hg; simp [hg]
theorem err_width (l : List UInt8) (h : (decodeL l).1 = 65533) : (decodeL l).2 = 1 ∨ (decodeL l).2 = 3 := by
  rw [decodeL_N] at h ⊢
  have h1 := (l.getD 1 0).toNat_lt
  rcases decodeN_shape l.length (l.getD 0 0).toNat (l.getD 1 0).toNat (l.getD 2 0).toNat (l.getD 3 0).toNat with ⟨c, e⟩ | ⟨c1, c2, c3, cv, e⟩ | ⟨c1, c2, c3, c4, cv, cs, e⟩ | ⟨c1, c2, c3, c4, c5, cv, cw, e⟩ | e
  all_goals (rw [e] at h ⊢; simp only at h ⊢)
  · omega
  · omega
  · exact .inr trivial
  · omega
  · exact .inl trivial
theorem goodB_rs : ∀ l : List UInt8, goodB (rs l) = validD l :=
  rs_induct rfl (fun l he ih => by
    rw [rs_step l he, validD_step l he, goodB, List.all_cons]
    show (_ && goodB (rs (l.drop (decodeL l).2))) = _
    rw [ih]
    by_cases h : (decodeL l).1 = 65533
    · rcases err_width l h with h2 | h2
      · simp [h, h2]
      · simp [h, h2]
    · simp [h])

theorem decZ_extract (s : ByteArray) (pos : Nat) (h : pos < s.size) : decZ (s.extract pos s.size).data.toList = Utf8.decode s pos := by
  have hs : (s.extract pos s.size).size = s.size - pos := by simp
  rw [(decZ_ne (s := s.extract pos s.size) (by omega)).1, extract_drop, decodeL_drop]

def runeVals (p : List (Nat × Nat)) : List Value := p.map fun q => Value.int .i32 q.1
def intVals (l : List Nat) : List Value := l.map fun (n : Nat) => Value.int .i64 (n : Int)
theorem runeVals_snoc (p : List (Nat × Nat)) (q : Nat × Nat) : runeVals (p ++ [q]) = runeVals p ++ [.int .i32 q.1] := by simp [runeVals]
theorem intVals_snoc (p : List Nat) (q : Nat) : intVals (p ++ [q]) = intVals p ++ [.int .i64 q] := by simp [intVals]
theorem runeVals_get (p : List (Nat × Nat)) (k : Nat) (h : k < p.length) : (runeVals p)[k]? = some (.int .i32 (p[k]'h).1) := by simp [runeVals, h]
theorem intVals_get (p : List Nat) (k : Nat) (x : Nat) (h : p[k]? = some x) : (intVals p)[k]? = some (.int .i64 x) := by simp [intVals, h]
end Ph

/-
  The walk of the reference's list of a text's runes.
-/
set_option linter.unusedVariables false
set_option maxRecDepth 10000
namespace Go.Proofs.YthpenehgfogloaaDoor
open Go.RowKit

-- pieces

theorem info_rune : (Tryd.prog.info? 21).map (fun i => (i.zero, i.size, i.bytes)) = some (some (.int .i32 0), 1, 4) := by kernel_rfl

theorem info_int : (Tryd.prog.info? 3).map (fun i => (i.zero, i.size, i.bytes)) = some (some (.int .i64 0), 1, 8) := by kernel_rfl

/-- A row that the call owns stays while a row of another element type is appended to. -/
theorem own_ne {w : World} {b b' e e' size size' n n' : Nat} {v v' : Value} {xs xs' : List Value} (h : w.ownsRow b e size v n xs) (h' : w.ownsRow b' e' size' v' n' xs') (hne : e ≠ e') : v.ownBlock = none ∨ v.ownBlock ≠ v'.ownBlock := by
  rcases h.2 with ⟨rfl, _⟩ | ⟨g, cap, cur, rfl, _, hh, _⟩
  · left; rfl
  · right
    rcases h'.2 with ⟨rfl, _⟩ | ⟨g', cap', cur', rfl, _, hh', _⟩
    · simp [Value.ownBlock]
    · simp only [Value.ownBlock, ne_eq, Option.some.injEq]
      rintro rfl
      rw [hh] at hh'
      injection hh' with hh'
      injection hh' with _ ht
      exact hne ht

set_option maxHeartbeats 800000 in
theorem ref_Runes (s : ByteArray) (w : World) (hs : s.size ≤ 1000000) :
    Calls Tryd.prog 64 #[.string s] w fun e w' => ∃ vl va, e = .returned (.tuple #[vl, va, .bool (Lib.validD s.data.toList)]) ∧
      w'.ownsRow w.heap.size 21 1 vl (Ph.rs s.data.toList).length (Ph.runeVals (Ph.rs s.data.toList)) ∧ w'.ownsRow w.heap.size 3 1 va (Ph.rs s.data.toList).length (Ph.intVals (Ph.offs (Ph.rs s.data.toList))) ∧ Below w.heap.size w w' := by
  have hcl := Ph.count_le s
  obtain ⟨ir, hir, hrz, hrs, hrb⟩ := info_parts info_rune
  obtain ⟨ii, hii, hiz, his, hib⟩ := info_parts info_int
  go_enter Tryd.func64, Tryd.ntmps64
  go_wp2
  go_loopw [5, 6, 7, 8] (fun l at_ good i wr => ∃ pos k : Nat, i = .int .i64 pos ∧ pos ≤ s.size ∧ k ≤ s.size ∧ good = .bool (Ph.goodB ((Ph.rs s.data.toList).take k)) ∧
      wr.ownsRow w.heap.size 21 1 l k (Ph.runeVals ((Ph.rs s.data.toList).take k)) ∧ wr.ownsRow w.heap.size 3 1 at_ k (Ph.intVals (Ph.offs ((Ph.rs s.data.toList).take k))) ∧
      Below w.heap.size w wr ∧ Hid (Ph.rs (s.data.toList.drop pos) = (Ph.rs s.data.toList).drop k) ∧ Hid (pos = Ph.wid ((Ph.rs s.data.toList).take k))) (fun _ _ _ i _ => s.size - (intOf i).toNat)
  case atStart =>
    exact ⟨0, 0, rfl, by omega, by omega, rfl, World.ownsRow_nil _ _ _ _, World.ownsRow_nil _ _ _ _, Below.refl _ _, by unfold Hid; simp, by unfold Hid; simp [Ph.wid_nil]⟩
  case round =>
    obtain ⟨pos, k, rfl, hpos, hk, rfl, hl, ha, hbw, HK, HP⟩ := hrel
    by_cases hp : pos < s.size
    · have hp' : (pos : Int) < (s.size : Int) := by omega
      have hst := Ph.step_take (HK.out.symm.trans (Ph.rs_at s pos hp))
      have hk1 : k + 1 ≤ s.size := by have := hst.1; unfold Ph.count at hcl; omega
      have HS : Hid ((Ph.rs s.data.toList).take (k + 1) = (Ph.rs s.data.toList).take k ++ [Utf8.decode s pos] ∧ (Ph.rs s.data.toList).drop (k + 1) = Ph.rs (s.data.toList.drop (pos + (Utf8.decode s pos).2))) := hst.2
      clear hst
      have hw1 := Ph.width_pos s pos
      have hw2 := Ph.width_le s pos hp
      go_wp2_with fail
      refine (ref_Decode (s.extract pos s.size) _ (by simp; omega)).mono ?_
      rintro e w' ⟨rfl, rfl⟩
      rw [Ph.decZ_extract s pos hp]
      generalize hd : Utf8.decode s pos = d at *
      have HD := Lib.hid hd
      clear hd
      go_wp2_with (at_builtin; refine wpList_append_own _ rfl (.tmp 22) (.tmp 24) 110 rfl w.heap.size 21 ir (.int .i32 0) 1 4 Tryd.underlying110 hir hrz hrs hrb rfl (by decide) _ k _ rfl (hl.alloc _) ⟨wr.heap.size, 0, none⟩ 1 1 [.int .i32 (d.1 : Int)] rfl rfl ?c1 ?c2 ?c3 ?c4 ?c5 ?_)
      case c1 => exact (cell_one_new _ _ _)
      case c2 => simp [Value.oneCell']
      case c3 => unfold maxLen; omega
      case c4 => omega
      case c5 => have := hbw.size; simp; omega
      intro l1 w1 hl1 hg1 _
      have hb1 : Below w.heap.size w w1 := (hbw.alloc hbw.size _).grown hg1 (by have := hbw.size; simp; omega) (fun g hg => (hl.lt g hg).1)
      have ha1 : w1.ownsRow w.heap.size 3 1 u6 k (Ph.intVals (Ph.offs ((Ph.rs s.data.toList).take k))) := (ha.alloc _).kept hg1 (own_ne ha hl (by decide))
      go_wp2_with (at_builtin; refine wpList_append_own _ rfl (.tmp 26) (.tmp 28) 111 rfl w.heap.size 3 ii (.int .i64 0) 1 8 Tryd.underlying111 hii hiz his hib rfl (by decide) _ k _ rfl (ha1.alloc _) ⟨w1.heap.size, 0, none⟩ 1 1 [.int .i64 (pos : Int)] rfl rfl ?d1 ?d2 ?d3 ?d4 ?d5 ?_)
      case d1 => exact (cell_one_new _ _ _)
      case d2 => simp [Value.oneCell']
      case d3 => unfold maxLen; omega
      case d4 => omega
      case d5 => have := hb1.size; simp; omega
      intro a1 w2 ha2 hg2 _
      have hb2 : Below w.heap.size w w2 := (hb1.alloc hb1.size _).grown hg2 (by have := hb1.size; simp; omega) (fun g hg => (ha1.lt g hg).1)
      have hl2 : w2.ownsRow w.heap.size 21 1 l1 (k + 1) (Ph.runeVals ((Ph.rs s.data.toList).take k) ++ [.int .i32 (d.1 : Int)]) := (hl1.alloc _).kept hg2 (own_ne hl1 ha1 (by decide))
      rw [← Ph.runeVals_snoc] at hl2
      have hl3 : w2.ownsRow w.heap.size 21 1 l1 (k + 1) (Ph.runeVals ((Ph.rs s.data.toList).take (k + 1))) := by rw [HS.out.1]; exact hl2
      have ha3 : w2.ownsRow w.heap.size 3 1 a1 (k + 1) (Ph.intVals (Ph.offs ((Ph.rs s.data.toList).take (k + 1)))) := by
        rw [HS.out.1, Ph.offs_snoc, Ph.intVals_snoc, ← HP.out]
        exact ha2
      have HP2 : Hid (pos + d.2 = Ph.wid ((Ph.rs s.data.toList).take (k + 1))) := by
        show _ = _
        rw [HS.out.1, Ph.wid_append, ← HP.out]
        simp [Ph.wid_cons, Ph.wid_nil]
      clear hl ha hl1 ha1 hl2 ha2 hg1 hg2 hb1 hbw
      go_wp2
      all_goals
        go_roundw
        case rel =>
          refine ⟨pos + d.2, k + 1, by go_num, by omega, by omega, ?_, hl3, ha3, hb2, HS.out.2.symm, HP2⟩
          rw [HS.out.1, Ph.goodB_snoc]
          first | exact congrArg Value.bool (Ph.good_a ‹_› ‹_›) | exact congrArg Value.bool (Ph.good_b ‹_› ‹_›) | exact congrArg Value.bool (Ph.good_c ‹_›)
        case measure => simp [intOf]; omega
    · have hp' : (s.size : Int) ≤ (pos : Int) := by omega
      have hle := Ph.drop_nil_le (HK.out.symm.trans (Ph.rs_end s pos hp))
      have hk2 := hl.1
      rw [Ph.runeVals, List.length_map, List.length_take] at hk2
      obtain rfl : k = (Ph.rs s.data.toList).length := by omega
      have e := List.take_of_length_le (l := Ph.rs s.data.toList) (Nat.le_refl _)
      rw [e] at hl ha
      have HG : Hid (Ph.goodB ((Ph.rs s.data.toList).take (Ph.rs s.data.toList).length) = Lib.validD s.data.toList) := by
        show _ = _
        rw [e, Ph.goodB_rs]
      clear e hk2
      go_wp2
      go_ret3
      refine ⟨_, _, ?_, hl, ha, hbw⟩
      rw [← HG.out]
      rfl

end Go.Proofs.YthpenehgfogloaaDoor

/-
  The walk of the reference's May, by Sx.
-/
set_option linter.unusedVariables false
set_option maxRecDepth 10000
namespace Go.Proofs.YthpenehgfogloaaDoor.Sw
open Go.RowKit Go.Sx

-- pieces

theorem empty_eq (s : ByteArray) (h : s.size = 0) : (s.toList == (⟨#[]⟩ : ByteArray).toList) = true := by
  have : s = ⟨#[]⟩ := by
    apply ByteArray.ext
    exact Array.eq_empty_of_size_eq_zero h
  rw [this]; simp

theorem toList_size (s : ByteArray) : s.toList.length = s.size := by
  rw [Go.ByteArray.toList_eq]
  rw [Array.length_toList]; rfl

theorem empty_ne (s : ByteArray) (h : s.size ≠ 0) : (s.toList == (⟨#[]⟩ : ByteArray).toList) = false := by
  rw [beq_eq_false_iff_ne]
  intro e
  have := congrArg List.length e
  rw [toList_size, toList_size] at this
  exact h this

theorem ofRaw_01 (k n : Int) (s : ByteArray) : (ofRaw k n s).2 = 0 ∨ (ofRaw k n s).2 = 1 := by
  unfold ofRaw
  split
  · exact .inl rfl
  · split
    · exact .inl rfl
    · split
      · exact .inl rfl
      · exact .inr rfl

set_option maxHeartbeats 4000000 in
theorem ref_May (k n : Int) (s : ByteArray) (w : World) (hs0 : s.size ≤ 1000000) :
    Calls Tryd.prog 74 ⟨[.agg #[.int .i64 k, .int .i64 n, .string s]]⟩ w fun e w' => e = .returned (.bool ((ofRaw k n s).2 == 0)) ∧ Below w.heap.size w w' := by
  have hw := Has.start (G := 0) (w := w) (Nat.zero_le _)
  refine enter Tryd.func74 Tryd.ntmps74 rfl rfl fun a hs => ?_
  repeat (first | (refine sxv hs hw ?_; clear hs; intro a hs) | refine sxc hs ?_ | (refine sxa hs hw ?_; clear hs hw; intro a b W hw hs) | (refine sxs hs hw ?_; clear hs hw; intro W hs hw))
  by_cases k0 : k = 0
  · subst k0
    by_cases n0 : n = 0
    · subst n0
      by_cases hz : s.size = 0
      · have e1 := empty_eq s hz
        have hO : ((ofRaw 0 0 s).2 == 0) = true := by unfold ofRaw; rw [if_pos ⟨rfl, rfl, hz⟩]; rfl
        repeat (first | (refine sxv hs hw ?_; clear hs; intro a hs) | refine sxc hs ?_ | (refine sxa hs hw ?_; clear hs hw; intro a b W hw hs) | (refine sxs hs hw ?_; clear hs hw; intro W hs hw))
        rw [e1] at hs
        repeat (first | (refine sxv hs hw ?_; clear hs; intro a hs) | refine sxc hs ?_ | (refine sxa hs hw ?_; clear hs hw; intro a b W hw hs) | (refine sxs hs hw ?_; clear hs hw; intro W hs hw))
        exact rt1 hs rfl rfl ⟨by rw [hO]; rfl, hw.end (by repeat (first | exact In.hd | apply In.tl))⟩
      · have e1 := empty_ne s hz
        have hO : ((ofRaw 0 0 s).2 == 0) = false := by unfold ofRaw; rw [if_neg (fun h => hz h.2.2), if_neg (fun h => by omega), if_neg (fun h => by omega)]; rfl
        repeat (first | (refine sxv hs hw ?_; clear hs; intro a hs) | refine sxc hs ?_ | (refine sxa hs hw ?_; clear hs hw; intro a b W hw hs) | (refine sxs hs hw ?_; clear hs hw; intro W hs hw))
        rw [e1] at hs
        repeat (first | (refine sxv hs hw ?_; clear hs; intro a hs) | refine sxc hs ?_ | (refine sxa hs hw ?_; clear hs hw; intro a b W hw hs) | (refine sxs hs hw ?_; clear hs hw; intro W hs hw))
        exact rt1 hs rfl rfl ⟨by rw [hO]; rfl, hw.end (by repeat (first | exact In.hd | apply In.tl))⟩
    · have e1 : (n == 0) = false := by simpa using n0
      have hO : ((ofRaw 0 n s).2 == 0) = false := by unfold ofRaw; rw [if_neg (fun h => n0 h.2.1), if_neg (fun h => by omega), if_neg (fun h => by omega)]; rfl
      repeat (first | (refine sxv hs hw ?_; clear hs; intro a hs) | refine sxc hs ?_ | (refine sxa hs hw ?_; clear hs hw; intro a b W hw hs) | (refine sxs hs hw ?_; clear hs hw; intro W hs hw))
      rw [e1] at hs
      repeat (first | (refine sxv hs hw ?_; clear hs; intro a hs) | refine sxc hs ?_ | (refine sxa hs hw ?_; clear hs hw; intro a b W hw hs) | (refine sxs hs hw ?_; clear hs hw; intro W hs hw))
      exact rt1 hs rfl rfl ⟨by rw [hO]; rfl, hw.end (by repeat (first | exact In.hd | apply In.tl))⟩
  by_cases k1 : k = 1
  · subst k1
    by_cases hz : s.size = 0
    · have e1 := empty_eq s hz
      have hO : ((ofRaw 1 n s).2 == 0) = true := by unfold ofRaw; rw [if_neg (fun h => by omega), if_pos ⟨rfl, hz⟩]; rfl
      repeat (first | (refine sxv hs hw ?_; clear hs; intro a hs) | refine sxc hs ?_ | (refine sxa hs hw ?_; clear hs hw; intro a b W hw hs) | (refine sxs hs hw ?_; clear hs hw; intro W hs hw))
      exact rt1 hs rfl rfl ⟨by rw [hO, e1], hw.end (by repeat (first | exact In.hd | apply In.tl))⟩
    · have e1 := empty_ne s hz
      have hO : ((ofRaw 1 n s).2 == 0) = false := by unfold ofRaw; rw [if_neg (fun h => by omega), if_neg (fun h => hz h.2), if_neg (fun h => by omega)]; rfl
      repeat (first | (refine sxv hs hw ?_; clear hs; intro a hs) | refine sxc hs ?_ | (refine sxa hs hw ?_; clear hs hw; intro a b W hw hs) | (refine sxs hs hw ?_; clear hs hw; intro W hs hw))
      exact rt1 hs rfl rfl ⟨by rw [hO, e1], hw.end (by repeat (first | exact In.hd | apply In.tl))⟩
  have e0 : (k == 0) = false := by simpa using k0
  have e1 : (k == 1) = false := by simpa using k1
  rw [e0] at hs
  repeat (first | (refine sxv hs hw ?_; clear hs; intro a hs) | refine sxc hs ?_ | (refine sxa hs hw ?_; clear hs hw; intro a b W hw hs) | (refine sxs hs hw ?_; clear hs hw; intro W hs hw))
  rw [e1] at hs
  by_cases k2 : k = 2
  · subst k2
    repeat (first | (refine sxv hs hw ?_; clear hs; intro a hs) | refine sxc hs ?_ | (refine sxa hs hw ?_; clear hs hw; intro a b W hw hs) | (refine sxs hs hw ?_; clear hs hw; intro W hs hw))
    refine st_call hs (hc := ref_Runes s _ hs0) (k := ?_); rintro _ W1 ⟨vl, va, rfl, _, _, hb⟩; refine ⟨_, rfl, ?_⟩; clear hs; intro a hs; replace hw := hw.below hb; clear hb
    repeat (first | (refine sxv hs hw ?_; clear hs; intro a hs) | refine sxc hs ?_ | (refine sxa hs hw ?_; clear hs hw; intro a b W hw hs) | (refine sxs hs hw ?_; clear hs hw; intro W hs hw))
    by_cases n0 : n = 0
    · subst n0
      cases hv : Lib.validD s.data.toList with
      | false =>
        have hO : ((ofRaw 2 0 s).2 == 0) = false := by unfold ofRaw; rw [if_neg (fun h => by omega), if_neg (fun h => by omega), if_neg (fun h => by rw [hv] at h; cases h.2.2.2)]; rfl
        rw [hv] at hs
        repeat (first | (refine sxv hs hw ?_; clear hs; intro a hs) | refine sxc hs ?_ | (refine sxa hs hw ?_; clear hs hw; intro a b W hw hs) | (refine sxs hs hw ?_; clear hs hw; intro W hs hw))
        exact rt1 hs rfl rfl ⟨by rw [hO]; rfl, hw.end (by repeat (first | exact In.hd | apply In.tl))⟩
      | true =>
        rw [hv] at hs
        repeat (first | (refine sxv hs hw ?_; clear hs; intro a hs) | refine sxc hs ?_ | (refine sxa hs hw ?_; clear hs hw; intro a b W hw hs) | (refine sxs hs hw ?_; clear hs hw; intro W hs hw))
        by_cases hl : s.size ≤ 200
        · have e3 : decide ((s.size : Int) ≤ 200) = true := by simp; omega
          have hO : ((ofRaw 2 0 s).2 == 0) = true := by unfold ofRaw; rw [if_neg (fun h => by omega), if_neg (fun h => by omega), if_pos ⟨rfl, rfl, hl, hv⟩]; rfl
          rw [e3] at hs
          exact rt1 hs rfl rfl ⟨by rw [hO]; rfl, hw.end (by repeat (first | exact In.hd | apply In.tl))⟩
        · have e3 : decide ((s.size : Int) ≤ 200) = false := by simp; omega
          have hO : ((ofRaw 2 0 s).2 == 0) = false := by unfold ofRaw; rw [if_neg (fun h => by omega), if_neg (fun h => by omega), if_neg (fun h => hl h.2.2.1)]; rfl
          rw [e3] at hs
          exact rt1 hs rfl rfl ⟨by rw [hO]; rfl, hw.end (by repeat (first | exact In.hd | apply In.tl))⟩
    · have e3 : (n == 0) = false := by simpa using n0
      have hO : ((ofRaw 2 n s).2 == 0) = false := by unfold ofRaw; rw [if_neg (fun h => by omega), if_neg (fun h => by omega), if_neg (fun h => n0 h.2.1)]; rfl
      rw [e3] at hs
      repeat (first | (refine sxv hs hw ?_; clear hs; intro a hs) | refine sxc hs ?_ | (refine sxa hs hw ?_; clear hs hw; intro a b W hw hs) | (refine sxs hs hw ?_; clear hs hw; intro W hs hw))
      exact rt1 hs rfl rfl ⟨by rw [hO]; rfl, hw.end (by repeat (first | exact In.hd | apply In.tl))⟩
  · have e2 : (k == 2) = false := by simpa using k2
    have hO : ((ofRaw k n s).2 == 0) = false := by unfold ofRaw; rw [if_neg (fun h => k0 h.1), if_neg (fun h => k1 h.1), if_neg (fun h => k2 h.1)]; rfl
    repeat (first | (refine sxv hs hw ?_; clear hs; intro a hs) | refine sxc hs ?_ | (refine sxa hs hw ?_; clear hs hw; intro a b W hw hs) | (refine sxs hs hw ?_; clear hs hw; intro W hs hw))
    rw [e2] at hs
    repeat (first | (refine sxv hs hw ?_; clear hs; intro a hs) | refine sxc hs ?_ | (refine sxa hs hw ?_; clear hs hw; intro a b W hw hs) | (refine sxs hs hw ?_; clear hs hw; intro W hs hw))
    exact rt1 hs rfl rfl ⟨by rw [hO], hw.end (by repeat (first | exact In.hd | apply In.tl))⟩

end Go.Proofs.YthpenehgfogloaaDoor.Sw

/-
  The walk of runes.Key, for a seat that lacks its neighbours.
-/
set_option linter.unusedVariables false
set_option maxRecDepth 10000
namespace Go.Proofs.YthpenehgfogloaaDoor
open Go.RowKit

set_option maxHeartbeats 400000 in
theorem runes_Key (s : ByteArray) (w : World) (hs : s.size ≤ 9223372036854775807) (hT : Tabs w) :
    Calls Tryd.prog 55 #[.string s] w fun e w' => e = .returned (.bool (Ph.keyB s.data.toList)) ∧ Below w.heap.size w w' := by
  have hcl := Ph.count_le s
  go_enter Tryd.func55, Tryd.ntmps55
  go_wp2
  go_loopw [3] (fun n wr => ∃ pos k : Nat, wr = w.iter s pos ∧ n = .int .i64 k ∧ k ≤ s.size ∧ Hid (k + (Ph.rs (s.data.toList.drop pos)).length = Ph.count s.data.toList) ∧ Hid (Ph.plainB (Ph.rs s.data.toList) = Ph.plainB (Ph.rs (s.data.toList.drop pos)))) (fun _ wr => s.size - wr.iterPos w.heap.size)
  case atStart => exact ⟨0, 0, rfl, rfl, by omega, by unfold Hid; simp [Ph.count], by unfold Hid; simp⟩
  case round =>
    obtain ⟨pos, k, rfl, rfl, hkb, HK, HP⟩ := hrel
    by_cases hp : pos < s.size
    · have hnx := fun ty => run_next_any (P := Tryd.prog) w s pos ty hp
      have HR : Hid (Ph.rs (s.data.toList.drop pos) = Utf8.decode s pos :: Ph.rs (s.data.toList.drop (pos + (Utf8.decode s pos).2))) := Ph.rs_at s pos hp
      have hk1 : k + 1 ≤ s.size := by
        have h1 := HK.out
        rw [HR.out, List.length_cons] at h1
        omega
      have bad : (Utf8.decode s pos).1 < 32 ∨ (Utf8.decode s pos).1 = 127 → Ph.keyB s.data.toList = false := fun h => Ph.keyB_bad (by rw [HP.out, HR.out, Ph.plainB_bad h])
      have BAD := Lib.hid bad
      clear bad
      by_cases h32 : (Utf8.decode s pos).1 < 32
      · have h32' : ((Utf8.decode s pos).1 : Int) < 32 := by omega
        go_wp2
        go_ret
        exact ⟨ret_bool (BAD.out (.inl h32)).symm, (Below.refl _ _).alloc (Nat.le_refl _) _⟩
      · by_cases h127 : (Utf8.decode s pos).1 = 127
        · have h32' : (32 : Int) ≤ ((Utf8.decode s pos).1 : Int) := by omega
          have h127' : (((Utf8.decode s pos).1 : Int) == 127) = true := by rw [beq_iff_eq]; omega
          have HB : Hid (Ph.keyB s.data.toList = false) := BAD.out (.inr h127)
          clear h127
          go_wp2
          go_ret
          exact ⟨ret_bool HB.out.symm, (Below.refl _ _).alloc (Nat.le_refl _) _⟩
        · have h32' : (32 : Int) ≤ ((Utf8.decode s pos).1 : Int) := by omega
          have h127' : (((Utf8.decode s pos).1 : Int) == 127) = false := by rw [beq_eq_false_iff_ne]; omega
          have HG : Hid (¬ ((Utf8.decode s pos).1 < 32 ∨ (Utf8.decode s pos).1 = 127)) := by show ¬ _; omega
          clear h127
          go_wp2
          go_roundw
          case rel =>
            refine ⟨pos + (Utf8.decode s pos).2, k + 1, rfl, by go_num, hk1, ?_, ?_⟩
            · have h1 := HK.out
              rw [HR.out, List.length_cons] at h1
              show _ = _
              omega
            · show _ = _
              rw [HP.out, HR.out, Ph.plainB_good HG.out]
          case measure =>
            have := Ph.width_pos s pos
            rw [World.iterPos_iter, World.iterPos_iter]
            omega
    · have hnx := fun ty => run_next_end (P := Tryd.prog) w s pos ty hp
      have hT2 : Tabs (w.iter s pos) := hT.keep ((Below.refl _ _).alloc (Nat.le_refl _) _)
      have HK2 : Hid (k = Ph.count s.data.toList ∧ Ph.plainB (Ph.rs s.data.toList) = true) := by
        have h1 := HK.out
        have h2 := HP.out
        rw [Ph.rs_end s pos hp] at h1 h2
        exact ⟨h1, h2⟩
      by_cases h1 : 1 ≤ k ∧ k ≤ 40
      · obtain ⟨ha, hb'⟩ := h1
        have ha' : (1 : Int) ≤ (k : Int) := by omega
        have hb'' : (k : Int) ≤ 40 := by omega
        go_wp2_with (go_at_call 76; refine (runes_Valid _ _ hs hT2).mono ?_; rintro e w' ⟨rfl, hb⟩)
        go_ret
        refine ⟨ret_bool ?_, ((Below.refl _ _).alloc (Nat.le_refl _) (.stringIter s _)).trans (hb.mono (by simp [World.iter]))⟩
        rw [Ph.keyB_long HK2.out.2 (by rw [← HK2.out.1]; omega) (by rw [← HK2.out.1]; omega)]
      · have HS : Hid (Ph.keyB s.data.toList = false) := Ph.keyB_short (by rw [← HK2.out.1]; exact h1)
        by_cases ha : 1 ≤ k
        · have ha' : (1 : Int) ≤ (k : Int) := by omega
          have hb'' : (40 : Int) < (k : Int) := by omega
          clear h1
          go_wp2
          go_ret
          exact ⟨ret_bool HS.out.symm, (Below.refl _ _).alloc (Nat.le_refl _) _⟩
        · have ha' : (k : Int) < 1 := by omega
          clear h1
          go_wp2
          go_ret
          exact ⟨ret_bool HS.out.symm, (Below.refl _ _).alloc (Nat.le_refl _) _⟩

end Go.Proofs.YthpenehgfogloaaDoor

/-
  The walk of the reference's Key, for a seat that lacks its neighbours.
-/
set_option linter.unusedVariables false
set_option maxRecDepth 10000
namespace Go.Proofs.YthpenehgfogloaaDoor
open Go.RowKit

-- pieces

set_option maxHeartbeats 400000 in
theorem ref_Key (s : ByteArray) (w : World) (hs : s.size ≤ 1000000) :
    Calls Tryd.prog 31 #[.string s] w fun e w' => e = .returned (.bool (Ph.keyB s.data.toList)) ∧ Below w.heap.size w w' := by
  have hcl := Ph.count_le s
  have hcl' : (Ph.rs s.data.toList).length ≤ s.size := hcl
  by_cases h1 : (Ph.rs s.data.toList).length < 1 ∨ 40 < (Ph.rs s.data.toList).length ∨ Lib.validD s.data.toList = false
  · have HF : Hid (Ph.keyB s.data.toList = false) := by
      show _ = _
      rcases h1 with h | h | h
      · exact Ph.keyB_short (by unfold Ph.count; omega)
      · exact Ph.keyB_short (by unfold Ph.count; omega)
      · simp [Ph.keyB, h]
    have H1 := Lib.hid h1
    clear h1
    by_cases c1 : (Ph.rs s.data.toList).length < 1
    · have c1' : ((Ph.rs s.data.toList).length : Int) < 1 := by omega
      go_enter Tryd.func31, Tryd.ntmps31
      go_wp2_with fail
      refine (ref_Runes s _ hs).mono ?_
      rintro e w' ⟨vl, va, rfl, hl, ha, hb⟩
      obtain ⟨Al, cl, rfl, _, _, fl⟩ := own_slice hl
      go_wp2
      go_ret
      exact ⟨ret_bool HF.out.symm, hb⟩
    · have c1' : (1 : Int) ≤ ((Ph.rs s.data.toList).length : Int) := by omega
      by_cases c2 : 40 < (Ph.rs s.data.toList).length
      · have c2' : (40 : Int) < ((Ph.rs s.data.toList).length : Int) := by omega
        go_enter Tryd.func31, Tryd.ntmps31
        go_wp2_with fail
        refine (ref_Runes s _ hs).mono ?_
        rintro e w' ⟨vl, va, rfl, hl, ha, hb⟩
        obtain ⟨Al, cl, rfl, _, _, fl⟩ := own_slice hl
        go_wp2
        go_ret
        exact ⟨ret_bool HF.out.symm, hb⟩
      · have c2' : ((Ph.rs s.data.toList).length : Int) ≤ 40 := by omega
        have c3 : Lib.validD s.data.toList = false := by
          rcases H1.out with h | h | h
          · omega
          · omega
          · exact h
        go_enter Tryd.func31, Tryd.ntmps31
        go_wp2_with fail
        refine (ref_Runes s _ hs).mono ?_
        rintro e w' ⟨vl, va, rfl, hl, ha, hb⟩
        rw [c3]
        clear c3
        obtain ⟨Al, cl, rfl, _, _, fl⟩ := own_slice hl
        go_wp2
        go_ret
        exact ⟨ret_bool HF.out.symm, hb⟩
  · have c1' : (1 : Int) ≤ ((Ph.rs s.data.toList).length : Int) := by omega
    have c2' : ((Ph.rs s.data.toList).length : Int) ≤ 40 := by omega
    have c3 : Lib.validD s.data.toList = true := by
      cases h : Lib.validD s.data.toList
      · exact absurd (.inr (.inr h)) h1
      · rfl
    have HK : Hid (Ph.keyB s.data.toList = Ph.plainB (Ph.rs s.data.toList)) := by
      show _ = _
      cases hp : Ph.plainB (Ph.rs s.data.toList)
      · exact Ph.keyB_bad hp
      · rw [Ph.keyB_long hp (by unfold Ph.count; omega) (by unfold Ph.count; omega), c3]
    have hok := Ph.rs_small s.data.toList
    have HOK := Lib.hid hok
    clear h1 hok
    go_enter Tryd.func31, Tryd.ntmps31
    go_wp2_with fail
    refine (ref_Runes s _ hs).mono ?_
    rintro e w' ⟨vl, va, rfl, hl, ha, hb⟩
    rw [c3]
    clear c3
    obtain ⟨Al, cl, rfl, _, _, fl⟩ := own_slice hl
    obtain ⟨g, rfl, fc⟩ := fl (by omega)
    have FC := Lib.hid fc
    clear fc fl
    go_wp2
    go_loop [6] (fun i => ∃ k : Nat, k ≤ (Ph.rs s.data.toList).length ∧ i = .int .i64 k ∧ Hid (Ph.keyB s.data.toList = Ph.plainB ((Ph.rs s.data.toList).drop k))) (fun i => (Ph.rs s.data.toList).length - (intOf i).toNat)
    case atStart => exact ⟨0, by omega, rfl, by show _ = _; rw [HK.out]; rfl⟩
    case round =>
      obtain ⟨k, hk, rfl, HP⟩ := hrel
      by_cases hlt : k < (Ph.rs s.data.toList).length
      · have hlt' : (k : Int) < ((Ph.rs s.data.toList).length : Int) := by omega
        have hc := FC.out k (by omega)
        rw [Ph.runeVals_get _ k hlt] at hc
        have HD : Hid ((Ph.rs s.data.toList).drop k = (Ph.rs s.data.toList)[k] :: (Ph.rs s.data.toList).drop (k + 1)) := List.drop_eq_getElem_cons hlt
        have hr := HOK.out _ (List.getElem_mem hlt)
        generalize (Ph.rs s.data.toList)[k] = d at *
        by_cases h32 : d.1 < 32
        · have h32' : (d.1 : Int) < 32 := by omega
          have HB : Hid (Ph.keyB s.data.toList = false) := by show _ = _; rw [HP.out, HD.out, Ph.plainB_bad (.inl h32)]
          go_wp2
          go_ret
          exact ⟨ret_bool HB.out.symm, hb⟩
        · have h32' : (32 : Int) ≤ (d.1 : Int) := by omega
          by_cases h127 : d.1 = 127
          · have h127' : ((d.1 : Int) == 127) = true := by rw [beq_iff_eq]; omega
            have HB : Hid (Ph.keyB s.data.toList = false) := by show _ = _; rw [HP.out, HD.out, Ph.plainB_bad (.inr h127)]
            clear h127
            go_wp2
            go_ret
            exact ⟨ret_bool HB.out.symm, hb⟩
          · have h127' : ((d.1 : Int) == 127) = false := by rw [beq_eq_false_iff_ne]; omega
            have HG : Hid (Ph.keyB s.data.toList = Ph.plainB ((Ph.rs s.data.toList).drop (k + 1))) := by show _ = _; rw [HP.out, HD.out, Ph.plainB_good (by omega)]
            clear h127
            go_wp2
            go_round
            case rel => exact ⟨k + 1, by omega, by go_num, HG⟩
            case measure => simp [intOf]; omega
      · have hlt' : ((Ph.rs s.data.toList).length : Int) ≤ (k : Int) := by omega
        have HB : Hid (Ph.keyB s.data.toList = true) := by
          show _ = _
          rw [HP.out, List.drop_eq_nil_of_le (by omega)]; rfl
        go_wp2
        go_ret
        exact ⟨ret_bool HB.out.symm, hb⟩


end Go.Proofs.YthpenehgfogloaaDoor

/-
  The walks of op.may and op.May, and of the reference's MayOp, by Sx.
-/
set_option linter.unusedVariables false
set_option maxRecDepth 10000
namespace Go.Sx
open Go.RowKit
theorem run_eqFields_cons {P : Program} {d : Nat} {xs ys : List Value} {f : Field} {fs : List Field} {W : World} {x y : Value} {b : Bool} {z : List Value} (u : Ty P f.type false z) (hn : (f.name != "_") = true) (hx : xs[f.offset]? = some x) (hy : ys[f.offset]? = some y) (he : (Op.equalIn d f.type x y).run P W = .ok b W) :
    (Op.eqFields d ⟨xs⟩ ⟨ys⟩ (f :: fs)).run P W = if b then (Op.eqFields d ⟨xs⟩ ⟨ys⟩ fs).run P W else .ok false W := by
  have hn' : f.name ≠ "_" := by simpa using hn
  simp only [Op.eqFields, if_pos hn', Sem.run_bind, part, u.isAgg, Result.andThen_ok, Bool.false_eq_true, if_false]
  simp only [List.getElem?_toArray, hx, hy, Sem.run_pure, Result.andThen_ok, he]
  cases b <;> simp
/-- Fields of a record: named, at their places. -/
theorem run_eq3 {P : Program} {T TI TN TS : TypeId} {zi zn zs : List Value} [IntTy P TI .i64] [IntTy P TN .i64] [StrTy P TS] [ui : Ty P TI false zi] [un : Ty P TN false zn] [us : Ty P TS false zs] (ht : P.underlying T = some (.struct (P.fieldsOf T))) (hp : P.stoodInHeld T = false)
    (hF : (P.fieldsOf T).toList.map (fun f => (f.name != "_", f.offset, f.type)) = [(true, 0, TI), (true, 1, TN), (true, 2, TS)]) (k n : Int) (s : ByteArray) (k' n' : Int) (s' : ByteArray) (W : World) :
    (Op.equalIn 10000 T (.agg ⟨[.int .i64 k, .int .i64 n, .string s]⟩) (.agg ⟨[.int .i64 k', .int .i64 n', .string s']⟩)).run P W = .ok ((k == k') && (n == n') && (s.toList == s'.toList)) W := by
  rw [run_equalIn_agg W 9999 T _ _ ht hp]
  obtain ⟨f0, r0, e0, m0, hr0⟩ := List.map_eq_cons_iff.1 hF
  obtain ⟨f1, r1, e1, m1, hr1⟩ := List.map_eq_cons_iff.1 hr0
  obtain ⟨f2, r2, e2, m2, hr2⟩ := List.map_eq_cons_iff.1 hr1
  have hr3 := List.map_eq_nil_iff.1 hr2
  subst hr3 e2 e1
  rw [e0]
  simp only [Prod.mk.injEq] at m0 m1 m2
  obtain ⟨a0, b0, c0⟩ := m0
  obtain ⟨a1, b1, c1⟩ := m1
  obtain ⟨a2, b2, c2⟩ := m2
  rw [run_eqFields_cons (x := .int .i64 k) (y := .int .i64 k') (b := k == k') (z := zi) (by rw [c0]; exact ui) a0 (by rw [b0]; rfl) (by rw [b0]; rfl) (by rw [c0]; exact run_equalIn_int W 9998 TI .i64 .i64 k k' (IntTy.out))]
  rw [run_eqFields_cons (x := .int .i64 n) (y := .int .i64 n') (b := n == n') (z := zn) (by rw [c1]; exact un) a1 (by rw [b1]; rfl) (by rw [b1]; rfl) (by rw [c1]; exact run_equalIn_int W 9998 TN .i64 .i64 n n' (IntTy.out))]
  rw [run_eqFields_cons (x := .string s) (y := .string s') (b := s.toList == s'.toList) (z := zs) (by rw [c2]; exact us) a2 (by rw [b2]; rfl) (by rw [b2]; rfl) (by rw [c2]; exact run_equalIn_string W 9998 TS s s' (StrTy.out))]
  simp only [Op.eqFields, Sem.run_pure]
  cases k == k' <;> cases n == n' <;> cases s.toList == s'.toList <;> rfl
end Go.Sx
namespace Go.Proofs.YthpenehgfogloaaDoor.Sw
open Go.RowKit Go.Sx

/-- Two raw values: the same? -/
def rawEq (k n : Int) (s : ByteArray) (k' n' : Int) (s' : ByteArray) : Bool := (k == k') && (n == n') && (s.toList == s'.toList)
theorem run_rawEqIn (k n : Int) (s : ByteArray) (k' n' : Int) (s' : ByteArray) (W : World) :
    (Op.equalIn 10000 25 (.agg ⟨[.int .i64 k, .int .i64 n, .string s]⟩) (.agg ⟨[.int .i64 k', .int .i64 n', .string s']⟩)).run Tryd.prog W = .ok (rawEq k n s k' n' s') W :=
  run_eq3 Tryd.underlying25 (by kernel_rfl) (by kernel_rfl : _ = [(true, 0, 3), (true, 1, 2), (true, 2, 9)]) k n s k' n' s' W
section
variable {ops : Array Oper} {rest : List Oper} {Q : Exit → Act → World → Prop} {a : Act} {n : Nat} {L : List (Nat × Value)} {W : World} {d : Nat} {T S' : TypeId} {p : String} {e : Array Edge} {x y : Operand} {k m k' m' : Int} {s s' : ByteArray}
theorem st_rawEql (hs : Slots a n L) (hx : ev L x = some (.agg ⟨[.int .i64 k, .int .i64 m, .string s]⟩) := by with_unfolding_all exact rfl) (hy : ev L y = some (.agg ⟨[.int .i64 k', .int .i64 m', .string s']⟩) := by with_unfolding_all exact rfl) (hd : Nat.blt d n = true := by with_unfolding_all exact rfl)
    (c : ∀ a', Slots a' n ((d, .bool (rawEq k m s k' m' s')) :: L) → wpList Tryd.prog ops Q rest a' W) : wpList Tryd.prog ops Q (⟨some d, .binOp .eql 25 x y S', T, p, e, none⟩ :: rest) a W :=
  st_value hs hd (by simp only [execOp, hs.ev hx, hs.ev hy, Sem.run_bind]; rw [run_eqGuard_agg W .eql 25 x y _ _ (by kernel_rfl)]; simp only [Result.andThen_ok]; rw [run_eql_struct, run_rawEqIn]; rfl) c
theorem st_rawNeq (hs : Slots a n L) (hx : ev L x = some (.agg ⟨[.int .i64 k, .int .i64 m, .string s]⟩) := by with_unfolding_all exact rfl) (hy : ev L y = some (.agg ⟨[.int .i64 k', .int .i64 m', .string s']⟩) := by with_unfolding_all exact rfl) (hd : Nat.blt d n = true := by with_unfolding_all exact rfl)
    (c : ∀ a', Slots a' n ((d, .bool (!rawEq k m s k' m' s')) :: L) → wpList Tryd.prog ops Q rest a' W) : wpList Tryd.prog ops Q (⟨some d, .binOp .neq 25 x y S', T, p, e, none⟩ :: rest) a W :=
  st_value hs hd (by simp only [execOp, hs.ev hx, hs.ev hy, Sem.run_bind]; rw [run_eqGuard_agg W .neq 25 x y _ _ (by kernel_rfl)]; simp only [Result.andThen_ok]; rw [run_neq_struct, run_rawEqIn]; rfl) c
end

theorem one_cellX (x : Option (Int ⊕ ByteArray)) : [vCell x].all (·.oneCell') = true := by rcases x with _ | n | s <;> rfl

theorem op_may (k n : Int) (s : ByteArray) (w : World) (hs0 : s.size ≤ 9223372036854775807) (hT : Tabs w) :
    Calls Tryd.prog 70 ⟨[.agg #[.int .i64 k, .int .i64 n, .string s]]⟩ w fun e w' => e = .returned (.bool ((ofRaw k n s).2 == 0)) ∧ Below w.heap.size w w' := by
  have hw := Has.start (G := 0) (w := w) (Nat.zero_le _)
  refine enter Tryd.func70 Tryd.ntmps70 rfl rfl fun a hs => ?_
  repeat (first | (refine sxv hs hw ?_; clear hs; intro a hs) | refine sxc hs ?_ | (refine sxa hs hw ?_; clear hs hw; intro a b W hw hs) | (refine sxs hs hw ?_; clear hs hw; intro W hs hw))
  refine st_call hs (hc := value_Of k n s _ hs0 (hT.keep (hw.end (by repeat (first | exact In.hd | apply In.tl))))) (k := ?_); rintro e0 W1 ⟨rfl, hb⟩; refine ⟨_, rfl, ?_⟩; clear hs; intro a hs; replace hw := hw.below hb; clear hb
  repeat (first | (refine sxv hs hw ?_; clear hs; intro a hs) | refine sxc hs ?_ | (refine sxa hs hw ?_; clear hs hw; intro a b W hw hs) | (refine sxs hs hw ?_; clear hs hw; intro W hs hw))
  refine st_store hs (hw := hw) (h1 := one_cellX (ofRaw k n s).1) (k := ?_); clear hs hw; intro W hs hw
  repeat (first | (refine sxv hs hw ?_; clear hs; intro a hs) | refine sxc hs ?_ | (refine sxa hs hw ?_; clear hs hw; intro a b W hw hs) | (refine sxs hs hw ?_; clear hs hw; intro W hs hw))
  exact rt1 hs rfl rfl ⟨rfl, hw.end (by repeat (first | exact In.hd | apply In.tl))⟩
/-- May an operation be? -/
def mayOp (kind : Int) (key : ByteArray) (vk vn : Int) (vs : ByteArray) (ok on : Int) (os : ByteArray) (n : Int) : Bool :=
  Ph.keyB key.data.toList && ((ofRaw vk vn vs).2 == 0) && ((ofRaw ok on os).2 == 0) &&
    (if kind = 1 then !rawEq vk vn vs 0 0 ⟨#[]⟩ && rawEq ok on os 0 0 ⟨#[]⟩ && (n == 0)
     else if kind = 2 then rawEq vk vn vs 0 0 ⟨#[]⟩ && rawEq ok on os 0 0 ⟨#[]⟩ && (n == 0)
     else if kind = 3 then (!rawEq vk vn vs 0 0 ⟨#[]⟩ || !rawEq ok on os 0 0 ⟨#[]⟩) && (n == 0)
     else if kind = 4 then rawEq vk vn vs 0 0 ⟨#[]⟩ && rawEq ok on os 0 0 ⟨#[]⟩ && decide (n ≥ -1099511627776) && decide (n ≤ 1099511627776)
     else false)

set_option maxHeartbeats 8000000 in
theorem op_May (kind : Int) (key : ByteArray) (vk vn : Int) (vs : ByteArray) (ok on : Int) (os : ByteArray) (n : Int) (w : World) (hs0 : key.size ≤ 9223372036854775807) (hs1 : vs.size ≤ 9223372036854775807) (hs2 : os.size ≤ 9223372036854775807) (hT : Tabs w) :
    Calls Tryd.prog 39 ⟨[.agg #[.int .i64 kind, .string key, .int .i64 vk, .int .i64 vn, .string vs, .int .i64 ok, .int .i64 on, .string os, .int .i64 n]]⟩ w fun e w' => e = .returned (.bool (mayOp kind key vk vn vs ok on os n)) ∧ Below w.heap.size w w' := by
  have hw := Has.start (G := 0) (w := w) (Nat.zero_le _)
  refine enter Tryd.func39 Tryd.ntmps39 rfl rfl fun a hs => ?_
  repeat (first | (refine sxv hs hw ?_; clear hs; intro a hs) | refine sxc hs ?_ | (refine sxa hs hw ?_; clear hs hw; intro a b W hw hs) | (refine sxs hs hw ?_; clear hs hw; intro W hs hw))
  refine st_call hs (hc := runes_Key key _ hs0 (hT.keep (hw.end (by repeat (first | exact In.hd | apply In.tl))))) (k := ?_); rintro e0 W1 ⟨rfl, hb⟩; refine ⟨_, rfl, ?_⟩; clear hs; intro a hs; replace hw := hw.below hb; clear hb
  cases h1 : (Ph.keyB key.data.toList) with
  | false =>
    rw [h1] at hs
    repeat (first | (refine sxv hs hw ?_; clear hs; intro a hs) | refine sxc hs ?_ | (refine sxa hs hw ?_; clear hs hw; intro a b W hw hs) | (refine sxs hs hw ?_; clear hs hw; intro W hs hw))
    exact rt1 hs rfl rfl ⟨by simp [mayOp, h1], hw.end (by repeat (first | exact In.hd | apply In.tl))⟩
  | true =>
    rw [h1] at hs
    repeat (first | (refine sxv hs hw ?_; clear hs; intro a hs) | refine sxc hs ?_ | (refine sxa hs hw ?_; clear hs hw; intro a b W hw hs) | (refine sxs hs hw ?_; clear hs hw; intro W hs hw))
    refine st_call hs (hc := op_may vk vn vs _ hs1 (hT.keep (hw.end (by repeat (first | exact In.hd | apply In.tl))))) (k := ?_); rintro e0 W1 ⟨rfl, hb⟩; refine ⟨_, rfl, ?_⟩; clear hs; intro a hs; replace hw := hw.below hb; clear hb
    cases h2 : ((ofRaw vk vn vs).2 == 0) with
    | false =>
      rw [h2] at hs
      repeat (first | (refine sxv hs hw ?_; clear hs; intro a hs) | refine sxc hs ?_ | (refine sxa hs hw ?_; clear hs hw; intro a b W hw hs) | (refine sxs hs hw ?_; clear hs hw; intro W hs hw))
      exact rt1 hs rfl rfl ⟨by simp [mayOp, h1, h2], hw.end (by repeat (first | exact In.hd | apply In.tl))⟩
    | true =>
      rw [h2] at hs
      repeat (first | (refine sxv hs hw ?_; clear hs; intro a hs) | refine sxc hs ?_ | (refine sxa hs hw ?_; clear hs hw; intro a b W hw hs) | (refine sxs hs hw ?_; clear hs hw; intro W hs hw))
      refine st_call hs (hc := op_may ok on os _ hs2 (hT.keep (hw.end (by repeat (first | exact In.hd | apply In.tl))))) (k := ?_); rintro e0 W1 ⟨rfl, hb⟩; refine ⟨_, rfl, ?_⟩; clear hs; intro a hs; replace hw := hw.below hb; clear hb
      cases h3 : ((ofRaw ok on os).2 == 0) with
      | false =>
        rw [h3] at hs
        repeat (first | (refine sxv hs hw ?_; clear hs; intro a hs) | refine sxc hs ?_ | (refine sxa hs hw ?_; clear hs hw; intro a b W hw hs) | (refine sxs hs hw ?_; clear hs hw; intro W hs hw))
        exact rt1 hs rfl rfl ⟨by simp [mayOp, h1, h2, h3], hw.end (by repeat (first | exact In.hd | apply In.tl))⟩
      | true =>
        rw [h3] at hs
        repeat (first | (refine sxv hs hw ?_; clear hs; intro a hs) | refine sxc hs ?_ | (refine sxa hs hw ?_; clear hs hw; intro a b W hw hs) | (refine sxs hs hw ?_; clear hs hw; intro W hs hw))
        by_cases k1 : kind = 1
        · subst k1
          repeat (first | (refine sxv hs hw ?_; clear hs; intro a hs) | refine sxc hs ?_ | (refine sxa hs hw ?_; clear hs hw; intro a b W hw hs) | (refine sxs hs hw ?_; clear hs hw; intro W hs hw))
          repeat (first | (refine sxv hs hw ?_; clear hs; intro a hs) | refine sxc hs ?_ | (refine sxa hs hw ?_; clear hs hw; intro a b W hw hs) | (refine sxs hs hw ?_; clear hs hw; intro W hs hw))
          refine st_rawNeq hs (c := ?_); clear hs; intro a hs
          cases h4 : (rawEq vk vn vs 0 0 ⟨#[]⟩) with
          | false =>
            rw [h4] at hs
            repeat (first | (refine sxv hs hw ?_; clear hs; intro a hs) | refine sxc hs ?_ | (refine sxa hs hw ?_; clear hs hw; intro a b W hw hs) | (refine sxs hs hw ?_; clear hs hw; intro W hs hw))
            refine st_rawEql hs (c := ?_); clear hs; intro a hs
            cases h5 : (rawEq ok on os 0 0 ⟨#[]⟩) with
            | false =>
              rw [h5] at hs
              repeat (first | (refine sxv hs hw ?_; clear hs; intro a hs) | refine sxc hs ?_ | (refine sxa hs hw ?_; clear hs hw; intro a b W hw hs) | (refine sxs hs hw ?_; clear hs hw; intro W hs hw))
              exact rt1 hs rfl rfl ⟨by simp [mayOp, h1, h2, h3, h4, h5], hw.end (by repeat (first | exact In.hd | apply In.tl))⟩
            | true =>
              rw [h5] at hs
              repeat (first | (refine sxv hs hw ?_; clear hs; intro a hs) | refine sxc hs ?_ | (refine sxa hs hw ?_; clear hs hw; intro a b W hw hs) | (refine sxs hs hw ?_; clear hs hw; intro W hs hw))
              exact rt1 hs rfl rfl ⟨by simp [mayOp, h1, h2, h3, h4, h5], hw.end (by repeat (first | exact In.hd | apply In.tl))⟩
          | true =>
            rw [h4] at hs
            repeat (first | (refine sxv hs hw ?_; clear hs; intro a hs) | refine sxc hs ?_ | (refine sxa hs hw ?_; clear hs hw; intro a b W hw hs) | (refine sxs hs hw ?_; clear hs hw; intro W hs hw))
            exact rt1 hs rfl rfl ⟨by simp [mayOp, h1, h2, h3, h4], hw.end (by repeat (first | exact In.hd | apply In.tl))⟩
        have e1 : (kind == 1) = false := by simpa using k1
        rw [e1] at hs
        repeat (first | (refine sxv hs hw ?_; clear hs; intro a hs) | refine sxc hs ?_ | (refine sxa hs hw ?_; clear hs hw; intro a b W hw hs) | (refine sxs hs hw ?_; clear hs hw; intro W hs hw))
        by_cases k2 : kind = 2
        · subst k2
          repeat (first | (refine sxv hs hw ?_; clear hs; intro a hs) | refine sxc hs ?_ | (refine sxa hs hw ?_; clear hs hw; intro a b W hw hs) | (refine sxs hs hw ?_; clear hs hw; intro W hs hw))
          repeat (first | (refine sxv hs hw ?_; clear hs; intro a hs) | refine sxc hs ?_ | (refine sxa hs hw ?_; clear hs hw; intro a b W hw hs) | (refine sxs hs hw ?_; clear hs hw; intro W hs hw))
          refine st_rawEql hs (c := ?_); clear hs; intro a hs
          cases h4 : (rawEq vk vn vs 0 0 ⟨#[]⟩) with
          | false =>
            rw [h4] at hs
            repeat (first | (refine sxv hs hw ?_; clear hs; intro a hs) | refine sxc hs ?_ | (refine sxa hs hw ?_; clear hs hw; intro a b W hw hs) | (refine sxs hs hw ?_; clear hs hw; intro W hs hw))
            exact rt1 hs rfl rfl ⟨by simp [mayOp, h1, h2, h3, h4], hw.end (by repeat (first | exact In.hd | apply In.tl))⟩
          | true =>
            rw [h4] at hs
            repeat (first | (refine sxv hs hw ?_; clear hs; intro a hs) | refine sxc hs ?_ | (refine sxa hs hw ?_; clear hs hw; intro a b W hw hs) | (refine sxs hs hw ?_; clear hs hw; intro W hs hw))
            refine st_rawEql hs (c := ?_); clear hs; intro a hs
            cases h5 : (rawEq ok on os 0 0 ⟨#[]⟩) with
            | false =>
              rw [h5] at hs
              repeat (first | (refine sxv hs hw ?_; clear hs; intro a hs) | refine sxc hs ?_ | (refine sxa hs hw ?_; clear hs hw; intro a b W hw hs) | (refine sxs hs hw ?_; clear hs hw; intro W hs hw))
              exact rt1 hs rfl rfl ⟨by simp [mayOp, h1, h2, h3, h4, h5], hw.end (by repeat (first | exact In.hd | apply In.tl))⟩
            | true =>
              rw [h5] at hs
              repeat (first | (refine sxv hs hw ?_; clear hs; intro a hs) | refine sxc hs ?_ | (refine sxa hs hw ?_; clear hs hw; intro a b W hw hs) | (refine sxs hs hw ?_; clear hs hw; intro W hs hw))
              exact rt1 hs rfl rfl ⟨by simp [mayOp, h1, h2, h3, h4, h5], hw.end (by repeat (first | exact In.hd | apply In.tl))⟩
        have e2 : (kind == 2) = false := by simpa using k2
        rw [e2] at hs
        repeat (first | (refine sxv hs hw ?_; clear hs; intro a hs) | refine sxc hs ?_ | (refine sxa hs hw ?_; clear hs hw; intro a b W hw hs) | (refine sxs hs hw ?_; clear hs hw; intro W hs hw))
        by_cases k3 : kind = 3
        · subst k3
          repeat (first | (refine sxv hs hw ?_; clear hs; intro a hs) | refine sxc hs ?_ | (refine sxa hs hw ?_; clear hs hw; intro a b W hw hs) | (refine sxs hs hw ?_; clear hs hw; intro W hs hw))
          repeat (first | (refine sxv hs hw ?_; clear hs; intro a hs) | refine sxc hs ?_ | (refine sxa hs hw ?_; clear hs hw; intro a b W hw hs) | (refine sxs hs hw ?_; clear hs hw; intro W hs hw))
          refine st_rawNeq hs (c := ?_); clear hs; intro a hs
          cases h4 : (rawEq vk vn vs 0 0 ⟨#[]⟩) with
          | false =>
            rw [h4] at hs
            repeat (first | (refine sxv hs hw ?_; clear hs; intro a hs) | refine sxc hs ?_ | (refine sxa hs hw ?_; clear hs hw; intro a b W hw hs) | (refine sxs hs hw ?_; clear hs hw; intro W hs hw))
            exact rt1 hs rfl rfl ⟨by simp [mayOp, h1, h2, h3, h4], hw.end (by repeat (first | exact In.hd | apply In.tl))⟩
          | true =>
            rw [h4] at hs
            repeat (first | (refine sxv hs hw ?_; clear hs; intro a hs) | refine sxc hs ?_ | (refine sxa hs hw ?_; clear hs hw; intro a b W hw hs) | (refine sxs hs hw ?_; clear hs hw; intro W hs hw))
            refine st_rawNeq hs (c := ?_); clear hs; intro a hs
            cases h5 : (rawEq ok on os 0 0 ⟨#[]⟩) with
            | false =>
              rw [h5] at hs
              repeat (first | (refine sxv hs hw ?_; clear hs; intro a hs) | refine sxc hs ?_ | (refine sxa hs hw ?_; clear hs hw; intro a b W hw hs) | (refine sxs hs hw ?_; clear hs hw; intro W hs hw))
              exact rt1 hs rfl rfl ⟨by simp [mayOp, h1, h2, h3, h4, h5], hw.end (by repeat (first | exact In.hd | apply In.tl))⟩
            | true =>
              rw [h5] at hs
              repeat (first | (refine sxv hs hw ?_; clear hs; intro a hs) | refine sxc hs ?_ | (refine sxa hs hw ?_; clear hs hw; intro a b W hw hs) | (refine sxs hs hw ?_; clear hs hw; intro W hs hw))
              exact rt1 hs rfl rfl ⟨by simp [mayOp, h1, h2, h3, h4, h5], hw.end (by repeat (first | exact In.hd | apply In.tl))⟩
        have e3 : (kind == 3) = false := by simpa using k3
        rw [e3] at hs
        repeat (first | (refine sxv hs hw ?_; clear hs; intro a hs) | refine sxc hs ?_ | (refine sxa hs hw ?_; clear hs hw; intro a b W hw hs) | (refine sxs hs hw ?_; clear hs hw; intro W hs hw))
        by_cases k4 : kind = 4
        · subst k4
          repeat (first | (refine sxv hs hw ?_; clear hs; intro a hs) | refine sxc hs ?_ | (refine sxa hs hw ?_; clear hs hw; intro a b W hw hs) | (refine sxs hs hw ?_; clear hs hw; intro W hs hw))
          repeat (first | (refine sxv hs hw ?_; clear hs; intro a hs) | refine sxc hs ?_ | (refine sxa hs hw ?_; clear hs hw; intro a b W hw hs) | (refine sxs hs hw ?_; clear hs hw; intro W hs hw))
          refine st_rawEql hs (c := ?_); clear hs; intro a hs
          cases h4 : (rawEq vk vn vs 0 0 ⟨#[]⟩) with
          | false =>
            rw [h4] at hs
            repeat (first | (refine sxv hs hw ?_; clear hs; intro a hs) | refine sxc hs ?_ | (refine sxa hs hw ?_; clear hs hw; intro a b W hw hs) | (refine sxs hs hw ?_; clear hs hw; intro W hs hw))
            exact rt1 hs rfl rfl ⟨by simp [mayOp, h1, h2, h3, h4], hw.end (by repeat (first | exact In.hd | apply In.tl))⟩
          | true =>
            rw [h4] at hs
            repeat (first | (refine sxv hs hw ?_; clear hs; intro a hs) | refine sxc hs ?_ | (refine sxa hs hw ?_; clear hs hw; intro a b W hw hs) | (refine sxs hs hw ?_; clear hs hw; intro W hs hw))
            refine st_rawEql hs (c := ?_); clear hs; intro a hs
            cases h5 : (rawEq ok on os 0 0 ⟨#[]⟩) with
            | false =>
              rw [h5] at hs
              repeat (first | (refine sxv hs hw ?_; clear hs; intro a hs) | refine sxc hs ?_ | (refine sxa hs hw ?_; clear hs hw; intro a b W hw hs) | (refine sxs hs hw ?_; clear hs hw; intro W hs hw))
              exact rt1 hs rfl rfl ⟨by simp [mayOp, h1, h2, h3, h4, h5], hw.end (by repeat (first | exact In.hd | apply In.tl))⟩
            | true =>
              rw [h5] at hs
              repeat (first | (refine sxv hs hw ?_; clear hs; intro a hs) | refine sxc hs ?_ | (refine sxa hs hw ?_; clear hs hw; intro a b W hw hs) | (refine sxs hs hw ?_; clear hs hw; intro W hs hw))
              cases h6 : (decide (n ≥ -1099511627776)) with
              | false =>
                rw [h6] at hs
                repeat (first | (refine sxv hs hw ?_; clear hs; intro a hs) | refine sxc hs ?_ | (refine sxa hs hw ?_; clear hs hw; intro a b W hw hs) | (refine sxs hs hw ?_; clear hs hw; intro W hs hw))
                exact rt1 hs rfl rfl ⟨by simp [mayOp, h1, h2, h3, h4, h5, h6], hw.end (by repeat (first | exact In.hd | apply In.tl))⟩
              | true =>
                rw [h6] at hs
                repeat (first | (refine sxv hs hw ?_; clear hs; intro a hs) | refine sxc hs ?_ | (refine sxa hs hw ?_; clear hs hw; intro a b W hw hs) | (refine sxs hs hw ?_; clear hs hw; intro W hs hw))
                exact rt1 hs rfl rfl ⟨by simp [mayOp, h1, h2, h3, h4, h5, h6], hw.end (by repeat (first | exact In.hd | apply In.tl))⟩
        have e4 : (kind == 4) = false := by simpa using k4
        rw [e4] at hs
        repeat (first | (refine sxv hs hw ?_; clear hs; intro a hs) | refine sxc hs ?_ | (refine sxa hs hw ?_; clear hs hw; intro a b W hw hs) | (refine sxs hs hw ?_; clear hs hw; intro W hs hw))
        repeat (first | (refine sxv hs hw ?_; clear hs; intro a hs) | refine sxc hs ?_ | (refine sxa hs hw ?_; clear hs hw; intro a b W hw hs) | (refine sxs hs hw ?_; clear hs hw; intro W hs hw))
        exact rt1 hs rfl rfl ⟨by simp [mayOp, h1, h2, h3, k1, k2, k3, k4], hw.end (by repeat (first | exact In.hd | apply In.tl))⟩
end Go.Proofs.YthpenehgfogloaaDoor.Sw

/-
  Plain law: numbers as bytes ('putI', 'getI'), texts behind their length. No program in sight.
-/
namespace Ph

/-- A number's bytes, seven bits each, the least first. -/
def putN : Nat → Nat → List UInt8
  | 0, _ => []
  | f + 1, u => if u < 128 then [u.toUInt8] else (u % 128 + 128).toUInt8 :: putN f (u / 128)
def putU (u : Nat) : List UInt8 := putN 10 u
/-- Signed as unsigned. -/
def zig (n : Int) : Nat := if 0 ≤ n then (2 * n).toNat else (-2 * n - 1).toNat
def unzig (u : Nat) : Int := if u % 2 = 1 then -((u / 2 : Nat) : Int) - 1 else ((u / 2 : Nat) : Int)
def putI (n : Int) : List UInt8 := putU (zig n)

/-- What bytes begin with: the number, how many bytes, the error. -/
def getN : Nat → Nat → List UInt8 → Int × Nat × Int
  | _, _, [] => (0, 0, 2)
  | i, u, c :: t =>
    if i = 9 ∧ 1 < c.toNat then (0, 0, 1)
    else if 128 ≤ c.toNat then getN (i + 1) (u + c.toNat % 128 * 128 ^ i) t
    else if 0 < i ∧ c.toNat = 0 then (0, 0, 1)
    else (unzig (u + c.toNat % 128 * 128 ^ i), i + 1, 0)
def getI (l : List UInt8) : Int × Nat × Int := getN 0 0 l

def putT (s : List UInt8) : List UInt8 := putI s.length ++ s
def getT (l : List UInt8) : List UInt8 × Nat × Int :=
  let g := getI l
  if g.2.2 ≠ 0 then ([], 0, g.2.2)
  else if g.1 < 0 ∨ 1048576 < g.1 then ([], 0, 1)
  else if (l.length - g.2.1 : Nat) < g.1.toNat then ([], 0, 2)
  else ((l.drop g.2.1).take g.1.toNat, g.2.1 + g.1.toNat, 0)

theorem zig_lt {n : Int} (h0 : -9223372036854775808 ≤ n) (h1 : n ≤ 9223372036854775807) : zig n < 18446744073709551616 := by
  unfold zig; split <;> omega
theorem unzig_zig (n : Int) : unzig (zig n) = n := by
  unfold unzig zig; split <;> split <;> omega

theorem putN_length_le : ∀ f u, (putN f u).length ≤ f
  | 0, _ => by simp [putN]
  | f + 1, u => by
    simp only [putN]
    split
    · simp
    · have := putN_length_le f (u / 128)
      simp; omega
theorem putI_length_le (n : Int) : (putI n).length ≤ 10 := putN_length_le 10 _
theorem putI_ne_nil (n : Int) : putI n ≠ [] := by
  unfold putI putU
  simp only [putN]
  split <;> simp
end Ph

/-
  Plain law: a number's bytes are read back, whatever follows; so are a text's.
-/
set_option linter.unusedVariables false
namespace Ph

theorem u8n (x : Nat) (h : x < 256) : (x.toUInt8).toNat = x := by simp; omega

theorem putN_last (f u : Nat) (h : u < 128) : putN (f + 1) u = [u.toUInt8] := by simp [putN, h]
theorem putN_more (f u : Nat) (h : ¬ u < 128) : putN (f + 1) u = (u % 128 + 128).toUInt8 :: putN f (u / 128) := by simp [putN, h]

theorem pow_step (i : Nat) : 128 ^ (i + 1) = 128 ^ i * 128 := Nat.pow_succ 128 i

/-- Read back from place i on. -/
theorem getN_putN : ∀ (f i a u : Nat) (t : List UInt8), u < 128 ^ f → i + f ≤ 10 → 1 ≤ f → (1 ≤ i → 1 ≤ u) → (i = 9 → u ≤ 1) → (∀ j, i + j = 9 → u / 128 ^ j ≤ 1) →
    getN i a (putN f u ++ t) = (unzig (a + u * 128 ^ i), i + (putN f u).length, 0)
  | 0, _, _, _, _, _, _, h, _, _, _ => by omega
  | f + 1, i, a, u, t, hu, hf, _, h1, h9, hj => by
    by_cases hl : u < 128
    · rw [putN_last f u hl]
      have hb := u8n u (by omega)
      simp only [List.cons_append, List.nil_append, getN, hb, List.length_cons, List.length_nil]
      rw [if_neg (by omega), if_neg (by omega), if_neg (by omega)]
      have : u % 128 = u := by omega
      rw [this]
    · rw [putN_more f u hl]
      have hb := u8n (u % 128 + 128) (by omega)
      have hne : i ≠ 9 := fun e => by have := h9 e; omega
      have hf1 : 1 ≤ f := by
        rcases Nat.eq_zero_or_pos f with h0 | h0
        · subst h0; simp at hu; omega
        · exact h0
      simp only [List.cons_append, getN, hb, List.length_cons]
      rw [if_neg (by omega), if_pos (by omega)]
      have hd : u / 128 < 128 ^ f := by
        rw [pow_step] at hu
        omega
      rw [getN_putN f (i + 1) _ (u / 128) t hd (by omega) hf1 (fun _ => by omega) (fun e => by
          have := hj 1 (by omega)
          simpa using this) (fun j e => by
          have := hj (j + 1) (by omega)
          rw [Nat.div_div_eq_div_mul, Nat.mul_comm]
          rw [pow_step] at this
          exact this)]
      have e1 : (u % 128 + 128) % 128 = u % 128 := by omega
      rw [e1, pow_step]
      congr 1
      · congr 1
        have : u / 128 * (128 ^ i * 128) = 128 * (u / 128) * 128 ^ i := by
          rw [Nat.mul_comm (128 ^ i) 128, ← Nat.mul_assoc, Nat.mul_comm (u / 128) 128]
        rw [this]
        have h2 : u = u % 128 + 128 * (u / 128) := by omega
        have h3 : u * 128 ^ i = (u % 128 + 128 * (u / 128)) * 128 ^ i := by rw [← h2]
        rw [h3, Nat.add_mul]
        omega
      · congr 1
        omega

theorem zig_small {n : Int} (h0 : -9223372036854775808 ≤ n) (h1 : n ≤ 9223372036854775807) : zig n < 128 ^ 10 ∧ ∀ j, 0 + j = 9 → zig n / 128 ^ j ≤ 1 := by
  have h := zig_lt h0 h1
  have e10 : (128 : Nat) ^ 10 = 1180591620717411303424 := by decide
  have e9 : (128 : Nat) ^ 9 = 9223372036854775808 := by decide
  refine ⟨by rw [e10]; omega, fun j hj => ?_⟩
  obtain rfl : j = 9 := by omega
  rw [e9]
  omega

/-- A NUMBER's BYTES, READ AGAIN. -/
theorem getI_putI (n : Int) (t : List UInt8) (h0 : -9223372036854775808 ≤ n) (h1 : n ≤ 9223372036854775807) : getI (putI n ++ t) = (n, (putI n).length, 0) := by
  obtain ⟨a, b⟩ := zig_small h0 h1
  unfold getI putI putU
  rw [getN_putN 10 0 0 (zig n) t a (by omega) (by omega) (fun h => by omega) (fun h => by omega) b]
  simp [unzig_zig]

/-- A TEXT's BYTES, READ AGAIN. -/
theorem getT_putT (s t : List UInt8) (h : s.length ≤ 1048576) : getT (putT s ++ t) = (s, (putT s).length, 0) := by
  have g := getI_putI s.length (s ++ t) (by omega) (by omega)
  unfold putT getT
  rw [List.append_assoc, g]
  simp only [List.length_append]
  rw [if_neg (by omega), if_neg (by omega), if_neg (by simp)]
  simp

/-! ### what is read lies in the bytes -/
theorem getN_le : ∀ (l : List UInt8) (i u : Nat), (getN i u l).2.1 ≤ i + l.length ∧ ((getN i u l).2.2 = 0 ∨ (getN i u l).2.2 = 1 ∨ (getN i u l).2.2 = 2) ∧ ((getN i u l).2.2 ≠ 0 → (getN i u l).1 = 0 ∧ (getN i u l).2.1 = 0)
  | [], i, u => by simp [getN]
  | c :: t, i, u => by
    simp only [getN]
    split
    · simp
    · split
      · have := getN_le t (i + 1) (u + c.toNat % 128 * 128 ^ i)
        simp only [List.length_cons]
        exact ⟨by omega, this.2⟩
      · split
        · simp
        · simp
theorem getI_le (l : List UInt8) : (getI l).2.1 ≤ l.length := by
  have := (getN_le l 0 0).1
  unfold getI; omega
theorem getI_err (l : List UInt8) : (getI l).2.2 = 0 ∨ (getI l).2.2 = 1 ∨ (getI l).2.2 = 2 := (getN_le l 0 0).2.1
theorem getI_bad (l : List UInt8) (h : (getI l).2.2 ≠ 0) : (getI l).1 = 0 ∧ (getI l).2.1 = 0 := (getN_le l 0 0).2.2 h
end Ph

/-
  Plain law: the program's bit operations on 64-bit numbers are the sums that the plain law of numbers speaks of.
-/
set_option linter.unusedVariables false
namespace Ph
open Go

theorem umax : IntKind.u64.max = ((18446744073709551615 : Nat) : Int) := by decide
theorem xor_max (x : Nat) (h : x < 18446744073709551616) : bits .xor .u64 IntKind.u64.max (x : Int) = ((18446744073709551615 - x : Nat) : Int) := by
  show IntKind.u64.wrap ((BitVec.ofInt 64 IntKind.u64.max ^^^ BitVec.ofInt 64 (x : Int)).toNat : Int) = _
  have h1 : BitVec.ofInt 64 IntKind.u64.max = BitVec.allOnes 64 := by decide
  rw [h1, BitVec.allOnes_xor, BitVec.toNat_not, ofInt_u64 x h]
  rw [IntKind.wrap_u64]
  omega
/-- The number of a negative int, as the program reckons it. -/
theorem zig_neg (n : Int) (h0 : -9223372036854775808 ≤ n) (h1 : n < 0) : bits .xor .u64 IntKind.u64.max (IntKind.u64.wrap (IntKind.u64.wrap n * 2)) = (zig n : Int) := by
  have e : IntKind.u64.wrap (IntKind.u64.wrap n * 2) = (((2 * n + 18446744073709551616).toNat : Nat) : Int) := by
    rw [IntKind.wrap_u64, IntKind.wrap_u64]; omega
  rw [e, xor_max _ (by omega)]
  unfold zig
  rw [if_neg (by omega)]
  omega
theorem zig_pos (n : Int) (h0 : 0 ≤ n) : n * 2 = (zig n : Int) := by
  unfold zig
  rw [if_pos h0]; omega

set_option maxRecDepth 100000 in
theorem or128 : ∀ X : Fin 256, bits .or .u8 ((X.val : Nat) : Int) 128 = ((X.val % 128 + 128 : Nat) : Int) := by decide
set_option maxRecDepth 100000 in
theorem and127 : ∀ X : Fin 256, bits .and .u8 ((X.val : Nat) : Int) 127 = ((X.val % 128 : Nat) : Int) := by decide
theorem or128_at (x : Nat) (h : x < 256) : bits .or .u8 (x : Int) 128 = ((x % 128 + 128 : Nat) : Int) := or128 ⟨x, h⟩
theorem and127_at (x : Nat) (h : x < 256) : bits .and .u8 (x : Int) 127 = ((x % 128 : Nat) : Int) := and127 ⟨x, h⟩

theorem pow128 (k : Nat) : (128 : Nat) ^ k = 2 ^ (7 * k) := by
  rw [Nat.pow_mul]

/-- Seven bits more. -/
theorem or_seven (x c k : Nat) (hx : x < 128 ^ k) (hc : c < 256) (hs : c % 128 * 128 ^ k < 18446744073709551616) (hk : k ≤ 9) :
    bits .or .u64 (x : Int) (IntKind.u64.wrap (IntKind.u64.wrap (bits .and .u8 (c : Int) 127) * 2 ^ (7 * k))) = ((x + c % 128 * 128 ^ k : Nat) : Int) := by
  have e1 : IntKind.u64.wrap (bits .and .u8 (c : Int) 127) = ((c % 128 : Nat) : Int) := by
    rw [and127_at c hc, IntKind.wrap_u64]; omega
  have e2 : ((c % 128 : Nat) : Int) * 2 ^ (7 * k) = ((c % 128 * 128 ^ k : Nat) : Int) := by
    rw [pow128]; simp
  have e3 : IntKind.u64.wrap (((c % 128 : Nat) : Int) * 2 ^ (7 * k)) = ((c % 128 * 128 ^ k : Nat) : Int) := by
    rw [e2, IntKind.wrap_u64]; omega
  have h9 : (128 : Nat) ^ k ≤ 128 ^ 9 := Nat.pow_le_pow_right (by omega) hk
  have e9 : (128 : Nat) ^ 9 = 9223372036854775808 := by decide
  rw [e1, e3, bits_or_u64_nat x _ (by omega) hs]
  congr 1
  rw [pow128] at hx ⊢
  rw [Nat.or_comm, Nat.mul_comm, ← Nat.two_pow_add_eq_or_of_lt hx]
  omega
/-- The same at the last place, as the walk spells it. -/
theorem or_last (x c : Nat) (hx : x < 128 ^ 9) (hc : c ≤ 1) :
    bits .or .u64 (x : Int) (IntKind.u64.wrap (IntKind.u64.wrap (bits .and .u8 (c : Int) 127) * 9223372036854775808)) = ((x + c % 128 * 128 ^ 9 : Nat) : Int) := by
  have e9 : (128 : Nat) ^ 9 = 9223372036854775808 := by decide
  have h := or_seven x c 9 hx (by omega) (by rw [e9]; omega) (by omega)
  have e2 : (2 : Int) ^ (7 * 9) = 9223372036854775808 := by decide
  rw [e2] at h
  exact h

theorem sum_small (x c k : Nat) (hx : x < 128 ^ k) (hk : k ≤ 8) (hc : c < 256) : c % 128 * 128 ^ k < 18446744073709551616 ∧ x + c % 128 * 128 ^ k < 128 ^ (k + 1) := by
  have h8 : (128 : Nat) ^ k ≤ 128 ^ 8 := Nat.pow_le_pow_right (by omega) hk
  have e8 : (128 : Nat) ^ 8 = 72057594037927936 := by decide
  have h1 : c % 128 * 128 ^ k ≤ 127 * 128 ^ k := Nat.mul_le_mul_right _ (by omega)
  rw [Nat.pow_succ]
  omega

/-- What is read of a number's last byte. -/
theorem unzig_even (y : Nat) (h : y % 2 = 0) : unzig y = ((y / 2 : Nat) : Int) := by unfold unzig; rw [if_neg (by omega)]
theorem unzig_odd (y : Nat) (h : y % 2 = 1) : unzig y = -1 - ((y / 2 : Nat) : Int) := by unfold unzig; rw [if_pos h]; omega

theorem getN_end (k x : Nat) : getN k x [] = (0, 0, 2) := rfl
theorem getN_big (k x : Nat) (c : UInt8) (t : List UInt8) (h : k = 9) (hc : 1 < c.toNat) : getN k x (c :: t) = (0, 0, 1) := by simp only [getN]; rw [if_pos ⟨h, hc⟩]
theorem getN_more (k x : Nat) (c : UInt8) (t : List UInt8) (h : k ≠ 9) (hc : 128 ≤ c.toNat) : getN k x (c :: t) = getN (k + 1) (x + c.toNat % 128 * 128 ^ k) t := by simp only [getN]; rw [if_neg (by omega), if_pos hc]
theorem getN_zero (k x : Nat) (c : UInt8) (t : List UInt8) (h : 0 < k) (hc : c.toNat = 0) : getN k x (c :: t) = (0, 0, 1) := by simp only [getN]; rw [if_neg (by omega), if_neg (by omega), if_pos ⟨h, hc⟩]
theorem getN_last (k x : Nat) (c : UInt8) (t : List UInt8) (h9 : ¬ (k = 9 ∧ 1 < c.toNat)) (hc : c.toNat < 128) (hz : ¬ (0 < k ∧ c.toNat = 0)) : getN k x (c :: t) = (unzig (x + c.toNat % 128 * 128 ^ k), k + 1, 0) := by simp only [getN]; rw [if_neg h9, if_neg (by omega), if_neg hz]

/-- The bytes that are still to be written. -/
theorem putN_split (f u : Nat) (h : ¬ u < 128) (hu : u < 128 ^ f) : ∃ g, f = g + 1 ∧ 1 ≤ g ∧ u / 128 < 128 ^ g ∧ putN f u = (u % 128 + 128).toUInt8 :: putN g (u / 128) := by
  obtain ⟨g, rfl⟩ : ∃ g, f = g + 1 := by
    cases f with
    | zero => simp at hu; omega
    | succ g => exact ⟨g, rfl⟩
  refine ⟨g, rfl, ?_, ?_, putN_more g u h⟩
  · rcases Nat.eq_zero_or_pos g with h0 | h0
    · subst h0; simp at hu; omega
    · exact h0
  · rw [Nat.pow_succ] at hu; omega
end Ph

/-
  The walks of package num and of the reference's numbers, by Sx.
-/
set_option linter.unusedVariables false
set_option maxRecDepth 10000
-- pieces
namespace Go.Proofs.YthpenehgfogloaaDoor.Sw
open Go.RowKit Go.Sx

theorem u8w (x : Nat) (h : x < 128) : IntKind.u8.wrap (x : Int) = ((x.toUInt8).toNat : Int) := by
  rw [IntKind.wrap_u8, Ph.u8n x (by omega)]; omega
theorem u8o (x : Nat) : bits .or .u8 (IntKind.u8.wrap (x : Int)) 128 = (((x % 128 + 128).toUInt8).toNat : Int) := by
  have e : IntKind.u8.wrap (x : Int) = ((x % 256 : Nat) : Int) := by rw [IntKind.wrap_u8]; omega
  rw [e, Ph.or128_at _ (by omega), Ph.u8n _ (by omega)]; omega

/-- The loop and what follows, from any number on. -/
structure PutS where
  v : Value
  acc : List UInt8
  f : Nat
  x : Nat

theorem u8r (x : Nat) : IntKind.u8.wrap (IntKind.u64.wrap ((x : Int).tmod 128 + 128)) = (((x % 128 + 128).toUInt8).toNat : Int) := by
  rw [show (x : Int).tmod 128 = ((x % 128 : Nat) : Int) from by rw [Int.tmod_eq_emod_of_nonneg (by omega)]; omega, IntKind.wrap_u8, IntKind.wrap_u64, Ph.u8n _ (by omega)]; omega
theorem quo7 (x : Nat) (h : x < 18446744073709551616) : IntKind.u64.wrap ((x : Int).tdiv 128) = ((x / 128 : Nat) : Int) := by
  rw [show (x : Int).tdiv 128 = ((x / 128 : Nat) : Int) from by rw [Int.tdiv_eq_ediv_of_nonneg (by omega)]; omega, IntKind.wrap_u64]; omega
theorem shr7 (x : Nat) : (x : Int).fdiv (2 ^ 7) = ((x / 128 : Nat) : Int) := by
  rw [Int.fdiv_eq_ediv_of_nonneg _ (by decide)]; omega

set_option maxHeartbeats 4000000 in
theorem num_Put (w0 W : World) (v : Value) (l : List UInt8) (n : Int) (R : List Res) (h0 : -9223372036854775808 ≤ n) (h1 : n ≤ 9223372036854775807) (hl : l.length ≤ 1000000000) (hw : Has 0 w0 W (OwnB 5 v l :: R)) :
    Calls Tryd.prog 42 ⟨[v, .int .i64 n]⟩ W fun e W' => ∃ ad cap, e = .returned (.slice ad (l ++ Ph.putI n).length cap) ∧ Has 0 w0 W' (OwnB 5 (.slice ad (l ++ Ph.putI n).length cap) (l ++ Ph.putI n) :: R) := by
  refine enter Tryd.func42 Tryd.ntmps42 rfl rfl fun a hs => ?_
  have hz := (Ph.zig_small h0 h1).1
  repeat (first | (refine sxv hs hw ?_; clear hs; intro a hs) | refine sxc hs ?_ | (refine sxa hs hw ?_; clear hs hw; intro a b W hw hs) | (refine sxs hs hw ?_; clear hs hw; intro W hs hw))
  refine merge (M := fun a W => Slots a 28 [(0, v), (5, .int .u64 (Ph.zig n))] ∧ Has 0 w0 W (OwnB 5 v l :: R)) ?_ ?_
  · refine cd_split hs (kt := fun hc => ?_) (kf := fun hc => ?_)
    · have hn : n < 0 := by simpa using hc
      repeat (first | (refine sxv hs hw ?_; clear hs; intro a hs) | refine sxc hs ?_ | (refine sxa hs hw ?_; clear hs hw; intro a b W hw hs) | (refine sxs hs hw ?_; clear hs hw; intro W hs hw))
      exact ⟨hs.of ⟨rfl, int_eq (Ph.zig_neg n h0 hn), trivial⟩, hw⟩
    · have hn : 0 ≤ n := by simpa using hc
      repeat (first | (refine sxv hs hw ?_; clear hs; intro a hs) | refine sxc hs ?_ | (refine sxa hs hw ?_; clear hs hw; intro a b W hw hs) | (refine sxs hs hw ?_; clear hs hw; intro W hs hw))
      have e : IntKind.u64.wrap (IntKind.u64.wrap n * 2 ^ min 1 IntKind.u64.bits) = (Ph.zig n : Int) := by
        rw [← Ph.zig_pos n hn, IntKind.wrap_u64, IntKind.wrap_u64]
        show (n % 18446744073709551616 * 2 % 18446744073709551616 : Int) = _
        omega
      exact ⟨hs.of ⟨rfl, int_eq e, trivial⟩, hw⟩
  clear hs hw
  rintro a W ⟨hs, hw⟩
  repeat (first | (refine sxv hs hw ?_; clear hs; intro a hs) | refine sxc hs ?_ | (refine sxa hs hw ?_; clear hs hw; intro a b W hw hs) | (refine sxs hs hw ?_; clear hs hw; intro W hs hw))
  refine st_loop (σ := PutS) (fun s => [(0, s.v), (5, .int .u64 s.x)]) (fun s => OwnB 5 s.v s.acc :: R) (fun s => s.x < 128 ^ s.f ∧ 1 ≤ s.f ∧ s.f ≤ 10 ∧ s.acc.length + s.f ≤ l.length + 10 ∧ s.acc ++ Ph.putN s.f s.x = l ++ Ph.putI n) (fun s => s.x) ⟨v, l, 10, Ph.zig n⟩ ⟨hz, Nat.le_add_left 1 9, Nat.le_refl 10, by simp, rfl⟩ hs ⟨rfl, rfl, trivial⟩ hw ?_
  clear hs hw
  rintro ⟨v, acc, f, x⟩ a W ⟨hx, hf1, hf2, hal, he⟩ hs hw
  simp only at hx hf1 hf2 hal he hs hw
  repeat (first | (refine sxv hs hw ?_; clear hs; intro a hs) | refine sxc hs ?_ | (refine sxa hs hw ?_; clear hs hw; intro a b W hw hs) | (refine sxs hs hw ?_; clear hs hw; intro W hs hw))
  refine cd_split hs (kt := fun hc => ?_) (kf := fun hc => ?_)
  · have hx' : ¬ x < 128 := by simp at hc; omega
    obtain ⟨g, rfl, hg1, hxg, hpn⟩ := Ph.putN_split f x hx' hx
    repeat (first | (refine sxv hs hw ?_; clear hs; intro a hs) | refine sxc hs ?_ | (refine sxa hs hw ?_; clear hs hw; intro a b W hw hs) | (refine sxs hs hw ?_; clear hs hw; intro W hs hw))
    refine st_append_lit hs hw (k := acc.length) (h63 := by omega) (hb := by omega) (c := ?_)
    clear hs hw; intro a ad cap W hs hw
    repeat (first | (refine sxv hs hw ?_; clear hs; intro a hs) | refine sxc hs ?_ | (refine sxa hs hw ?_; clear hs hw; intro a b W hw hs) | (refine sxs hs hw ?_; clear hs hw; intro W hs hw))
    have hw' := hw.sub (List.Sublist.cons _ (List.Sublist.refl _))
    rw [own_app (l := acc) (m := [(x % 128 + 128).toUInt8]) (by simp) (by rw [bys_app]; exact congrArg (fun u => bys acc ++ [Value.int .u8 u]) (u8o x))] at hw'
    refine st_again ⟨_, acc ++ [(x % 128 + 128).toUInt8], g, x / 128⟩ hs hw' ⟨hxg, hg1, by show g ≤ 10; omega, by simp; omega, ?_⟩ (by show x / 128 < x; omega) ⟨rfl, int_eq (shr7 x), trivial⟩
    rw [← he, hpn]
    simp
  · have hx' : x < 128 := by simp at hc; omega
    obtain ⟨g, rfl⟩ : ∃ g, f = g + 1 := ⟨f - 1, by omega⟩
    repeat (first | (refine sxv hs hw ?_; clear hs; intro a hs) | refine sxc hs ?_ | (refine sxa hs hw ?_; clear hs hw; intro a b W hw hs) | (refine sxs hs hw ?_; clear hs hw; intro W hs hw))
    refine st_append_lit hs hw (k := acc.length) (h63 := by omega) (hb := by omega) (c := ?_)
    clear hs hw; intro a ad cap W hs hw
    repeat (first | (refine sxv hs hw ?_; clear hs; intro a hs) | refine sxc hs ?_ | (refine sxa hs hw ?_; clear hs hw; intro a b W hw hs) | (refine sxs hs hw ?_; clear hs hw; intro W hs hw))
    have hw' := hw.sub (List.Sublist.cons _ (List.Sublist.refl _))
    have e1 : acc ++ [x.toUInt8] = l ++ Ph.putI n := by rw [← he, Ph.putN_last g x hx']
    have e2 : (l ++ Ph.putI n).length = acc.length + 1 := by rw [← e1]; simp
    refine rt1 hs rfl rfl ⟨ad, cap, by rw [e2], ?_⟩
    rw [own_app (l := acc) (m := [x.toUInt8]) (by simp) (by rw [bys_app]; exact congrArg (fun u => bys acc ++ [Value.int .u8 u]) (u8w x hx'))] at hw'
    rw [e2, ← e1]
    exact hw'

/-- A text behind its length. -/
theorem putT_eq (s : ByteArray) : Ph.putI (s.size : Int) ++ s.data.toList = Ph.putT s.data.toList := by
  unfold Ph.putT
  rw [show (s.data.toList.length : Int) = (s.size : Int) from by rw [Array.length_toList]; rfl]
theorem src_str {P : Program} {T : TypeId} [t : StrTy P T] (s : ByteArray) (W : World) : Src P 1 T (.string s) s.data.toList.length (bys s.data.toList) W := by
  have := src_string (P := P) (S := T) (W := W) s
  rwa [show s.size = s.data.toList.length from by rw [Array.length_toList]; rfl] at this

set_option maxHeartbeats 4000000 in
theorem num_PutText (w0 W : World) (v : Value) (l : List UInt8) (s : ByteArray) (R : List Res) (hs0 : s.size ≤ 1000000000) (hl : l.length ≤ 1000000000) (hw : Has 0 w0 W (OwnB 5 v l :: R)) :
    Calls Tryd.prog 44 ⟨[v, .string s]⟩ W fun e W' => ∃ ad cap, e = .returned (.slice ad (l ++ Ph.putT s.data.toList).length cap) ∧ Has 0 w0 W' (OwnB 5 (.slice ad (l ++ Ph.putT s.data.toList).length cap) (l ++ Ph.putT s.data.toList) :: R) := by
  have e := putT_eq s
  have hd : s.data.toList.length = s.size := by rw [Array.length_toList]; rfl
  have hp := Ph.putI_length_le (s.size : Int)
  refine enter Tryd.func44 Tryd.ntmps44 rfl rfl fun a hs => ?_
  repeat (first | (refine sxv hs hw ?_; clear hs; intro a hs) | refine sxc hs ?_ | (refine sxa hs hw ?_; clear hs hw; intro a b W hw hs) | (refine sxs hs hw ?_; clear hs hw; intro W hs hw))
  refine st_call hs (hc := num_Put w0 W v l s.size R (by omega) (by omega) hl hw) (k := ?_); rintro e0 W1 ⟨ad, cap, rfl, hw1⟩; refine ⟨_, rfl, ?_⟩; clear hs hw; intro a hs; have hw := hw1; clear hw1
  repeat (first | (refine sxv hs hw ?_; clear hs; intro a hs) | refine sxc hs ?_ | (refine sxa hs hw ?_; clear hs hw; intro a b W hw hs) | (refine sxs hs hw ?_; clear hs hw; intro W hs hw))
  refine st_append_b hs hw (l := l ++ Ph.putI (s.size : Int)) (m := s.data.toList) (hr := src_str s W1) (hb := by rw [List.length_append]; omega) (c := ?_)
  clear hs hw; intro a ad cap W hs hw
  repeat (first | (refine sxv hs hw ?_; clear hs; intro a hs) | refine sxc hs ?_ | (refine sxa hs hw ?_; clear hs hw; intro a b W hw hs) | (refine sxs hs hw ?_; clear hs hw; intro W hs hw))
  rw [List.append_assoc, e] at hs hw
  exact rt1 hs rfl rfl ⟨ad, cap, rfl, hw⟩

set_option maxHeartbeats 4000000 in
theorem ref_Put (w0 W : World) (n : Int) (R : List Res) (h0 : -9223372036854775808 ≤ n) (h1 : n ≤ 9223372036854775807) (hw : Has 0 w0 W R) :
    Calls Tryd.prog 60 ⟨[.int .i64 n]⟩ W fun e W' => ∃ ad cap, e = .returned (.slice ad (Ph.putI n).length cap) ∧ Has 0 w0 W' (OwnB 5 (.slice ad (Ph.putI n).length cap) (Ph.putI n) :: R) := by
  refine enter Tryd.func60 Tryd.ntmps60 rfl rfl fun a hs => ?_
  have hz := (Ph.zig_small h0 h1).1
  repeat (first | (refine sxv hs hw ?_; clear hs; intro a hs) | refine sxc hs ?_ | (refine sxa hs hw ?_; clear hs hw; intro a b W hw hs) | (refine sxs hs hw ?_; clear hs hw; intro W hs hw))
  refine merge (M := fun a W => Slots a 28 [(3, .int .u64 (Ph.zig n))] ∧ Has 0 w0 W R) ?_ ?_
  · refine cd_split hs (kt := fun hc => ?_) (kf := fun hc => ?_)
    · have hn : n < 0 := by simpa using hc
      repeat (first | (refine sxv hs hw ?_; clear hs; intro a hs) | refine sxc hs ?_ | (refine sxa hs hw ?_; clear hs hw; intro a b W hw hs) | (refine sxs hs hw ?_; clear hs hw; intro W hs hw))
      exact ⟨hs.of ⟨int_eq (Ph.zig_neg n h0 hn), trivial⟩, hw⟩
    · have hn : 0 ≤ n := by simpa using hc
      repeat (first | (refine sxv hs hw ?_; clear hs; intro a hs) | refine sxc hs ?_ | (refine sxa hs hw ?_; clear hs hw; intro a b W hw hs) | (refine sxs hs hw ?_; clear hs hw; intro W hs hw))
      have e : IntKind.u64.wrap (IntKind.u64.wrap n * 2) = (Ph.zig n : Int) := by
        rw [← Ph.zig_pos n hn, IntKind.wrap_u64, IntKind.wrap_u64]
        omega
      exact ⟨hs.of ⟨int_eq e, trivial⟩, hw⟩
  clear hs hw
  rintro a W ⟨hs, hw⟩
  repeat (first | (refine sxv hs hw ?_; clear hs; intro a hs) | refine sxc hs ?_ | (refine sxa hs hw ?_; clear hs hw; intro a b W hw hs) | (refine sxs hs hw ?_; clear hs hw; intro W hs hw))
  have hw := hw.nilB 5
  refine st_loop (σ := PutS) (fun s => [(4, s.v), (3, .int .u64 s.x)]) (fun s => OwnB 5 s.v s.acc :: R) (fun s => s.x < 128 ^ s.f ∧ 1 ≤ s.f ∧ s.f ≤ 10 ∧ s.acc.length + s.f ≤ 10 ∧ s.x < 18446744073709551616 ∧ s.acc ++ Ph.putN s.f s.x = Ph.putI n) (fun s => s.x) ⟨.slice none 0 0, [], 10, Ph.zig n⟩ ⟨hz, Nat.le_add_left 1 9, Nat.le_refl 10, by simp, Ph.zig_lt h0 h1, rfl⟩ hs ⟨rfl, rfl, trivial⟩ hw ?_
  clear hs hw
  rintro ⟨v, acc, f, x⟩ a W ⟨hx, hf1, hf2, hal, hxl, he⟩ hs hw
  simp only at hx hf1 hf2 hal hxl he hs hw
  repeat (first | (refine sxv hs hw ?_; clear hs; intro a hs) | refine sxc hs ?_ | (refine sxa hs hw ?_; clear hs hw; intro a b W hw hs) | (refine sxs hs hw ?_; clear hs hw; intro W hs hw))
  refine cd_split hs (kt := fun hc => ?_) (kf := fun hc => ?_)
  · have hx' : ¬ x < 128 := by simp at hc; omega
    obtain ⟨g, rfl, hg1, hxg, hpn⟩ := Ph.putN_split f x hx' hx
    repeat (first | (refine sxv hs hw ?_; clear hs; intro a hs) | refine sxc hs ?_ | (refine sxa hs hw ?_; clear hs hw; intro a b W hw hs) | (refine sxs hs hw ?_; clear hs hw; intro W hs hw))
    refine st_append_lit hs hw (k := acc.length) (h63 := by omega) (hb := by omega) (c := ?_)
    clear hs hw; intro a ad cap W hs hw
    repeat (first | (refine sxv hs hw ?_; clear hs; intro a hs) | refine sxc hs ?_ | (refine sxa hs hw ?_; clear hs hw; intro a b W hw hs) | (refine sxs hs hw ?_; clear hs hw; intro W hs hw))
    have hw' := hw.sub (List.Sublist.cons _ (List.Sublist.refl _))
    rw [own_app (l := acc) (m := [(x % 128 + 128).toUInt8]) (by simp) (by rw [bys_app]; exact congrArg (fun u => bys acc ++ [Value.int .u8 u]) (u8r x))] at hw'
    refine st_again ⟨_, acc ++ [(x % 128 + 128).toUInt8], g, x / 128⟩ hs hw' ⟨hxg, hg1, by show g ≤ 10; omega, by simp; omega, by show x / 128 < _; omega, ?_⟩ (by show x / 128 < x; omega) ⟨rfl, int_eq (quo7 x hxl), trivial⟩
    rw [← he, hpn]
    simp
  · have hx' : x < 128 := by simp at hc; omega
    obtain ⟨g, rfl⟩ : ∃ g, f = g + 1 := ⟨f - 1, by omega⟩
    repeat (first | (refine sxv hs hw ?_; clear hs; intro a hs) | refine sxc hs ?_ | (refine sxa hs hw ?_; clear hs hw; intro a b W hw hs) | (refine sxs hs hw ?_; clear hs hw; intro W hs hw))
    refine st_append_lit hs hw (k := acc.length) (h63 := by omega) (hb := by omega) (c := ?_)
    clear hs hw; intro a ad cap W hs hw
    repeat (first | (refine sxv hs hw ?_; clear hs; intro a hs) | refine sxc hs ?_ | (refine sxa hs hw ?_; clear hs hw; intro a b W hw hs) | (refine sxs hs hw ?_; clear hs hw; intro W hs hw))
    have hw' := hw.sub (List.Sublist.cons _ (List.Sublist.refl _))
    have e1 : acc ++ [x.toUInt8] = Ph.putI n := by rw [← he, Ph.putN_last g x hx']
    have e2 : (Ph.putI n).length = acc.length + 1 := by rw [← e1]; simp
    refine rt1 hs rfl rfl ⟨ad, cap, by rw [e2], ?_⟩
    rw [own_app (l := acc) (m := [x.toUInt8]) (by simp) (by rw [bys_app]; exact congrArg (fun u => bys acc ++ [Value.int .u8 u]) (u8w x hx'))] at hw'
    rw [e2, ← e1]
    exact hw'

set_option maxHeartbeats 4000000 in
theorem ref_PutText (w0 W : World) (s : ByteArray) (R : List Res) (hs0 : s.size ≤ 1000000000) (hw : Has 0 w0 W R) :
    Calls Tryd.prog 61 ⟨[.string s]⟩ W fun e W' => ∃ ad cap, e = .returned (.slice ad (Ph.putT s.data.toList).length cap) ∧ Has 0 w0 W' (OwnB 5 (.slice ad (Ph.putT s.data.toList).length cap) (Ph.putT s.data.toList) :: R) := by
  have e := putT_eq s
  have hd : s.data.toList.length = s.size := by rw [Array.length_toList]; rfl
  have hp := Ph.putI_length_le (s.size : Int)
  refine enter Tryd.func61 Tryd.ntmps61 rfl rfl fun a hs => ?_
  repeat (first | (refine sxv hs hw ?_; clear hs; intro a hs) | refine sxc hs ?_ | (refine sxa hs hw ?_; clear hs hw; intro a b W hw hs) | (refine sxs hs hw ?_; clear hs hw; intro W hs hw))
  refine st_call hs (hc := ref_Put w0 W s.size R (by omega) (by omega) hw) (k := ?_); rintro e0 W1 ⟨ad, cap, rfl, hw1⟩; refine ⟨_, rfl, ?_⟩; clear hs hw; intro a hs; have hw := hw1; clear hw1
  repeat (first | (refine sxv hs hw ?_; clear hs; intro a hs) | refine sxc hs ?_ | (refine sxa hs hw ?_; clear hs hw; intro a b W hw hs) | (refine sxs hs hw ?_; clear hs hw; intro W hs hw))
  refine st_append_b hs hw (l := Ph.putI (s.size : Int)) (m := s.data.toList) (hr := src_str s W1) (hb := by omega) (c := ?_)
  clear hs hw; intro a ad cap W hs hw
  repeat (first | (refine sxv hs hw ?_; clear hs; intro a hs) | refine sxc hs ?_ | (refine sxa hs hw ?_; clear hs hw; intro a b W hw hs) | (refine sxs hs hw ?_; clear hs hw; intro W hs hw))
  rw [e] at hs hw
  exact rt1 hs rfl rfl ⟨ad, cap, rfl, hw⟩

/-- A raw value's bytes. -/
def putR (k n : Int) (s : ByteArray) : List UInt8 := Ph.putI k ++ (if k = 1 then Ph.putI n else if k = 2 then Ph.putT s.data.toList else [])

set_option maxHeartbeats 4000000 in
theorem ref_PutRaw (w0 W : World) (k n : Int) (s : ByteArray) (R : List Res) (hk0 : -9223372036854775808 ≤ k) (hk1 : k ≤ 9223372036854775807) (h0 : -9223372036854775808 ≤ n) (h1 : n ≤ 9223372036854775807) (hs0 : s.size ≤ 1000000000) (hw : Has 0 w0 W R) :
    Calls Tryd.prog 62 ⟨[.agg #[.int .i64 k, .int .i64 n, .string s]]⟩ W fun e W' => ∃ ad cap, e = .returned (.slice ad (putR k n s).length cap) ∧ Has 0 w0 W' (OwnB 5 (.slice ad (putR k n s).length cap) (putR k n s) :: R) := by
  have hd : s.data.toList.length = s.size := by rw [Array.length_toList]; rfl
  have hpk := Ph.putI_length_le k
  have hpn := Ph.putI_length_le n
  have hpt : (Ph.putT s.data.toList).length ≤ 1000000010 := by unfold Ph.putT; rw [List.length_append]; have := Ph.putI_length_le s.data.toList.length; omega
  refine enter Tryd.func62 Tryd.ntmps62 rfl rfl fun a hs => ?_
  repeat (first | (refine sxv hs hw ?_; clear hs; intro a hs) | refine sxc hs ?_ | (refine sxa hs hw ?_; clear hs hw; intro a b W hw hs) | (refine sxs hs hw ?_; clear hs hw; intro W hs hw))
  refine st_call hs (hc := ref_Put w0 W k _ hk0 hk1 hw) (k := ?_); rintro e0 W1 ⟨ad, cap, rfl, hw1⟩; refine ⟨_, rfl, ?_⟩; clear hs hw; intro a hs; have hw := hw1; clear hw1
  repeat (first | (refine sxv hs hw ?_; clear hs; intro a hs) | refine sxc hs ?_ | (refine sxa hs hw ?_; clear hs hw; intro a b W hw hs) | (refine sxs hs hw ?_; clear hs hw; intro W hs hw))
  refine cd_split hs (kt := fun hc => ?_) (kf := fun hc => ?_)
  · have hk : k = 1 := by simpa using hc
    subst hk
    repeat (first | (refine sxv hs hw ?_; clear hs; intro a hs) | refine sxc hs ?_ | (refine sxa hs hw ?_; clear hs hw; intro a b W hw hs) | (refine sxs hs hw ?_; clear hs hw; intro W hs hw))
    refine st_call hs (hc := ref_Put w0 _ n _ h0 h1 hw) (k := ?_); rintro e0 W1 ⟨ad, cap, rfl, hw1⟩; refine ⟨_, rfl, ?_⟩; clear hs hw; intro a hs; have hw := hw1; clear hw1
    repeat (first | (refine sxv hs hw ?_; clear hs; intro a hs) | refine sxc hs ?_ | (refine sxa hs hw ?_; clear hs hw; intro a b W hw hs) | (refine sxs hs hw ?_; clear hs hw; intro W hs hw))
    refine st_append_b hs hw (l := Ph.putI 1) (m := Ph.putI n) (hr := src_rd (hw.rd_own (by repeat (first | exact In.hd | apply In.tl))) (bys_one _)) (hb := by omega) (c := ?_)
    clear hs hw; intro a ad cap W hs hw
    repeat (first | (refine sxv hs hw ?_; clear hs; intro a hs) | refine sxc hs ?_ | (refine sxa hs hw ?_; clear hs hw; intro a b W hw hs) | (refine sxs hs hw ?_; clear hs hw; intro W hs hw))
    have e : putR 1 n s = Ph.putI 1 ++ Ph.putI n := rfl
    rw [← e] at hs hw
    exact rt1 hs rfl rfl ⟨ad, cap, rfl, (hw.pick (by repeat (first | exact Pick.hd | apply Pick.tl))).sub (by repeat (first | exact List.Sublist.refl _ | apply List.Sublist.cons_cons | apply List.Sublist.cons))⟩
  · have hk : ¬ k = 1 := by simpa using hc
    repeat (first | (refine sxv hs hw ?_; clear hs; intro a hs) | refine sxc hs ?_ | (refine sxa hs hw ?_; clear hs hw; intro a b W hw hs) | (refine sxs hs hw ?_; clear hs hw; intro W hs hw))
    refine cd_split hs (kt := fun hc => ?_) (kf := fun hc => ?_)
    · have hk2 : k = 2 := by simpa using hc
      subst hk2
      repeat (first | (refine sxv hs hw ?_; clear hs; intro a hs) | refine sxc hs ?_ | (refine sxa hs hw ?_; clear hs hw; intro a b W hw hs) | (refine sxs hs hw ?_; clear hs hw; intro W hs hw))
      refine st_call hs (hc := ref_PutText w0 _ s _ hs0 hw) (k := ?_); rintro e0 W1 ⟨ad, cap, rfl, hw1⟩; refine ⟨_, rfl, ?_⟩; clear hs hw; intro a hs; have hw := hw1; clear hw1
      repeat (first | (refine sxv hs hw ?_; clear hs; intro a hs) | refine sxc hs ?_ | (refine sxa hs hw ?_; clear hs hw; intro a b W hw hs) | (refine sxs hs hw ?_; clear hs hw; intro W hs hw))
      refine st_append_b hs hw (l := Ph.putI 2) (m := Ph.putT s.data.toList) (hr := src_rd (hw.rd_own (by repeat (first | exact In.hd | apply In.tl))) (bys_one _)) (hb := by omega) (c := ?_)
      clear hs hw; intro a ad cap W hs hw
      repeat (first | (refine sxv hs hw ?_; clear hs; intro a hs) | refine sxc hs ?_ | (refine sxa hs hw ?_; clear hs hw; intro a b W hw hs) | (refine sxs hs hw ?_; clear hs hw; intro W hs hw))
      have e : putR 2 n s = Ph.putI 2 ++ Ph.putT s.data.toList := rfl
      rw [← e] at hs hw
      exact rt1 hs rfl rfl ⟨ad, cap, rfl, (hw.pick (by repeat (first | exact Pick.hd | apply Pick.tl))).sub (by repeat (first | exact List.Sublist.refl _ | apply List.Sublist.cons_cons | apply List.Sublist.cons))⟩
    · have hk2 : ¬ k = 2 := by simpa using hc
      repeat (first | (refine sxv hs hw ?_; clear hs; intro a hs) | refine sxc hs ?_ | (refine sxa hs hw ?_; clear hs hw; intro a b W hw hs) | (refine sxs hs hw ?_; clear hs hw; intro W hs hw))
      have e : putR k n s = Ph.putI k := by unfold putR; rw [if_neg hk, if_neg hk2, List.append_nil]
      rw [← e] at hs hw
      exact rt1 hs rfl rfl ⟨ad, cap, rfl, (hw.pick (by repeat (first | exact Pick.hd | apply Pick.tl))).sub (by repeat (first | exact List.Sublist.refl _ | apply List.Sublist.cons_cons | apply List.Sublist.cons))⟩

set_option maxHeartbeats 4000000 in
theorem value_Put (w0 W : World) (v : Value) (l : List UInt8) (k n : Int) (s : ByteArray) (R : List Res) (hk0 : -9223372036854775808 ≤ k) (hk1 : k ≤ 9223372036854775807) (h0 : -9223372036854775808 ≤ n) (h1 : n ≤ 9223372036854775807) (hs0 : s.size ≤ 1000000000) (hl : l.length ≤ 900000000) (hw : Has 0 w0 W (OwnB 5 v l :: R)) :
    Calls Tryd.prog 43 ⟨[v, .agg #[.int .i64 k, .int .i64 n, .string s]]⟩ W fun e W' => ∃ ad cap, e = .returned (.slice ad (l ++ putR k n s).length cap) ∧ Has 0 w0 W' (OwnB 5 (.slice ad (l ++ putR k n s).length cap) (l ++ putR k n s) :: R) := by
  have hpk := Ph.putI_length_le k
  refine enter Tryd.func43 Tryd.ntmps43 rfl rfl fun a hs => ?_
  repeat (first | (refine sxv hs hw ?_; clear hs; intro a hs) | refine sxc hs ?_ | (refine sxa hs hw ?_; clear hs hw; intro a b W hw hs) | (refine sxs hs hw ?_; clear hs hw; intro W hs hw))
  refine st_call hs (hc := num_Put w0 _ v l k _ hk0 hk1 (by omega) (hw.pick (by repeat (first | exact Pick.hd | apply Pick.tl)))) (k := ?_); rintro e0 W1 ⟨ad, cap, rfl, hw1⟩; refine ⟨_, rfl, ?_⟩; clear hs hw; intro a hs; have hw := hw1; clear hw1
  repeat (first | (refine sxv hs hw ?_; clear hs; intro a hs) | refine sxc hs ?_ | (refine sxa hs hw ?_; clear hs hw; intro a b W hw hs) | (refine sxs hs hw ?_; clear hs hw; intro W hs hw))
  refine cd_split hs (kt := fun hc => ?_) (kf := fun hc => ?_)
  · have hk : k = 1 := by simpa using hc
    subst hk
    repeat (first | (refine sxv hs hw ?_; clear hs; intro a hs) | refine sxc hs ?_ | (refine sxa hs hw ?_; clear hs hw; intro a b W hw hs) | (refine sxs hs hw ?_; clear hs hw; intro W hs hw))
    refine st_call hs (hc := num_Put w0 _ _ (l ++ Ph.putI 1) n _ h0 h1 (by rw [List.length_append]; omega) (hw.pick (by repeat (first | exact Pick.hd | apply Pick.tl)))) (k := ?_); rintro e0 W1 ⟨ad, cap, rfl, hw1⟩; refine ⟨_, rfl, ?_⟩; clear hs hw; intro a hs; have hw := hw1; clear hw1
    repeat (first | (refine sxv hs hw ?_; clear hs; intro a hs) | refine sxc hs ?_ | (refine sxa hs hw ?_; clear hs hw; intro a b W hw hs) | (refine sxs hs hw ?_; clear hs hw; intro W hs hw))
    have e : l ++ putR 1 n s = l ++ Ph.putI 1 ++ Ph.putI n := by rw [List.append_assoc]; rfl
    rw [← e] at hs hw
    exact rt1 hs rfl rfl ⟨ad, cap, rfl, (hw.pick (by repeat (first | exact Pick.hd | apply Pick.tl))).sub (by repeat (first | exact List.Sublist.refl _ | apply List.Sublist.cons_cons | apply List.Sublist.cons))⟩
  · have hk : ¬ k = 1 := by simpa using hc
    repeat (first | (refine sxv hs hw ?_; clear hs; intro a hs) | refine sxc hs ?_ | (refine sxa hs hw ?_; clear hs hw; intro a b W hw hs) | (refine sxs hs hw ?_; clear hs hw; intro W hs hw))
    refine cd_split hs (kt := fun hc => ?_) (kf := fun hc => ?_)
    · have hk2 : k = 2 := by simpa using hc
      subst hk2
      repeat (first | (refine sxv hs hw ?_; clear hs; intro a hs) | refine sxc hs ?_ | (refine sxa hs hw ?_; clear hs hw; intro a b W hw hs) | (refine sxs hs hw ?_; clear hs hw; intro W hs hw))
      refine st_call hs (hc := num_PutText w0 _ _ (l ++ Ph.putI 2) s _ hs0 (by rw [List.length_append]; omega) (hw.pick (by repeat (first | exact Pick.hd | apply Pick.tl)))) (k := ?_); rintro e0 W1 ⟨ad, cap, rfl, hw1⟩; refine ⟨_, rfl, ?_⟩; clear hs hw; intro a hs; have hw := hw1; clear hw1
      repeat (first | (refine sxv hs hw ?_; clear hs; intro a hs) | refine sxc hs ?_ | (refine sxa hs hw ?_; clear hs hw; intro a b W hw hs) | (refine sxs hs hw ?_; clear hs hw; intro W hs hw))
      have e : l ++ putR 2 n s = l ++ Ph.putI 2 ++ Ph.putT s.data.toList := by rw [List.append_assoc]; rfl
      rw [← e] at hs hw
      exact rt1 hs rfl rfl ⟨ad, cap, rfl, (hw.pick (by repeat (first | exact Pick.hd | apply Pick.tl))).sub (by repeat (first | exact List.Sublist.refl _ | apply List.Sublist.cons_cons | apply List.Sublist.cons))⟩
    · have hk2 : ¬ k = 2 := by simpa using hc
      repeat (first | (refine sxv hs hw ?_; clear hs; intro a hs) | refine sxc hs ?_ | (refine sxa hs hw ?_; clear hs hw; intro a b W hw hs) | (refine sxs hs hw ?_; clear hs hw; intro W hs hw))
      have e : l ++ putR k n s = l ++ Ph.putI k := by unfold putR; rw [if_neg hk, if_neg hk2, List.append_nil]
      rw [← e] at hs hw
      exact rt1 hs rfl rfl ⟨ad, cap, rfl, (hw.pick (by repeat (first | exact Pick.hd | apply Pick.tl))).sub (by repeat (first | exact List.Sublist.refl _ | apply List.Sublist.cons_cons | apply List.Sublist.cons))⟩

end Go.Proofs.YthpenehgfogloaaDoor.Sw

/-
  The walk of op.text, by Sx: a batch's bytes.
-/
set_option linter.unusedVariables false
set_option maxRecDepth 10000
namespace Go.Sx

/-- A call that yields a new piece and leaves what was there. -/
theorem Has.call {w0 W W' : World} {R : List Res} {r : Res} (h : Has 0 w0 W R) (k : Has 0 W W' (r :: Old W 0 :: [])) : Has 0 w0 W' (r :: R) := by
  have hb := k.end (In.tl In.hd)
  obtain ⟨F1, a1, a2, F2, b1, b2, _⟩ := k.has
  have h1 := h.below hb
  refine ⟨h1.ext, h1.glob, F1, a1, a2, ?_⟩
  exact (h.has.loc fun b hb' => hb.block b hb'.2).mono fun b hb' => ⟨⟨hb'.1, Nat.lt_of_lt_of_le hb'.2 hb.size⟩, fun hF => (b1 b ((b2 b (Nat.zero_le _) hb'.2).1)).2 hF⟩

theorem Has.swap2 {G : Nat} {w W : World} {r q : Res} {R : List Res} (h : Has G w W (r :: q :: R)) : Has G w W (q :: r :: R) := ⟨h.ext, h.glob, HasIn.swap h.has⟩

theorem Has.drop2 {G : Nat} {w W : World} {r q : Res} {R : List Res} (h : Has G w W (r :: q :: R)) : Has G w W (r :: R) := h.sub (List.Sublist.cons_cons _ (List.Sublist.cons _ (List.Sublist.refl _)))

theorem Has.own_slice {G : Nat} {w W : World} {E : TypeId} {size n : Nat} {v : Value} {xs : List Value} {R : List Res} (h : Has G w W (Own E size v n xs :: R)) : ∃ ad cap, v = .slice ad n cap := by
  obtain ⟨_, ad, cap, e, _⟩ := h.rd_own In.hd
  exact ⟨ad, cap, e⟩

end Go.Sx
namespace Go.Proofs.YthpenehgfogloaaDoor.Sw
open Go.RowKit Go.Sx

-- pieces

/-- An operation as data. -/
structure OpD where
  kind : Int
  key : ByteArray
  vk : Int
  vn : Int
  vs : ByteArray
  ok : Int
  on : Int
  os : ByteArray
  n : Int

def opCells (o : OpD) : List Value := [.int .i64 o.kind, .string o.key, .int .i64 o.vk, .int .i64 o.vn, .string o.vs, .int .i64 o.ok, .int .i64 o.on, .string o.os, .int .i64 o.n]

/-- An operation's bytes. -/
def opB (o : OpD) : List UInt8 := Ph.putI o.kind ++ Ph.putT o.key.data.toList ++ (if o.kind = 3 then putR o.vk o.vn o.vs ++ putR o.ok o.on o.os else if o.kind = 1 then putR o.vk o.vn o.vs else if o.kind = 4 then Ph.putI o.n else [])

def headB (c q n : Int) : List UInt8 := Ph.putI c ++ Ph.putI q ++ Ph.putI n

def textB (c q : Int) (l : List OpD) : List UInt8 := headB c q l.length ++ l.flatMap opB

def i64 (n : Int) : Prop := -9223372036854775808 ≤ n ∧ n ≤ 9223372036854775807

structure OpOk (o : OpD) : Prop where
  kind : i64 o.kind
  vk : i64 o.vk
  vn : i64 o.vn
  ok : i64 o.ok
  on : i64 o.on
  n : i64 o.n
  key : o.key.size ≤ 1000000
  vs : o.vs.size ≤ 1000000
  os : o.os.size ≤ 1000000

theorem putT_le (s : ByteArray) : (Ph.putT s.data.toList).length ≤ 10 + s.size := by
  have hd : s.data.toList.length = s.size := by rw [Array.length_toList]; rfl
  unfold Ph.putT
  have := Ph.putI_length_le s.data.toList.length
  rw [List.length_append, hd]
  rw [hd] at this
  omega

theorem putR_le (k n : Int) (s : ByteArray) : (putR k n s).length ≤ 30 + s.size := by
  unfold putR
  have h1 := Ph.putI_length_le k
  have h2 := Ph.putI_length_le n
  have h3 := putT_le s
  rw [List.length_append]
  split
  · omega
  · split
    · omega
    · simp; omega

theorem opB_le {o : OpD} (h : OpOk o) : (opB o).length ≤ 3200000 := by
  have h1 := Ph.putI_length_le o.kind
  have h2 := putT_le o.key
  have h3 := putR_le o.vk o.vn o.vs
  have h4 := putR_le o.ok o.on o.os
  have h5 := Ph.putI_length_le o.n
  have := h.key; have := h.vs; have := h.os
  unfold opB
  rw [List.length_append, List.length_append]
  split
  · rw [List.length_append]; omega
  · split
    · omega
    · split
      · omega
      · simp; omega

theorem headB_le (c q n : Int) : (headB c q n).length ≤ 30 := by
  have h1 := Ph.putI_length_le c
  have h2 := Ph.putI_length_le q
  have h3 := Ph.putI_length_le n
  unfold headB
  rw [List.length_append, List.length_append]; omega

theorem ops_le {l : List OpD} (h : ∀ o ∈ l, OpOk o) : (l.flatMap opB).length ≤ 3200000 * l.length := by
  induction l with
  | nil => simp
  | cons o l ih =>
    have h1 := opB_le (h o (by simp))
    have h2 := ih fun x hx => h x (by simp [hx])
    rw [List.flatMap_cons, List.length_append, List.length_cons]; omega

def headAt (c q n : Int) : Nat → List UInt8
  | 0 => []
  | 1 => Ph.putI c
  | 2 => Ph.putI c ++ Ph.putI q
  | _ => headB c q n

theorem headAt_le (c q n : Int) (i : Nat) : (headAt c q n i).length ≤ 30 := by
  have h1 := Ph.putI_length_le c
  have h2 := Ph.putI_length_le q
  unfold headAt
  split
  · simp
  · omega
  · rw [List.length_append]; omega
  · exact headB_le c q n

theorem cut_ops : ∀ (l : List OpD) (i : Nat) (o : OpD), l[i]? = some o → ((l.flatMap opCells).drop (i * 9)).take 9 = opCells o
  | [], i, o, h => by simp at h
  | x :: l, 0, o, h => by
    simp only [List.getElem?_cons_zero, Option.some.injEq] at h
    subst h
    rw [List.flatMap_cons, Nat.zero_mul, List.drop_zero]
    exact List.take_left' rfl
  | x :: l, i + 1, o, h => by
    rw [List.getElem?_cons_succ] at h
    rw [List.flatMap_cons, show (i + 1) * 9 = (opCells x).length + i * 9 from by rw [Nat.add_mul]; show _ = 9 + _; omega, List.drop_append]
    rw [List.drop_of_length_le (by omega), List.nil_append, show (opCells x).length + i * 9 - (opCells x).length = i * 9 from by omega]
    exact cut_ops l i o h

section

variable {ops : Array Oper} {rest : List Oper} {Q : Exit → Act → World → Prop} {a : Act} {n : Nat} {L : List (Nat × Value)} {W : World} {d : Nat} {T : TypeId} {p : String} {e : Array Edge} {x y : Operand} {v : Value} {q : IntKind}

theorem st_index_op {l : List OpD} {i : Nat} {o : OpD} (hs : Slots a n L) (r : Rd W 9 v l.length (l.flatMap opCells)) (ho : l[i]? = some o) (hx : ev L x = some v := by with_unfolding_all exact rfl) (hy : ev L y = some (.int q (i : Int)) := by with_unfolding_all exact rfl) (hd : Nat.blt d n = true := by with_unfolding_all exact rfl)
    (c : ∀ a' b off, (∀ j u, (opCells o)[j]? = some u → W.cell? ⟨b, off + j, none⟩ = some u) → Slots a' n ((d, .pointer (some ⟨b, off, none⟩)) :: L) → wpList Tryd.prog ops Q rest a' W) : wpList Tryd.prog ops Q (⟨some d, .indexAddr 36 x y, T, p, e, none⟩ :: rest) a W := by
  have hi : i < l.length := (List.getElem?_eq_some_iff.1 ho).1
  refine st_indexAddr (z := opCells ⟨0, ⟨#[]⟩, 0, 0, ⟨#[]⟩, 0, 0, ⟨#[]⟩, 0⟩) hs hx hy r (by omega) (by omega) hd fun a' b off h1 h2 h3 => c a' b off (fun j u hu => h1 j u ?_) h3
  rw [cut_eq, Int.toNat_natCast]
  exact (congrArg (fun t => t[j]?) (cut_ops l i o ho)).trans hu

end

end Go.Proofs.YthpenehgfogloaaDoor.Sw

/-
  Documents: the walks of doc.New, has, set.
-/
set_option linter.unusedVariables false
set_option maxRecDepth 10000
namespace Go.Proofs.YthpenehgfogloaaDoor.Sw
open Go.RowKit Go.Sx

instance mpDoc : Mp Tryd.prog 73 9 77 := ⟨by kernel_rfl, by kernel_rfl⟩
theorem zeroVal (W : World) : (zeroValue 77).run Tryd.prog W = .ok (.agg ⟨[vCell none]⟩) W := by kernel_rfl
abbrev DV := Int ⊕ ByteArray
/-- A document: keys and values. -/
abbrev Dm := List (ByteArray × DV)
def vOf (x : DV) : Value := .agg ⟨[vCell (some x)]⟩
def kvOf (d : Dm) : KV := d.map fun p => (p.1, vOf p.2)
def dKeys (d : Dm) : Prop := (d.map (·.1)).Nodup
def getK : Dm → ByteArray → Option DV
  | [], _ => none
  | p :: d, k => match ks k p.1 with | true => some p.2 | false => getK d k
def delD (d : Dm) (k : ByteArray) : Dm := d.filter fun p => !ks k p.1
def setD (d : Dm) (k : ByteArray) (v : DV) : Dm := (k, v) :: delD d k
theorem dget_kv : ∀ (d : Dm) (k : ByteArray), (dget (kvOf d) k).getD (.agg ⟨[vCell none]⟩) = .agg ⟨[vCell (getK d k)]⟩
  | [], _ => rfl
  | p :: d, k => by
    simp only [kvOf, List.map_cons, dget, getK]
    cases ks k p.1 with
    | true => rfl
    | false => exact dget_kv d k
theorem getK_none : ∀ {d : Dm} {k : ByteArray}, getK d k = none ↔ k ∉ d.map (·.1)
  | [], _ => by simp [getK]
  | p :: d, k => by
    simp only [getK, List.map_cons, List.mem_cons, not_or]
    cases hk : ks k p.1 with
    | true => simp [ks_iff.1 hk]
    | false =>
      have : k ≠ p.1 := fun h => by rw [ks_iff.2 h] at hk; cases hk
      simp only [this, not_false_eq_true, true_and]
      exact getK_none
theorem getK_mem : ∀ {d : Dm} {k : ByteArray} {v : DV}, dKeys d → (getK d k = some v ↔ (k, v) ∈ d)
  | [], _, _, _ => by simp [getK]
  | p :: d, k, v, h => by
    unfold dKeys at h
    rw [List.map_cons, List.nodup_cons] at h
    simp only [getK, List.mem_cons]
    cases hk : ks k p.1 with
    | true =>
      have e := ks_iff.1 hk
      constructor
      · intro h'
        injection h' with h'
        exact .inl (by rw [e, ← h'])
      · rintro (h' | h')
        · rw [← h']
        · exact absurd (List.mem_map_of_mem (f := (·.1)) h') (by rw [e]; exact h.1)
    | false =>
      have : k ≠ p.1 := fun h => by rw [ks_iff.2 h] at hk; cases hk
      simp only
      rw [getK_mem h.2]
      constructor
      · exact .inr
      · rintro (h' | h')
        · exact absurd (by rw [← h']) this
        · exact h'
theorem dKeys_perm {d d' : Dm} (p : d.Perm d') : dKeys d ↔ dKeys d' := (p.map _).nodup_iff
theorem getK_perm {d d' : Dm} (p : d.Perm d') (h : dKeys d) (k : ByteArray) : getK d k = getK d' k := by
  have h' : dKeys d' := (dKeys_perm p).1 h
  cases hd : getK d k with
  | some v => exact ((getK_mem h').2 (p.mem_iff.1 ((getK_mem h).1 hd))).symm
  | none =>
    rw [getK_none] at hd
    exact (getK_none.2 fun hm => hd ((p.map _).mem_iff.2 hm)).symm
theorem delD_keys {d : Dm} (h : dKeys d) (k : ByteArray) : dKeys (delD d k) := h.sublist (List.filter_sublist.map _)
theorem delD_not {d : Dm} {k : ByteArray} : k ∉ (delD d k).map (·.1) := by
  intro h
  obtain ⟨p, hp, rfl⟩ := List.mem_map.1 h
  have := (List.mem_filter.1 hp).2
  rw [ks_self] at this
  cases this
theorem setD_keys {d : Dm} (h : dKeys d) (k : ByteArray) (v : DV) : dKeys (setD d k v) := by
  unfold dKeys setD
  rw [List.map_cons, List.nodup_cons]
  exact ⟨delD_not, delD_keys h k⟩
theorem delD_perm {d d' : Dm} (p : d.Perm d') (k : ByteArray) : (delD d k).Perm (delD d' k) := p.filter _
theorem setD_perm {d d' : Dm} (p : d.Perm d') (k : ByteArray) (v : DV) : (setD d k v).Perm (setD d' k v) := (delD_perm p k).cons _
theorem filter_all {d : Dm} {k : ByteArray} (h : k ∉ d.map (·.1)) : (d.filter fun p => !ks k p.1) = d := by
  rw [List.filter_eq_self]
  intro p hp
  cases hk : ks k p.1 with
  | false => rfl
  | true => exact absurd (List.mem_map_of_mem (f := (·.1)) hp) (by rw [← ks_iff.1 hk]; exact h)
theorem ddel_kv : ∀ {d : Dm} (k : ByteArray), dKeys d → ddel (kvOf d) k = kvOf (delD d k)
  | [], _, _ => rfl
  | p :: d, k, h => by
    unfold dKeys at h
    rw [List.map_cons, List.nodup_cons] at h
    simp only [kvOf, List.map_cons, ddel, delD, List.filter_cons]
    cases hk : ks k p.1 with
    | true =>
      simp only [Bool.not_true, Bool.false_eq_true, if_false]
      rw [filter_all (by rw [ks_iff.1 hk]; exact h.1)]
    | false =>
      simp only [Bool.not_false, if_true, List.map_cons]
      have := ddel_kv (d := d) k h.2
      unfold kvOf delD at this
      rw [this]
theorem dset_kv : ∀ {d : Dm} (k : ByteArray) (v : DV), dKeys d → ∃ d', dset (kvOf d) k (vOf v) = kvOf d' ∧ d'.Perm (setD d k v)
  | [], k, v, _ => ⟨[(k, v)], rfl, List.Perm.refl _⟩
  | p :: d, k, v, h => by
    unfold dKeys at h
    rw [List.map_cons, List.nodup_cons] at h
    simp only [kvOf, List.map_cons, dset, setD, delD, List.filter_cons]
    cases hk : ks k p.1 with
    | true =>
      refine ⟨(k, v) :: d, rfl, ?_⟩
      simp only [Bool.not_true, Bool.false_eq_true, if_false]
      rw [filter_all (by rw [ks_iff.1 hk]; exact h.1)]
    | false =>
      obtain ⟨d', h1, h2⟩ := dset_kv (d := d) k v h.2
      refine ⟨p :: d', ?_, ?_⟩
      · show (p.1, vOf p.2) :: dset (kvOf d) k (vOf v) = _
        rw [h1]; rfl
      · simp only [Bool.not_false, if_true]
        exact (h2.cons p).trans (List.Perm.swap _ _ _)

/-- A document behind a pointer. -/
def DocAt (p : Nat) (d : Dm) : Res := Ex fun x : Nat × Dm => Cells p [.map (some x.1)] 79 :: MapOf x.1 (kvOf x.2) :: Fact (x.2.Perm d ∧ dKeys d) :: []
section
variable {G p m : Nat} {w W : World} {R : List Res} {d d' : Dm}
theorem docShut (h : Has G w W (Cells p [.map (some m)] 79 :: MapOf m (kvOf d') :: R)) (hp : d'.Perm d) (hk : dKeys d) : Has G w W (DocAt p d :: R) :=
  Has.shut (m, d') ((h.fact (p := d'.Perm d ∧ dKeys d) ⟨hp, hk⟩).perm ((List.Perm.swap _ _ _).trans (List.Perm.cons _ (List.Perm.swap _ _ _))))
theorem docOpen (h : Has G w W (DocAt p d :: R)) : ∃ m d', d'.Perm d ∧ dKeys d ∧ Has G w W (Cells p [.map (some m)] 79 :: MapOf m (kvOf d') :: R) := by
  obtain ⟨⟨m, d'⟩, h⟩ := Has.open h
  have h : Has G w W (Cells p [.map (some m)] 79 :: MapOf m (kvOf d') :: Fact (d'.Perm d ∧ dKeys d) :: R) := h
  obtain ⟨h1, h2⟩ := h.told (In.tl (In.tl In.hd))
  exact ⟨m, d', h1, h2, h.sub (List.Sublist.cons_cons _ (List.Sublist.cons_cons _ (List.Sublist.cons _ (List.Sublist.refl _))))⟩
end

set_option maxHeartbeats 4000000 in
theorem doc_New (w0 W : World) (R : List Res) (hw : Has 0 w0 W R) :
    Calls Tryd.prog 22 ⟨[]⟩ W fun e W' => ∃ p, e = .returned (.pointer (some ⟨p, 0, none⟩)) ∧ Has 0 w0 W' (DocAt p [] :: R) := by
  refine enter Tryd.func22 Tryd.ntmps22 rfl rfl fun a hs => ?_
  repeat (first | (refine sxv hs hw ?_; clear hs; intro a hs) | refine sxc hs ?_ | (refine sxa hs hw ?_; clear hs hw; intro a b W hw hs) | (refine sxs hs hw ?_; clear hs hw; intro W hs hw))
  refine st_makeMap hs hw (c := ?_); clear hs hw; intro a b W hw hs
  repeat (first | (refine sxv hs hw ?_; clear hs; intro a hs) | refine sxc hs ?_ | (refine sxa hs hw ?_; clear hs hw; intro a b W hw hs) | (refine sxs hs hw ?_; clear hs hw; intro W hs hw))
  refine rt1 hs rfl rfl ⟨_, rfl, ?_⟩
  exact docShut (d' := []) hw (List.Perm.refl _) (by unfold dKeys; simp)

theorem kind_some (x : Option DV) : (kindOf x != 0) = x.isSome := by rcases x with _ | n | s <;> rfl

set_option maxHeartbeats 4000000 in
theorem doc_has (w0 W : World) (p : Nat) (d : Dm) (k : ByteArray) (R : List Res) (hw : Has 0 w0 W (DocAt p d :: R)) :
    Calls Tryd.prog 63 ⟨[.pointer (some ⟨p, 0, none⟩), .string k]⟩ W fun e W' => e = .returned (.bool (getK d k).isSome) ∧ Has 0 w0 W' (DocAt p d :: R) := by
  obtain ⟨m, d', hp, hk, hw⟩ := docOpen hw
  refine enter Tryd.func63 Tryd.ntmps63 rfl rfl fun a hs => ?_
  repeat (first | (refine sxv hs hw ?_; clear hs; intro a hs) | refine sxc hs ?_ | (refine sxa hs hw ?_; clear hs hw; intro a b W hw hs) | (refine sxs hs hw ?_; clear hs hw; intro W hs hw))
  refine st_lookup hs (hw := hw) (hz := zeroVal) (c := ?_); clear hs; intro a hs
  rw [dget_kv, getK_perm hp ((dKeys_perm hp).2 hk)] at hs
  repeat (first | (refine sxv hs hw ?_; clear hs; intro a hs) | refine sxc hs ?_ | (refine sxa hs hw ?_; clear hs hw; intro a b W hw hs) | (refine sxs hs hw ?_; clear hs hw; intro W hs hw))
  refine st_call hs (hc := Kind_any (getK d k) _) (k := ?_); rintro e0 W1 ⟨rfl, hb⟩; refine ⟨_, rfl, ?_⟩; clear hs; intro a hs; replace hw := hw.below hb; clear hb
  repeat (first | (refine sxv hs hw ?_; clear hs; intro a hs) | refine sxc hs ?_ | (refine sxa hs hw ?_; clear hs hw; intro a b W hw hs) | (refine sxs hs hw ?_; clear hs hw; intro W hs hw))
  rw [kind_some] at hs
  exact rt1 hs rfl rfl ⟨rfl, docShut hw hp hk⟩

/-- A key's value: of none it goes; not more than fifty keys. -/
def setR (d : Dm) (k : ByteArray) (x : Option DV) : Int × Dm :=
  match x with
  | none => (0, delD d k)
  | some v => if (getK d k).isSome = false ∧ 50 ≤ d.length then (6, d) else (0, setD d k v)

set_option maxHeartbeats 8000000 in
theorem doc_set (w0 W : World) (p : Nat) (d : Dm) (k : ByteArray) (x : Option DV) (R : List Res) (hw : Has 0 w0 W (DocAt p d :: R)) :
    Calls Tryd.prog 73 ⟨[.pointer (some ⟨p, 0, none⟩), .string k, .agg ⟨[vCell x]⟩]⟩ W fun e W' => e = .returned (.int .i64 (setR d k x).1) ∧ Has 0 w0 W' (DocAt p (setR d k x).2 :: R) := by
  refine enter Tryd.func73 Tryd.ntmps73 rfl rfl fun a hs => ?_
  repeat (first | (refine sxv hs hw ?_; clear hs; intro a hs) | refine sxc hs ?_ | (refine sxa hs hw ?_; clear hs hw; intro a b W hw hs) | (refine sxs hs hw ?_; clear hs hw; intro W hs hw))
  refine st_call hs (hc := Kind_any x _) (k := ?_); rintro e0 W1 ⟨rfl, hb⟩; refine ⟨_, rfl, ?_⟩; clear hs; intro a hs; replace hw := hw.below hb; clear hb
  repeat (first | (refine sxv hs hw ?_; clear hs; intro a hs) | refine sxc hs ?_ | (refine sxa hs hw ?_; clear hs hw; intro a b W hw hs) | (refine sxs hs hw ?_; clear hs hw; intro W hs hw))
  cases x with
  | none =>
    repeat (first | (refine sxv hs hw ?_; clear hs; intro a hs) | refine sxc hs ?_ | (refine sxa hs hw ?_; clear hs hw; intro a b W hw hs) | (refine sxs hs hw ?_; clear hs hw; intro W hs hw))
    have hw := hw.sub (List.Sublist.cons _ (List.Sublist.refl _))
    obtain ⟨m, d', hp, hk, hw⟩ := docOpen hw
    repeat (first | (refine sxv hs hw ?_; clear hs; intro a hs) | refine sxc hs ?_ | (refine sxa hs hw ?_; clear hs hw; intro a b W hw hs) | (refine sxs hs hw ?_; clear hs hw; intro W hs hw))
    refine st_delete hs (hw := hw) (c := ?_); clear hs hw; intro W hs hw
    rw [ddel_kv k ((dKeys_perm hp).2 hk)] at hw
    repeat (first | (refine sxv hs hw ?_; clear hs; intro a hs) | refine sxc hs ?_ | (refine sxa hs hw ?_; clear hs hw; intro a b W hw hs) | (refine sxs hs hw ?_; clear hs hw; intro W hs hw))
    exact rt1 hs rfl rfl ⟨rfl, docShut hw (delD_perm hp k) (delD_keys hk k)⟩
  | some v =>
    rw [show (kindOf (some v) == 0) = false from by rcases v with n | s <;> rfl] at hs
    obtain ⟨b5, q5⟩ := nm1 hw; subst q5
    have hw : Has 0 w0 _ (DocAt p d :: Cells b5 [vCell (some v)] 77 :: R) := hw.swap2
    obtain ⟨m, d2, hp, hk, hw⟩ := docOpen hw
    have hlen : d2.length = d.length := hp.length_eq
    have hlen' : (kvOf d2).length = d2.length := by simp [kvOf]
    obtain ⟨d3, h3, h4⟩ := dset_kv k v ((dKeys_perm hp).2 hk)
    refine cd_false hs (k := ?_)
    refine sq ?_
    refine merge (M := fun a W => ∃ m d2, d2.Perm d ∧ Slots a 35 [(0, .pointer (some ⟨p, 0, none⟩)), (1, .string k), (5, .pointer (some ⟨b5, 0, none⟩)), (22, .bool (!(getK d k).isSome && decide ((d.length : Int) ≥ 50)))] ∧ Has 0 w0 W (Cells p [.map (some m)] 79 :: MapOf m (kvOf d2) :: Cells b5 [vCell (some v)] 77 :: R)) ?_ ?_
    · clear h3 h4
      repeat (first | (refine sxv hs hw ?_; clear hs; intro a hs) | refine sxc hs ?_ | (refine sxa hs hw ?_; clear hs hw; intro a b W hw hs) | (refine sxs hs hw ?_; clear hs hw; intro W hs hw))
      refine st_call hs (hc := doc_has w0 _ p d k _ (docShut hw hp hk)) (k := ?_); rintro e0 W1 ⟨rfl, hw1⟩; refine ⟨_, rfl, ?_⟩; clear hs hw; intro a hs; have hw := hw1; clear hw1
      obtain ⟨m, d2, hp, hk, hw⟩ := docOpen hw
      have hlen : d2.length = d.length := hp.length_eq
      have hlen' : (kvOf d2).length = d2.length := by simp [kvOf]
      repeat (first | (refine sxv hs hw ?_; clear hs; intro a hs) | refine sxc hs ?_ | (refine sxa hs hw ?_; clear hs hw; intro a b W hw hs) | (refine sxs hs hw ?_; clear hs hw; intro W hs hw))
      cases hg : (getK d k).isSome with
      | true =>
        rw [hg] at hs
        repeat (first | (refine sxv hs hw ?_; clear hs; intro a hs) | refine sxc hs ?_ | (refine sxa hs hw ?_; clear hs hw; intro a b W hw hs) | (refine sxs hs hw ?_; clear hs hw; intro W hs hw))
        exact ⟨m, d2, hp, hs.of ⟨rfl, rfl, rfl, rfl, trivial⟩, hw⟩
      | false =>
        rw [hg] at hs
        repeat (first | (refine sxv hs hw ?_; clear hs; intro a hs) | refine sxc hs ?_ | (refine sxa hs hw ?_; clear hs hw; intro a b W hw hs) | (refine sxs hs hw ?_; clear hs hw; intro W hs hw))
        refine st_len_map hs (hw := hw) (c := ?_); clear hs; intro a hs
        rw [hlen', hlen] at hs
        repeat (first | (refine sxv hs hw ?_; clear hs; intro a hs) | refine sxc hs ?_ | (refine sxa hs hw ?_; clear hs hw; intro a b W hw hs) | (refine sxs hs hw ?_; clear hs hw; intro W hs hw))
        exact ⟨m, d2, hp, hs.of ⟨rfl, rfl, rfl, bool_eq (by simp), trivial⟩, hw⟩
    clear hs hw hp hlen hlen' h3 h4
    rintro a W ⟨m, d2, hp, hs, hw⟩
    obtain ⟨d3, h3, h4⟩ := dset_kv k v ((dKeys_perm hp).2 hk)
    cases hc : (!(getK d k).isSome && decide ((d.length : Int) ≥ 50)) with
    | true =>
      rw [hc] at hs
      have hR : setR d k (some v) = (6, d) := by
        simp only [Bool.and_eq_true, Bool.not_eq_true', decide_eq_true_eq] at hc
        unfold setR
        simp only
        rw [if_pos ⟨hc.1, by omega⟩]
      repeat (first | (refine sxv hs hw ?_; clear hs; intro a hs) | refine sxc hs ?_ | (refine sxa hs hw ?_; clear hs hw; intro a b W hw hs) | (refine sxs hs hw ?_; clear hs hw; intro W hs hw))
      have hw := docShut (hw.sub (List.Sublist.cons_cons _ (List.Sublist.cons_cons _ (List.Sublist.cons _ (List.Sublist.refl _))))) hp hk
      exact rt1 hs rfl rfl ⟨by rw [hR], by rw [hR]; exact hw⟩
    | false =>
    rw [hc] at hs
    have hR : setR d k (some v) = (0, setD d k v) := by
      unfold setR
      simp only
      rw [if_neg]
      rintro ⟨h1, h2⟩
      rw [h1] at hc
      simp at hc
      omega
    repeat (first | (refine sxv hs hw ?_; clear hs; intro a hs) | refine sxc hs ?_ | (refine sxa hs hw ?_; clear hs hw; intro a b W hw hs) | (refine sxs hs hw ?_; clear hs hw; intro W hs hw))
    refine rg_draw (V := [.pointer (some ⟨p, 0, none⟩), .pointer (some ⟨p, 0, none⟩), .pointer (some ⟨p, 0 + 0, none⟩), .map (some m), .string k, .agg ⟨[vCell (some v)]⟩, .bool true])
      (Rs := fun D => Cells p [.map (some m)] 79 :: (if D 6 then MapOf m (kvOf d3) else MapOf m (kvOf d2)) :: Cells b5 [vCell (some v)] 77 :: R) hs hw (ho := ⟨?_, ?_, ?_, ?_, ?_, ?_, ?c6_1, trivial⟩) (k := ?k_1)
    case c6_1 =>
      intro LD D a W hcl hi hp hs hw
      simp only [hi, Bool.false_eq_true, if_false] at hw
      refine st_update hs (hw := hw) (v := vOf v) (c := ?_); clear hs hw; intro W hs hw
      rw [h3] at hw
      repeat (first | (refine sxv hs hw ?_; clear hs; intro a hs) | refine sxc hs ?_ | (refine sxa hs hw ?_; clear hs hw; intro a b W hw hs) | (refine sxs hs hw ?_; clear hs hw; intro W hs hw))
      exact ⟨hs, hw⟩
    case k_1 =>
      clear hs hw
      intro a W hs hw
      replace hw : Has 0 w0 W (Cells p [.map (some m)] 79 :: MapOf m (kvOf d3) :: Cells b5 [vCell (some v)] 77 :: R) := hw
      repeat (first | (refine sxv hs hw ?_; clear hs; intro a hs) | refine sxc hs ?_ | (refine sxa hs hw ?_; clear hs hw; intro a b W hw hs) | (refine sxs hs hw ?_; clear hs hw; intro W hs hw))
      have hw := docShut (hw.sub (List.Sublist.cons_cons _ (List.Sublist.cons_cons _ (List.Sublist.cons _ (List.Sublist.refl _))))) (h4.trans (setD_perm hp k v)) (setD_keys hk k v)
      exact rt1 hs rfl rfl ⟨by rw [hR], by rw [hR]; exact hw⟩
    all_goals
      intro LD D a W hcl hi hp hs hw
      repeat (first | (refine sxv hs hw ?_; clear hs; intro a hs) | refine sxc hs ?_ | (refine sxa hs hw ?_; clear hs hw; intro a b W hw hs) | (refine sxs hs hw ?_; clear hs hw; intro W hs hw))
      exact ⟨hs, hw⟩
end Go.Proofs.YthpenehgfogloaaDoor.Sw

/-
  The walks of doc.in and doc.do.
-/
set_option linter.unusedVariables false
set_option maxRecDepth 10000
namespace Go.Proofs.YthpenehgfogloaaDoor.Sw
open Go.RowKit Go.Sx

def inB (n : Int) : Bool := decide (n ≥ -4611686018427387904) && decide (n ≤ 4611686018427387904)
set_option maxHeartbeats 4000000 in
theorem doc_in (n : Int) (W : World) : Calls Tryd.prog 72 ⟨[.int .i64 n]⟩ W fun e W' => e = .returned (.bool (inB n)) ∧ Below W.heap.size W W' := by
  have hw := Has.start (G := 0) (w := W) (Nat.zero_le _)
  refine enter Tryd.func72 Tryd.ntmps72 rfl rfl fun a hs => ?_
  repeat (first | (refine sxv hs hw ?_; clear hs; intro a hs) | refine sxc hs ?_ | (refine sxa hs hw ?_; clear hs hw; intro a b W hw hs) | (refine sxs hs hw ?_; clear hs hw; intro W hs hw))
  cases h : decide (n ≥ -4611686018427387904) with
  | true =>
    rw [h] at hs
    repeat (first | (refine sxv hs hw ?_; clear hs; intro a hs) | refine sxc hs ?_ | (refine sxa hs hw ?_; clear hs hw; intro a b W hw hs) | (refine sxs hs hw ?_; clear hs hw; intro W hs hw))
    exact rt1 hs rfl rfl ⟨by simp only [inB, h]; rfl, hw.end (by repeat (first | exact In.hd | apply In.tl))⟩
  | false =>
    rw [h] at hs
    repeat (first | (refine sxv hs hw ?_; clear hs; intro a hs) | refine sxc hs ?_ | (refine sxa hs hw ?_; clear hs hw; intro a b W hw hs) | (refine sxs hs hw ?_; clear hs hw; intro W hs hw))
    exact rt1 hs rfl rfl ⟨by simp only [inB, h]; rfl, hw.end (by repeat (first | exact In.hd | apply In.tl))⟩

/-- An operation that may be, done. -/
def doOp (d : Dm) (o : OpD) : Int × Dm :=
  if o.kind = 3 then (if eqV (getK d o.key) (ofRaw o.ok o.on o.os).1 then setR d o.key (ofRaw o.vk o.vn o.vs).1 else (8, d))
  else if o.kind = 4 then
    if (kindOf (getK d o.key) != 0 && !isInt (getK d o.key)) = true then (7, d)
    else if (!inB (intIn (getK d o.key)) || !inB (IntKind.i64.wrap (intIn (getK d o.key) + o.n))) = true then (4, d)
    else setR d o.key (some (.inl (IntKind.i64.wrap (intIn (getK d o.key) + o.n))))
  else setR d o.key (ofRaw o.vk o.vn o.vs).1

set_option maxHeartbeats 16000000 in
theorem doc_do (w0 W : World) (H : Fh) (p : Nat) (d : Dm) (o : OpD) (R : List Res) (ho : OpOk o) (i : In (Fz H) R) (hH : (fr w0).le H) (hT : Tabs w0) (hw : Has 0 w0 W (DocAt p d :: R)) :
    Calls Tryd.prog 40 ⟨[.pointer (some ⟨p, 0, none⟩), .agg ⟨opCells o⟩]⟩ W fun e W' => e = .returned (.int .i64 (doOp d o).1) ∧ Has 0 w0 W' (DocAt p (doOp d o).2 :: R) := by
  obtain ⟨kind, key, vk, vn, vs, ok, on, os, n⟩ := o
  have hvs := ho.vs
  have hos := ho.os
  simp only at hvs hos
  refine enter Tryd.func40 Tryd.ntmps40 rfl rfl fun a hs => ?_
  repeat (first | (refine sxv hs hw ?_; clear hs; intro a hs) | refine sxc hs ?_ | (refine sxa hs hw ?_; clear hs hw; intro a b W hw hs) | (refine sxs hs hw ?_; clear hs hw; intro W hs hw))
  refine st_call hs (hc := value_Of vk vn vs _ (by omega) (hT.keep (hw.endF (by repeat (first | exact i | apply In.tl)) hH))) (k := ?_); rintro e0 W1 ⟨rfl, hb⟩; refine ⟨_, rfl, ?_⟩; clear hs; intro a hs; replace hw := hw.below hb; clear hb
  repeat (first | (refine sxv hs hw ?_; clear hs; intro a hs) | refine sxc hs ?_ | (refine sxa hs hw ?_; clear hs hw; intro a b W hw hs) | (refine sxs hs hw ?_; clear hs hw; intro W hs hw))
  refine st_store hs (hw := hw) (h1 := one_cellX (ofRaw vk vn vs).1) (k := ?_); clear hs hw; intro W hs hw
  repeat (first | (refine sxv hs hw ?_; clear hs; intro a hs) | refine sxc hs ?_ | (refine sxa hs hw ?_; clear hs hw; intro a b W hw hs) | (refine sxs hs hw ?_; clear hs hw; intro W hs hw))
  obtain ⟨bv, q1⟩ := nm1 hw; subst q1
  obtain ⟨bo, q2⟩ := nm2 hw; subst q2
  obtain ⟨m, d2, hp, hk, hw⟩ := docOpen (hw.perm ((List.Perm.cons _ (List.Perm.swap _ _ _)).trans (List.Perm.swap _ _ _)))
  have hw : Has 0 w0 _ (Free :: Cells p [.map (some m)] 79 :: MapOf m (kvOf d2) :: Cells bv [vCell (ofRaw vk vn vs).1] 77 :: Cells bo [.int .i64 kind, .string key, .int .i64 vk, .int .i64 vn, .string vs, .int .i64 ok, .int .i64 on, .string os, .int .i64 n] 47 :: R) := hw.free
  have hlk := dget_kv d2 key
  rw [getK_perm hp ((dKeys_perm hp).2 hk)] at hlk
  obtain ⟨now, hnow⟩ : ∃ now, getK d key = now := ⟨_, rfl⟩
  rw [hnow] at hlk
  have hX : doOp d ⟨kind, key, vk, vn, vs, ok, on, os, n⟩ = (if kind = 3 then (if eqV now (ofRaw ok on os).1 then setR d key (ofRaw vk vn vs).1 else (8, d))
      else if kind = 4 then
        if (kindOf now != 0 && !isInt now) = true then (7, d)
        else if (!inB (intIn now) || !inB (IntKind.i64.wrap (intIn now + n))) = true then (4, d)
        else setR d key (some (.inl (IntKind.i64.wrap (intIn now + n))))
      else setR d key (ofRaw vk vn vs).1) := by unfold doOp; simp only; rw [hnow]
  rw [hX]
  clear hX
  obtain ⟨X, hXX⟩ : ∃ X, (ofRaw vk vn vs).1 = X := ⟨_, rfl⟩
  rw [hXX] at hs hw ⊢
  refine rg_drawU (σ := Nat) (V := fun u => [.pointer (some ⟨p, 0, none⟩), .pointer (some ⟨p, 0, none⟩), .pointer (some ⟨p, 0 + 0, none⟩), .map (some m), .pointer (some ⟨bo, 0 + 1, none⟩), .string key, .agg ⟨[vCell now]⟩, .pointer (some ⟨u 7, 0, none⟩), .bool true])
    (Rs := fun u D => (if D 7 then Cells (u 7) (if D 8 then [vCell now] else [.nilIface]) 77 else Free) :: Cells p [.map (some m)] 79 :: MapOf m (kvOf d2) :: Cells bv [vCell X] 77 :: Cells bo [.int .i64 kind, .string key, .int .i64 vk, .int .i64 vn, .string vs, .int .i64 ok, .int .i64 on, .string os, .int .i64 n] 47 :: R) (fun _ => 0) hs hw (hVu := ?vu_1) (ho := ⟨?_, ?_, ?_, ?_, ?_, ?_, ?c6_1, ?c7_1, ?c8_1, trivial⟩) (k := ?k_1)
  case vu_1 =>
    intro u u' j h
    rcases j with _ | _ | _ | _ | _ | _ | _ | _ | _ | j
    all_goals first | rfl | simp [h]
  case c6_1 =>
    intro u LD D a W hcl hi hp hs hw
    refine st_lookup hs (hw := hw) (hz := zeroVal) (c := ?_); clear hs; intro a hs
    rw [hlk] at hs
    repeat (first | (refine sxv hs hw ?_; clear hs; intro a hs) | refine sxc hs ?_ | (refine sxa hs hw ?_; clear hs hw; intro a b W hw hs) | (refine sxs hs hw ?_; clear hs hw; intro W hs hw))
    exact Or.inl ⟨hs, hw⟩
  case c7_1 =>
    intro u LD D a W hcl hi hp hs hw
    have h8 := Go.Sx.not_done hcl hi 8 (by kernel_rfl)
    simp only [hi, Bool.false_eq_true, if_false] at hw
    repeat (first | (refine sxv hs hw ?_; clear hs; intro a hs) | refine sxc hs ?_ | (refine sxa hs hw ?_; clear hs hw; intro a b W hw hs) | (refine sxs hs hw ?_; clear hs hw; intro W hs hw))
    refine Or.inr ⟨_, hs, ?_⟩
    show Has 0 w0 _ (Cells _ (if (Nat.beq 8 7 || D 8) = true then _ else _) _ :: _)
    rw [h8]
    exact hw.fill Upd.hd
  case c8_1 =>
    intro u LD D a W hcl hi hp hs hw
    have h7 := Go.Sx.done hp 7 (by kernel_rfl)
    simp only [hi, h7, Bool.false_eq_true, if_false, if_true] at hw
    refine st_store hs (hw := hw) (h1 := one_cellX now) (k := ?_); clear hs hw; intro W hs hw
    repeat (first | (refine sxv hs hw ?_; clear hs; intro a hs) | refine sxc hs ?_ | (refine sxa hs hw ?_; clear hs hw; intro a b W hw hs) | (refine sxs hs hw ?_; clear hs hw; intro W hs hw))
    refine Or.inl ⟨hs, ?_⟩
    show Has 0 w0 _ ((if (Nat.beq 7 8 || D 7) = true then _ else _) :: _)
    rw [h7]
    exact hw
  case k_1 =>
    clear hs hw
    intro u a W hs hw
    replace hw : Has 0 w0 W (Cells (u 7) [vCell now] 77 :: Cells p [.map (some m)] 79 :: MapOf m (kvOf d2) :: Cells bv [vCell X] 77 :: Cells bo [.int .i64 kind, .string key, .int .i64 vk, .int .i64 vn, .string vs, .int .i64 ok, .int .i64 on, .string os, .int .i64 n] 47 :: R) := hw
    replace hs : Slots a 80 [(0, .pointer (some ⟨p, 0, none⟩)), (3, .pointer (some ⟨bo, 0, none⟩)), (5, .pointer (some ⟨bv, 0, none⟩)), (7, .pointer (some ⟨u 7, 0, none⟩))] := hs.of ⟨rfl, rfl, rfl, rfl, trivial⟩
    generalize u 7 = b7 at *
    clear u
    replace hw := docShut (hw.perm ((List.Perm.swap _ _ _).trans (List.Perm.cons _ (List.Perm.swap _ _ _)))) hp hk
    clear hp hlk
    repeat (first | (refine sxv hs hw ?_; clear hs; intro a hs) | refine sxc hs ?_ | (refine sxa hs hw ?_; clear hs hw; intro a b W hw hs) | (refine sxs hs hw ?_; clear hs hw; intro W hs hw))
    by_cases k3 : kind = 3
    · subst k3
      rw [if_pos rfl]
      repeat (first | (refine sxv hs hw ?_; clear hs; intro a hs) | refine sxc hs ?_ | (refine sxa hs hw ?_; clear hs hw; intro a b W hw hs) | (refine sxs hs hw ?_; clear hs hw; intro W hs hw))
      refine st_call hs (hc := value_Of ok on os _ (by omega) (hT.keep (hw.endF (by repeat (first | exact i | apply In.tl)) hH))) (k := ?_); rintro e0 W1 ⟨rfl, hb⟩; refine ⟨_, rfl, ?_⟩; clear hs; intro a hs; replace hw := hw.below hb; clear hb
      repeat (first | (refine sxv hs hw ?_; clear hs; intro a hs) | refine sxc hs ?_ | (refine sxa hs hw ?_; clear hs hw; intro a b W hw hs) | (refine sxs hs hw ?_; clear hs hw; intro W hs hw))
      refine st_store hs (hw := hw) (h1 := one_cellX (ofRaw ok on os).1) (k := ?_); clear hs hw; intro W hs hw
      repeat (first | (refine sxv hs hw ?_; clear hs; intro a hs) | refine sxc hs ?_ | (refine sxa hs hw ?_; clear hs hw; intro a b W hw hs) | (refine sxs hs hw ?_; clear hs hw; intro W hs hw))
      refine st_call hs (hc := value_Eq now (ofRaw ok on os).1 _) (k := ?_); rintro e0 W1 ⟨rfl, hb⟩; refine ⟨_, rfl, ?_⟩; clear hs; intro a hs; replace hw := hw.below hb; clear hb
      repeat (first | (refine sxv hs hw ?_; clear hs; intro a hs) | refine sxc hs ?_ | (refine sxa hs hw ?_; clear hs hw; intro a b W hw hs) | (refine sxs hs hw ?_; clear hs hw; intro W hs hw))
      cases he : eqV now (ofRaw ok on os).1 with
      | false =>
        rw [he] at hs
        repeat (first | (refine sxv hs hw ?_; clear hs; intro a hs) | refine sxc hs ?_ | (refine sxa hs hw ?_; clear hs hw; intro a b W hw hs) | (refine sxs hs hw ?_; clear hs hw; intro W hs hw))
        refine rt1 hs rfl rfl ⟨rfl, ?_⟩
        exact hw.sub (L' := DocAt p d :: R) (List.Sublist.cons _ (List.Sublist.cons_cons _ (List.Sublist.cons _ (List.Sublist.cons _ (List.Sublist.cons _ (List.Sublist.refl _))))))
      | true =>
        rw [he] at hs
        repeat (first | (refine sxv hs hw ?_; clear hs; intro a hs) | refine sxc hs ?_ | (refine sxa hs hw ?_; clear hs hw; intro a b W hw hs) | (refine sxs hs hw ?_; clear hs hw; intro W hs hw))
        refine st_call hs (hc := doc_set w0 _ p d key X _ hw.swap2) (k := ?_); rintro e0 W1 ⟨rfl, hw1⟩; refine ⟨_, rfl, ?_⟩; clear hs hw; intro a hs; have hw := hw1; clear hw1
        repeat (first | (refine sxv hs hw ?_; clear hs; intro a hs) | refine sxc hs ?_ | (refine sxa hs hw ?_; clear hs hw; intro a b W hw hs) | (refine sxs hs hw ?_; clear hs hw; intro W hs hw))
        refine rt1 hs rfl rfl ⟨rfl, ?_⟩
        exact hw.sub (List.Sublist.cons_cons _ (List.Sublist.cons _ (List.Sublist.cons _ (List.Sublist.cons _ (List.Sublist.cons _ (List.Sublist.refl _))))))
    have e3 : (kind == 3) = false := by simpa using k3
    rw [e3] at hs
    rw [if_neg k3]
    repeat (first | (refine sxv hs hw ?_; clear hs; intro a hs) | refine sxc hs ?_ | (refine sxa hs hw ?_; clear hs hw; intro a b W hw hs) | (refine sxs hs hw ?_; clear hs hw; intro W hs hw))
    by_cases k4 : kind = 4
    · subst k4
      rw [if_pos rfl]
      rcases now with _ | g | s
      · have hK := fun W => Kind_any (none : Option DV) W
        have hA := fun W => AsInt_any (none : Option DV) W
        rw [show kindOf (none : Option DV) = 0 from rfl] at hK ⊢
        rw [show intIn (none : Option DV) = 0 from rfl] at hA ⊢
        rw [show isInt (none : Option DV) = false from rfl] at hA ⊢
        rw [if_neg (by decide)]
        repeat (first | (refine sxv hs hw ?_; clear hs; intro a hs) | refine sxc hs ?_ | (refine sxa hs hw ?_; clear hs hw; intro a b W hw hs) | (refine sxs hs hw ?_; clear hs hw; intro W hs hw))
        refine st_call hs (hc := hA _) (k := ?_); rintro e0 W1 ⟨rfl, hb⟩; refine ⟨_, rfl, ?_⟩; clear hs; intro a hs; replace hw := hw.below hb; clear hb
        repeat (first | (refine sxv hs hw ?_; clear hs; intro a hs) | refine sxc hs ?_ | (refine sxa hs hw ?_; clear hs hw; intro a b W hw hs) | (refine sxs hs hw ?_; clear hs hw; intro W hs hw))
        refine st_call hs (hc := hK _) (k := ?_); rintro e0 W1 ⟨rfl, hb⟩; refine ⟨_, rfl, ?_⟩; clear hs; intro a hs; replace hw := hw.below hb; clear hb
        repeat (first | (refine sxv hs hw ?_; clear hs; intro a hs) | refine sxc hs ?_ | (refine sxa hs hw ?_; clear hs hw; intro a b W hw hs) | (refine sxs hs hw ?_; clear hs hw; intro W hs hw))
        refine st_call hs (hc := doc_in 0 _) (k := ?_); rintro e0 W1 ⟨rfl, hb⟩; refine ⟨_, rfl, ?_⟩; clear hs; intro a hs; replace hw := hw.below hb; clear hb
        repeat (first | (refine sxv hs hw ?_; clear hs; intro a hs) | refine sxc hs ?_ | (refine sxa hs hw ?_; clear hs hw; intro a b W hw hs) | (refine sxs hs hw ?_; clear hs hw; intro W hs hw))
        rw [show inB 0 = true from rfl] at hs ⊢
        refine st_call hs (hc := doc_in (IntKind.i64.wrap (0 + n)) _) (k := ?_); rintro e0 W1 ⟨rfl, hb⟩; refine ⟨_, rfl, ?_⟩; clear hs; intro a hs; replace hw := hw.below hb; clear hb
        repeat (first | (refine sxv hs hw ?_; clear hs; intro a hs) | refine sxc hs ?_ | (refine sxa hs hw ?_; clear hs hw; intro a b W hw hs) | (refine sxs hs hw ?_; clear hs hw; intro W hs hw))
        cases g2 : inB (IntKind.i64.wrap (0 + n)) with
        | false =>
          rw [g2] at hs
          repeat (first | (refine sxv hs hw ?_; clear hs; intro a hs) | refine sxc hs ?_ | (refine sxa hs hw ?_; clear hs hw; intro a b W hw hs) | (refine sxs hs hw ?_; clear hs hw; intro W hs hw))
          rw [if_pos (by rfl)]
          exact rt1 hs rfl rfl ⟨rfl, hw.sub (List.Sublist.cons_cons _ (List.Sublist.cons _ (List.Sublist.cons _ (List.Sublist.cons _ (List.Sublist.refl _)))))⟩
        | true =>
        rw [g2] at hs
        repeat (first | (refine sxv hs hw ?_; clear hs; intro a hs) | refine sxc hs ?_ | (refine sxa hs hw ?_; clear hs hw; intro a b W hw hs) | (refine sxs hs hw ?_; clear hs hw; intro W hs hw))
        rw [if_neg (by decide)]
        have hV := fun W hT => value_Of 1 (IntKind.i64.wrap (0 + n)) ⟨#[]⟩ W (by decide) hT
        rw [show ofRaw 1 (IntKind.i64.wrap (0 + n)) ⟨#[]⟩ = (some (.inl (IntKind.i64.wrap (0 + n))), 0) from rfl] at hV
        refine st_call hs (hc := hV _ (hT.keep (hw.endF (by repeat (first | exact i | apply In.tl)) hH))) (k := ?_); rintro e0 W1 ⟨rfl, hb⟩; refine ⟨_, rfl, ?_⟩; clear hs; intro a hs; replace hw := hw.below hb; clear hb
        repeat (first | (refine sxv hs hw ?_; clear hs; intro a hs) | refine sxc hs ?_ | (refine sxa hs hw ?_; clear hs hw; intro a b W hw hs) | (refine sxs hs hw ?_; clear hs hw; intro W hs hw))
        refine st_call hs (hc := doc_set w0 _ p d key (some (.inl (IntKind.i64.wrap (0 + n)))) _ hw) (k := ?_); rintro e0 W1 ⟨rfl, hw1⟩; refine ⟨_, rfl, ?_⟩; clear hs hw; intro a hs; have hw := hw1; clear hw1
        repeat (first | (refine sxv hs hw ?_; clear hs; intro a hs) | refine sxc hs ?_ | (refine sxa hs hw ?_; clear hs hw; intro a b W hw hs) | (refine sxs hs hw ?_; clear hs hw; intro W hs hw))
        refine rt1 hs rfl rfl ⟨rfl, ?_⟩
        exact hw.sub (List.Sublist.cons_cons _ (List.Sublist.cons _ (List.Sublist.cons _ (List.Sublist.cons _ (List.Sublist.refl _)))))
      · have hK := fun W => Kind_any (some (Sum.inl g) : Option DV) W
        have hA := fun W => AsInt_any (some (Sum.inl g) : Option DV) W
        rw [show kindOf (some (Sum.inl g) : Option DV) = 1 from rfl] at hK ⊢
        rw [show intIn (some (Sum.inl g) : Option DV) = g from rfl] at hA ⊢
        rw [show isInt (some (Sum.inl g) : Option DV) = true from rfl] at hA ⊢
        rw [if_neg (by decide)]
        repeat (first | (refine sxv hs hw ?_; clear hs; intro a hs) | refine sxc hs ?_ | (refine sxa hs hw ?_; clear hs hw; intro a b W hw hs) | (refine sxs hs hw ?_; clear hs hw; intro W hs hw))
        refine st_call hs (hc := hA _) (k := ?_); rintro e0 W1 ⟨rfl, hb⟩; refine ⟨_, rfl, ?_⟩; clear hs; intro a hs; replace hw := hw.below hb; clear hb
        repeat (first | (refine sxv hs hw ?_; clear hs; intro a hs) | refine sxc hs ?_ | (refine sxa hs hw ?_; clear hs hw; intro a b W hw hs) | (refine sxs hs hw ?_; clear hs hw; intro W hs hw))
        refine st_call hs (hc := hK _) (k := ?_); rintro e0 W1 ⟨rfl, hb⟩; refine ⟨_, rfl, ?_⟩; clear hs; intro a hs; replace hw := hw.below hb; clear hb
        repeat (first | (refine sxv hs hw ?_; clear hs; intro a hs) | refine sxc hs ?_ | (refine sxa hs hw ?_; clear hs hw; intro a b W hw hs) | (refine sxs hs hw ?_; clear hs hw; intro W hs hw))
        refine st_call hs (hc := doc_in g _) (k := ?_); rintro e0 W1 ⟨rfl, hb⟩; refine ⟨_, rfl, ?_⟩; clear hs; intro a hs; replace hw := hw.below hb; clear hb
        repeat (first | (refine sxv hs hw ?_; clear hs; intro a hs) | refine sxc hs ?_ | (refine sxa hs hw ?_; clear hs hw; intro a b W hw hs) | (refine sxs hs hw ?_; clear hs hw; intro W hs hw))
        cases g1 : inB g with
        | false =>
          rw [g1] at hs
          repeat (first | (refine sxv hs hw ?_; clear hs; intro a hs) | refine sxc hs ?_ | (refine sxa hs hw ?_; clear hs hw; intro a b W hw hs) | (refine sxs hs hw ?_; clear hs hw; intro W hs hw))
          rw [if_pos (by rfl)]
          exact rt1 hs rfl rfl ⟨rfl, hw.sub (List.Sublist.cons_cons _ (List.Sublist.cons _ (List.Sublist.cons _ (List.Sublist.cons _ (List.Sublist.refl _)))))⟩
        | true =>
        rw [g1] at hs
        repeat (first | (refine sxv hs hw ?_; clear hs; intro a hs) | refine sxc hs ?_ | (refine sxa hs hw ?_; clear hs hw; intro a b W hw hs) | (refine sxs hs hw ?_; clear hs hw; intro W hs hw))
        refine st_call hs (hc := doc_in (IntKind.i64.wrap (g + n)) _) (k := ?_); rintro e0 W1 ⟨rfl, hb⟩; refine ⟨_, rfl, ?_⟩; clear hs; intro a hs; replace hw := hw.below hb; clear hb
        repeat (first | (refine sxv hs hw ?_; clear hs; intro a hs) | refine sxc hs ?_ | (refine sxa hs hw ?_; clear hs hw; intro a b W hw hs) | (refine sxs hs hw ?_; clear hs hw; intro W hs hw))
        cases g2 : inB (IntKind.i64.wrap (g + n)) with
        | false =>
          rw [g2] at hs
          repeat (first | (refine sxv hs hw ?_; clear hs; intro a hs) | refine sxc hs ?_ | (refine sxa hs hw ?_; clear hs hw; intro a b W hw hs) | (refine sxs hs hw ?_; clear hs hw; intro W hs hw))
          rw [if_pos (by rfl)]
          exact rt1 hs rfl rfl ⟨rfl, hw.sub (List.Sublist.cons_cons _ (List.Sublist.cons _ (List.Sublist.cons _ (List.Sublist.cons _ (List.Sublist.refl _)))))⟩
        | true =>
        rw [g2] at hs
        repeat (first | (refine sxv hs hw ?_; clear hs; intro a hs) | refine sxc hs ?_ | (refine sxa hs hw ?_; clear hs hw; intro a b W hw hs) | (refine sxs hs hw ?_; clear hs hw; intro W hs hw))
        rw [if_neg (by decide)]
        have hV := fun W hT => value_Of 1 (IntKind.i64.wrap (g + n)) ⟨#[]⟩ W (by decide) hT
        rw [show ofRaw 1 (IntKind.i64.wrap (g + n)) ⟨#[]⟩ = (some (.inl (IntKind.i64.wrap (g + n))), 0) from rfl] at hV
        refine st_call hs (hc := hV _ (hT.keep (hw.endF (by repeat (first | exact i | apply In.tl)) hH))) (k := ?_); rintro e0 W1 ⟨rfl, hb⟩; refine ⟨_, rfl, ?_⟩; clear hs; intro a hs; replace hw := hw.below hb; clear hb
        repeat (first | (refine sxv hs hw ?_; clear hs; intro a hs) | refine sxc hs ?_ | (refine sxa hs hw ?_; clear hs hw; intro a b W hw hs) | (refine sxs hs hw ?_; clear hs hw; intro W hs hw))
        refine st_call hs (hc := doc_set w0 _ p d key (some (.inl (IntKind.i64.wrap (g + n)))) _ hw) (k := ?_); rintro e0 W1 ⟨rfl, hw1⟩; refine ⟨_, rfl, ?_⟩; clear hs hw; intro a hs; have hw := hw1; clear hw1
        repeat (first | (refine sxv hs hw ?_; clear hs; intro a hs) | refine sxc hs ?_ | (refine sxa hs hw ?_; clear hs hw; intro a b W hw hs) | (refine sxs hs hw ?_; clear hs hw; intro W hs hw))
        refine rt1 hs rfl rfl ⟨rfl, ?_⟩
        exact hw.sub (List.Sublist.cons_cons _ (List.Sublist.cons _ (List.Sublist.cons _ (List.Sublist.cons _ (List.Sublist.refl _)))))
      · have hK := fun W => Kind_any (some (Sum.inr s) : Option DV) W
        have hA := fun W => AsInt_any (some (Sum.inr s) : Option DV) W
        rw [show kindOf (some (Sum.inr s) : Option DV) = 2 from rfl] at hK ⊢
        rw [show isInt (some (Sum.inr s) : Option DV) = false from rfl] at hA ⊢
        rw [if_pos (by decide)]
        repeat (first | (refine sxv hs hw ?_; clear hs; intro a hs) | refine sxc hs ?_ | (refine sxa hs hw ?_; clear hs hw; intro a b W hw hs) | (refine sxs hs hw ?_; clear hs hw; intro W hs hw))
        refine st_call hs (hc := hA _) (k := ?_); rintro e0 W1 ⟨rfl, hb⟩; refine ⟨_, rfl, ?_⟩; clear hs; intro a hs; replace hw := hw.below hb; clear hb
        repeat (first | (refine sxv hs hw ?_; clear hs; intro a hs) | refine sxc hs ?_ | (refine sxa hs hw ?_; clear hs hw; intro a b W hw hs) | (refine sxs hs hw ?_; clear hs hw; intro W hs hw))
        refine st_call hs (hc := hK _) (k := ?_); rintro e0 W1 ⟨rfl, hb⟩; refine ⟨_, rfl, ?_⟩; clear hs; intro a hs; replace hw := hw.below hb; clear hb
        repeat (first | (refine sxv hs hw ?_; clear hs; intro a hs) | refine sxc hs ?_ | (refine sxa hs hw ?_; clear hs hw; intro a b W hw hs) | (refine sxs hs hw ?_; clear hs hw; intro W hs hw))
        exact rt1 hs rfl rfl ⟨rfl, hw.sub (List.Sublist.cons_cons _ (List.Sublist.cons _ (List.Sublist.cons _ (List.Sublist.cons _ (List.Sublist.refl _)))))⟩
    have e4 : (kind == 4) = false := by simpa using k4
    rw [e4] at hs
    rw [if_neg k4]
    repeat (first | (refine sxv hs hw ?_; clear hs; intro a hs) | refine sxc hs ?_ | (refine sxa hs hw ?_; clear hs hw; intro a b W hw hs) | (refine sxs hs hw ?_; clear hs hw; intro W hs hw))
    refine st_call hs (hc := doc_set w0 _ p d key X _ hw) (k := ?_); rintro e0 W1 ⟨rfl, hw1⟩; refine ⟨_, rfl, ?_⟩; clear hs hw; intro a hs; have hw := hw1; clear hw1
    repeat (first | (refine sxv hs hw ?_; clear hs; intro a hs) | refine sxc hs ?_ | (refine sxa hs hw ?_; clear hs hw; intro a b W hw hs) | (refine sxs hs hw ?_; clear hs hw; intro W hs hw))
    refine rt1 hs rfl rfl ⟨rfl, ?_⟩
    exact hw.sub (List.Sublist.cons_cons _ (List.Sublist.cons _ (List.Sublist.cons _ (List.Sublist.cons _ (List.Sublist.refl _)))))
  all_goals
    intro u LD D a W hcl hi hp hs hw
    repeat (first | (refine sxv hs hw ?_; clear hs; intro a hs) | refine sxc hs ?_ | (refine sxa hs hw ?_; clear hs hw; intro a b W hw hs) | (refine sxs hs hw ?_; clear hs hw; intro W hs hw))
    exact Or.inl ⟨hs, hw⟩
end Go.Proofs.YthpenehgfogloaaDoor.Sw
