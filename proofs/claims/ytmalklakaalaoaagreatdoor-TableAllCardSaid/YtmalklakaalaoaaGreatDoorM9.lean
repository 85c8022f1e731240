/-
  Texts of the proof, one behind the other (part 9).
-/
import Derived.Test.YtmalklakaalaoaaGreatDoorM8
import Derived.Test.YtmalklakaalaoaaGreatDoorChecked
import Derived.Sort.Grow
import Derived.WalkKit
import Derived.WalkLawsBesides
import Derived.WalkSpells
import Derived.Lib.Hide
import Derived.Deep.QuietTactic
import Derived.BigQuiet
import Derived.Below
import Derived.Shelf.SlSortCmp.Whole1
import Derived.Shelf.SlIter.Collect
import Derived.Shelf.SlSortCmp.NoneTotal
import Derived.Ground.GgzProg
import Derived.Ground.SlsfProg
import Derived.Test.YtmalklakaalaoaaGreatDoorProg
import Derived.Maps.Own
import Derived.Maps.Views
import Derived.Sort.KeysCollected
set_option linter.unusedVariables false
set_option maxRecDepth 10000
namespace Go.Proofs.YtmalklakaalaoaaGreatDoor.Sw
open Go.RowKit Go.Sx
def rowOf (f : FoldD) (c : Int) : RowD := if 1 ≤ c ∧ c ≤ 5 then ((f.told[c.toNat]?).map (·.2)).getD zeroRow else zeroRow
def toldOf (f : FoldD) (c : Int) : RowD := if lastOf f c = 0 then zeroRow else rowOf f c
structure FoldOk (f : FoldD) : Prop where
  doc : DocFine f.d
  six : f.told.length = 6
  told : ∀ x ∈ f.told, 0 ≤ x.1 ∧ (x.1 = 0 → x.2 = zeroRow) ∧ x.2.b.l.length ≤ 8
theorem FoldOk.at_ {f : FoldD} (h : FoldOk f) {c : Int} (hc : 1 ≤ c ∧ c ≤ 5) : ∃ x, f.told[c.toNat]? = some x ∧ x ∈ f.told ∧ lastOf f c = x.1 ∧ rowOf f c = x.2 := by
  have hlt : c.toNat < f.told.length := by rw [h.six]; omega
  refine ⟨f.told[c.toNat], List.getElem?_eq_getElem hlt, List.getElem_mem hlt, lastOf_at hc.1 hc.2 (List.getElem?_eq_getElem hlt), ?_⟩
  unfold rowOf
  rw [if_pos hc, List.getElem?_eq_getElem hlt]
  rfl
theorem FoldOk.last {f : FoldD} (h : FoldOk f) (c : Int) : 0 ≤ lastOf f c := by
  by_cases hc : 1 ≤ c ∧ c ≤ 5
  · obtain ⟨x, _, hm, h1, _⟩ := h.at_ hc
    rw [h1]; exact (h.told x hm).1
  · unfold lastOf; rw [if_neg hc]; exact Int.le_refl _
theorem FoldOk.toldOf {f : FoldD} (h : FoldOk f) (c : Int) : toldOf f c = rowOf f c := by
  unfold Sw.toldOf
  by_cases hc : 1 ≤ c ∧ c ≤ 5
  · obtain ⟨x, _, hm, h1, h2⟩ := h.at_ hc
    split
    · rename_i h0
      rw [h2, (h.told x hm).2.1 (by rw [← h1]; exact h0)]
    · rfl
  · split
    · unfold rowOf; rw [if_neg hc]
    · rfl
set_option maxHeartbeats 4000000 in
theorem fold_Doc (w0 W : World) (H : Fh) (p : Nat) (f : FoldD) (R : List Res) (hw : Has 0 w0 W (FoldAt H p f :: R)) :
    Calls Tryz.prog 43 ⟨[.pointer (some ⟨p, 0, none⟩)]⟩ W fun e W' => ∃ c, e = .returned (.pointer (some ⟨c, 0, none⟩)) ∧ Has 0 w0 W' (DocAt c f.d :: FoldAt H p f :: R) := by
  obtain ⟨pd, xs, ht, hw⟩ := foldOpen hw
  refine enter Tryz.func43 Tryz.ntmps43 rfl rfl fun a hs => ?_
  repeat (first | (refine sxv hs hw ?_; clear hs; intro a hs) | refine sxc hs ?_ | (refine sxa hs hw ?_; clear hs hw; intro a b W hw hs) | (refine sxs hs hw ?_; clear hs hw; intro W hs hw) | ((with_reducible first | refine st_ptrSome hs (k := ?_) | refine st_ptrNone hs (k := ?_)); clear hs; intro a hs))
  refine st_call hs (hc := doc_Copy w0 _ pd f.d _ hw.swap2) (k := ?_); rintro e0 W1 ⟨c, rfl, hw1⟩; refine ⟨_, rfl, ?_⟩; clear hs hw; intro a hs; have hw := hw1; clear hw1
  repeat (first | (refine sxv hs hw ?_; clear hs; intro a hs) | refine sxc hs ?_ | (refine sxa hs hw ?_; clear hs hw; intro a b W hw hs) | (refine sxs hs hw ?_; clear hs hw; intro W hs hw) | ((with_reducible first | refine st_ptrSome hs (k := ?_) | refine st_ptrNone hs (k := ?_)); clear hs; intro a hs))
  have hw : Has 0 w0 _ (Cells p (foldCells f.place pd xs) 126 :: DocAt pd f.d :: DocAt c f.d :: R) := hw.perm (by repeat (first | exact List.Perm.refl _ | refine perm_pick (by repeat (first | exact Pick.hd | apply Pick.tl)) ?_))
  exact rt1 hs rfl rfl ⟨c, rfl, (foldShut hw ht).swap2⟩
set_option maxHeartbeats 8000000 in
theorem fold_Told (w0 W : World) (H : Fh) (p : Nat) (f : FoldD) (c : Int) (R : List Res) (h8 : ∀ x ∈ f.told, x.2.b.l.length ≤ 8) (hw : Has 0 w0 W (FoldAt H p f :: Fz H :: R)) :
    Calls Tryz.prog 50 ⟨[.pointer (some ⟨p, 0, none⟩), .int .i64 c]⟩ W fun e W' => ∃ sv H', e = .returned (.tuple ⟨[.agg ⟨rowCells (toldOf f c) sv⟩, .bool (!(lastOf f c == 0))]⟩) ∧ H.le H' ∧ OpsH H' sv (toldOf f c).b.l ∧ Has 0 w0 W' (FoldAt H p f :: Fz H' :: R) := by
  refine enter Tryz.func50 Tryz.ntmps50 rfl rfl fun a hs => ?_
  repeat (first | (refine sxv hs hw ?_; clear hs; intro a hs) | refine sxc hs ?_ | (refine sxa hs hw ?_; clear hs hw; intro a b W hw hs) | (refine sxs hs hw ?_; clear hs hw; intro W hs hw) | ((with_reducible first | refine st_ptrSome hs (k := ?_) | refine st_ptrNone hs (k := ?_)); clear hs; intro a hs))
  obtain ⟨b4, q4⟩ := nm1 hw; subst q4
  refine st_call hs (hc := fold_Last w0 _ H p f c _ hw.swap2) (k := ?_); rintro e0 W1 ⟨rfl, hw1⟩; refine ⟨_, rfl, ?_⟩; clear hs hw; intro a hs; have hw := hw1; clear hw1
  repeat (first | (refine sxv hs hw ?_; clear hs; intro a hs) | refine sxc hs ?_ | (refine sxa hs hw ?_; clear hs hw; intro a b W hw hs) | (refine sxs hs hw ?_; clear hs hw; intro W hs hw) | ((with_reducible first | refine st_ptrSome hs (k := ?_) | refine st_ptrNone hs (k := ?_)); clear hs; intro a hs))
  cases h0 : (lastOf f c == 0) with
  | true =>
    rw [h0] at hs
    have hT : toldOf f c = zeroRow := by unfold toldOf; rw [if_pos (by simpa using h0)]
    repeat (first | (refine sxv hs hw ?_; clear hs; intro a hs) | refine sxc hs ?_ | (refine sxa hs hw ?_; clear hs hw; intro a b W hw hs) | (refine sxs hs hw ?_; clear hs hw; intro W hs hw) | ((with_reducible first | refine st_ptrSome hs (k := ?_) | refine st_ptrNone hs (k := ?_)); clear hs; intro a hs))
    refine rc2 hs rfl rfl hw (In.tl In.hd) rfl rfl ?_
    rw [hT]
    exact ⟨.slice none 0 0, H, rfl, Fh.le.refl _, ops_nil H, hw.sub (List.Sublist.cons_cons _ (List.Sublist.cons _ (List.Sublist.refl _)))⟩
  | false =>
    rw [h0] at hs
    have h0' : ¬ lastOf f c = 0 := by simpa using h0
    have hc : 1 ≤ c ∧ c ≤ 5 := by
      by_cases hc : 1 ≤ c ∧ c ≤ 5
      · exact hc
      · exfalso; apply h0'; unfold lastOf; rw [if_neg hc]
    obtain ⟨pd, xs, ht, hw⟩ := foldOpen hw
    obtain ⟨x, hx⟩ : ∃ x, f.told[c.toNat]? = some x := ⟨f.told[c.toNat]'(by rw [ht.1]; omega), List.getElem?_eq_getElem _⟩
    have hT : toldOf f c = x.2 := by unfold toldOf rowOf; rw [if_neg h0', if_pos hc, hx]; rfl
    have hx8 := h8 x (List.mem_of_getElem? hx)
    obtain ⟨sv, hsv, h6⟩ := told_get ht hx
    rw [hT]
    repeat (first | (refine sxv hs hw ?_; clear hs; intro a hs) | refine sxc hs ?_ | (refine sxa hs hw ?_; clear hs hw; intro a b W hw hs) | (refine sxs hs hw ?_; clear hs hw; intro W hs hw) | ((with_reducible first | refine st_ptrSome hs (k := ?_) | refine st_ptrNone hs (k := ?_)); clear hs; intro a hs))
    refine st_index_arr hs (h0 := by omega) (h1 := by omega) (c := ?_); clear hs; intro a hs
    repeat (first | (refine sxv hs hw ?_; clear hs; intro a hs) | refine sxc hs ?_ | (refine sxa hs hw ?_; clear hs hw; intro a b W hw hs) | (refine sxs hs hw ?_; clear hs hw; intro W hs hw) | ((with_reducible first | refine st_ptrSome hs (k := ?_) | refine st_ptrNone hs (k := ?_)); clear hs; intro a hs))
    refine st_load_ats (z := zrc) hs (cs := rowCells x.2 sv) (hc := fun j u hu => ?hcc) (hl := rfl) (c := ?_)
    case hcc =>
      rw [cell_block (hw.block In.hd).1]
      show (foldCells f.place pd xs)[0 + 2 + c.toNat * 6 + 1 + j]? = _
      rw [show 0 + 2 + c.toNat * 6 + 1 + j = c.toNat * 6 + (j + 1) + 1 + 1 by omega]
      have h9 := congrArg (fun t => t[j + 1]?) h6
      simp only [cut_eq, List.getElem?_take, List.getElem?_drop, List.getElem?_cons_succ] at h9
      rw [hu] at h9
      split at h9
      · simpa [foldCells] using h9
      · cases h9
    clear hs; intro a hs
    repeat (first | (refine sxv hs hw ?_; clear hs; intro a hs) | refine sxc hs ?_ | (refine sxa hs hw ?_; clear hs hw; intro a b W hw hs) | (refine sxs hs hw ?_; clear hs hw; intro W hs hw) | ((with_reducible first | refine st_ptrSome hs (k := ?_) | refine st_ptrNone hs (k := ?_)); clear hs; intro a hs))
    have hw : Has 0 w0 _ (Fz H :: Cells p (foldCells f.place pd xs) 126 :: DocAt pd f.d :: Cells b4 zrc 39 :: R) := hw.perm (by repeat (first | exact List.Perm.refl _ | refine perm_pick (by repeat (first | exact Pick.hd | apply Pick.tl)) ?_))
    refine st_call hs (hc := fold_own w0 _ H x.2 sv _ (by omega) hsv hw) (k := ?_); rintro e0 W1 ⟨sv', H', rfl, hle, hsv', hw1⟩; refine ⟨_, rfl, ?_⟩; clear hs hw; intro a hs; have hw := hw1; clear hw1
    obtain ⟨tad, tcap, rfl⟩ := hsv'.slice
    repeat (first | (refine sxv hs hw ?_; clear hs; intro a hs) | refine sxc hs ?_ | (refine sxa hs hw ?_; clear hs hw; intro a b W hw hs) | (refine sxs hs hw ?_; clear hs hw; intro W hs hw) | ((with_reducible first | refine st_ptrSome hs (k := ?_) | refine st_ptrNone hs (k := ?_)); clear hs; intro a hs))
    refine rc2 hs rfl rfl hw (In.tl (In.tl (In.tl In.hd))) rfl rfl ?_
    have hw : Has 0 w0 _ (Cells p (foldCells f.place pd xs) 126 :: DocAt pd f.d :: Cells b4 (rowCells x.2 (.slice tad x.2.b.l.length tcap)) 39 :: Fz H' :: R) := hw.perm (by repeat (first | exact List.Perm.refl _ | refine perm_pick (by repeat (first | exact Pick.hd | apply Pick.tl)) ?_))
    exact ⟨_, H', rfl, hle, hsv', (foldShut hw ht).sub (List.Sublist.cons_cons _ (List.Sublist.cons _ (List.Sublist.refl _)))⟩
end Go.Proofs.YtmalklakaalaoaaGreatDoor.Sw

set_option linter.unusedVariables false
set_option maxRecDepth 10000
namespace Ph
open Go Go.Lib
end Ph
namespace Go.Proofs.YtmalklakaalaoaaGreatDoor.Sw
open Go.RowKit Go.Sx
def fineE (e : Int) : Bool := e == 0 || e == 6 || e == 7 || e == 8 || e == 4
structure ToldFine (place : Int) (c : Nat) (x : Int × RowD) : Prop where
  seq : x.1 = x.2.b.q
  cli : x.2.b.c = c
  may : mayB x.2.b = true
  ok : BatOk x.2.b
  pl : 1 ≤ x.2.place ∧ x.2.place ≤ place
  err : fineE x.2.err = true
structure FoldFine (f : FoldD) : Prop where
  doc : DocFine f.d
  place : 0 ≤ f.place ∧ f.place ≤ 9223372036854775807
  six : f.told.length = 6
  told : ∀ (c : Nat) (x : Int × RowD), f.told[c]? = some x → x = (0, zeroRow) ∨ (1 ≤ c ∧ ToldFine f.place c x)
  dist : ∀ (c c' : Nat) (x x' : Int × RowD), f.told[c]? = some x → f.told[c']? = some x' → x.1 ≠ 0 → x'.1 ≠ 0 → x.2.place = x'.2.place → c = c'
theorem ToldFine.pos {place : Int} {c : Nat} {x : Int × RowD} (h : ToldFine place c x) : 0 < x.1 := by
  have := (may_parts h.may).2.1.1
  have := h.seq
  omega
theorem FoldFine.ok {f : FoldD} (h : FoldFine f) : FoldOk f := by
  refine ⟨h.doc, h.six, fun x hx => ?_⟩
  obtain ⟨i, hi⟩ := List.mem_iff_getElem?.1 hx
  rcases h.told i x hi with rfl | ⟨_, e⟩
  · exact ⟨by decide, fun _ => rfl, by decide⟩
  · have := e.pos
    exact ⟨by omega, fun h0 => by omega, (may_parts e.may).2.2⟩
theorem FoldFine.empty : FoldFine emptyF := by
  refine ⟨DocFine.nil, ⟨by decide, by decide⟩, rfl, fun c x hx => .inl (List.eq_of_mem_replicate (List.mem_of_getElem? hx)), fun c c' x x' hx _ h0 => ?_⟩
  rw [List.eq_of_mem_replicate (List.mem_of_getElem? hx)] at h0
  exact absurd rfl h0
theorem setRL_fineE (d : Dm) (k : ByteArray) (x : Option DV) : fineE (setRL d k x).1 = true := by
  rcases setRL_err d k x with h | h <;> rw [h] <;> rfl
theorem doL_fineE (d : Dm) (o : OpD) : fineE (doL d o).1 = true := by
  unfold doL
  split
  · split
    · exact setRL_fineE _ _ _
    · exact (rfl : fineE 8 = true)
  · split
    · split
      · exact (rfl : fineE 7 = true)
      · split
        · exact (rfl : fineE 4 = true)
        · exact setRL_fineE _ _ _
    · exact setRL_fineE _ _ _
theorem goL_fineE : ∀ (l : List OpD) (d : Dm), l.all mayD = true → fineE (goL l d).1 = true
  | [], d, _ => (rfl : fineE 0 = true)
  | o :: l, d, h => by
    rw [List.all_cons, Bool.and_eq_true] at h
    unfold goL
    rw [if_neg (by rw [h.1]; simp)]
    split
    · exact goL_fineE l _ h.2
    · exact doL_fineE d o
theorem applyL_fineE {b : BatchD} (h : mayB b = true) (d : Dm) : fineE (applyL d b.l).1 = true := by
  obtain ⟨_, _, h3, h4, _⟩ := mayBatch_parts h
  unfold applyL
  rw [if_neg (by omega)]
  have := goL_fineE b.l d h4
  split
  · exact (rfl : fineE 0 = true)
  · exact this
theorem FoldFine.next {f : FoldD} (h : FoldFine f) {b : BatchD} (hb : BatOk b) (hp : f.place < 1000000) : FoldFine (next f b).1 ∧ (next f b).1.place ≤ f.place + 1 := by
  unfold Sw.next
  cases hn : nextB f b with
  | false => exact ⟨h, by show f.place ≤ f.place + 1; omega⟩
  | true =>
    have hm : mayB b = true := by
      unfold nextB at hn
      rw [Bool.and_eq_true] at hn
      exact hn.1
    obtain ⟨hc, hq, hl⟩ := may_parts hm
    have hp0 := h.place.1
    have hwr : IntKind.i64.wrap (f.place + 1) = f.place + 1 := IntWalk.i64_in _ (by omega)
    have hlt : b.c.toNat < f.told.length := by rw [h.six]; omega
    have hat : ∀ (i : Nat) (y : Int × RowD), (f.told.set b.c.toNat (b.q, nextR f b))[i]? = some y → (i = b.c.toNat ∧ y = (b.q, nextR f b)) ∨ (i ≠ b.c.toNat ∧ f.told[i]? = some y) := by
      intro i y hy
      by_cases e : i = b.c.toNat
      · subst e
        rw [List.getElem?_set_self hlt] at hy
        injection hy with hy
        exact .inl ⟨rfl, hy.symm⟩
      · rw [List.getElem?_set_ne (fun k => e k.symm)] at hy
        exact .inr ⟨e, hy⟩
    have hpl : ∀ (i : Nat) (y : Int × RowD), f.told[i]? = some y → y.1 ≠ 0 → y.2.place ≤ f.place := by
      intro i y hy h0
      rcases h.told i y hy with rfl | ⟨_, e⟩
      · exact absurd rfl h0
      · exact e.pl.2
    refine ⟨⟨applyL_fine h.doc hb.ops, ?_, by show (f.told.set _ _).length = 6; rw [List.length_set]; exact h.six, fun i y hy => ?_, fun i i' y y' hy hy' h0 h0' he => ?_⟩, ?_⟩
    · show 0 ≤ IntKind.i64.wrap (f.place + 1) ∧ IntKind.i64.wrap (f.place + 1) ≤ _
      rw [hwr]; omega
    · rcases hat i y hy with ⟨rfl, rfl⟩ | ⟨_, hy⟩
      · refine .inr ⟨by omega, rfl, by show b.c = _; omega, hm, hb, ?_, applyL_fineE hm f.d⟩
        show 1 ≤ IntKind.i64.wrap (f.place + 1) ∧ IntKind.i64.wrap (f.place + 1) ≤ IntKind.i64.wrap (f.place + 1)
        rw [hwr]; omega
      · refine (h.told i y hy).imp id fun ⟨a, e⟩ => ⟨a, e.seq, e.cli, e.may, e.ok, ⟨e.pl.1, ?_⟩, e.err⟩
        show _ ≤ IntKind.i64.wrap (f.place + 1)
        have := e.pl.2
        rw [hwr]; omega
    · have hnp : (nextR f b).place = f.place + 1 := hwr
      rcases hat i y hy with ⟨rfl, rfl⟩ | ⟨hne, hy⟩
      · rcases hat i' y' hy' with ⟨rfl, rfl⟩ | ⟨hne', hy'⟩
        · rfl
        · have h1 := hpl i' y' hy' h0'
          have h2 : (nextR f b).place = y'.2.place := he
          omega
      · rcases hat i' y' hy' with ⟨rfl, rfl⟩ | ⟨hne', hy'⟩
        · have h1 := hpl i y hy h0
          have h2 : y.2.place = (nextR f b).place := he
          omega
        · exact h.dist i i' y y' hy hy' h0 h0' he
    · show IntKind.i64.wrap (f.place + 1) ≤ f.place + 1
      rw [hwr]; omega
end Go.Proofs.YtmalklakaalaoaaGreatDoor.Sw

set_option linter.unusedVariables false
namespace Go.Proofs.YtmalklakaalaoaaGreatDoor
open Go.RowKit
def Bel (w w' : World) : Prop := Below w.heap.size w w' ∧ w.drawn ≤ w'.drawn
theorem Bel.refl (w : World) : Bel w w := ⟨Below.refl _ _, Nat.le_refl _⟩
theorem Bel.trans {a b c : World} (h : Bel a b) (k : Bel b c) : Bel a c := ⟨h.1.trans (k.1.mono h.1.size), Nat.le_trans h.2 k.2⟩
theorem bel_iter (w : World) (s : ByteArray) (pos : Nat) : Bel w (w.iter s pos) := ⟨(Below.refl _ _).alloc (Nat.le_refl _) _, Nat.le_refl _⟩
theorem bel_drewN {w w' : World} (h : Bel w w') (n : Nat) : Bel w (w'.drewN n) := ⟨h.1.trans ⟨rfl, rfl, rfl, Nat.le_refl _, fun _ _ => rfl⟩, Nat.le_trans h.2 (Nat.le_add_right _ _)⟩
theorem Bel.grown {w w' : World} (h : Bel w w') : ∃ q os, w' = Sort.grow (w.drewN q) os := by
  obtain ⟨⟨h1, h2, h3, h4, h5⟩, h6⟩ := h
  refine ⟨w'.drawn - w.drawn, w'.heap.extract w.heap.size w'.heap.size, ?_⟩
  have e : w'.heap = w.heap ++ w'.heap.extract w.heap.size w'.heap.size := by
    refine Array.ext_getElem? fun k => ?_
    rw [Array.getElem?_append]
    split
    · rename_i hk; exact h5 k hk
    · rename_i hk
      rw [Array.getElem?_extract]
      split
      · rw [show w.heap.size + (k - w.heap.size) = k by omega]
      · rename_i hk2
        rw [Array.getElem?_eq_none (by omega)]
  have e2 : w'.drawn = w.drawn + (w'.drawn - w.drawn) := by omega
  cases w'
  cases w
  simp only at h1 h2 h3 e e2
  simp only [Sort.grow, World.drewN]
  subst h1 h2 h3
  rw [← e, ← e2]
set_option maxHeartbeats 400000 in
theorem runes_CutD (s : ByteArray) (n : Int) (w : World) (hs : s.size ≤ 9223372036854775807) :
    Calls Tryz.prog 128 #[.string s, .int .i64 n] w fun e w' => e = .returned (.string ⟨(Ph.cutL s.data.toList n).toArray⟩) ∧ Bel w w' := by
  have hcl := Ph.count_le s
  by_cases hn : n < 1
  · have HF : Hid (Ph.cutL s.data.toList n = []) := by unfold Hid Ph.cutL; rw [if_pos hn]
    go_enter Tryz.func128, Tryz.ntmps128
    go_wp2
    go_ret
    exact ⟨by rw [HF.out]; rfl, Bel.refl _⟩
  · obtain ⟨m, rfl⟩ := Int.eq_ofNat_of_zero_le (show 0 ≤ n by omega)
    go_enter Tryz.func128, Tryz.ntmps128
    go_wp2
    go_loopw [5] (fun c wr => ∃ pos k : Nat, wr = w.iter s pos ∧ c = .int .i64 k ∧ k ≤ m ∧ Hid ((Ph.rs (s.data.toList.drop pos)) = (Ph.rs s.data.toList).drop k) ∧ Hid (pos = Ph.wid ((Ph.rs s.data.toList).take k))) (fun _ wr => s.size - wr.iterPos w.heap.size)
    case atStart => exact ⟨0, 0, rfl, rfl, by omega, by unfold Hid; simp, by unfold Hid; simp [Ph.wid_nil]⟩
    case round =>
      obtain ⟨pos, k, rfl, rfl, hkm, HK, HP⟩ := hrel
      by_cases hp : pos < s.size
      · have hnx := fun ty => run_next_any (P := Tryz.prog) w s pos ty hp
        by_cases he : k = m
        · subst he
          go_wp2
          go_ret
          refine ⟨?_, bel_iter _ _ _⟩
          have HP' := HP.out
          subst HP'
          show Ending.returned (.string (s.extract 0 _)) = _
          rw [Ph.extract_eq, Ph.cutL, if_neg (by omega)]
          rfl
        · have he' : ((k : Int) == (m : Int)) = false := by simp; omega
          have hst := Ph.step_take (HK.out.symm.trans (Ph.rs_at s pos hp))
          have hkl : k + 1 ≤ s.size := by have := hst.1; unfold Ph.count at hcl; omega
          have HS : Hid ((Ph.rs s.data.toList).take (k + 1) = (Ph.rs s.data.toList).take k ++ [Utf8.decode s pos] ∧ (Ph.rs s.data.toList).drop (k + 1) = Ph.rs (s.data.toList.drop (pos + (Utf8.decode s pos).2))) := hst.2
          clear hst
          go_wp2
          go_roundw
          case rel =>
            refine ⟨pos + (Utf8.decode s pos).2, k + 1, rfl, by go_num, by omega, HS.out.2.symm, ?_⟩
            show _ = _
            rw [HS.out.1, Ph.wid_append, ← HP.out]
            simp [Ph.wid_cons, Ph.wid_nil]
          case measure =>
            have := Ph.width_pos s pos
            rw [World.iterPos_iter, World.iterPos_iter]
            omega
      · have hnx := fun ty => run_next_end (P := Tryz.prog) w s pos ty hp
        go_wp2
        go_ret
        have hle := Ph.drop_nil_le (HK.out.symm.trans (Ph.rs_end s pos hp))
        refine ⟨?_, bel_iter _ _ _⟩
        rw [Ph.cutL_all _ _ (by unfold Ph.count; omega) (by omega), Ph.eta_bytes]
        rfl
set_option maxHeartbeats 400000 in
theorem runes_DecodeD (s : ByteArray) (w : World) (hs : s.size ≤ 9223372036854775807) :
    Calls Tryz.prog 122 #[.string s] w fun e w' => e = .returned (.tuple #[.int .i32 (Ph.decZ s.data.toList).1, .int .i64 (Ph.decZ s.data.toList).2]) ∧ Bel w w' := by
  by_cases hp : 0 < s.size
  · have hnx := fun ty => run_next_any (P := Tryz.prog) w s 0 ty hp
    have HD : Hid (Ph.decZ s.data.toList = Utf8.decode s 0 ∧ (Ph.cutL s.data.toList 1).length = (Utf8.decode s 0).2) := Ph.decZ_at s hp
    go_enter Tryz.func122, Tryz.ntmps122
    go_wp2
    go_loopw [] (fun wr => wr = w.iter s 0) (fun wr => 0)
    case atStart => rfl
    case round =>
      obtain rfl := hrel
      go_wp2_with (go_at_call 128; refine (runes_CutD _ _ _ hs).mono ?_; rintro e w' ⟨rfl, hb⟩)
      go_ret2
      refine ⟨ret_tab ?_ ?_, (bel_iter _ _ _).trans hb⟩
      · rw [HD.out.1]
      · rw [HD.out.1, ← HD.out.2]
  · have hnx := fun ty => run_next_end (P := Tryz.prog) w s 0 ty hp
    have HD : Hid (Ph.decZ s.data.toList = (65533, 0)) := Ph.decZ_empty s hp
    go_enter Tryz.func122, Tryz.ntmps122
    go_wp2
    go_loopw [] (fun wr => wr = w.iter s 0) (fun wr => 0)
    case atStart => rfl
    case round =>
      obtain rfl := hrel
      go_wp2
      go_ret2
      rw [HD.out]
      exact ⟨rfl, bel_iter _ _ _⟩
def strLenD : Value → Nat | .string s => s.size | _ => 0
set_option maxHeartbeats 800000 in
theorem runes_LessD (a b : ByteArray) (w : World) (ha : a.size ≤ 9223372036854775807) (hb : b.size ≤ 9223372036854775807) :
    Calls Tryz.prog 97 #[.string a, .string b] w fun e w' => e = .returned (.bool (Ph.lessL a.data.toList b.data.toList)) ∧ Bel w w' := by
  go_enter Tryz.func97, Tryz.ntmps97
  go_wp2
  go_loopw [5, 6] (fun x y wr => ∃ X Y : ByteArray, x = .string X ∧ y = .string Y ∧ X.size ≤ 9223372036854775807 ∧ Y.size ≤ 9223372036854775807 ∧ Hid (Ph.lessL a.data.toList b.data.toList = Ph.lessAt a.data.toList b.data.toList X.data.toList Y.data.toList) ∧ Bel w wr) (fun x _ _ => strLenD x)
  case atStart => exact ⟨a, b, rfl, rfl, ha, hb, rfl, Bel.refl _⟩
  case round =>
    obtain ⟨X, Y, rfl, rfl, hX, hY, HL, hbw⟩ := hrel
    by_cases hx : 0 < X.size
    · have ex := Ph.empty_no hx
      by_cases hy : 0 < Y.size
      · have ey := Ph.empty_no hy
        obtain ⟨eX, lX, uX⟩ := Ph.decZ_ne hx
        obtain ⟨eY, lY, uY⟩ := Ph.decZ_ne hy
        have EX := Lib.hid eX
        have EY := Lib.hid eY
        clear eX eY
        go_wp2_with fail
        refine (runes_DecodeD X _ hX).mono ?_
        rintro e w1 ⟨rfl, hb1⟩
        go_wp2_with fail
        refine (runes_DecodeD Y _ hY).mono ?_
        rintro e w2 ⟨rfl, hb2⟩
        have hb3 : Bel w w2 := (hbw.trans hb1).trans hb2
        clear hb1 hb2
        by_cases hne : (Ph.decZ X.data.toList).1 = (Ph.decZ Y.data.toList).1
        · have hne' : (((Ph.decZ X.data.toList).1 : Int) != ((Ph.decZ Y.data.toList).1 : Int)) = false := by rw [hne]; simp
          have HN : Hid (Ph.lessAt a.data.toList b.data.toList X.data.toList Y.data.toList = Ph.lessAt a.data.toList b.data.toList (X.data.toList.drop (Ph.decZ X.data.toList).2) (Y.data.toList.drop (Ph.decZ Y.data.toList).2)) := by
            show _ = _
            rw [Ph.lessAt_eq _ _ _ _ (Ph.ne_of_size hx) (Ph.ne_of_size hy) (by rw [← EX.out, ← EY.out]; exact hne), EX.out, EY.out]
          clear hne
          generalize (Ph.decZ X.data.toList).2 = n at *
          generalize (Ph.decZ Y.data.toList).2 = m at *
          have g1 : (0 : Int) ≤ (n : Int) := by omega
          have g2 : (n : Int) ≤ (X.size : Int) := by omega
          have g3 : (0 : Int) ≤ (m : Int) := by omega
          have g4 : (m : Int) ≤ (Y.size : Int) := by omega
          go_wp2_with fail
          go_quiet (fail)
          go_wp2
          go_roundw
          case rel =>
            have e1 : (X.extract n X.size).size = X.size - n := by simp
            have e2 : (Y.extract m Y.size).size = Y.size - m := by simp
            refine ⟨X.extract n X.size, Y.extract m Y.size, rfl, rfl, by rw [e1]; omega, by rw [e2]; omega, ?_, bel_drewN hb3 _⟩
            show _ = _
            rw [HL.out, HN.out, Ph.extract_drop, Ph.extract_drop]
          case measure =>
            show (X.extract n X.size).size < X.size
            have e1 : (X.extract n X.size).size = X.size - n := by simp
            omega
        · have hne' : (((Ph.decZ X.data.toList).1 : Int) != ((Ph.decZ Y.data.toList).1 : Int)) = true := by rw [bne_iff_ne]; omega
          have HN : Hid (Ph.lessL a.data.toList b.data.toList = decide ((Ph.decZ X.data.toList).1 < (Ph.decZ Y.data.toList).1)) := by
            show _ = _
            rw [HL.out, Ph.lessAt_ne _ _ _ _ (Ph.ne_of_size hx) (Ph.ne_of_size hy) (by rw [← EX.out, ← EY.out]; exact hne), EX.out, EY.out]
          clear hne
          go_wp2
          go_ret
          exact ⟨ret_bool HN.out.symm, hb3⟩
      · have ey := Ph.empty_yes hy
        have HN : Hid (Ph.lessL a.data.toList b.data.toList = false) := by
          show _ = _
          rw [HL.out, Ph.nil_of_size hy, Ph.lessAt_right _ _ _ (Ph.ne_of_size hx)]
        go_wp2
        go_ret
        exact ⟨ret_bool HN.out.symm, hbw⟩
    · have ex := Ph.empty_yes hx
      by_cases hy : 0 < Y.size
      · have ey := Ph.empty_no hy
        have HN : Hid (Ph.lessL a.data.toList b.data.toList = true) := by
          show _ = _
          rw [HL.out, Ph.nil_of_size hx, Ph.lessAt_left _ _ _ (Ph.ne_of_size hy)]
        go_wp2
        go_ret
        exact ⟨ret_bool HN.out.symm, hbw⟩
      · have ey := Ph.empty_yes hy
        have HN : Hid (Ph.lessL a.data.toList b.data.toList = Op.bytesLess a.toList b.toList) := by
          show _ = _
          rw [HL.out, Ph.nil_of_size hx, Ph.nil_of_size hy, Ph.lessAt_none, Ph.bytesLess_toList]
        go_wp2
        go_ret
        exact ⟨ret_bool HN.out.symm, hbw⟩
def cmpK (a b : ByteArray) : Int := if Ph.lessL a.data.toList b.data.toList = true then -1 else if Ph.lessL b.data.toList a.data.toList = true then 1 else 0
set_option maxHeartbeats 800000 in
theorem doc_Keys1 (a b : ByteArray) (w : World) (ha : a.size ≤ 9223372036854775807) (hb : b.size ≤ 9223372036854775807) :
    Calls Tryz.prog 96 #[.string a, .string b] w fun e w' => e = .returned (.int .i64 (cmpK a b)) ∧ Bel w w' := by
  have HC : Hid (cmpK a b = if Ph.lessL a.data.toList b.data.toList = true then -1 else if Ph.lessL b.data.toList a.data.toList = true then 1 else 0) := rfl
  go_enter Tryz.func96, Tryz.ntmps96
  go_wp2_with fail
  refine (runes_LessD a b _ ha hb).mono ?_
  rintro e w1 ⟨rfl, hb1⟩
  cases h1 : Ph.lessL a.data.toList b.data.toList with
  | true =>
    rw [h1] at HC
    go_wp2
    go_ret
    exact ⟨by rw [HC.out]; rfl, hb1⟩
  | false =>
    rw [h1] at HC
    go_wp2_with fail
    refine (runes_LessD b a _ hb ha).mono ?_
    rintro e w2 ⟨rfl, hb2⟩
    cases h2 : Ph.lessL b.data.toList a.data.toList with
    | true =>
      rw [h2] at HC
      go_wp2
      go_ret
      exact ⟨by rw [HC.out]; rfl, hb1.trans hb2⟩
    | false =>
      rw [h2] at HC
      go_wp2
      go_ret
      exact ⟨by rw [HC.out]; rfl, hb1.trans hb2⟩
end Go.Proofs.YtmalklakaalaoaaGreatDoor

set_option linter.unusedVariables false
namespace Go.Sx
open Go.RowKit Go.Sort Go.Proofs
theorem put_cells {α : Type} [Inhabited α] (enc : α → Value) (d d' : Array α) (hd : d'.size = d.size) (ext : List Value) : putCells enc 0 d' ⟨d.toList.map enc ++ ext⟩ = ⟨d'.toList.map enc ++ ext⟩ := by
  apply Array.ext_getElem?
  intro k
  unfold putCells
  simp only [Array.getElem?_mapIdx, List.getElem?_toArray, Nat.zero_le, Nat.zero_add, true_and, Nat.sub_zero]
  by_cases hk : k < d'.size
  · have h1 : k < (d.toList.map enc).length := by simp; omega
    have h2 : k < (d'.toList.map enc).length := by simp; omega
    rw [List.getElem?_append_left h1, List.getElem?_append_left h2, List.getElem?_eq_getElem h1, List.getElem?_eq_getElem h2, Option.map_some, if_pos hk]
    simp [getElem!_pos d' k hk]
  · rw [List.getElem?_append_right (by simp; omega), List.getElem?_append_right (by simp; omega)]
    have e : (d.toList.map enc).length = (d'.toList.map enc).length := by simp [hd]
    rw [e]
    cases ext[k - (d'.toList.map enc).length]? with
    | none => rfl
    | some y => rw [Option.map_some, if_neg hk]
section
variable {α : Type} [Inhabited α] {enc : α → Value} {G g : Nat} {w W : World} {T : TypeId} {R : List Res} {d d' : Array α} {ext : List Value}
theorem Has.sorted (hd : d'.size = d.size) (h : Has G w W (Cells g (d.toList.map enc ++ ext) T :: R)) (m : Nat) (os : Array Obj) : Has G w (sortWorld enc W g 0 m d' os) (Cells g (d'.toList.map enc ++ ext) T :: R) := by
  obtain ⟨F1, h1, ⟨h2, h2'⟩, h3⟩ := h.has.upd (Upd.hd (r' := Cells g (d'.toList.map enc ++ ext) T))
  have hg := h1 g h2
  have hh : (sortWorld enc W g 0 m d' os).heap = W.heap.modify g (onCells (putCells enc 0 d')) ++ os := rfl
  have hsz : W.heap.size ≤ (sortWorld enc W g 0 m d' os).heap.size := by rw [hh]; simp
  have hat : (sortWorld enc W g 0 m d' os).heap[g]? = some (.cells ⟨d'.toList.map enc ++ ext⟩ T (0, 0)) := by
    rw [hh, Array.getElem?_append, if_pos (by simpa using hg.2), Array.getElem?_modify, if_pos rfl, h2', Option.map_some]
    show some (Obj.cells (putCells enc 0 d' ⟨d.toList.map enc ++ ext⟩) T (0, 0)) = _
    rw [put_cells enc d d' hd ext]
  have hne : ∀ b, b < W.heap.size → b ≠ g → (sortWorld enc W g 0 m d' os).heap[b]? = W.heap[b]? := fun b hb hn => by
    rw [hh, Array.getElem?_append, if_pos (by simpa using hb), Array.getElem?_modify, if_neg (fun e => hn e.symm)]
  refine ⟨h.ext.trans ⟨rfl, rfl, rfl, hsz, fun c hc => hne c (by have := hg.1; have := h.globW; omega) (by have := hg.1; omega)⟩, h.glob, h3 _ _ (fun c => c = g) (fun c hc => ⟨hc.1, by have := hc.2; omega⟩) ?_ ?_ ⟨rfl, hat⟩⟩
  · rintro c rfl
    exact ⟨⟨hg.1, by have := hg.2; omega⟩, fun _ => h2⟩
  · intro c hc hn
    exact hne c hc.2 fun e => hn (by rw [e]; exact h2)
theorem Has.holds (h : Has G w W (Cells g (d.toList.map enc ++ ext) T :: R)) : Holds enc W g 0 d := by
  intro j hj
  have hb := (h.block In.hd).1
  have hl : j < (d.toList.map enc).length := by simp; omega
  constructor
  · rw [cell_block hb, Nat.zero_add, List.getElem?_append_left hl, List.getElem?_eq_getElem hl]
    simp [getElem!_pos d j hj]
  · unfold World.frozen?
    simp [hb]
end
end Go.Sx

namespace Go.Proofs
open Go.Shelf
def Tryz.keysD_ren : Go.Shelf.Ren := ⟨fun | 7 => 95 | 10 => 121 | n => n, fun | 23 => 139 | 26 => 9 | 3 => 165 | 28 => 160 | 0 => 0 | 27 => 159 | 33 => 170 | 4 => 4 | n => n, fun | n => n⟩
theorem Tryz.keysD : Go.Proofs.SlLaysZ.n7 Tryz.prog Tryz.keysD_ren := {
  mixed := by kernel_rfl
  f7 := ⟨Tryz.f95.name, by decide, Tryz.func95.trans (congrArg some (by kernel_rfl))⟩
  f10 := ⟨Tryz.f121.name, by decide, Tryz.func121.trans (congrArg some (by kernel_rfl))⟩
  t0 := Tryz.underlying0
  a0 := Tryz.isAgg0
  z0 := Tryz.sizeOf0
  v0 := Tryz.zeroValue0
  t4 := Tryz.underlying4
  a4 := Tryz.isAgg4
  z4 := Tryz.sizeOf4
  v4 := Tryz.zeroValue4
  t23 := Tryz.underlying139
  a23 := Tryz.isAgg139
  z23 := Tryz.sizeOf139
  v23 := Tryz.zeroValue139
  t26 := Tryz.underlying9
  a26 := Tryz.isAgg9
  z26 := Tryz.sizeOf9
  v26 := Tryz.zeroValue9
  t27 := Tryz.underlying159
  a27 := Tryz.isAgg159
  z27 := Tryz.sizeOf159
  v27 := Tryz.zeroValue159
  t28 := Tryz.underlying160
  a28 := Tryz.isAgg160
  z28 := Tryz.sizeOf160
  v28 := Tryz.zeroValue160
  t33 := Tryz.underlying170
  a33 := Tryz.isAgg170
  z33 := Tryz.sizeOf170
  v33 := Tryz.zeroValue170 }
def Tryz.collD_ren : Go.Shelf.Ren := ⟨fun | 8 => 119 | 11 => 125 | n => n, fun | 26 => 9 | 28 => 160 | 24 => 120 | 0 => 0 | 33 => 170 | 4 => 4 | n => n, fun | n => n⟩
theorem Tryz.collD : Go.Proofs.SlLaysZ.n8 Tryz.prog Tryz.collD_ren := {
  mixed := by kernel_rfl
  f8 := ⟨Tryz.f119.name, by decide, Tryz.func119.trans (congrArg some (by kernel_rfl))⟩
  f11 := ⟨Tryz.f125.name, by decide, Tryz.func125.trans (congrArg some (by kernel_rfl))⟩
  t0 := Tryz.underlying0
  a0 := Tryz.isAgg0
  z0 := Tryz.sizeOf0
  v0 := Tryz.zeroValue0
  t24 := Tryz.underlying120
  a24 := Tryz.isAgg120
  z24 := Tryz.sizeOf120
  v24 := Tryz.zeroValue120
  t26 := Tryz.underlying9
  a26 := Tryz.isAgg9
  z26 := Tryz.sizeOf9
  v26 := Tryz.zeroValue9
  t28 := Tryz.underlying160
  a28 := Tryz.isAgg160
  z28 := Tryz.sizeOf160
  v28 := Tryz.zeroValue160
  i26 := by kernel_rfl }
def Tryz.sortD_ren : Go.Shelf.Ren := ⟨fun | 6 => 120 | 15 => 127 | 14 => 126 | 28 => 139 | 29 => 140 | 20 => 131 | 21 => 132 | 22 => 133 | 23 => 134 | 24 => 135 | 25 => 136 | 26 => 137 | 27 => 138 | 46 => 142 | 47 => 143 | 48 => 144 | 49 => 145 | 50 => 146 | 57 => 147 | n => n, fun | 22 => 120 | 24 => 9 | 25 => 167 | 3 => 3 | 39 => 157 | 0 => 0 | 53 => 209 | 55 => 156 | 4 => 4 | 46 => 202 | 45 => 201 | 50 => 206 | 5 => 5 | 9 => 9 | 66 => 216 | 70 => 220 | 76 => 222 | 77 => 223 | n => n, fun | n => n⟩
theorem Tryz.sortD : Go.Proofs.SlLaysF.n6 Tryz.prog Tryz.sortD_ren := {
  mixed := by kernel_rfl
  f6 := ⟨Tryz.f120.name, by decide, Tryz.func120.trans (congrArg some (by kernel_rfl))⟩
  f14 := ⟨Tryz.f126.name, by decide, Tryz.func126.trans (congrArg some (by kernel_rfl))⟩
  f15 := Tryz.func127.trans (congrArg some (by kernel_rfl))
  f20 := ⟨Tryz.f131.name, by decide, Tryz.func131.trans (congrArg some (by kernel_rfl))⟩
  f21 := ⟨Tryz.f132.name, by decide, Tryz.func132.trans (congrArg some (by kernel_rfl))⟩
  f22 := ⟨Tryz.f133.name, by decide, Tryz.func133.trans (congrArg some (by kernel_rfl))⟩
  f23 := ⟨Tryz.f134.name, by decide, Tryz.func134.trans (congrArg some (by kernel_rfl))⟩
  f24 := ⟨Tryz.f135.name, by decide, Tryz.func135.trans (congrArg some (by kernel_rfl))⟩
  f25 := ⟨Tryz.f136.name, by decide, Tryz.func136.trans (congrArg some (by kernel_rfl))⟩
  f26 := ⟨Tryz.f137.name, by decide, Tryz.func137.trans (congrArg some (by kernel_rfl))⟩
  f27 := ⟨Tryz.f138.name, by decide, Tryz.func138.trans (congrArg some (by kernel_rfl))⟩
  f28 := Tryz.func139.trans (congrArg some (by kernel_rfl))
  f29 := Tryz.func140.trans (congrArg some (by kernel_rfl))
  f46 := ⟨Tryz.f142.name, by decide, Tryz.func142.trans (congrArg some (by kernel_rfl))⟩
  f47 := Tryz.func143.trans (congrArg some (by kernel_rfl))
  f48 := Tryz.func144.trans (congrArg some (by kernel_rfl))
  f49 := ⟨Tryz.f145.name, by decide, Tryz.func145.trans (congrArg some (by kernel_rfl))⟩
  f50 := ⟨Tryz.f146.name, by decide, Tryz.func146.trans (congrArg some (by kernel_rfl))⟩
  f57 := ⟨Tryz.f147.name, by decide, Tryz.func147.trans (congrArg some (by kernel_rfl))⟩
  t0 := Tryz.underlying0
  a0 := Tryz.isAgg0
  z0 := Tryz.sizeOf0
  v0 := Tryz.zeroValue0
  t3 := Tryz.underlying3
  a3 := Tryz.isAgg3
  z3 := Tryz.sizeOf3
  v3 := Tryz.zeroValue3
  t4 := Tryz.underlying4
  a4 := Tryz.isAgg4
  z4 := Tryz.sizeOf4
  v4 := Tryz.zeroValue4
  t5 := Tryz.underlying5
  a5 := Tryz.isAgg5
  z5 := Tryz.sizeOf5
  v5 := Tryz.zeroValue5
  t9 := Tryz.underlying9
  a9 := Tryz.isAgg9
  z9 := Tryz.sizeOf9
  v9 := Tryz.zeroValue9
  t22 := Tryz.underlying120
  a22 := Tryz.isAgg120
  z22 := Tryz.sizeOf120
  v22 := Tryz.zeroValue120
  a24 := Tryz.isAgg9
  z24 := Tryz.sizeOf9
  t25 := Tryz.underlying167
  a25 := Tryz.isAgg167
  z25 := Tryz.sizeOf167
  v25 := Tryz.zeroValue167
  t39 := Tryz.underlying157
  a39 := Tryz.isAgg157
  z39 := Tryz.sizeOf157
  v39 := Tryz.zeroValue157
  t45 := Tryz.underlying201
  a45 := Tryz.isAgg201
  z45 := Tryz.sizeOf201
  v45 := Tryz.zeroValue201
  t46 := Tryz.underlying202
  a46 := Tryz.isAgg202
  z46 := Tryz.sizeOf202
  v46 := Tryz.zeroValue202
  t50 := Tryz.underlying206
  a50 := Tryz.isAgg206
  z50 := Tryz.sizeOf206
  v50 := Tryz.zeroValue206
  t53 := Tryz.underlying209
  a53 := Tryz.isAgg209
  z53 := Tryz.sizeOf209
  v53 := Tryz.zeroValue209
  t55 := Tryz.underlying156
  a55 := Tryz.isAgg156
  z55 := Tryz.sizeOf156
  v55 := Tryz.zeroValue156
  t66 := Tryz.underlying216
  a66 := Tryz.isAgg216
  z66 := Tryz.sizeOf216
  v66 := Tryz.zeroValue216
  t70 := Tryz.underlying220
  a70 := Tryz.isAgg220
  z70 := Tryz.sizeOf220
  v70 := Tryz.zeroValue220
  t76 := Tryz.underlying222
  a76 := Tryz.isAgg222
  z76 := Tryz.sizeOf222
  v76 := Tryz.zeroValue222
  t77 := Tryz.underlying223
  a77 := Tryz.isAgg223
  z77 := Tryz.sizeOf223
  v77 := Tryz.zeroValue223 }
end Go.Proofs

set_option linter.unusedVariables false
set_option maxRecDepth 10000
namespace Go.Proofs.YtmalklakaalaoaaGreatDoor.Sw
open Go.RowKit Go.Sx Go.Sort Go.Proofs
abbrev KA := {s : ByteArray // s.size ≤ 1000000}
instance : Inhabited KA := ⟨⟨ByteArray.empty, Nat.zero_le _⟩⟩
def encA (x : KA) : Value := .string x.1
def cfA (x y : KA) : Int := cmpK x.1 y.1
theorem lt_A (x y : KA) : ltOf cfA x y = lessK x.1 y.1 := by
  unfold ltOf cfA cmpK lessK
  cases h : Ph.lessL x.1.data.toList y.1.data.toList with
  | true => simp
  | false =>
    rw [if_neg (by simp)]
    split <;> simp
theorem swo_A : SWO (ltOf cfA) := by
  refine ⟨fun x => ?_, fun x y z h1 h2 => ?_, fun x y z h1 h2 => ?_⟩
  · rw [lt_A]; exact lessK_irr _
  · rw [lt_A] at *; exact lessK_trans h1 h2
  · rw [lt_A] at *
    cases h : lessK x.1 z.1 with
    | false => rfl
    | true =>
      by_cases e : x.1 = y.1
      · rw [e, h2] at h; cases h
      · rcases lessK_total e with k | k
        · rw [h1] at k; cases k
        · rw [lessK_trans k h] at h2; cases h2
theorem enc_list (ks : List ByteArray) (hks : ∀ k ∈ ks, k.size ≤ 1000000) : (ks.pmap (fun k h => (⟨k, h⟩ : KA)) hks).toArray.toList.map encA = ks.map Value.string := by
  rw [List.map_pmap]
  exact List.pmap_eq_map ..
theorem sort_keys (w0 W : World) (sv : Value) (ks : List ByteArray) (R : List Res) (hks : ∀ k ∈ ks, k.size ≤ 1000000) (hn : ks.length < 4611686018427387904) (hw : Has 0 w0 W (Own 9 1 sv ks.length (ks.map Value.string) :: R)) :
    Calls Tryz.prog 120 ⟨[sv, .func (.func 96) #[] #[]]⟩ W fun e W' => e = .returned (.tuple #[]) ∧ ∃ ks' : List ByteArray, ks'.Perm ks ∧ ks'.Pairwise (fun a b => lessK b a = false) ∧
      Has 0 w0 W' (Own 9 1 sv ks'.length (ks'.map Value.string) :: R) := by
  obtain ⟨ad, cap, rfl⟩ : ∃ ad cap, sv = .slice ad ks.length cap := by
    obtain ⟨F1, h1, h2, h3⟩ := hw.has
    obtain ⟨_, ⟨e, h0⟩ | ⟨g, cap, cur, e, _⟩⟩ := h2
    · exact ⟨none, 0, by rw [e, h0]⟩
    · exact ⟨_, _, e⟩
  by_cases hz : ks = []
  · subst hz
    exact (AnyF.slices_SortFunc_none { Tryz.sortD with } ad cap (.func (.func 96) #[] #[]) W).mono fun e W' ⟨h1, h2⟩ => ⟨h1, [], List.Perm.refl _, List.Pairwise.nil, by rw [h2]; exact hw⟩
  have hpos : 0 < ks.length := by cases ks with | nil => exact absurd rfl hz | cons => simp
  obtain ⟨g, cur, rfl, ht, hl, hkc, hcm, hw⟩ := hw.open_own hpos
  have he := enc_list ks hks
  have hsz : (ks.pmap (fun k h => (⟨k, h⟩ : KA)) hks).toArray.size = ks.length := by simp
  generalize hd : (ks.pmap (fun k h => (⟨k, h⟩ : KA)) hks).toArray = d at he hsz
  have hcur : cur = d.toList.map encA ++ cur.drop ks.length := by rw [he, ← ht, Nat.mul_one]; exact (List.take_append_drop _ _).symm
  generalize cur.drop ks.length = ext at hcur
  subst hcur
  have hcmp : CmpLays1 Tryz.prog 96 #[] encA cfA g 0 d.size W := by
    intro m os dk hdk x y
    refine (doc_Keys1 x.1 y.1 _ (by have := x.2; omega) (by have := y.2; omega)).mono ?_
    rintro e W' ⟨rfl, hb⟩
    exact ⟨rfl, hb.grown⟩
  have hS := Any.slices_SortFunc (P := Tryz.prog) Tryz.sortD encA (fun _ => rfl) cfA swo_A 96 #[] g 0 cap d W (enters_of Tryz.func96 (by kernel_rfl) rfl) hcmp hw.holds (hw.block In.hd).2.2 (by omega)
  rw [hsz] at hS
  refine Calls.mono hS ?_
  · rintro e W' ⟨rfl, d', n, os, hp, hs, rfl⟩
    have hd' : d'.size = d.size := hp.1
    have hpm : d'.toList.Perm d.toList := by
      have := hp.2.2
      rwa [Array.extract_eq_self_of_le (by omega), Array.extract_eq_self_of_le (by omega)] at this
    have hdk : d.toList.map (·.1) = ks := by
      rw [← hd]
      show List.map _ (List.pmap _ _ _) = _
      rw [List.map_pmap]
      simp
    have hlen : (d'.toList.map (·.1)).length = ks.length := by simp; omega
    refine ⟨rfl, d'.toList.map (·.1), hdk ▸ hpm.map _, ?_, ?_⟩
    · rw [List.pairwise_map, List.pairwise_iff_getElem]
      intro i j hi hj hij
      have h := hs i j (Nat.zero_le _) hij (by simp at hj; omega)
      rw [lt_A, getElem!_pos d' i (by simp at hi; omega), getElem!_pos d' j (by simp at hj; omega)] at h
      simpa using h
    · rw [hlen]
      refine (hw.sorted hd' n os).shut_own ?_ ?_ hkc hcm
      · rw [List.map_map, Nat.mul_one]
        show List.take ks.length (d'.toList.map encA ++ ext) = d'.toList.map encA
        rw [List.take_left']
        simp; omega
      · rw [← hl]; simp [hd']
end Go.Proofs.YtmalklakaalaoaaGreatDoor.Sw

set_option linter.unusedVariables false
namespace Go.Sx
open Go.RowKit Go.Maps
open Go.WideElems (Fit rd rg rd_mk rg_of)
theorem key_str {P : Program} {K : TypeId} (hK : P.underlying K = some .string) {s : ByteArray} (hs : s.size ≤ maxLen) : keyOf P K (.string s) = some (.string s.data.toList) := by
  unfold keyOf
  rw [hK]
  simp [mapKey, hK, hs]
theorem map_owns {P : Program} {K : TypeId} (hK : P.underlying K = some .string) {W : World} {b c : Nat} {es : List Ent} (h : MapAt W b es c) (hn : (es.map (·.k)).Nodup) (hs : ∀ e ∈ es, e.k.size ≤ maxLen) (hl : es.length ≤ maxLen) :
    ∃ D0 : DataW Unit, W.ownsMap P K (fun _ => some (.nil, [])) b es.length D0 ∧ (strKeys D0).Perm (es.map fun e => e.k.data.toList) ∧ Maps.size D0 = es.length := by
  have hrd : ∀ e ∈ es, rd (H := Unit) P K (fun _ => some (.nil, [])) e.raw = some (.string e.k.data.toList, .nil) := fun e he => rd_mk (yv := (.nil, [])) (key_str hK (hs e he)) rfl
  refine ⟨_, ⟨⟨es.map Ent.raw⟩, c, h.at_, ⟨by simpa using hl, ⟨?_, ?_, ?_⟩, ?_⟩, by simp, rfl⟩, ?_, ?_⟩
  · intro x hx
    obtain ⟨e, he, rfl⟩ := List.mem_map.1 hx
    exact h.lt e he
  · show ((es.map Ent.raw).map (·.born)).Nodup
    rw [List.map_map]
    exact h.nodup
  · show ((es.map Ent.raw).map (·.key)).Nodup
    rw [List.map_map]
    have : es.map ((·.key) ∘ Ent.raw) = (es.map (·.k)).map Value.string := by rw [List.map_map]; rfl
    rw [this]
    exact List.Pairwise.map (R := (· ≠ ·)) (S := (· ≠ ·)) Value.string (fun a b hab e => hab (by injection e)) hn
  · intro x hx
    obtain ⟨e, he, rfl⟩ := List.mem_map.1 hx
    exact ⟨_, hrd e he⟩
  · show (List.map (fun p : Lit × DataW Unit => strOf p.1) _).Perm _
    refine ((WideShapes.sorted_perm _).map _).trans ?_
    show (List.map _ (List.map _ (es.map Ent.raw))).Perm _
    rw [List.map_map, List.map_map]
    refine List.Perm.of_eq (List.map_congr_left fun e he => ?_)
    show strOf (rg P K _ e.raw).1 = _
    rw [rg_of (hrd e he)]
    rfl
  · show List.length _ = _
    rw [(WideShapes.sorted_perm _).length_eq]
    simp
end Go.Sx

set_option linter.unusedVariables false
set_option maxRecDepth 10000
namespace Go.Proofs.YtmalklakaalaoaaGreatDoor.Sw
open Go.RowKit Go.Sx Go.Sort Go.Proofs Go.Maps
theorem maps_Keys (w0 W : World) (m : Nat) (R : List Res) (hw : Has 0 w0 W R) :
    Calls Tryz.prog 95 ⟨[.map (some m)]⟩ W fun e W' => ∃ q, e = .returned (.func (.func 121) #[] #[.pointer (some ⟨q, 0, none⟩)]) ∧ Has 0 w0 W' (Cells q [.map (some m)] (Tryz.keysD_ren.t 23) :: R) :=
  (callsIn_wide.1 (AnyZ.keys_in Tryz.keysD Fence.wide 5 trivial rfl (some m) W)).mono (by
    rintro e W' ⟨rfl, rfl⟩
    exact ⟨_, rfl, hw.new [.map (some m)] _⟩)
theorem keys_collect (w0 W : World) (q m : Nat) (d : Dm) (R : List Res) (hd : DocOk d) (hw : Has 0 w0 W (Cells q [.map (some m)] (Tryz.keysD_ren.t 23) :: MapOf m (kvOf d) :: R)) :
    Calls Tryz.prog 119 ⟨[.func (.func 121) #[] #[.pointer (some ⟨q, 0, none⟩)]]⟩ W fun e W' => ∃ (sv : Value) (ks : List ByteArray), e = .returned sv ∧ ks.Perm (d.map (·.1)) ∧
      Has 0 w0 W' (Own 9 1 sv ks.length (ks.map Value.string) :: Cells q [.map (some m)] (Tryz.keysD_ren.t 23) :: MapOf m (kvOf d) :: R) := by
  obtain ⟨es, c, hm, he⟩ := hw.map_at (In.tl In.hd)
  have hk : es.map (·.k) = d.map (·.1) := by
    have := congrArg (List.map (·.1)) he
    rw [kvOf_keys] at this
    rw [← this, List.map_map]
    rfl
  have hlen : es.length = d.length := by simpa using congrArg List.length hk
  have hl := hd.len
  have hsz : ∀ e ∈ es, e.k.size ≤ maxLen := by
    intro e he'
    have h1 : e.k ∈ d.map (·.1) := hk ▸ List.mem_map_of_mem he'
    obtain ⟨p, hp, hpe⟩ := List.mem_map.1 h1
    have h2 := (hd.all p hp).key
    rw [hpe] at h2
    exact Nat.le_trans h2 (by decide)
  obtain ⟨D0, ho, hp, hs⟩ := map_owns (P := Tryz.prog) (K := Tryz.keysD_ren.t 26) (by kernel_rfl) hm (by rw [hk]; exact hd.keys) hsz (Nat.le_trans (by omega : es.length ≤ 50) (by decide))
  have hq := hw.block In.hd
  have hseq : SeqGives Fence.wide 3 Tryz.prog (Tryz.keysD_ren.f 10) #[.pointer (some ⟨q, 0, none⟩)] encStr (fun ss => ss.Perm (strKeys D0)) (Maps.size D0) W :=
    AnyZ.keys_gives (ρ := Tryz.keysD_ren) { Tryz.keysD with } Fence.wide _ trivial rfl (by omega) q m es.length D0 W hq.2.2 (by rw [cell_block hq.1]; rfl) ho
  refine (callsIn_wide.1 (AnyZ.collect_in Tryz.collD Fence.wide 5 trivial trivial rfl (by omega) (Tryz.keysD_ren.f 10) #[.pointer (some ⟨q, 0, none⟩)] trivial (enters_of Tryz.func121 (by kernel_rfl) rfl) _ _ (by rw [hs]; exact Nat.le_trans (by omega : es.length ≤ 50) (by decide)) (by rw [hs]; omega) W hseq)).mono ?_
  rintro e W' ⟨v, ss, rfl, hS, hrow, hnil, hb⟩
  have hks : (ss.map fun s => (⟨s.toArray⟩ : ByteArray)).map Value.string = ss.map encStr := by rw [List.map_map]; rfl
  refine ⟨v, ss.map fun s => (⟨s.toArray⟩ : ByteArray), rfl, ?_, ?_⟩
  · refine ((hS.trans hp).map _).trans (List.Perm.of_eq ?_)
    rw [List.map_map, ← hk]
    refine List.map_congr_left fun e _ => ?_
    show (⟨e.k.data.toList.toArray⟩ : ByteArray) = e.k
    simp
  · rw [hks, List.length_map]
    refine hw.newOwn hb ?_
    obtain ⟨h1, h2⟩ := hrow
    refine ⟨h1, h2.imp id ?_⟩
    rintro ⟨g, cap, cur, h3, h4, h5, h6, h7, h8, h9⟩
    exact ⟨g, cap, cur.toList, h3, ⟨h4, (Array.getElem?_eq_some_iff.1 h5).1⟩, h5, h6, h7, by simpa using h8, h9⟩
set_option maxHeartbeats 8000000 in
theorem sorted_keys (w0 W : World) (q m : Nat) (d : Dm) (R : List Res) (hd : DocOk d) (hw : Has 0 w0 W (Cells q [.map (some m)] (Tryz.keysD_ren.t 23) :: MapOf m (kvOf d) :: R)) :
    Calls Tryz.prog 94 ⟨[.func (.func 121) #[] #[.pointer (some ⟨q, 0, none⟩)], .func (.func 96) #[] #[]]⟩ W fun e W' => ∃ (sv : Value) (ks : List ByteArray), e = .returned sv ∧ ks.Perm (d.map (·.1)) ∧ ks.Pairwise (fun a b => lessK b a = false) ∧
      Has 0 w0 W' (Own 9 1 sv ks.length (ks.map Value.string) :: Cells q [.map (some m)] (Tryz.keysD_ren.t 23) :: MapOf m (kvOf d) :: R) := by
  refine enter Tryz.func94 Tryz.ntmps94 rfl rfl fun a hs => ?_
  repeat (first | (refine sxv hs hw ?_; clear hs; intro a hs) | refine sxc hs ?_ | (refine sxa hs hw ?_; clear hs hw; intro a b W hw hs) | (refine sxs hs hw ?_; clear hs hw; intro W hs hw) | ((with_reducible first | refine st_ptrSome hs (k := ?_) | refine st_ptrNone hs (k := ?_)); clear hs; intro a hs))
  refine st_call hs (hc := keys_collect w0 _ q m d _ hd hw) (k := ?_); rintro e0 W1 ⟨sv, ks, rfl, hp, hw1⟩; refine ⟨_, rfl, ?_⟩; clear hs hw; intro a hs; have hw := hw1; clear hw1
  repeat (first | (refine sxv hs hw ?_; clear hs; intro a hs) | refine sxc hs ?_ | (refine sxa hs hw ?_; clear hs hw; intro a b W hw hs) | (refine sxs hs hw ?_; clear hs hw; intro W hs hw) | ((with_reducible first | refine st_ptrSome hs (k := ?_) | refine st_ptrNone hs (k := ?_)); clear hs; intro a hs))
  have hlen : ks.length = d.length := by simpa using hp.length_eq
  have hl := hd.len
  refine st_call hs (hc := sort_keys w0 _ sv ks _ (fun k hk => ?hk) (by omega) hw) (k := ?_)
  case hk =>
    obtain ⟨p, hp', rfl⟩ := List.mem_map.1 (hp.mem_iff.1 hk)
    exact (hd.all p hp').key
  rintro e0 W1 ⟨rfl, ks', hp2, hsr, hw1⟩; refine ⟨_, rfl, ?_⟩; clear hs hw; intro a hs; have hw := hw1; clear hw1
  repeat (first | (refine sxv hs hw ?_; clear hs; intro a hs) | refine sxc hs ?_ | (refine sxa hs hw ?_; clear hs hw; intro a b W hw hs) | (refine sxs hs hw ?_; clear hs hw; intro W hs hw) | ((with_reducible first | refine st_ptrSome hs (k := ?_) | refine st_ptrNone hs (k := ?_)); clear hs; intro a hs))
  exact rt1 hs rfl rfl ⟨_, ks', rfl, hp2.trans hp, hsr, hw⟩
set_option maxHeartbeats 8000000 in
theorem doc_Keys (w0 W : World) (p : Nat) (d : Dm) (R : List Res) (hd : DocFine d) (hw : Has 0 w0 W (DocAt p d :: R)) :
    Calls Tryz.prog 64 ⟨[.pointer (some ⟨p, 0, none⟩)]⟩ W fun e W' => ∃ sv, e = .returned sv ∧ Has 0 w0 W' (Own 9 1 sv d.length (d.map fun x => Value.string x.1) :: DocAt p d :: R) := by
  obtain ⟨m, d', hp, hk, hw⟩ := docOpen hw
  have hd' : DocOk d' := ⟨(dKeys_perm hp).2 hk, by rw [hp.length_eq]; exact hd.ok.len, fun x hx => hd.ok.all x (hp.mem_iff.1 hx)⟩
  refine enter Tryz.func64 Tryz.ntmps64 rfl rfl fun a hs => ?_
  repeat (first | (refine sxv hs hw ?_; clear hs; intro a hs) | refine sxc hs ?_ | (refine sxa hs hw ?_; clear hs hw; intro a b W hw hs) | (refine sxs hs hw ?_; clear hs hw; intro W hs hw) | ((with_reducible first | refine st_ptrSome hs (k := ?_) | refine st_ptrNone hs (k := ?_)); clear hs; intro a hs))
  refine st_call hs (hc := maps_Keys w0 _ m _ hw) (k := ?_); rintro e0 W1 ⟨q, rfl, hw1⟩; refine ⟨_, rfl, ?_⟩; clear hs hw; intro a hs
  have hw : Has 0 w0 W1 (Cells q [.map (some m)] (Tryz.keysD_ren.t 23) :: MapOf m (kvOf d') :: Cells p [.map (some m)] 141 :: R) := hw1.perm (by repeat (first | exact List.Perm.refl _ | refine perm_pick (by repeat (first | exact Pick.hd | apply Pick.tl)) ?_))
  clear hw1
  repeat (first | (refine sxv hs hw ?_; clear hs; intro a hs) | refine sxc hs ?_ | (refine sxa hs hw ?_; clear hs hw; intro a b W hw hs) | (refine sxs hs hw ?_; clear hs hw; intro W hs hw) | ((with_reducible first | refine st_ptrSome hs (k := ?_) | refine st_ptrNone hs (k := ?_)); clear hs; intro a hs))
  refine st_call hs (hc := sorted_keys w0 _ q m d' _ hd' hw) (k := ?_); rintro e0 W2 ⟨sv, ks, rfl, hpk, hsr, hw1⟩; refine ⟨_, rfl, ?_⟩; clear hs hw; intro a hs; have hw := hw1; clear hw1
  have hpd : ks.Perm (d.map (·.1)) := hpk.trans (hp.map _)
  have hks : ks = d.map (·.1) := srt_unique hpd (srt_of_not (hpd.nodup_iff.2 hk) hsr) hd.srt.keys
  subst hks
  repeat (first | (refine sxv hs hw ?_; clear hs; intro a hs) | refine sxc hs ?_ | (refine sxa hs hw ?_; clear hs hw; intro a b W hw hs) | (refine sxs hs hw ?_; clear hs hw; intro W hs hw) | ((with_reducible first | refine st_ptrSome hs (k := ?_) | refine st_ptrNone hs (k := ?_)); clear hs; intro a hs))
  refine rt1 hs rfl rfl ⟨sv, rfl, ?_⟩
  have hw : Has 0 w0 W2 (Cells p [.map (some m)] 141 :: MapOf m (kvOf d') :: Own 9 1 sv (d.map (·.1)).length ((d.map (·.1)).map Value.string) :: R) := (hw.sub (List.Sublist.cons_cons _ (List.Sublist.cons _ (List.Sublist.refl _)))).perm (by repeat (first | exact List.Perm.refl _ | refine perm_pick (by repeat (first | exact Pick.hd | apply Pick.tl)) ?_))
  have hw := (docShut hw hp hk).perm (List.Perm.swap _ _ _)
  rwa [List.length_map, List.map_map] at hw
end Go.Proofs.YtmalklakaalaoaaGreatDoor.Sw

set_option linter.unusedVariables false
set_option maxRecDepth 10000
namespace Go.Proofs.YtmalklakaalaoaaGreatDoor.Sw
open Go.RowKit Go.Sx
set_option maxHeartbeats 8000000 in
theorem doc_Get (w0 W : World) (p : Nat) (d : Dm) (k : ByteArray) (R : List Res) (hw : Has 0 w0 W (DocAt p d :: R)) :
    Calls Tryz.prog 83 ⟨[.pointer (some ⟨p, 0, none⟩), .string k]⟩ W fun e W' => e = .returned (.tuple ⟨[.agg ⟨rawCells (getK d k)⟩, .bool (getK d k).isSome]⟩) ∧ Has 0 w0 W' (DocAt p d :: R) := by
  refine enter Tryz.func83 Tryz.ntmps83 rfl rfl fun a hs => ?_
  repeat (first | (refine sxv hs hw ?_; clear hs; intro a hs) | refine sxc hs ?_ | (refine sxa hs hw ?_; clear hs hw; intro a b W hw hs) | (refine sxs hs hw ?_; clear hs hw; intro W hs hw) | ((with_reducible first | refine st_ptrSome hs (k := ?_) | refine st_ptrNone hs (k := ?_)); clear hs; intro a hs))
  obtain ⟨b4, q4⟩ := nm1 hw; subst q4
  refine st_call hs (hc := doc_has w0 _ p d k _ (hw.perm (List.Perm.swap _ _ _))) (k := ?_); rintro e0 W1 ⟨rfl, hw1⟩; refine ⟨_, rfl, ?_⟩; clear hs hw; intro a hs; have hw := hw1; clear hw1
  cases hg : (getK d k).isSome with
  | false =>
    rw [hg] at hs
    have hn : getK d k = none := by simpa using hg
    repeat (first | (refine sxv hs hw ?_; clear hs; intro a hs) | refine sxc hs ?_ | (refine sxa hs hw ?_; clear hs hw; intro a b W hw hs) | (refine sxs hs hw ?_; clear hs hw; intro W hs hw) | ((with_reducible first | refine st_ptrSome hs (k := ?_) | refine st_ptrNone hs (k := ?_)); clear hs; intro a hs))
    refine rc2 hs rfl rfl hw (In.tl In.hd) rfl rfl ?_
    rw [hn]
    exact ⟨rfl, hw.sub (List.Sublist.cons_cons _ (List.Sublist.cons _ (List.Sublist.refl _)))⟩
  | true =>
    rw [hg] at hs
    obtain ⟨m, d', hp, hk, hw⟩ := docOpen hw
    repeat (first | (refine sxv hs hw ?_; clear hs; intro a hs) | refine sxc hs ?_ | (refine sxa hs hw ?_; clear hs hw; intro a b W hw hs) | (refine sxs hs hw ?_; clear hs hw; intro W hs hw) | ((with_reducible first | refine st_ptrSome hs (k := ?_) | refine st_ptrNone hs (k := ?_)); clear hs; intro a hs))
    refine st_lookup hs (hw := hw) (hz := zeroVal) (c := ?_); clear hs; intro a hs
    rw [dget_kv, getK_perm hp ((dKeys_perm hp).2 hk)] at hs
    repeat (first | (refine sxv hs hw ?_; clear hs; intro a hs) | refine sxc hs ?_ | (refine sxa hs hw ?_; clear hs hw; intro a b W hw hs) | (refine sxs hs hw ?_; clear hs hw; intro W hs hw) | ((with_reducible first | refine st_ptrSome hs (k := ?_) | refine st_ptrNone hs (k := ?_)); clear hs; intro a hs))
    refine st_call hs (hc := Raw_any (getK d k) _) (k := ?_); rintro e0 W1 ⟨rfl, hb⟩; refine ⟨_, rfl, ?_⟩; clear hs; intro a hs; replace hw := hw.below hb; clear hb
    repeat (first | (refine sxv hs hw ?_; clear hs; intro a hs) | refine sxc hs ?_ | (refine sxa hs hw ?_; clear hs hw; intro a b W hw hs) | (refine sxs hs hw ?_; clear hs hw; intro W hs hw) | ((with_reducible first | refine st_ptrSome hs (k := ?_) | refine st_ptrNone hs (k := ?_)); clear hs; intro a hs))
    refine rc2 hs rfl rfl hw (In.tl (In.tl In.hd)) rfl rfl ?_
    exact ⟨rfl, docShut (hw.sub (List.Sublist.cons_cons _ (List.Sublist.cons_cons _ (List.Sublist.cons _ (List.Sublist.refl _))))) hp hk⟩
end Go.Proofs.YtmalklakaalaoaaGreatDoor.Sw

set_option linter.unusedVariables false
namespace Go.Sx
open Go.RowKit
theorem chH_at {α : Type} {Rr : α → List Value → Prop} {H : Fh} {sad : Option Addr} {scap n k : Nat} {l : List α} {xs : List Value} {i : Nat} {o : α} (hk : ∀ a c, Rr a c → c.length = k) (r : RdH H k (.slice sad n scap) n xs) (hc : Ch Rr l xs) (hn : l.length = n) (h : l[i]? = some o) :
    ∃ g off c, sad = some ⟨g, off, none⟩ ∧ Rr o c ∧ ∀ {G : Nat} {w0 W : World} {L : List Res}, Has G w0 W L → In (Fz H) L → ∀ j u, c[j]? = some u → W.cell? ⟨g, off + i * k + j, none⟩ = some u := by
  have hi : i < l.length := (List.getElem?_eq_some_iff.1 h).1
  obtain ⟨c, h1, h2, h3⟩ := hc.get hk h
  obtain ⟨_, ad, cap, e, h4, h5, h6⟩ := r
  injection e with e1 e2 e3
  subst e1
  rcases h6 with h6 | ⟨b, off, cs, T, z, rfl, hb, hcell⟩
  · omega
  · refine ⟨b, off, c, rfl, h1, fun hw hin j u hu => ?_⟩
    obtain ⟨F, hF, h7⟩ := hw.of_in hin
    unfold World.cell?
    rw [(h7 b _ hb).2, Nat.add_assoc]
    have : cs[off + (i * k + j)]? = some u := by
      refine hcell _ _ ?_
      rw [← h3, cut_eq, List.getElem?_take] at hu
      split at hu
      · rw [List.getElem?_drop] at hu; exact hu
      · cases hu
    simpa using this
theorem Has.thaw {G : Nat} {w W : World} {R : List Res} {H H' : Fh} (h : Has G w W (Fz H' :: R)) (hl : H.le H') : Has G w W (Fz H :: R) := by
  obtain ⟨F1, h1, h2, h3⟩ := h.has
  exact ⟨h.ext, h.glob, F1, h1, fun b o hb => h2 b o (hl b o hb), h3⟩
theorem chMap {α : Type} (f : α → Value) : ∀ l : List α, Ch (fun a c => c = [f a]) l (l.map f)
  | [] => rfl
  | a :: l => ⟨[f a], l.map f, rfl, rfl, chMap f l⟩
end Go.Sx

set_option linter.unusedVariables false
set_option maxRecDepth 10000
namespace Go.Proofs.YtmalklakaalaoaaGreatDoor.Sw
open Go.RowKit Go.Sx
-- pieces
set_option maxHeartbeats 4000000 in
theorem ref_Eq_self (k n : Int) (s : ByteArray) (w : World) :
    Calls Tryz.prog 84 ⟨[.agg ⟨[.int .i64 k, .int .i64 n, .string s]⟩, .agg ⟨[.int .i64 k, .int .i64 n, .string s]⟩]⟩ w fun e w' => e = .returned (.bool true) ∧ Below w.heap.size w w' := by
  have hw := Has.start (G := 0) (w := w) (Nat.zero_le _)
  refine enter Tryz.func84 Tryz.ntmps84 rfl rfl fun a hs => ?_
  repeat (first | (refine sxv hs hw ?_; clear hs; intro a hs) | refine sxc hs ?_ | (refine sxa hs hw ?_; clear hs hw; intro a b W hw hs) | (refine sxs hs hw ?_; clear hs hw; intro W hs hw) | ((with_reducible first | refine st_ptrSome hs (k := ?_) | refine st_ptrNone hs (k := ?_)); clear hs; intro a hs))
  rw [beq_self_eq_true] at hs
  repeat (first | (refine sxv hs hw ?_; clear hs; intro a hs) | refine sxc hs ?_ | (refine sxa hs hw ?_; clear hs hw; intro a b W hw hs) | (refine sxs hs hw ?_; clear hs hw; intro W hs hw) | ((with_reducible first | refine st_ptrSome hs (k := ?_) | refine st_ptrNone hs (k := ?_)); clear hs; intro a hs))
  rw [beq_self_eq_true] at hs
  repeat (first | (refine sxv hs hw ?_; clear hs; intro a hs) | refine sxc hs ?_ | (refine sxa hs hw ?_; clear hs hw; intro a b W hw hs) | (refine sxs hs hw ?_; clear hs hw; intro W hs hw) | ((with_reducible first | refine st_ptrSome hs (k := ?_) | refine st_ptrNone hs (k := ?_)); clear hs; intro a hs))
  rw [beq_self_eq_true] at hs
  repeat (first | (refine sxv hs hw ?_; clear hs; intro a hs) | refine sxc hs ?_ | (refine sxa hs hw ?_; clear hs hw; intro a b W hw hs) | (refine sxs hs hw ?_; clear hs hw; intro W hs hw) | ((with_reducible first | refine st_ptrSome hs (k := ?_) | refine st_ptrNone hs (k := ?_)); clear hs; intro a hs))
  exact rt1 hs rfl rfl ⟨rfl, hw.end (by repeat (first | exact In.hd | apply In.tl))⟩
theorem getK_at {d : Dm} (hk : dKeys d) {i : Nat} {o : ByteArray × DV} (h : d[i]? = some o) : getK d o.1 = some o.2 := (getK_mem hk).2 (List.mem_of_getElem? h)
set_option maxHeartbeats 8000000 in
theorem law6_Same (w0 W : World) (H : Fh) (p : Nat) (d : Dm) (dv : Value) (R : List Res) (hd : DocFine d) (r : DocH H dv d) (hw : Has 0 w0 W (DocAt p d :: Fz H :: R)) :
    Calls Tryz.prog 49 ⟨[.pointer (some ⟨p, 0, none⟩), .agg ⟨[dv]⟩]⟩ W fun e W' => e = .returned (.bool true) ∧ Has 0 w0 W' (DocAt p d :: Fz H :: R) := by
  obtain ⟨dad, dcap, rfl⟩ := r.slice
  have hl := hd.ok.len
  refine enter Tryz.func49 Tryz.ntmps49 rfl rfl fun a hs => ?_
  repeat (first | (refine sxv hs hw ?_; clear hs; intro a hs) | refine sxc hs ?_ | (refine sxa hs hw ?_; clear hs hw; intro a b W hw hs) | (refine sxs hs hw ?_; clear hs hw; intro W hs hw) | ((with_reducible first | refine st_ptrSome hs (k := ?_) | refine st_ptrNone hs (k := ?_)); clear hs; intro a hs))
  obtain ⟨b3, q3⟩ := nm1 hw; subst q3
  refine st_call hs (hc := doc_Keys w0 _ p d _ hd (hw.perm (List.Perm.swap _ _ _))) (k := ?_); rintro e0 W1 ⟨kv, rfl, hw1⟩; refine ⟨_, rfl, ?_⟩; clear hs hw; intro a hs
  have hw : Has 0 w0 W1 (Own 9 1 kv d.length (d.map fun x => Value.string x.1) :: Fz H :: Cells b3 [.slice dad d.length dcap] 32 :: DocAt p d :: R) := hw1.perm (by repeat (first | exact List.Perm.refl _ | refine perm_pick (by repeat (first | exact Pick.hd | apply Pick.tl)) ?_))
  clear hw1
  obtain ⟨H1, hle, hw2, rk⟩ := hw.freeze_own
  clear hw; have hw := hw2; clear hw2
  obtain ⟨kad, kcap, rfl⟩ := rk.slice
  have r1 := r.le hle
  repeat (first | (refine sxv hs hw ?_; clear hs; intro a hs) | refine sxc hs ?_ | (refine sxa hs hw ?_; clear hs hw; intro a b W hw hs) | (refine sxs hs hw ?_; clear hs hw; intro W hs hw) | ((with_reducible first | refine st_ptrSome hs (k := ?_) | refine st_ptrNone hs (k := ?_)); clear hs; intro a hs))
  rw [show (((d.length : Int)) != (d.length : Int)) = false from bne_self_eq_false _] at hs
  repeat (first | (refine sxv hs hw ?_; clear hs; intro a hs) | refine sxc hs ?_ | (refine sxa hs hw ?_; clear hs hw; intro a b W hw hs) | (refine sxs hs hw ?_; clear hs hw; intro W hs hw) | ((with_reducible first | refine st_ptrSome hs (k := ?_) | refine st_ptrNone hs (k := ?_)); clear hs; intro a hs))
  refine st_loop (σ := Nat) (fun i => [(0, .pointer (some ⟨p, 0, none⟩)), (3, .pointer (some ⟨b3, 0, none⟩)), (5, .slice kad d.length kcap), (6, .int .i64 (i : Int))]) (fun _ => DocAt p d :: Cells b3 [.slice dad d.length dcap] 32 :: Fz H1 :: R) (fun i => i ≤ d.length) (fun i => d.length - i) 0 (Nat.zero_le _) hs ⟨rfl, rfl, rfl, rfl, trivial⟩ (hw.perm (by repeat (first | exact List.Perm.refl _ | refine perm_pick (by repeat (first | exact Pick.hd | apply Pick.tl)) ?_))) ?_
  clear hs hw
  rintro i a W hi hs hw
  repeat (first | (refine sxv hs hw ?_; clear hs; intro a hs) | refine sxc hs ?_ | (refine sxa hs hw ?_; clear hs hw; intro a b W hw hs) | (refine sxs hs hw ?_; clear hs hw; intro W hs hw) | ((with_reducible first | refine st_ptrSome hs (k := ?_) | refine st_ptrNone hs (k := ?_)); clear hs; intro a hs))
  refine cd_split hs (kt := fun hcc => ?_) (kf := fun hcc => ?_)
  · have hi' : i < d.length := by simpa using hcc
    obtain ⟨o, hoi⟩ : ∃ o, d[i]? = some o := ⟨d[i], List.getElem?_eq_getElem hi'⟩
    have hgk := getK_at hd.ok.keys hoi
    obtain ⟨g1, f1, c1, rfl, rfl, hc1⟩ := chH_at (fun _ _ h => by rw [h]; rfl) rk (chMap (fun x : ByteArray × DV => Value.string x.1) d) rfl hoi
    obtain ⟨g2, f2, c2, rfl, rfl, hc2⟩ := chH_at pair_len r1 (chFlat pairCells d) rfl hoi
    repeat (first | (refine sxv hs hw ?_; clear hs; intro a hs) | refine sxc hs ?_ | (refine sxa hs hw ?_; clear hs hw; intro a b W hw hs) | (refine sxs hs hw ?_; clear hs hw; intro W hs hw) | ((with_reducible first | refine st_ptrSome hs (k := ?_) | refine st_ptrNone hs (k := ?_)); clear hs; intro a hs))
    refine st_index_at hs (z := [.string ⟨#[]⟩]) (h0 := by omega) (h1 := by omega) (c := ?_); clear hs; intro a hs
    repeat (first | (refine sxv hs hw ?_; clear hs; intro a hs) | refine sxc hs ?_ | (refine sxa hs hw ?_; clear hs hw; intro a b W hw hs) | (refine sxs hs hw ?_; clear hs hw; intro W hs hw) | ((with_reducible first | refine st_ptrSome hs (k := ?_) | refine st_ptrNone hs (k := ?_)); clear hs; intro a hs))
    refine st_load_at hs (hc := hc1 hw (by repeat (first | exact In.hd | apply In.tl)) 0 _ rfl) (c := ?_); clear hs; intro a hs
    repeat (first | (refine sxv hs hw ?_; clear hs; intro a hs) | refine sxc hs ?_ | (refine sxa hs hw ?_; clear hs hw; intro a b W hw hs) | (refine sxs hs hw ?_; clear hs hw; intro W hs hw) | ((with_reducible first | refine st_ptrSome hs (k := ?_) | refine st_ptrNone hs (k := ?_)); clear hs; intro a hs))
    refine st_call hs (hc := doc_Get w0 _ p d o.1 _ hw) (k := ?_); rintro e0 W1 ⟨rfl, hw1⟩; refine ⟨_, rfl, ?_⟩; clear hs hw; intro a hs; have hw := hw1; clear hw1
    rw [hgk, show (some o.2).isSome = true from rfl] at hs
    repeat (first | (refine sxv hs hw ?_; clear hs; intro a hs) | refine sxc hs ?_ | (refine sxa hs hw ?_; clear hs hw; intro a b W hw hs) | (refine sxs hs hw ?_; clear hs hw; intro W hs hw) | ((with_reducible first | refine st_ptrSome hs (k := ?_) | refine st_ptrNone hs (k := ?_)); clear hs; intro a hs))
    obtain ⟨b7, q7⟩ := nm1 hw; subst q7
    refine rg_draw (V := [.slice (some ⟨g1, f1, none⟩) d.length kcap, .int .i64 (i : Int), .pointer (some ⟨g1, f1 + i * 1, none⟩), .string o.1, .pointer (some ⟨b3, 0 + 0, none⟩), .slice (some ⟨g2, f2, none⟩) d.length dcap, .int .i64 (i : Int), .pointer (some ⟨g2, f2 + i * 4, none⟩), .pointer (some ⟨g2, f2 + i * 4 + 0, none⟩), .string o.1, .bool false, .bool false, .bool true, .bool false, .bool false, .bool false, .agg ⟨rawCells (some o.2)⟩, .pointer (some ⟨b3, 0 + 0, none⟩), .slice (some ⟨g2, f2, none⟩) d.length dcap, .int .i64 (i : Int), .pointer (some ⟨g2, f2 + i * 4, none⟩), .pointer (some ⟨g2, f2 + i * 4 + 1, none⟩), .agg ⟨rawCells (some o.2)⟩, .bool true, .bool false, .bool false])
      (Rs := fun D => Cells b7 (rawCells (some o.2)) 93 :: DocAt p d :: Cells b3 [.slice (some ⟨g2, f2, none⟩) d.length dcap] 32 :: Fz H1 :: R) hs hw (ho := ⟨?_, ?_, ?c2_c, ?c3_c, ?_, ?_, ?_, ?c7_c, ?_, ?c9_c, ?c10_c, ?_, ?_, ?_, ?_, ?_, ?_, ?_, ?_, ?_, ?c20_c, ?_, ?c22_c, ?c23_c, ?_, ?_, trivial⟩) (k := ?k_c)
    case c2_c =>
      intro LD D a W hcl hi hp hs hw
      refine st_index_at hs (z := [.string ⟨#[]⟩]) (h0 := by omega) (h1 := by omega) (c := ?_); clear hs; intro a hs
      repeat (first | (refine sxv hs hw ?_; clear hs; intro a hs) | refine sxc hs ?_ | (refine sxa hs hw ?_; clear hs hw; intro a b W hw hs) | (refine sxs hs hw ?_; clear hs hw; intro W hs hw) | ((with_reducible first | refine st_ptrSome hs (k := ?_) | refine st_ptrNone hs (k := ?_)); clear hs; intro a hs))
      exact ⟨hs, hw⟩
    case c3_c =>
      intro LD D a W hcl hi hp hs hw
      refine st_load_at hs (hc := hc1 hw (by repeat (first | exact In.hd | apply In.tl)) 0 _ rfl) (c := ?_); clear hs; intro a hs
      repeat (first | (refine sxv hs hw ?_; clear hs; intro a hs) | refine sxc hs ?_ | (refine sxa hs hw ?_; clear hs hw; intro a b W hw hs) | (refine sxs hs hw ?_; clear hs hw; intro W hs hw) | ((with_reducible first | refine st_ptrSome hs (k := ?_) | refine st_ptrNone hs (k := ?_)); clear hs; intro a hs))
      exact ⟨hs, hw⟩
    case c7_c =>
      intro LD D a W hcl hi hp hs hw
      refine st_index_at hs (z := [.string ⟨#[]⟩, .int .i64 0, .int .i64 0, .string ⟨#[]⟩]) (h0 := by omega) (h1 := by omega) (c := ?_); clear hs; intro a hs
      repeat (first | (refine sxv hs hw ?_; clear hs; intro a hs) | refine sxc hs ?_ | (refine sxa hs hw ?_; clear hs hw; intro a b W hw hs) | (refine sxs hs hw ?_; clear hs hw; intro W hs hw) | ((with_reducible first | refine st_ptrSome hs (k := ?_) | refine st_ptrNone hs (k := ?_)); clear hs; intro a hs))
      exact ⟨hs, hw⟩
    case c9_c =>
      intro LD D a W hcl hi hp hs hw
      refine st_load_at hs (hc := hc2 hw (by repeat (first | exact In.hd | apply In.tl)) 0 _ rfl) (c := ?_); clear hs; intro a hs
      repeat (first | (refine sxv hs hw ?_; clear hs; intro a hs) | refine sxc hs ?_ | (refine sxa hs hw ?_; clear hs hw; intro a b W hw hs) | (refine sxs hs hw ?_; clear hs hw; intro W hs hw) | ((with_reducible first | refine st_ptrSome hs (k := ?_) | refine st_ptrNone hs (k := ?_)); clear hs; intro a hs))
      exact ⟨hs, hw⟩
    case c10_c =>
      intro LD D a W hcl hi hp hs hw
      repeat (first | (refine sxv hs hw ?_; clear hs; intro a hs) | refine sxc hs ?_ | (refine sxa hs hw ?_; clear hs hw; intro a b W hw hs) | (refine sxs hs hw ?_; clear hs hw; intro W hs hw) | ((with_reducible first | refine st_ptrSome hs (k := ?_) | refine st_ptrNone hs (k := ?_)); clear hs; intro a hs))
      rw [beq_self_eq_true] at hs
      repeat (first | (refine sxv hs hw ?_; clear hs; intro a hs) | refine sxc hs ?_ | (refine sxa hs hw ?_; clear hs hw; intro a b W hw hs) | (refine sxs hs hw ?_; clear hs hw; intro W hs hw) | ((with_reducible first | refine st_ptrSome hs (k := ?_) | refine st_ptrNone hs (k := ?_)); clear hs; intro a hs))
      exact ⟨hs, hw⟩
    case c20_c =>
      intro LD D a W hcl hi hp hs hw
      repeat (first | (refine sxv hs hw ?_; clear hs; intro a hs) | refine sxc hs ?_ | (refine sxa hs hw ?_; clear hs hw; intro a b W hw hs) | (refine sxs hs hw ?_; clear hs hw; intro W hs hw) | ((with_reducible first | refine st_ptrSome hs (k := ?_) | refine st_ptrNone hs (k := ?_)); clear hs; intro a hs))
      refine st_index_at hs (z := [.string ⟨#[]⟩, .int .i64 0, .int .i64 0, .string ⟨#[]⟩]) (h0 := by omega) (h1 := by omega) (c := ?_); clear hs; intro a hs
      repeat (first | (refine sxv hs hw ?_; clear hs; intro a hs) | refine sxc hs ?_ | (refine sxa hs hw ?_; clear hs hw; intro a b W hw hs) | (refine sxs hs hw ?_; clear hs hw; intro W hs hw) | ((with_reducible first | refine st_ptrSome hs (k := ?_) | refine st_ptrNone hs (k := ?_)); clear hs; intro a hs))
      exact ⟨hs, hw⟩
    case c22_c =>
      intro LD D a W hcl hi hp hs hw
      repeat (first | (refine sxv hs hw ?_; clear hs; intro a hs) | refine sxc hs ?_ | (refine sxa hs hw ?_; clear hs hw; intro a b W hw hs) | (refine sxs hs hw ?_; clear hs hw; intro W hs hw) | ((with_reducible first | refine st_ptrSome hs (k := ?_) | refine st_ptrNone hs (k := ?_)); clear hs; intro a hs))
      refine st_load_ats hs (cs := rawCells (some o.2)) (hc := fun j u h => by rw [Nat.add_assoc _ 1 j, Nat.add_comm 1 j]; exact hc2 hw (by repeat (first | exact In.hd | apply In.tl)) (j + 1) u h) (hl := by rfl) (c := ?_); clear hs; intro a hs
      repeat (first | (refine sxv hs hw ?_; clear hs; intro a hs) | refine sxc hs ?_ | (refine sxa hs hw ?_; clear hs hw; intro a b W hw hs) | (refine sxs hs hw ?_; clear hs hw; intro W hs hw) | ((with_reducible first | refine st_ptrSome hs (k := ?_) | refine st_ptrNone hs (k := ?_)); clear hs; intro a hs))
      exact ⟨hs, hw⟩
    case c23_c =>
      intro LD D a W hcl hi hp hs hw
      repeat (first | (refine sxv hs hw ?_; clear hs; intro a hs) | refine sxc hs ?_ | (refine sxa hs hw ?_; clear hs hw; intro a b W hw hs) | (refine sxs hs hw ?_; clear hs hw; intro W hs hw) | ((with_reducible first | refine st_ptrSome hs (k := ?_) | refine st_ptrNone hs (k := ?_)); clear hs; intro a hs))
      refine st_call hs (hc := ref_Eq_self (kindOf (some o.2)) (intIn (some o.2)) (textIn (some o.2)) _) (k := ?_); rintro e0 W1 ⟨rfl, hb⟩; refine ⟨_, rfl, ?_⟩; clear hs; intro a hs; replace hw := hw.below hb; clear hb
      repeat (first | (refine sxv hs hw ?_; clear hs; intro a hs) | refine sxc hs ?_ | (refine sxa hs hw ?_; clear hs hw; intro a b W hw hs) | (refine sxs hs hw ?_; clear hs hw; intro W hs hw) | ((with_reducible first | refine st_ptrSome hs (k := ?_) | refine st_ptrNone hs (k := ?_)); clear hs; intro a hs))
      exact ⟨hs, hw⟩
    case k_c =>
      clear hs hw
      intro a W hs hw
      replace hw : Has 0 w0 W (Cells b7 (rawCells (some o.2)) 93 :: DocAt p d :: Cells b3 [.slice (some ⟨g2, f2, none⟩) d.length dcap] 32 :: Fz H1 :: R) := hw
      replace hs : Slots a 60 [(59, .bool false), (0, .pointer (some ⟨p, 0, none⟩)), (3, .pointer (some ⟨b3, 0, none⟩)), (5, .slice (some ⟨g1, f1, none⟩) d.length kcap), (6, .int .i64 (i : Int))] := hs.of ⟨rfl, rfl, rfl, rfl, rfl, trivial⟩
      repeat (first | (refine sxv hs hw ?_; clear hs; intro a hs) | refine sxc hs ?_ | (refine sxa hs hw ?_; clear hs hw; intro a b W hw hs) | (refine sxs hs hw ?_; clear hs hw; intro W hs hw) | ((with_reducible first | refine st_ptrSome hs (k := ?_) | refine st_ptrNone hs (k := ?_)); clear hs; intro a hs))
      exact st_again (i + 1) hs (hw.sub (List.Sublist.cons _ (List.Sublist.refl _))) hi' (by show d.length - (i + 1) < d.length - i; omega) ⟨rfl, rfl, rfl, int_eq (by show IntKind.i64.wrap ((i : Int) + 1) = ((i + 1 : Nat) : Int); rw [IntWalk.i64_in _ (by omega)]; omega), trivial⟩
    all_goals
      intro LD D a W hcl hi hp hs hw
      repeat (first | (refine sxv hs hw ?_; clear hs; intro a hs) | refine sxc hs ?_ | (refine sxa hs hw ?_; clear hs hw; intro a b W hw hs) | (refine sxs hs hw ?_; clear hs hw; intro W hs hw) | ((with_reducible first | refine st_ptrSome hs (k := ?_) | refine st_ptrNone hs (k := ?_)); clear hs; intro a hs))
      exact ⟨hs, hw⟩
  · repeat (first | (refine sxv hs hw ?_; clear hs; intro a hs) | refine sxc hs ?_ | (refine sxa hs hw ?_; clear hs hw; intro a b W hw hs) | (refine sxs hs hw ?_; clear hs hw; intro W hs hw) | ((with_reducible first | refine st_ptrSome hs (k := ?_) | refine st_ptrNone hs (k := ?_)); clear hs; intro a hs))
    refine rt1 hs rfl rfl ⟨rfl, ?_⟩
    have hw : Has 0 w0 _ (Fz H1 :: DocAt p d :: Cells b3 [.slice dad d.length dcap] 32 :: R) := hw.perm (by repeat (first | exact List.Perm.refl _ | refine perm_pick (by repeat (first | exact Pick.hd | apply Pick.tl)) ?_))
    have hw := hw.thaw hle
    have hw : Has 0 w0 _ (Cells b3 [.slice dad d.length dcap] 32 :: DocAt p d :: Fz H :: R) := hw.perm (by repeat (first | exact List.Perm.refl _ | refine perm_pick (by repeat (first | exact Pick.hd | apply Pick.tl)) ?_))
    exact hw.sub (List.Sublist.cons _ (List.Sublist.refl _))
end Go.Proofs.YtmalklakaalaoaaGreatDoor.Sw

set_option linter.unusedVariables false
set_option maxRecDepth 10000
namespace Go.Proofs.YtmalklakaalaoaaGreatDoor.Sw
open Go.RowKit Go.Sx
end Go.Proofs.YtmalklakaalaoaaGreatDoor.Sw

set_option linter.unusedVariables false
set_option maxRecDepth 10000
namespace Go.Sx
end Go.Sx
namespace Go.Proofs.YtmalklakaalaoaaGreatDoor.Sw
open Go.RowKit Go.Sx
-- pieces
end Go.Proofs.YtmalklakaalaoaaGreatDoor.Sw

set_option linter.unusedVariables false
set_option maxRecDepth 10000
namespace Go.Proofs.YtmalklakaalaoaaGreatDoor.Sw
open Go.RowKit Go.Sx
end Go.Proofs.YtmalklakaalaoaaGreatDoor.Sw

set_option linter.unusedVariables false
set_option maxRecDepth 10000
namespace Go.Proofs.YtmalklakaalaoaaGreatDoor.Sw
open Go.RowKit Go.Sx
theorem play_fine : ∀ {rows : List RowD} {f f' : FoldD}, Play f rows f' → FoldFine f → f.place + rows.length < 1000000 → (∀ r ∈ rows, BatOk r.b) → FoldFine f'
  | [], f, f', h, hf, _, _ => by
    have h : f = f' := h
    rw [← h]; exact hf
  | r :: rows, f, f', h, hf, hp, hb => by
    rw [List.length_cons] at hp
    have hn := hf.next (hb r (by simp)) (by omega)
    exact play_fine h.2.2 hn.1 (by have := hn.2; omega) fun x hx => hb x (by simp [hx])
theorem TabOk.fine {t : TabD} (h : TabOk t) (hl : t.rows.length ≤ 1000) : FoldFine t.f :=
  play_fine h.play FoldFine.empty (by show (0 : Int) + _ < _; omega) fun r hr => (h.ok r hr).b
end Go.Proofs.YtmalklakaalaoaaGreatDoor.Sw

set_option linter.unusedVariables false
set_option maxRecDepth 10000
namespace Go.Proofs.YtmalklakaalaoaaGreatDoor.Sw
open Go.RowKit Go.Sx
structure EntOf (e : EntD) (b : BatchD) (good : Bool) : Prop where
  yes : good = true → e.kind = 2 ∧ mayB b = true ∧ e.data.data.toList = encB b
  no : good = false → (e.kind == 2) = false ∨ decode e.data.data.toList = none
  size : e.data.size ≤ 1200
theorem decode_nil : decode [] = none := by
  cases h : decode [] with
  | none => rfl
  | some p =>
    obtain ⟨c, q, l⟩ := p
    have h2 := (decode_some h).2.1
    have := textB_pos c q l
    rw [h2] at this
    cases this
theorem decode_ff (l : List UInt8) : decode (255 :: l) = none := by
  cases h : decode (255 :: l) with
  | none => rfl
  | some p =>
    obtain ⟨c, q, o⟩ := p
    obtain ⟨h1, h2, _⟩ := decode_some h
    obtain ⟨hc, _⟩ := mayBatch_parts h1
    have e : textB c q o = Ph.putI c ++ (Ph.putI q ++ (Ph.putI o.length ++ o.flatMap opB)) := by
      unfold textB headB; simp only [List.append_assoc]
    rw [e] at h2
    have hcc : c = 1 ∨ c = 2 ∨ c = 3 ∨ c = 4 ∨ c = 5 := by omega
    rcases hcc with rfl | rfl | rfl | rfl | rfl
    · have h3 : Ph.putI 1 = [2] := by kernel_rfl
      rw [h3] at h2
      injection h2 with h4 _
      exact absurd h4 (by decide)
    · have h3 : Ph.putI 2 = [4] := by kernel_rfl
      rw [h3] at h2
      injection h2 with h4 _
      exact absurd h4 (by decide)
    · have h3 : Ph.putI 3 = [6] := by kernel_rfl
      rw [h3] at h2
      injection h2 with h4 _
      exact absurd h4 (by decide)
    · have h3 : Ph.putI 4 = [8] := by kernel_rfl
      rw [h3] at h2
      injection h2 with h4 _
      exact absurd h4 (by decide)
    · have h3 : Ph.putI 5 = [10] := by kernel_rfl
      rw [h3] at h2
      injection h2 with h4 _
      exact absurd h4 (by decide)
theorem apply_far {t : TabD} {e : EntD} (h : e.ix ≠ IntKind.i64.wrap (t.ix + 1)) : applyT t e = (t, zeroRow, false) := by
  unfold applyT
  rw [if_neg h]
theorem apply_bad {t : TabD} {e : EntD} {b : BatchD} (h : e.ix = IntKind.i64.wrap (t.ix + 1)) (he : EntOf e b false) : applyT t e = (⟨IntKind.i64.wrap (t.ix + 1), t.f, t.rows⟩, zeroRow, false) := by
  unfold applyT
  rw [if_pos h]
  rcases he.no rfl with hk | hd
  · rw [hk]
  · rw [hd]
    cases (e.kind == 2) <;> rfl
theorem apply_good {t : TabD} {e : EntD} {b : BatchD} (h : e.ix = IntKind.i64.wrap (t.ix + 1)) (he : EntOf e b true) (hb : BatOk b) : applyT t e = playT (IntKind.i64.wrap (t.ix + 1)) t b := by
  obtain ⟨h1, h2, h3⟩ := he.yes rfl
  unfold applyT
  rw [if_pos h, h1, h3]
  unfold encB
  rw [decode_text h2 hb.ops]
  rfl
theorem rowsT_end {t : TabD} {fr_ n : Int} {k : Nat} (h1 : 0 < k → 1 ≤ fr_ ∧ fr_ + k - 1 ≤ (t.rows.length : Int) ∧ (k : Int) ≤ n ∧ k ≤ 10)
    (h2 : ¬(1 ≤ fr_ + k ∧ fr_ + k ≤ (t.rows.length : Int) ∧ (k : Int) < n ∧ k < 10)) : (t.rows.drop (fr_ - 1).toNat).take k = rowsT t fr_ n := by
  unfold rowsT
  have hdl : (t.rows.drop (fr_ - 1).toNat).length = t.rows.length - (fr_ - 1).toNat := List.length_drop
  rcases Nat.eq_zero_or_pos k with h0 | h0
  · subst h0
    rw [List.take_zero]
    split
    · rfl
    · rename_i h3
      exfalso
      apply h2
      omega
  · obtain ⟨g1, g2, g3, g4⟩ := h1 h0
    rw [if_neg (by omega)]
    by_cases h5 : (k : Int) < n ∧ k < 10
    · have h6 : (t.rows.length : Int) < fr_ + k := by omega
      rw [List.take_of_length_le (by omega), List.take_of_length_le (by omega)]
    · rw [show min n.toNat 10 = k by omega]
end Go.Proofs.YtmalklakaalaoaaGreatDoor.Sw

set_option linter.unusedVariables false
set_option maxRecDepth 10000
namespace Go.Proofs.YtmalklakaalaoaaGreatDoor.Sw
open Go.RowKit Go.Sx
set_option maxHeartbeats 16000000 in
theorem law7_Same (w0 W : World) (H : Fh) (p : Nat) (f : FoldD) (cs : List Value) (R : List Res) (hok : FoldOk f) (hf : RfIn H f cs) (hw : Has 0 w0 W (FoldAt H p f :: Fz H :: R)) :
    Calls Tryz.prog 17 ⟨[.pointer (some ⟨p, 0, none⟩), .agg ⟨cs⟩]⟩ W fun e W' => e = .returned (.bool true) ∧ Has 0 w0 W' (FoldAt H p f :: Fz H :: R) := by
  obtain ⟨dv, ls, ts, rfl, hdv, h6, hls, hts⟩ := hf
  obtain ⟨hll, htl⟩ := rf_len h6 hls hts
  obtain ⟨dad, dcap, rfl⟩ := hdv.slice
  refine enter Tryz.func17 Tryz.ntmps17 rfl rfl fun a hs => ?_
  repeat (first | (refine sxv hs hw ?_; clear hs; intro a hs) | refine sxc hs ?_ | (refine sxa hs hw ?_; clear hs hw; intro a b W hw hs) | (refine sxs hs hw ?_; clear hs hw; intro W hs hw) | ((with_reducible first | refine st_ptrSome hs (k := ?_) | refine st_ptrNone hs (k := ?_)); clear hs; intro a hs))
  obtain ⟨b3, q3⟩ := nm1 hw; subst q3
  have hw : Has 0 w0 _ (Free :: FoldAt H p f :: Cells b3 (rfC f.place (.slice dad f.d.length dcap) ls ts) 42 :: Fz H :: R) := (hw.perm (List.Perm.swap _ _ _)).free
  refine rg_drawU (σ := Nat) (V := fun u => [.pointer (some ⟨p, 0, none⟩), .bool false, .bool false, .pointer (some ⟨p, 0, none⟩), .int .i64 f.place, .pointer (some ⟨b3, 0 + 0, none⟩), .int .i64 f.place, .bool false, .bool false, .bool false, .pointer (some ⟨p, 0, none⟩), .pointer (some ⟨u 11, 0, none⟩), .pointer (some ⟨b3, 0 + 1, none⟩), .agg ⟨[.slice dad f.d.length dcap]⟩, .bool true, .bool false, .bool false])
    (Rs := fun u D => (if D 14 then Free else if D 11 then DocAt (u 11) f.d else Free) :: FoldAt H p f :: Cells b3 (rfC f.place (.slice dad f.d.length dcap) ls ts) 42 :: Fz H :: R) (fun _ => 0) hs hw (hVu := ?vu_c) (ho := ⟨?_, ?_, ?_, ?_, ?c4_c, ?_, ?_, ?c7_c, ?_, ?_, ?_, ?c11_c, ?_, ?c13_c, ?c14_c, ?_, ?_, trivial⟩) (k := ?k_c)
  case vu_c =>
    intro u u' j h
    rcases j with _ | _ | _ | _ | _ | _ | _ | _ | _ | _ | _ | _ | _ | _ | _ | _ | _ | j
    all_goals first | rfl | simp [h]
  case c4_c =>
    intro u LD D a W hcl hi hp hs hw
    repeat (first | (refine sxv hs hw ?_; clear hs; intro a hs) | refine sxc hs ?_ | (refine sxa hs hw ?_; clear hs hw; intro a b W hw hs) | (refine sxs hs hw ?_; clear hs hw; intro W hs hw) | ((with_reducible first | refine st_ptrSome hs (k := ?_) | refine st_ptrNone hs (k := ?_)); clear hs; intro a hs))
    refine st_call hs (hc := fold_Place w0 _ H p f _ hw.swap2) (k := ?_); rintro e0 W1 ⟨rfl, hw1⟩; refine ⟨_, rfl, ?_⟩; clear hs hw; intro a hs; have hw := hw1.swap2; clear hw1
    repeat (first | (refine sxv hs hw ?_; clear hs; intro a hs) | refine sxc hs ?_ | (refine sxa hs hw ?_; clear hs hw; intro a b W hw hs) | (refine sxs hs hw ?_; clear hs hw; intro W hs hw) | ((with_reducible first | refine st_ptrSome hs (k := ?_) | refine st_ptrNone hs (k := ?_)); clear hs; intro a hs))
    exact Or.inl ⟨hs, hw⟩
  case c7_c =>
    intro u LD D a W hcl hi hp hs hw
    repeat (first | (refine sxv hs hw ?_; clear hs; intro a hs) | refine sxc hs ?_ | (refine sxa hs hw ?_; clear hs hw; intro a b W hw hs) | (refine sxs hs hw ?_; clear hs hw; intro W hs hw) | ((with_reducible first | refine st_ptrSome hs (k := ?_) | refine st_ptrNone hs (k := ?_)); clear hs; intro a hs))
    rw [show (f.place != f.place) = false from bne_self_eq_false _] at hs
    repeat (first | (refine sxv hs hw ?_; clear hs; intro a hs) | refine sxc hs ?_ | (refine sxa hs hw ?_; clear hs hw; intro a b W hw hs) | (refine sxs hs hw ?_; clear hs hw; intro W hs hw) | ((with_reducible first | refine st_ptrSome hs (k := ?_) | refine st_ptrNone hs (k := ?_)); clear hs; intro a hs))
    exact Or.inl ⟨hs, hw⟩
  case c11_c =>
    intro u LD D a W hcl hi hp hs hw
    have h14 := Go.Sx.not_done hcl hi 14 (by kernel_rfl)
    simp only [hi, h14, Bool.false_eq_true, if_false] at hw
    repeat (first | (refine sxv hs hw ?_; clear hs; intro a hs) | refine sxc hs ?_ | (refine sxa hs hw ?_; clear hs hw; intro a b W hw hs) | (refine sxs hs hw ?_; clear hs hw; intro W hs hw) | ((with_reducible first | refine st_ptrSome hs (k := ?_) | refine st_ptrNone hs (k := ?_)); clear hs; intro a hs))
    refine st_call hs (hc := fold_Doc w0 _ H p f _ (hw.sub (List.Sublist.cons _ (List.Sublist.refl _)))) (k := ?_); rintro e0 W1 ⟨c, rfl, hw1⟩; refine ⟨_, rfl, ?_⟩; clear hs hw; intro a hs; have hw := hw1; clear hw1
    repeat (first | (refine sxv hs hw ?_; clear hs; intro a hs) | refine sxc hs ?_ | (refine sxa hs hw ?_; clear hs hw; intro a b W hw hs) | (refine sxs hs hw ?_; clear hs hw; intro W hs hw) | ((with_reducible first | refine st_ptrSome hs (k := ?_) | refine st_ptrNone hs (k := ?_)); clear hs; intro a hs))
    refine Or.inr ⟨c, hs, ?_⟩
    show Has 0 w0 _ ((if (Nat.beq 14 11 || D 14) = true then _ else _) :: _)
    rw [h14]
    exact hw
  case c13_c =>
    intro u LD D a W hcl hi hp hs hw
    have hcut : cut (rfC f.place (.slice dad f.d.length dcap) ls ts) (0 + 1) 1 = [.slice dad f.d.length dcap] := by rw [cut_eq]; rfl
    repeat (first | (refine sxv hs hw ?_; clear hs; intro a hs) | refine sxc hs ?_ | (refine sxa hs hw ?_; clear hs hw; intro a b W hw hs) | (refine sxs hs hw ?_; clear hs hw; intro W hs hw) | ((with_reducible first | refine st_ptrSome hs (k := ?_) | refine st_ptrNone hs (k := ?_)); clear hs; intro a hs))
    rw [show cut (rfC f.place (.slice dad f.d.length dcap) ls ts) (0 + 1) [Value.slice none 0 0].length = [.slice dad f.d.length dcap] from hcut] at hs
    exact Or.inl ⟨hs, hw⟩
  case c14_c =>
    intro u LD D a W hcl hi hp hs hw
    have h11 := Go.Sx.done hp 11 (by kernel_rfl)
    simp only [hi, h11, Bool.false_eq_true, if_false, if_true] at hw
    repeat (first | (refine sxv hs hw ?_; clear hs; intro a hs) | refine sxc hs ?_ | (refine sxa hs hw ?_; clear hs hw; intro a b W hw hs) | (refine sxs hs hw ?_; clear hs hw; intro W hs hw) | ((with_reducible first | refine st_ptrSome hs (k := ?_) | refine st_ptrNone hs (k := ?_)); clear hs; intro a hs))
    have hw : Has 0 w0 _ (DocAt (u 11) f.d :: Fz H :: FoldAt H p f :: Cells b3 (rfC f.place (.slice dad f.d.length dcap) ls ts) 42 :: R) := hw.perm (by repeat (first | exact List.Perm.refl _ | refine perm_pick (by repeat (first | exact Pick.hd | apply Pick.tl)) ?_))
    refine st_call hs (hc := law6_Same w0 _ H (u 11) f.d _ _ hok.doc hdv hw) (k := ?_); rintro e0 W1 ⟨rfl, hw1⟩; refine ⟨_, rfl, ?_⟩; clear hs hw; intro a hs
    have hw : Has 0 w0 _ (Free :: FoldAt H p f :: Cells b3 (rfC f.place (.slice dad f.d.length dcap) ls ts) 42 :: Fz H :: R) := ((hw1.sub (List.Sublist.cons _ (List.Sublist.refl _))).perm (by repeat (first | exact List.Perm.refl _ | refine perm_pick (by repeat (first | exact Pick.hd | apply Pick.tl)) ?_))).free
    clear hw1
    repeat (first | (refine sxv hs hw ?_; clear hs; intro a hs) | refine sxc hs ?_ | (refine sxa hs hw ?_; clear hs hw; intro a b W hw hs) | (refine sxs hs hw ?_; clear hs hw; intro W hs hw) | ((with_reducible first | refine st_ptrSome hs (k := ?_) | refine st_ptrNone hs (k := ?_)); clear hs; intro a hs))
    exact Or.inl ⟨hs, hw⟩
  case k_c =>
    clear hs hw
    intro u a W hs hw
    replace hw : Has 0 w0 W (Free :: FoldAt H p f :: Cells b3 (rfC f.place (.slice dad f.d.length dcap) ls ts) 42 :: Fz H :: R) := hw
    replace hw := hw.sub (List.Sublist.cons _ (List.Sublist.refl _))
    replace hs : Slots a 69 [(0, .pointer (some ⟨p, 0, none⟩)), (3, .pointer (some ⟨b3, 0, none⟩)), (26, .bool false)] := hs.of ⟨rfl, rfl, rfl, trivial⟩
    clear u
    repeat (first | (refine sxv hs hw ?_; clear hs; intro a hs) | refine sxc hs ?_ | (refine sxa hs hw ?_; clear hs hw; intro a b W hw hs) | (refine sxs hs hw ?_; clear hs hw; intro W hs hw) | ((with_reducible first | refine st_ptrSome hs (k := ?_) | refine st_ptrNone hs (k := ?_)); clear hs; intro a hs))
    refine st_loop (σ := Nat) (fun i => [(0, .pointer (some ⟨p, 0, none⟩)), (3, .pointer (some ⟨b3, 0, none⟩)), (5, .int .i64 (i : Int))]) (fun _ => FoldAt H p f :: Cells b3 (rfC f.place (.slice dad f.d.length dcap) ls ts) 42 :: Fz H :: R) (fun i => i ≤ 7) (fun i => 7 - i) 0 (Nat.zero_le _) hs ⟨rfl, rfl, rfl, trivial⟩ hw ?_
    clear hs hw
    rintro i a W hi hs hw
    repeat (first | (refine sxv hs hw ?_; clear hs; intro a hs) | refine sxc hs ?_ | (refine sxa hs hw ?_; clear hs hw; intro a b W hw hs) | (refine sxs hs hw ?_; clear hs hw; intro W hs hw) | ((with_reducible first | refine st_ptrSome hs (k := ?_) | refine st_ptrNone hs (k := ?_)); clear hs; intro a hs))
    refine cd_split hs (kt := fun hcc => ?_) (kf := fun hcc => ?_)
    · have hi' : i ≤ 6 := by have : (i : Int) ≤ 6 := by simpa using hcc
                             omega
      repeat (first | (refine sxv hs hw ?_; clear hs; intro a hs) | refine sxn hs ?_ | (refine sxa hs hw ?_; clear hs hw; intro a b W hw hs) | (refine sxs hs hw ?_; clear hs hw; intro W hs hw))
      refine sq ?_
      repeat (first | (refine sxv hs hw ?_; clear hs; intro a hs) | refine sxn hs ?_ | (refine sxa hs hw ?_; clear hs hw; intro a b W hw hs) | (refine sxs hs hw ?_; clear hs hw; intro W hs hw))
      obtain ⟨b7, q7⟩ := nm1 hw; subst q7
      refine sq ?_
      refine merge (M := fun a W => ∃ sv, OpsH H sv (rowOf f i).b.l ∧ Slots a 69 [(0, .pointer (some ⟨p, 0, none⟩)), (3, .pointer (some ⟨b3, 0, none⟩)), (5, .int .i64 (i : Int)), (6, .int .i64 (lastOf f i)), (7, .pointer (some ⟨b7, 0, none⟩))] ∧ Has 0 w0 W (Cells b7 (rowCells (rowOf f i) sv) 39 :: FoldAt H p f :: Cells b3 (rfC f.place (.slice dad f.d.length dcap) ls ts) 42 :: Fz H :: R)) ?_ ?_
      · repeat (first | (refine sxv hs hw ?_; clear hs; intro a hs) | refine sxc hs ?_ | (refine sxa hs hw ?_; clear hs hw; intro a b W hw hs) | (refine sxs hs hw ?_; clear hs hw; intro W hs hw) | ((with_reducible first | refine st_ptrSome hs (k := ?_) | refine st_ptrNone hs (k := ?_)); clear hs; intro a hs))
        by_cases hc : 1 ≤ (i : Int) ∧ (i : Int) ≤ 5
        · rw [show decide ((i : Int) ≥ 1) = true from decide_eq_true hc.1] at hs
          repeat (first | (refine sxv hs hw ?_; clear hs; intro a hs) | refine sxc hs ?_ | (refine sxa hs hw ?_; clear hs hw; intro a b W hw hs) | (refine sxs hs hw ?_; clear hs hw; intro W hs hw) | ((with_reducible first | refine st_ptrSome hs (k := ?_) | refine st_ptrNone hs (k := ?_)); clear hs; intro a hs))
          rw [show decide ((i : Int) ≤ 5) = true from decide_eq_true hc.2] at hs
          obtain ⟨x, hx, hmem, hlx, hrx⟩ := hok.at_ hc
          rw [Int.toNat_natCast] at hx
          obtain ⟨c1, rfl, hc1, hcut1⟩ := hls.get NumIn.len hx
          obtain ⟨c2, ⟨sv, rfl, hsv⟩, hc2, hcut2⟩ := hts.get ToRow.len hx
          have hL : ls[i]? = some (.int .i64 x.1) := by
            have := congrArg (fun t => t[0]?) hcut1
            simpa [cut_eq] using this
          have hT : ∀ j u, (rowCells x.2 sv)[j]? = some u → ts[i * 5 + j]? = some u := by
            intro j u hu
            have := congrArg (fun t => t[j]?) hcut2
            simp only [cut_eq, List.getElem?_take, List.getElem?_drop] at this
            rw [hu] at this
            split at this
            · exact this
            · cases this
          rw [hrx, hlx]
          repeat (first | (refine sxv hs hw ?_; clear hs; intro a hs) | refine sxc hs ?_ | (refine sxa hs hw ?_; clear hs hw; intro a b W hw hs) | (refine sxs hs hw ?_; clear hs hw; intro W hs hw) | ((with_reducible first | refine st_ptrSome hs (k := ?_) | refine st_ptrNone hs (k := ?_)); clear hs; intro a hs))
          have hw : Has 0 w0 _ (Cells b7 zrc 39 :: FoldAt H p f :: Cells b3 (rfC f.place (.slice dad f.d.length dcap) ls ts) 42 :: Fz H :: R) := hw
          refine rg_draw (V := [.int .i64 (i : Int), .pointer (some ⟨b3, 0 + 2, none⟩), .pointer (some ⟨b3, 0 + 2 + i * 1, none⟩), .int .i64 x.1, .int .i64 (i : Int), .pointer (some ⟨b3, 0 + 8, none⟩), .pointer (some ⟨b3, 0 + 8 + i * 5, none⟩), .agg ⟨rowCells x.2 sv⟩, .int .i64 x.1, undef])
            (Rs := fun D => (if D 9 then Cells b7 (rowCells x.2 sv) 39 else Cells b7 zrc 39) :: FoldAt H p f :: Cells b3 (rfC f.place (.slice dad f.d.length dcap) ls ts) 42 :: Fz H :: R) hs hw (ho := ⟨?_, ?_, ?d2_c, ?d3_c, ?_, ?_, ?d6_c, ?d7_c, ?_, ?d9_c, trivial⟩) (k := ?kd_c)
          case d2_c =>
            intro LD D a W hcl hi hp hs hw
            refine st_index_arr hs (h0 := by omega) (h1 := by omega) (c := ?_); clear hs; intro a hs
            repeat (first | (refine sxv hs hw ?_; clear hs; intro a hs) | refine sxc hs ?_ | (refine sxa hs hw ?_; clear hs hw; intro a b W hw hs) | (refine sxs hs hw ?_; clear hs hw; intro W hs hw) | ((with_reducible first | refine st_ptrSome hs (k := ?_) | refine st_ptrNone hs (k := ?_)); clear hs; intro a hs))
            exact ⟨hs, hw⟩
          case d6_c =>
            intro LD D a W hcl hi hp hs hw
            refine st_index_arr hs (h0 := by omega) (h1 := by omega) (c := ?_); clear hs; intro a hs
            repeat (first | (refine sxv hs hw ?_; clear hs; intro a hs) | refine sxc hs ?_ | (refine sxa hs hw ?_; clear hs hw; intro a b W hw hs) | (refine sxs hs hw ?_; clear hs hw; intro W hs hw) | ((with_reducible first | refine st_ptrSome hs (k := ?_) | refine st_ptrNone hs (k := ?_)); clear hs; intro a hs))
            exact ⟨hs, hw⟩
          case d3_c =>
            intro LD D a W hcl hi hp hs hw
            refine st_load_one hs (hw := hw) (hi := In.tl (In.tl In.hd)) (v := .int .i64 x.1) (hv := ?hv) (k := ?_)
            case hv =>
              rw [show 0 + 2 + i * 1 = i + 1 + 1 by omega]
              show (ls ++ ts)[i]? = _
              rw [List.getElem?_append_left (by omega)]
              exact hL
            clear hs; intro a hs
            repeat (first | (refine sxv hs hw ?_; clear hs; intro a hs) | refine sxc hs ?_ | (refine sxa hs hw ?_; clear hs hw; intro a b W hw hs) | (refine sxs hs hw ?_; clear hs hw; intro W hs hw) | ((with_reducible first | refine st_ptrSome hs (k := ?_) | refine st_ptrNone hs (k := ?_)); clear hs; intro a hs))
            exact ⟨hs, hw⟩
          case d7_c =>
            intro LD D a W hcl hi hp hs hw
            refine st_load_ats (z := zrc) hs (cs := rowCells x.2 sv) (hc := fun j u hu => ?hcc) (hl := rfl) (c := ?_)
            case hcc =>
              rw [cell_block (hw.block (In.tl (In.tl In.hd))).1]
              rw [show 0 + 8 + i * 5 + j = (6 + (i * 5 + j)) + 1 + 1 by omega]
              show (ls ++ ts)[6 + (i * 5 + j)]? = _
              rw [List.getElem?_append_right (by omega), show 6 + (i * 5 + j) - ls.length = i * 5 + j by omega]
              exact hT j u hu
            clear hs; intro a hs
            repeat (first | (refine sxv hs hw ?_; clear hs; intro a hs) | refine sxc hs ?_ | (refine sxa hs hw ?_; clear hs hw; intro a b W hw hs) | (refine sxs hs hw ?_; clear hs hw; intro W hs hw) | ((with_reducible first | refine st_ptrSome hs (k := ?_) | refine st_ptrNone hs (k := ?_)); clear hs; intro a hs))
            exact ⟨hs, hw⟩
          case d9_c =>
            intro LD D a W hcl hi hp hs hw
            simp only [hi, Bool.false_eq_true, if_false] at hw
            obtain ⟨svad, svcap, rfl⟩ := hsv.slice
            repeat (first | (refine sxv hs hw ?_; clear hs; intro a hs) | refine sxc hs ?_ | (refine sxa hs hw ?_; clear hs hw; intro a b W hw hs) | (refine sxs hs hw ?_; clear hs hw; intro W hs hw) | ((with_reducible first | refine st_ptrSome hs (k := ?_) | refine st_ptrNone hs (k := ?_)); clear hs; intro a hs))
            exact ⟨hs, hw⟩
          case kd_c =>
            clear hs hw
            intro a W hs hw
            exact ⟨sv, hsv, hs.of ⟨rfl, rfl, rfl, rfl, rfl, trivial⟩, hw⟩
          all_goals
            intro LD D a W hcl hi hp hs hw
            repeat (first | (refine sxv hs hw ?_; clear hs; intro a hs) | refine sxc hs ?_ | (refine sxa hs hw ?_; clear hs hw; intro a b W hw hs) | (refine sxs hs hw ?_; clear hs hw; intro W hs hw) | ((with_reducible first | refine st_ptrSome hs (k := ?_) | refine st_ptrNone hs (k := ?_)); clear hs; intro a hs))
            exact ⟨hs, hw⟩
        · have hlx : lastOf f i = 0 := by unfold lastOf; rw [if_neg hc]
          have hrx : rowOf f i = zeroRow := by unfold rowOf; rw [if_neg hc]
          rw [hlx, hrx]
          by_cases h1 : 1 ≤ (i : Int)
          · rw [show decide ((i : Int) ≥ 1) = true from decide_eq_true h1] at hs
            repeat (first | (refine sxv hs hw ?_; clear hs; intro a hs) | refine sxc hs ?_ | (refine sxa hs hw ?_; clear hs hw; intro a b W hw hs) | (refine sxs hs hw ?_; clear hs hw; intro W hs hw) | ((with_reducible first | refine st_ptrSome hs (k := ?_) | refine st_ptrNone hs (k := ?_)); clear hs; intro a hs))
            rw [show decide ((i : Int) ≤ 5) = false from decide_eq_false (by omega)] at hs
            repeat (first | (refine sxv hs hw ?_; clear hs; intro a hs) | refine sxc hs ?_ | (refine sxa hs hw ?_; clear hs hw; intro a b W hw hs) | (refine sxs hs hw ?_; clear hs hw; intro W hs hw) | ((with_reducible first | refine st_ptrSome hs (k := ?_) | refine st_ptrNone hs (k := ?_)); clear hs; intro a hs))
            exact ⟨_, ops_nil H, hs.of ⟨rfl, rfl, rfl, rfl, rfl, trivial⟩, hw⟩
          · rw [show decide ((i : Int) ≥ 1) = false from decide_eq_false h1] at hs
            repeat (first | (refine sxv hs hw ?_; clear hs; intro a hs) | refine sxc hs ?_ | (refine sxa hs hw ?_; clear hs hw; intro a b W hw hs) | (refine sxs hs hw ?_; clear hs hw; intro W hs hw) | ((with_reducible first | refine st_ptrSome hs (k := ?_) | refine st_ptrNone hs (k := ?_)); clear hs; intro a hs))
            exact ⟨_, ops_nil H, hs.of ⟨rfl, rfl, rfl, rfl, rfl, trivial⟩, hw⟩
      clear hs hw
      rintro a W ⟨sv, hsv, hs, hw⟩
      repeat (first | (refine sxv hs hw ?_; clear hs; intro a hs) | refine sxc hs ?_ | (refine sxa hs hw ?_; clear hs hw; intro a b W hw hs) | (refine sxs hs hw ?_; clear hs hw; intro W hs hw) | ((with_reducible first | refine st_ptrSome hs (k := ?_) | refine st_ptrNone hs (k := ?_)); clear hs; intro a hs))
      have hw : Has 0 w0 _ (FoldAt H p f :: Fz H :: Cells b7 (rowCells (rowOf f i) sv) 39 :: Cells b3 (rfC f.place (.slice dad f.d.length dcap) ls ts) 42 :: R) := hw.perm (by repeat (first | exact List.Perm.refl _ | refine perm_pick (by repeat (first | exact Pick.hd | apply Pick.tl)) ?_))
      refine st_call hs (hc := fold_Told w0 _ H p f i _ (fun x hx => (hok.told x hx).2.2) hw) (k := ?_); rintro e0 W1 ⟨sv2, H2, rfl, hle2, hsv2, hw1⟩; refine ⟨_, rfl, ?_⟩; clear hs hw; intro a hs; have hw := hw1; clear hw1
      rw [hok.toldOf] at hs hsv2
      obtain ⟨uad, ucap, rfl⟩ := hsv2.slice
      repeat (first | (refine sxv hs hw ?_; clear hs; intro a hs) | refine sxc hs ?_ | (refine sxa hs hw ?_; clear hs hw; intro a b W hw hs) | (refine sxs hs hw ?_; clear hs hw; intro W hs hw) | ((with_reducible first | refine st_ptrSome hs (k := ?_) | refine st_ptrNone hs (k := ?_)); clear hs; intro a hs))
      obtain ⟨b8, q8⟩ := nm1 hw; subst q8
      have hw : Has 0 w0 _ (FoldAt H p f :: Fz H2 :: Cells b8 (rowCells (rowOf f i) (.slice uad (rowOf f i).b.l.length ucap)) 39 :: Cells b7 (rowCells (rowOf f i) sv) 39 :: Cells b3 (rfC f.place (.slice dad f.d.length dcap) ls ts) 42 :: R) := hw.perm (by repeat (first | exact List.Perm.refl _ | refine perm_pick (by repeat (first | exact Pick.hd | apply Pick.tl)) ?_))
      refine st_call hs (hc := fold_Last w0 _ H p f i _ hw) (k := ?_); rintro e0 W1 ⟨rfl, hw1⟩; refine ⟨_, rfl, ?_⟩; clear hs hw; intro a hs; have hw := hw1; clear hw1
      repeat (first | (refine sxv hs hw ?_; clear hs; intro a hs) | refine sxc hs ?_ | (refine sxa hs hw ?_; clear hs hw; intro a b W hw hs) | (refine sxs hs hw ?_; clear hs hw; intro W hs hw) | ((with_reducible first | refine st_ptrSome hs (k := ?_) | refine st_ptrNone hs (k := ?_)); clear hs; intro a hs))
      rw [show (lastOf f i != lastOf f i) = false from bne_self_eq_false _] at hs
      repeat (first | (refine sxv hs hw ?_; clear hs; intro a hs) | refine sxc hs ?_ | (refine sxa hs hw ?_; clear hs hw; intro a b W hw hs) | (refine sxs hs hw ?_; clear hs hw; intro W hs hw) | ((with_reducible first | refine st_ptrSome hs (k := ?_) | refine st_ptrNone hs (k := ?_)); clear hs; intro a hs))
      have hlast := hok.last i
      rw [show (!((!(lastOf f i == 0)) == decide (lastOf f i > 0))) = false from by
        by_cases h0 : lastOf f i = 0
        · rw [h0]; rfl
        · rw [show (lastOf f i == 0) = false from by simpa using h0, show decide (lastOf f i > 0) = true from decide_eq_true (by omega)]; rfl] at hs
      repeat (first | (refine sxv hs hw ?_; clear hs; intro a hs) | refine sxc hs ?_ | (refine sxa hs hw ?_; clear hs hw; intro a b W hw hs) | (refine sxs hs hw ?_; clear hs hw; intro W hs hw) | ((with_reducible first | refine st_ptrSome hs (k := ?_) | refine st_ptrNone hs (k := ?_)); clear hs; intro a hs))
      refine st_call hs (hc := ref_EqRow (rowOf f i) (rowOf f i) (.slice uad (rowOf f i).b.l.length ucap) sv _ (hw.rdH (by repeat (first | exact In.hd | apply In.tl)) hsv2) (hw.rdH (by repeat (first | exact In.hd | apply In.tl)) (hsv.le hle2))) (k := ?_); rintro e0 W1 ⟨rfl, hb⟩; refine ⟨_, rfl, ?_⟩; clear hs; intro a hs; replace hw := hw.below hb; clear hb
      rw [show eqRow (rowOf f i) (rowOf f i) = true from eqRow_iff.2 rfl] at hs
      repeat (first | (refine sxv hs hw ?_; clear hs; intro a hs) | refine sxc hs ?_ | (refine sxa hs hw ?_; clear hs hw; intro a b W hw hs) | (refine sxs hs hw ?_; clear hs hw; intro W hs hw) | ((with_reducible first | refine st_ptrSome hs (k := ?_) | refine st_ptrNone hs (k := ?_)); clear hs; intro a hs))
      have hw : Has 0 w0 _ (Fz H2 :: FoldAt H p f :: Cells b3 (rfC f.place (.slice dad f.d.length dcap) ls ts) 42 :: Cells b8 (rowCells (rowOf f i) (.slice uad (rowOf f i).b.l.length ucap)) 39 :: Cells b7 (rowCells (rowOf f i) sv) 39 :: R) := hw.perm (by repeat (first | exact List.Perm.refl _ | refine perm_pick (by repeat (first | exact Pick.hd | apply Pick.tl)) ?_))
      have hw := hw.thaw hle2
      have hw : Has 0 w0 _ (Cells b8 (rowCells (rowOf f i) (.slice uad (rowOf f i).b.l.length ucap)) 39 :: Cells b7 (rowCells (rowOf f i) sv) 39 :: FoldAt H p f :: Cells b3 (rfC f.place (.slice dad f.d.length dcap) ls ts) 42 :: Fz H :: R) := hw.perm (by repeat (first | exact List.Perm.refl _ | refine perm_pick (by repeat (first | exact Pick.hd | apply Pick.tl)) ?_))
      exact st_again (i + 1) hs (hw.sub (List.Sublist.cons _ (List.Sublist.cons _ (List.Sublist.refl _)))) (by show i + 1 ≤ 7; omega) (by show 7 - (i + 1) < 7 - i; omega) ⟨rfl, rfl, int_eq (by show IntKind.i64.wrap ((i : Int) + 1) = ((i + 1 : Nat) : Int); rw [IntWalk.i64_in _ (by omega)]; omega), trivial⟩
    · repeat (first | (refine sxv hs hw ?_; clear hs; intro a hs) | refine sxc hs ?_ | (refine sxa hs hw ?_; clear hs hw; intro a b W hw hs) | (refine sxs hs hw ?_; clear hs hw; intro W hs hw) | ((with_reducible first | refine st_ptrSome hs (k := ?_) | refine st_ptrNone hs (k := ?_)); clear hs; intro a hs))
      exact rt1 hs rfl rfl ⟨rfl, hw.sub (List.Sublist.cons_cons _ (List.Sublist.cons _ (List.Sublist.refl _)))⟩
  all_goals
    intro u LD D a W hcl hi hp hs hw
    repeat (first | (refine sxv hs hw ?_; clear hs; intro a hs) | refine sxc hs ?_ | (refine sxa hs hw ?_; clear hs hw; intro a b W hw hs) | (refine sxs hs hw ?_; clear hs hw; intro W hs hw) | ((with_reducible first | refine st_ptrSome hs (k := ?_) | refine st_ptrNone hs (k := ?_)); clear hs; intro a hs))
    exact Or.inl ⟨hs, hw⟩
end Go.Proofs.YtmalklakaalaoaaGreatDoor.Sw
