/-
  Texts of the proof, one behind the other (part 9).
-/
import Derived.Test.YtalfmomnaghahaaDoorM8
/-
  Tables: New, own, Index, Fold, Apply.
-/
set_option linter.unusedVariables false
set_option maxRecDepth 10000
namespace Go.Proofs.YtalfmomnaghahaaDoor.Sw
open Go.RowKit Go.Sx

/-- A table behind a pointer. -/
def TabAt (H : Fh) (p : Nat) (t : TabD) : Res := Ex fun x : Nat × Value × List Value => Cells p [.int .i64 t.ix, .pointer (some ⟨x.1, 0, none⟩), x.2.1] 57 :: FoldAt H x.1 t.f :: Sx.Own 28 5 x.2.1 t.rows.length x.2.2 :: Fact (Ch (RowIn H) t.rows x.2.2) :: []
section
variable {G p pf : Nat} {w W : World} {R : List Res} {t : TabD} {H H' : Fh} {v : Value} {xs : List Value}
theorem tabShut (h : Has G w W (Cells p [.int .i64 t.ix, .pointer (some ⟨pf, 0, none⟩), v] 57 :: FoldAt H pf t.f :: Sx.Own 28 5 v t.rows.length xs :: R)) (hc : Ch (RowIn H) t.rows xs) : Has G w W (TabAt H p t :: R) :=
  Has.shut (pf, v, xs) ((h.fact hc).perm (by repeat (first | exact List.Perm.refl _ | refine perm_pick (by repeat (first | exact Pick.hd | apply Pick.tl)) ?_)))
theorem tabOpen (h : Has G w W (TabAt H p t :: R)) : ∃ pf vad vcap xs, Ch (RowIn H) t.rows xs ∧ Has G w W (Cells p [.int .i64 t.ix, .pointer (some ⟨pf, 0, none⟩), .slice vad t.rows.length vcap] 57 :: FoldAt H pf t.f :: Sx.Own 28 5 (.slice vad t.rows.length vcap) t.rows.length xs :: R) := by
  obtain ⟨⟨pf, v, xs⟩, h⟩ := Has.open h
  have h : Has G w W (Cells p [.int .i64 t.ix, .pointer (some ⟨pf, 0, none⟩), v] 57 :: FoldAt H pf t.f :: Sx.Own 28 5 v t.rows.length xs :: Fact (Ch (RowIn H) t.rows xs) :: R) := h
  have hf := h.told (In.tl (In.tl (In.tl In.hd)))
  have h : Has G w W (Cells p [.int .i64 t.ix, .pointer (some ⟨pf, 0, none⟩), v] 57 :: FoldAt H pf t.f :: Sx.Own 28 5 v t.rows.length xs :: R) := h.sub (List.Sublist.cons_cons _ (List.Sublist.cons_cons _ (List.Sublist.cons_cons _ (List.Sublist.cons _ (List.Sublist.refl _)))))
  have h2 : Has G w W (Sx.Own 28 5 v t.rows.length xs :: Cells p [.int .i64 t.ix, .pointer (some ⟨pf, 0, none⟩), v] 57 :: FoldAt H pf t.f :: R) := h.perm (by repeat (first | exact List.Perm.refl _ | refine perm_pick (by repeat (first | exact Pick.hd | apply Pick.tl)) ?_))
  obtain ⟨ad, cap, rfl⟩ := h2.own_slice
  exact ⟨pf, ad, cap, xs, hf, h⟩
theorem tabLe (h : Has G w W (TabAt H p t :: R)) (hl : H.le H') : Has G w W (TabAt H' p t :: R) := by
  obtain ⟨pf, ad, cap, xs, h1, h2⟩ := tabOpen h
  exact tabShut (foldLe h2.swap2 hl).swap2 (h1.mono (RowIn.le hl))
end
def emptyT : TabD := ⟨0, emptyF, []⟩

set_option maxHeartbeats 4000000 in
theorem table_New (w0 W : World) (H : Fh) (R : List Res) (hw : Has 0 w0 W R) :
    Calls Tryd.prog 10 ⟨[]⟩ W fun e W' => ∃ p, e = .returned (.pointer (some ⟨p, 0, none⟩)) ∧ Has 0 w0 W' (TabAt H p emptyT :: R) := by
  refine enter Tryd.func10 Tryd.ntmps10 rfl rfl fun a hs => ?_
  repeat (first | (refine sxv hs hw ?_; clear hs; intro a hs) | refine sxc hs ?_ | (refine sxa hs hw ?_; clear hs hw; intro a b W hw hs) | (refine sxs hs hw ?_; clear hs hw; intro W hs hw))
  refine st_call hs (hc := fold_New w0 _ H _ hw) (k := ?_); rintro e0 W1 ⟨c, rfl, hw1⟩; refine ⟨_, rfl, ?_⟩; clear hs hw; intro a hs; have hw := hw1; clear hw1
  repeat (first | (refine sxv hs hw ?_; clear hs; intro a hs) | refine sxc hs ?_ | (refine sxa hs hw ?_; clear hs hw; intro a b W hw hs) | (refine sxs hs hw ?_; clear hs hw; intro W hs hw))
  refine rt1 hs rfl rfl ⟨_, rfl, ?_⟩
  have hw := hw.nilOwn 28 5
  exact tabShut (t := emptyT) (xs := []) (hw.perm (by repeat (first | exact List.Perm.refl _ | refine perm_pick (by repeat (first | exact Pick.hd | apply Pick.tl)) ?_))) rfl

set_option maxHeartbeats 4000000 in
theorem table_own (w0 W : World) (H : Fh) (r : RowD) (sv : Value) (R : List Res) (hl : r.b.l.length ≤ 1000) (hr : OpsH H sv r.b.l) (hw : Has 0 w0 W (Fz H :: R)) :
    Calls Tryd.prog 21 ⟨[.agg ⟨rowCells r sv⟩]⟩ W fun e W' => ∃ sv' H', e = .returned (.agg ⟨rowCells r sv'⟩) ∧ H.le H' ∧ OpsH H' sv' r.b.l ∧ Has 0 w0 W' (Fz H' :: R) := by
  obtain ⟨sad, scap, rfl⟩ := hr.slice
  refine enter Tryd.func21 Tryd.ntmps21 rfl rfl fun a hs => ?_
  repeat (first | (refine sxv hs hw ?_; clear hs; intro a hs) | refine sxc hs ?_ | (refine sxa hs hw ?_; clear hs hw; intro a b W hw hs) | (refine sxs hs hw ?_; clear hs hw; intro W hs hw))
  obtain ⟨b2, q2⟩ := nm1 hw; subst q2
  obtain ⟨b1, q1⟩ := nm2 hw; subst q1
  have hw : Has 0 w0 _ (Fz H :: Cells b2 [.int .i64 0, .int .i64 0, .int .i64 0, .slice none 0 0, .int .i64 0] 28 :: Cells b1 (rowCells r (.slice sad r.b.l.length scap)) 28 :: R) := hw.perm (by repeat (first | exact List.Perm.refl _ | refine perm_pick (by repeat (first | exact Pick.hd | apply Pick.tl)) ?_))
  refine st_call hs (hc := clone_ops w0 _ H r.b.l _ _ hl hr hw) (k := ?_); rintro e0 W1 ⟨sv', H', rfl, h1, h2, hw1⟩; refine ⟨_, rfl, ?_⟩; clear hs hw; intro a hs; have hw := hw1; clear hw1
  obtain ⟨tad, tcap, rfl⟩ := h2.slice
  repeat (first | (refine sxv hs hw ?_; clear hs; intro a hs) | refine sxc hs ?_ | (refine sxa hs hw ?_; clear hs hw; intro a b W hw hs) | (refine sxs hs hw ?_; clear hs hw; intro W hs hw))
  refine rc1 hs rfl rfl hw (In.tl In.hd) rfl ?_
  exact ⟨_, H', rfl, h1, h2, hw.drop2.drop2⟩

set_option maxHeartbeats 4000000 in
theorem table_Index (w0 W : World) (H : Fh) (p : Nat) (t : TabD) (R : List Res) (hw : Has 0 w0 W (TabAt H p t :: R)) :
    Calls Tryd.prog 8 ⟨[.pointer (some ⟨p, 0, none⟩)]⟩ W fun e W' => e = .returned (.int .i64 t.ix) ∧ Has 0 w0 W' (TabAt H p t :: R) := by
  obtain ⟨pf, ad, cap, xs, hc, hw⟩ := tabOpen hw
  refine enter Tryd.func8 Tryd.ntmps8 rfl rfl fun a hs => ?_
  repeat (first | (refine sxv hs hw ?_; clear hs; intro a hs) | refine sxc hs ?_ | (refine sxa hs hw ?_; clear hs hw; intro a b W hw hs) | (refine sxs hs hw ?_; clear hs hw; intro W hs hw) | ((with_reducible first | refine st_ptrSome hs (k := ?_) | refine st_ptrNone hs (k := ?_)); clear hs; intro a hs))
  exact rt1 hs rfl rfl ⟨rfl, tabShut hw hc⟩

set_option maxHeartbeats 4000000 in
theorem table_Index0 (W : World) : Calls Tryd.prog 8 ⟨[.pointer none]⟩ W fun e W' => e = .returned (.int .i64 0) ∧ Below W.heap.size W W' := by
  have hw := Has.start (G := 0) (w := W) (Nat.zero_le _)
  refine enter Tryd.func8 Tryd.ntmps8 rfl rfl fun a hs => ?_
  repeat (first | (refine sxv hs hw ?_; clear hs; intro a hs) | refine sxc hs ?_ | (refine sxa hs hw ?_; clear hs hw; intro a b W hw hs) | (refine sxs hs hw ?_; clear hs hw; intro W hs hw) | ((with_reducible first | refine st_ptrSome hs (k := ?_) | refine st_ptrNone hs (k := ?_)); clear hs; intro a hs))
  exact rt1 hs rfl rfl ⟨rfl, hw.end (by repeat (first | exact In.hd | apply In.tl))⟩

set_option maxHeartbeats 4000000 in
theorem table_Fold (w0 W : World) (H : Fh) (p : Nat) (t : TabD) (R : List Res) (hw : Has 0 w0 W (TabAt H p t :: R)) :
    Calls Tryd.prog 11 ⟨[.pointer (some ⟨p, 0, none⟩)]⟩ W fun e W' => ∃ q, e = .returned (.pointer (some ⟨q, 0, none⟩)) ∧ Has 0 w0 W' (FoldAt H q t.f :: TabAt H p t :: R) := by
  obtain ⟨pf, ad, cap, xs, hc, hw⟩ := tabOpen hw
  refine enter Tryd.func11 Tryd.ntmps11 rfl rfl fun a hs => ?_
  repeat (first | (refine sxv hs hw ?_; clear hs; intro a hs) | refine sxc hs ?_ | (refine sxa hs hw ?_; clear hs hw; intro a b W hw hs) | (refine sxs hs hw ?_; clear hs hw; intro W hs hw) | ((with_reducible first | refine st_ptrSome hs (k := ?_) | refine st_ptrNone hs (k := ?_)); clear hs; intro a hs))
  refine st_call hs (hc := fold_Copy w0 _ H pf t.f _ hw.swap2) (k := ?_); rintro e0 W1 ⟨q, rfl, hw1⟩; refine ⟨_, rfl, ?_⟩; clear hs hw; intro a hs; have hw := hw1; clear hw1
  repeat (first | (refine sxv hs hw ?_; clear hs; intro a hs) | refine sxc hs ?_ | (refine sxa hs hw ?_; clear hs hw; intro a b W hw hs) | (refine sxs hs hw ?_; clear hs hw; intro W hs hw))
  have hw : Has 0 w0 _ (Cells p [.int .i64 t.ix, .pointer (some ⟨pf, 0, none⟩), .slice ad t.rows.length cap] 57 :: FoldAt H pf t.f :: Sx.Own 28 5 (.slice ad t.rows.length cap) t.rows.length xs :: FoldAt H q t.f :: R) := hw.perm (by repeat (first | exact List.Perm.refl _ | refine perm_pick (by repeat (first | exact Pick.hd | apply Pick.tl)) ?_))
  exact rt1 hs rfl rfl ⟨q, rfl, (tabShut hw hc).swap2⟩

set_option maxHeartbeats 4000000 in
theorem table_Apply0 (e : EntD) (W0 : World) : Calls Tryd.prog 6 ⟨[.pointer none, .agg ⟨entCells e⟩]⟩ W0 fun x W' => x = .returned (.tuple ⟨[.agg ⟨zrc⟩, .bool false]⟩) ∧ Below W0.heap.size W0 W' := by
  have hw := Has.start (G := 0) (w := W0) (Nat.zero_le _)
  refine enter Tryd.func6 Tryd.ntmps6 rfl rfl fun a hs => ?_
  repeat (first | (refine sxv hs hw ?_; clear hs; intro a hs) | refine sxc hs ?_ | (refine sxa hs hw ?_; clear hs hw; intro a b W hw hs) | (refine sxs hs hw ?_; clear hs hw; intro W hs hw))
  obtain ⟨b4, q4⟩ := nm1 hw; subst q4
  obtain ⟨b3, q3⟩ := nm2 hw; subst q3
  refine rg_draw (V := [.pointer none, .bool true, .bool true, undef, undef, undef, undef, undef, undef, undef, undef, .bool true])
    (Rs := fun D => Cells b4 zrc 28 :: Cells b3 (entCells e) 32 :: Old W0 0 :: []) hs hw (ho := ⟨?_, ?c1_4, ?_, ?_, ?_, ?_, ?_, ?_, ?_, ?_, ?_, ?_, trivial⟩) (k := ?k_4)
  case c1_4 =>
    intro LD D a W hcl hi hp hs hw
    repeat (first | (refine sxv hs hw ?_; clear hs; intro a hs) | refine sxc hs ?_ | (refine sxa hs hw ?_; clear hs hw; intro a b W hw hs) | (refine sxs hs hw ?_; clear hs hw; intro W hs hw) | ((with_reducible first | refine st_ptrSome hs (k := ?_) | refine st_ptrNone hs (k := ?_)); clear hs; intro a hs))
    exact ⟨hs, hw⟩
  case k_4 =>
    clear hs hw
    intro a W hs hw
    repeat (first | (refine sxv hs hw ?_; clear hs; intro a hs) | refine sxc hs ?_ | (refine sxa hs hw ?_; clear hs hw; intro a b W hw hs) | (refine sxs hs hw ?_; clear hs hw; intro W hs hw))
    refine rc2 hs rfl rfl hw In.hd rfl rfl ?_
    exact ⟨rfl, hw.end (by repeat (first | exact In.hd | apply In.tl))⟩
  all_goals
    intro LD D a W hcl hi hp hs hw
    repeat (first | (refine sxv hs hw ?_; clear hs; intro a hs) | refine sxc hs ?_ | (refine sxa hs hw ?_; clear hs hw; intro a b W hw hs) | (refine sxs hs hw ?_; clear hs hw; intro W hs hw))
    exact ⟨hs, hw⟩

set_option maxHeartbeats 16000000 in
theorem table_Apply (w0 W : World) (H : Fh) (p : Nat) (t : TabD) (e : EntD) (R : List Res) (hl : t.rows.length ≤ 1000000) (hd : e.data.size ≤ 1000000) (hH : (fr w0).le H) (hT : Tabs w0) (hw : Has 0 w0 W (TabAt H p t :: Fz H :: R)) :
    Calls Tryd.prog 6 ⟨[.pointer (some ⟨p, 0, none⟩), .agg ⟨entCells e⟩]⟩ W fun x W' => ∃ sv' H', x = .returned (.tuple ⟨[.agg ⟨rowCells (applyT t e).2.1 sv'⟩, .bool (applyT t e).2.2]⟩) ∧ H.le H' ∧ OpsH H' sv' (applyT t e).2.1.b.l ∧ Has 0 w0 W' (TabAt H' p (applyT t e).1 :: Fz H' :: R) := by
  obtain ⟨pf, vad, vcap, xs, hch, hw⟩ := tabOpen hw
  refine enter Tryd.func6 Tryd.ntmps6 rfl rfl fun a hs => ?_
  repeat (first | (refine sxv hs hw ?_; clear hs; intro a hs) | refine sxc hs ?_ | (refine sxa hs hw ?_; clear hs hw; intro a b W hw hs) | (refine sxs hs hw ?_; clear hs hw; intro W hs hw))
  obtain ⟨b4, q4⟩ := nm1 hw; subst q4
  obtain ⟨b3, q3⟩ := nm2 hw; subst q3
  have hw : Has 0 w0 _ (Cells p [.int .i64 t.ix, .pointer (some ⟨pf, 0, none⟩), .slice vad t.rows.length vcap] 57 :: FoldAt H pf t.f :: Sx.Own 28 5 (.slice vad t.rows.length vcap) t.rows.length xs :: Cells b4 zrc 28 :: Cells b3 (entCells e) 32 :: Fz H :: R) := hw.perm (by repeat (first | exact List.Perm.refl _ | refine perm_pick (by repeat (first | exact Pick.hd | apply Pick.tl)) ?_))
  refine rg_draw (V := [.pointer (some ⟨p, 0, none⟩), .bool false, .bool false, .pointer (some ⟨b3, 0 + 0, none⟩), .int .i64 e.ix, .pointer (some ⟨p, 0, none⟩), .pointer (some ⟨p, 0, none⟩), .pointer (some ⟨p, 0 + 0, none⟩), .int .i64 t.ix, .int .i64 (IntKind.i64.wrap (t.ix + 1)), .bool (e.ix != (IntKind.i64.wrap (t.ix + 1))), .bool (e.ix != (IntKind.i64.wrap (t.ix + 1)))])
    (Rs := fun D => Cells p [.int .i64 t.ix, .pointer (some ⟨pf, 0, none⟩), .slice vad t.rows.length vcap] 57 :: FoldAt H pf t.f :: Sx.Own 28 5 (.slice vad t.rows.length vcap) t.rows.length xs :: Cells b4 zrc 28 :: Cells b3 (entCells e) 32 :: Fz H :: R) hs hw (ho := ⟨?_, ?c1_3, ?_, ?_, ?_, ?_, ?_, ?_, ?_, ?_, ?_, ?_, trivial⟩) (k := ?k_3)
  case c1_3 =>
    intro LD D a W hcl hi hp hs hw
    repeat (first | (refine sxv hs hw ?_; clear hs; intro a hs) | refine sxc hs ?_ | (refine sxa hs hw ?_; clear hs hw; intro a b W hw hs) | (refine sxs hs hw ?_; clear hs hw; intro W hs hw) | ((with_reducible first | refine st_ptrSome hs (k := ?_) | refine st_ptrNone hs (k := ?_)); clear hs; intro a hs))
    exact ⟨hs, hw⟩
  case k_3 =>
    clear hs hw
    intro a W hs hw
    replace hs : Slots a 68 [(21, .bool (e.ix != (IntKind.i64.wrap (t.ix + 1)))), (0, .pointer (some ⟨p, 0, none⟩)), (3, .pointer (some ⟨b3, 0, none⟩)), (4, .pointer (some ⟨b4, 0, none⟩)), (5, .bool false)] := hs.of ⟨rfl, rfl, rfl, rfl, rfl, trivial⟩
    replace hw : Has 0 w0 W (Cells p [.int .i64 t.ix, .pointer (some ⟨pf, 0, none⟩), .slice vad t.rows.length vcap] 57 :: FoldAt H pf t.f :: Sx.Own 28 5 (.slice vad t.rows.length vcap) t.rows.length xs :: Cells b4 zrc 28 :: Cells b3 (entCells e) 32 :: Fz H :: R) := hw
    cases hne : (e.ix != (IntKind.i64.wrap (t.ix + 1))) with
    | true =>
      rw [hne] at hs
      have hX : applyT t e = (t, zeroRow, false) := by unfold applyT; rw [if_neg (by simpa using hne)]
      rw [hX]
      repeat (first | (refine sxv hs hw ?_; clear hs; intro a hs) | refine sxc hs ?_ | (refine sxa hs hw ?_; clear hs hw; intro a b W hw hs) | (refine sxs hs hw ?_; clear hs hw; intro W hs hw))
      have hw := tabShut hw hch
      refine rc2 hs rfl rfl hw (In.tl In.hd) rfl rfl ?_
      exact ⟨.slice none 0 0, H, rfl, Fh.le.refl _, ops_nil H, hw.sub (List.Sublist.cons_cons _ (List.Sublist.cons _ (List.Sublist.cons _ (List.Sublist.refl _))))⟩
    | false =>
    rw [hne] at hs
    have hix : e.ix = (IntKind.i64.wrap (t.ix + 1)) := by simpa using hne
    repeat (first | (refine sxv hs hw ?_; clear hs; intro a hs) | refine sxc hs ?_ | (refine sxa hs hw ?_; clear hs hw; intro a b W hw hs) | (refine sxs hs hw ?_; clear hs hw; intro W hs hw))
    have hw : Has 0 w0 W (Cells p [.int .i64 (IntKind.i64.wrap (t.ix + 1)), .pointer (some ⟨pf, 0, none⟩), .slice vad t.rows.length vcap] 57 :: FoldAt H pf t.f :: Sx.Own 28 5 (.slice vad t.rows.length vcap) t.rows.length xs :: Cells b4 zrc 28 :: Cells b3 (entCells e) 32 :: Fz H :: R) := hw
    refine st_bytes (s := e.data) hs hw (by omega) (c := ?_); clear hs hw; intro a bb bcap0 ext W hw hrb hs
    obtain ⟨⟨⟨c, q, l⟩, err⟩, hdec⟩ : ∃ x, decR e.data.data.toList = x := ⟨_, rfl⟩
    have hdl : e.data.data.toList.length ≤ 1000000 := by rw [Array.length_toList]; exact hd
    have hlen := hw.endF (by repeat (first | exact In.hd | apply In.tl)) hH
    refine st_call hs (hc := op_DecodeR _ c q l err hdec _ _ hdl hrb (hT.keep hlen)) (k := ?_); rintro e0 W1 ⟨dad, dcap, rfl, hw1⟩; refine ⟨_, rfl, ?_⟩; clear hs; intro a hs; replace hw := hw.call hw1; clear hw1
    have hw : Has 0 w0 _ (Sx.Own 41 9 (.slice dad l.length dcap) l.length (l.flatMap opCells) :: Fz H :: Cells p [.int .i64 (IntKind.i64.wrap (t.ix + 1)), .pointer (some ⟨pf, 0, none⟩), .slice vad t.rows.length vcap] 57 :: FoldAt H pf t.f :: Sx.Own 28 5 (.slice vad t.rows.length vcap) t.rows.length xs :: Cells b4 zrc 28 :: Cells b3 (entCells e) 32 :: R) := (hw.perm (B := Sx.Own 41 9 (.slice dad l.length dcap) l.length (l.flatMap opCells) :: Fz H :: Cells p [.int .i64 (IntKind.i64.wrap (t.ix + 1)), .pointer (some ⟨pf, 0, none⟩), .slice vad t.rows.length vcap] 57 :: FoldAt H pf t.f :: Sx.Own 28 5 (.slice vad t.rows.length vcap) t.rows.length xs :: Cells b4 zrc 28 :: Cells b3 (entCells e) 32 :: CellsM bb (bys e.data.data.toList ++ ext) 5 :: R) (by repeat (first | exact List.Perm.refl _ | refine perm_pick (by repeat (first | exact Pick.hd | apply Pick.tl)) ?_))).sub (List.Sublist.cons_cons _ (List.Sublist.cons_cons _ (List.Sublist.cons_cons _ (List.Sublist.cons_cons _ (List.Sublist.cons_cons _ (List.Sublist.cons_cons _ (List.Sublist.cons_cons _ (List.Sublist.cons _ (List.Sublist.refl _)))))))))
    obtain ⟨H1, hle01, hw, hbl⟩ := hw.freeze_own
    have hH1 := hH.trans hle01
    replace hch := hch.mono (RowIn.le hle01)
    have hw : Has 0 w0 _ (FoldAt H pf t.f :: Cells p [.int .i64 (IntKind.i64.wrap (t.ix + 1)), .pointer (some ⟨pf, 0, none⟩), .slice vad t.rows.length vcap] 57 :: Sx.Own 28 5 (.slice vad t.rows.length vcap) t.rows.length xs :: Cells b4 zrc 28 :: Cells b3 (entCells e) 32 :: Fz H1 :: R) := hw.perm (by repeat (first | exact List.Perm.refl _ | refine perm_pick (by repeat (first | exact Pick.hd | apply Pick.tl)) ?_))
    have hw := (foldLe hw hle01).swap2
    repeat (first | (refine sxv hs hw ?_; clear hs; intro a hs) | refine sxc hs ?_ | (refine sxa hs hw ?_; clear hs hw; intro a b W hw hs) | (refine sxs hs hw ?_; clear hs hw; intro W hs hw))
    obtain ⟨b6, q6⟩ := nm1 hw; subst q6
    have hw : Has 0 w0 _ (Cells p [.int .i64 (IntKind.i64.wrap (t.ix + 1)), .pointer (some ⟨pf, 0, none⟩), .slice vad t.rows.length vcap] 57 :: FoldAt H1 pf t.f :: Sx.Own 28 5 (.slice vad t.rows.length vcap) t.rows.length xs :: Cells b4 zrc 28 :: Cells b3 (entCells e) 32 :: Fz H1 :: Cells b6 [.int .i64 c, .int .i64 q, .slice dad l.length dcap] 25 :: R) := hw.perm (by repeat (first | exact List.Perm.refl _ | refine perm_pick (by repeat (first | exact Pick.hd | apply Pick.tl)) ?_))
    have hz : ∀ {a : Act}, applyT t e = (⟨(IntKind.i64.wrap (t.ix + 1)), t.f, t.rows⟩, zeroRow, false) → True := fun _ => trivial
    cases hk : (e.kind != 2) with
    | true =>
      rw [hk] at hs
      have hX : applyT t e = (⟨(IntKind.i64.wrap (t.ix + 1)), t.f, t.rows⟩, zeroRow, false) := by
        have hk2 : (e.kind == 2) = false := by simpa using hk
        unfold applyT; rw [if_pos hix, hk2]
      rw [hX]
      repeat (first | (refine sxv hs hw ?_; clear hs; intro a hs) | refine sxc hs ?_ | (refine sxa hs hw ?_; clear hs hw; intro a b W hw hs) | (refine sxs hs hw ?_; clear hs hw; intro W hs hw))
      have hw := tabShut (t := ⟨(IntKind.i64.wrap (t.ix + 1)), t.f, t.rows⟩) hw hch
      refine rc2 hs rfl rfl hw (In.tl In.hd) rfl rfl ?_
      exact ⟨.slice none 0 0, H1, rfl, hle01, ops_nil H1, hw.sub (List.Sublist.cons_cons _ (List.Sublist.cons _ (List.Sublist.cons _ (List.Sublist.cons_cons _ (List.Sublist.cons _ (List.Sublist.refl _))))))⟩
    | false =>
    rw [hk] at hs
    have hk2 : (e.kind == 2) = true := by simpa using hk
    cases hdo : decode e.data.data.toList with
    | none =>
      have hX : applyT t e = (⟨(IntKind.i64.wrap (t.ix + 1)), t.f, t.rows⟩, zeroRow, false) := by unfold applyT; rw [if_pos hix, hk2, hdo]
      rw [hX]
      have he : err = 1 := by unfold decR at hdec; rw [hdo] at hdec; simp at hdec; exact hdec.2.symm
      subst he
      repeat (first | (refine sxv hs hw ?_; clear hs; intro a hs) | refine sxc hs ?_ | (refine sxa hs hw ?_; clear hs hw; intro a b W hw hs) | (refine sxs hs hw ?_; clear hs hw; intro W hs hw))
      have hw := tabShut (t := ⟨(IntKind.i64.wrap (t.ix + 1)), t.f, t.rows⟩) hw hch
      refine rc2 hs rfl rfl hw (In.tl In.hd) rfl rfl ?_
      exact ⟨.slice none 0 0, H1, rfl, hle01, ops_nil H1, hw.sub (List.Sublist.cons_cons _ (List.Sublist.cons _ (List.Sublist.cons _ (List.Sublist.cons_cons _ (List.Sublist.cons _ (List.Sublist.refl _))))))⟩
    | some pd =>
    have hpe : pd = (c, q, l) ∧ err = 0 := by unfold decR at hdec; rw [hdo] at hdec; simp at hdec; exact ⟨hdec.1, hdec.2.symm⟩
    obtain ⟨rfl, rfl⟩ := hpe
    have hA1 : applyT t e = playT (IntKind.i64.wrap (t.ix + 1)) t ⟨c, q, l⟩ := by unfold applyT; rw [if_pos hix, hk2, hdo]
    have hdk := decode_ok hdl hdo
    obtain ⟨bt, hbt⟩ : ∃ b : BatchD, b = ⟨c, q, l⟩ := ⟨_, rfl⟩
    have hbo : BatOk bt := by rw [hbt]; exact ⟨hdk.1, hdk.2.1, hdk.2.2.2⟩
    rw [← hbt] at hA1
    obtain ⟨rfl, rfl, rfl⟩ : c = bt.c ∧ q = bt.q ∧ l = bt.l := by rw [hbt]; exact ⟨rfl, rfl, rfl⟩
    clear hbt hdo hdec hdk hz
    obtain ⟨bad, hbad⟩ : ∃ x, x = dad := ⟨_, rfl⟩
    obtain ⟨bcap, hbcap⟩ : ∃ x, x = dcap := ⟨_, rfl⟩
    subst hbad hbcap
    obtain ⟨N, hN⟩ : ∃ N, next t.f bt = N := ⟨_, rfl⟩
    have hbl : OpsH H1 (.slice bad bt.l.length bcap) bt.l := hbl
    repeat (first | (refine sxv hs hw ?_; clear hs; intro a hs) | refine sxc hs ?_ | (refine sxa hs hw ?_; clear hs hw; intro a b W hw hs) | (refine sxs hs hw ?_; clear hs hw; intro W hs hw))
    have hw : Has 0 w0 _ (Fz H1 :: FoldAt H1 pf t.f :: Free :: Free :: Free :: Cells p [.int .i64 (IntKind.i64.wrap (t.ix + 1)), .pointer (some ⟨pf, 0, none⟩), .slice vad t.rows.length vcap] 57 :: Cells b6 (batCells bt (.slice bad bt.l.length bcap)) 25 :: Sx.Own 28 5 (.slice vad t.rows.length vcap) t.rows.length xs :: Cells b4 zrc 28 :: Cells b3 (entCells e) 32 :: R) := (hw.free.free.free).perm (by repeat (first | exact List.Perm.refl _ | refine perm_pick (by repeat (first | exact Pick.hd | apply Pick.tl)) ?_))
    refine rg_drawU (σ := Value × Fh × Nat) (V := fun u => [.pointer (some ⟨p, 0, none⟩), .pointer (some ⟨p, 0, none⟩), .pointer (some ⟨p, 0 + 1, none⟩), .pointer (some ⟨pf, 0, none⟩), .agg ⟨batCells bt (.slice bad bt.l.length bcap)⟩, .tuple ⟨[.agg ⟨rowCells N.2.1 (u 5).1⟩, .bool N.2.2]⟩, .tuple ⟨[.agg ⟨rowCells N.2.1 (u 6).1⟩, .bool N.2.2]⟩, .agg ⟨rowCells N.2.1 (u 7).1⟩, .bool N.2.2, .pointer (some ⟨(u 9).2.2, 0, none⟩), .bool true, .bool N.2.2])
      (Rs := fun u D => (if D 5 then FzF (u 5).2.1 (H1.le (u 5).2.1 ∧ OpsH (u 5).2.1 (u 5).1 N.2.1.b.l) else Fz H1) :: (if D 5 then FoldAt (u 5).2.1 pf N.1 else FoldAt H1 pf t.f) :: (if D 9 then Cells (u 9).2.2 (if D 10 then rowCells N.2.1 (u 5).1 else zrc) 28 else Free) :: (if D 6 then Fact (u 6 = u 5) else Free) :: (if D 7 then Fact (u 7 = u 6) else Free) :: Cells p [.int .i64 (IntKind.i64.wrap (t.ix + 1)), .pointer (some ⟨pf, 0, none⟩), .slice vad t.rows.length vcap] 57 :: Cells b6 (batCells bt (.slice bad bt.l.length bcap)) 25 :: Sx.Own 28 5 (.slice vad t.rows.length vcap) t.rows.length xs :: Cells b4 zrc 28 :: Cells b3 (entCells e) 32 :: R) (fun _ => (.nilIface, H1, 0)) hs hw (hVu := ?vu_2) (ho := ⟨?_, ?_, ?_, ?_, ?_, ?c5_2, ?c6_2, ?c7_2, ?_, ?c9_2, ?c10_2, ?_, trivial⟩) (k := ?k_2)
    case vu_2 =>
      intro u u' j h
      rcases j with _ | _ | _ | _ | _ | _ | _ | _ | _ | _ | _ | _ | j
      all_goals first | rfl | simp [h]
    case c5_2 =>
      intro u LD D a W hcl hi hp hs hw
      have h6 := Go.Sx.not_done hcl hi 6 (by kernel_rfl)
      have h7 := Go.Sx.not_done hcl h6 7 (by kernel_rfl)
      have h10 := Go.Sx.not_done hcl h7 10 (by kernel_rfl)
      simp only [hi, h6, h7, h10, Bool.false_eq_true, if_false] at hw
      have hw := hw.swap2
      refine st_call hs (hc := fold_Next w0 _ H1 pf t.f bt _ _ hbo hbl hH1 hT hw) (k := ?_); rw [hN]; rintro e0 W1 ⟨sv', H2, rfl, hle, hsv, hw1⟩; refine ⟨_, rfl, ?_⟩; clear hs hw; intro a hs; have hw := hw1; clear hw1
      repeat (first | (refine sxv hs hw ?_; clear hs; intro a hs) | refine sxc hs ?_ | (refine sxa hs hw ?_; clear hs hw; intro a b W hw hs) | (refine sxs hs hw ?_; clear hs hw; intro W hs hw))
      refine Or.inr ⟨(sv', H2, 0), hs, ?_⟩
      have hw := (hw.swap2).fzf (q := H1.le H2 ∧ OpsH H2 sv' N.2.1.b.l) ⟨hle, hsv⟩
      show Has 0 w0 _ (_ :: _ :: (if D 9 then Cells (u 9).2.2 (if (Nat.beq 10 5 || D 10) = true then _ else _) _ else Free) :: (if (Nat.beq 6 5 || D 6) = true then _ else _) :: (if (Nat.beq 7 5 || D 7) = true then _ else _) :: _)
      rw [h6, h7, h10]
      exact hw
    case c6_2 =>
      intro u LD D a W hcl hi hp hs hw
      have h7 := Go.Sx.not_done hcl hi 7 (by kernel_rfl)
      simp only [hi, h7, Bool.false_eq_true, if_false] at hw
      repeat (first | (refine sxv hs hw ?_; clear hs; intro a hs) | refine sxc hs ?_ | (refine sxa hs hw ?_; clear hs hw; intro a b W hw hs) | (refine sxs hs hw ?_; clear hs hw; intro W hs hw))
      refine Or.inr ⟨u 5, hs, ?_⟩
      show Has 0 w0 _ (_ :: _ :: _ :: Fact (u 5 = u 5) :: (if (Nat.beq 7 6 || D 7) = true then _ else _) :: _)
      rw [h7]
      exact (hw.fact rfl).fill (Upd.tl (Upd.tl (Upd.tl Upd.hd)))
    case c7_2 =>
      intro u LD D a W hcl hi hp hs hw
      simp only [hi, Bool.false_eq_true, if_false] at hw
      repeat (first | (refine sxv hs hw ?_; clear hs; intro a hs) | refine sxc hs ?_ | (refine sxa hs hw ?_; clear hs hw; intro a b W hw hs) | (refine sxs hs hw ?_; clear hs hw; intro W hs hw))
      refine Or.inr ⟨u 6, hs, ?_⟩
      show Has 0 w0 _ (_ :: _ :: _ :: _ :: Fact (u 6 = u 6) :: _)
      exact (hw.fact rfl).fill (Upd.tl (Upd.tl (Upd.tl (Upd.tl Upd.hd))))
    case c9_2 =>
      intro u LD D a W hcl hi hp hs hw
      have h10 := Go.Sx.not_done hcl hi 10 (by kernel_rfl)
      simp only [hi, Bool.false_eq_true, if_false] at hw
      repeat (first | (refine sxv hs hw ?_; clear hs; intro a hs) | refine sxc hs ?_ | (refine sxa hs hw ?_; clear hs hw; intro a b W hw hs) | (refine sxs hs hw ?_; clear hs hw; intro W hs hw))
      refine Or.inr ⟨(.nilIface, H1, _), hs, ?_⟩
      show Has 0 w0 _ (_ :: _ :: Cells _ (if (Nat.beq 10 9 || D 10) = true then _ else _) _ :: _)
      rw [h10]
      exact hw.fill (Upd.tl (Upd.tl Upd.hd))
    case c10_2 =>
      intro u LD D a W hcl hi hp hs hw
      have h7 := Go.Sx.done hp 7 (by kernel_rfl)
      have h9 := Go.Sx.done hp 9 (by kernel_rfl)
      have h6 := Go.Sx.done (hcl 7 _ rfl h7) 6 (by kernel_rfl)
      have h5 := Go.Sx.done (hcl 6 _ rfl h6) 5 (by kernel_rfl)
      have e1 : (if D 7 = true then Fact (u 7 = u 6) else Free) = Fact (u 7 = u 6) := by rw [h7]; rfl
      have e2 : (if D 6 = true then Fact (u 6 = u 5) else Free) = Fact (u 6 = u 5) := by rw [h6]; rfl
      have g7 : u 7 = u 5 := by
        have hw2 := hw
        simp only [e1, e2] at hw2
        exact (hw2.told (In.tl (In.tl (In.tl (In.tl In.hd))))).trans (hw2.told (In.tl (In.tl (In.tl In.hd))))
      simp only [hi, h5, h9, Bool.false_eq_true, if_false, if_true] at hw
      obtain ⟨⟨_, hsv⟩, _⟩ := hw.unfzf
      obtain ⟨tad, tcap, e13⟩ := hsv.slice
      refine st_store hs (hw := hw) (vs := rowCells N.2.1 (u 7).1) (h1 := by rw [g7, e13]; rfl) (k := ?_); clear hs hw; intro W hs hw
      rw [show (u 7).1 = (u 5).1 from by rw [g7]] at hw
      repeat (first | (refine sxv hs hw ?_; clear hs; intro a hs) | refine sxc hs ?_ | (refine sxa hs hw ?_; clear hs hw; intro a b W hw hs) | (refine sxs hs hw ?_; clear hs hw; intro W hs hw))
      refine Or.inl ⟨hs, ?_⟩
      show Has 0 w0 _ ((if (Nat.beq 5 10 || D 5) = true then _ else _) :: (if (Nat.beq 5 10 || D 5) = true then _ else _) :: (if (Nat.beq 9 10 || D 9) = true then _ else _) :: _)
      rw [h5, h9]
      exact hw
    case k_2 =>
      clear hs hw
      intro u a W hs hw
      replace hw : Has 0 w0 W (FzF (u 5).2.1 (H1.le (u 5).2.1 ∧ OpsH (u 5).2.1 (u 5).1 N.2.1.b.l) :: FoldAt (u 5).2.1 pf N.1 :: Cells (u 9).2.2 (rowCells N.2.1 (u 5).1) 28 :: Fact (u 6 = u 5) :: Fact (u 7 = u 6) :: Cells p [.int .i64 (IntKind.i64.wrap (t.ix + 1)), .pointer (some ⟨pf, 0, none⟩), .slice vad t.rows.length vcap] 57 :: Cells b6 (batCells bt (.slice bad bt.l.length bcap)) 25 :: Sx.Own 28 5 (.slice vad t.rows.length vcap) t.rows.length xs :: Cells b4 zrc 28 :: Cells b3 (entCells e) 32 :: R) := hw
      replace hw := hw.sub (L' := FzF (u 5).2.1 (H1.le (u 5).2.1 ∧ OpsH (u 5).2.1 (u 5).1 N.2.1.b.l) :: FoldAt (u 5).2.1 pf N.1 :: Cells (u 9).2.2 (rowCells N.2.1 (u 5).1) 28 :: Cells p [.int .i64 (IntKind.i64.wrap (t.ix + 1)), .pointer (some ⟨pf, 0, none⟩), .slice vad t.rows.length vcap] 57 :: Cells b6 (batCells bt (.slice bad bt.l.length bcap)) 25 :: Sx.Own 28 5 (.slice vad t.rows.length vcap) t.rows.length xs :: Cells b4 zrc 28 :: Cells b3 (entCells e) 32 :: R) (List.Sublist.cons_cons _ (List.Sublist.cons_cons _ (List.Sublist.cons_cons _ (List.Sublist.cons _ (List.Sublist.cons _ (List.Sublist.refl _))))))
      replace hs : Slots a 68 [(0, .pointer (some ⟨p, 0, none⟩)), (4, .pointer (some ⟨b4, 0, none⟩)), (8, .pointer (some ⟨(u 9).2.2, 0, none⟩)), (9, .bool N.2.2)] := hs.of ⟨rfl, rfl, rfl, rfl, trivial⟩
      generalize (u 9).2.2 = b8 at *
      generalize (u 5).2.1 = H2 at *
      generalize (u 5).1 = sv2 at *
      clear u
      obtain ⟨⟨hle2, hsv⟩, hw⟩ := hw.unfzf
      obtain ⟨xad, xcap, rfl⟩ := hsv.slice
      replace hch := hch.mono (RowIn.le hle2)
      cases hok : N.2.2 with
      | false =>
        rw [hok] at hs
        have hX : applyT t e = (⟨(IntKind.i64.wrap (t.ix + 1)), t.f, t.rows⟩, zeroRow, false) := by rw [hA1]; unfold playT; rw [hN, hok]
        rw [hX]
        have hNe : N = (t.f, zeroRow, false) := by
          rw [← hN] at hok ⊢
          unfold next at hok ⊢
          cases hb : nextB t.f bt with
          | true => rw [hb] at hok; cases hok
          | false => rfl
        subst hNe
        have hw : Has 0 w0 W (Cells p [.int .i64 (IntKind.i64.wrap (t.ix + 1)), .pointer (some ⟨pf, 0, none⟩), .slice vad t.rows.length vcap] 57 :: FoldAt H2 pf t.f :: Sx.Own 28 5 (.slice vad t.rows.length vcap) t.rows.length xs :: Cells b8 (rowCells zeroRow (.slice xad zeroRow.b.l.length xcap)) 28 :: Cells b4 zrc 28 :: Fz H2 :: Cells b6 (batCells bt (.slice bad bt.l.length bcap)) 25 :: Cells b3 (entCells e) 32 :: R) := hw.perm (by repeat (first | exact List.Perm.refl _ | refine perm_pick (by repeat (first | exact Pick.hd | apply Pick.tl)) ?_))
        have hw := tabShut (t := ⟨(IntKind.i64.wrap (t.ix + 1)), t.f, t.rows⟩) hw hch
        repeat (first | (refine sxv hs hw ?_; clear hs; intro a hs) | refine sxc hs ?_ | (refine sxa hs hw ?_; clear hs hw; intro a b W hw hs) | (refine sxs hs hw ?_; clear hs hw; intro W hs hw))
        refine rc2 hs rfl rfl hw (In.tl (In.tl In.hd)) rfl rfl ?_
        have hw := hw.sub (L' := TabAt H2 p ⟨(IntKind.i64.wrap (t.ix + 1)), t.f, t.rows⟩ :: Fz H2 :: R) (List.Sublist.cons_cons _ (List.Sublist.cons _ (List.Sublist.cons _ (List.Sublist.cons_cons _ (List.Sublist.cons _ (List.Sublist.cons _ (List.Sublist.refl _)))))))
        exact ⟨_, H2, rfl, hle01.trans hle2, hsv, hw⟩
      | true =>
        rw [hok] at hs
        have hX : applyT t e = (⟨(IntKind.i64.wrap (t.ix + 1)), N.1, t.rows ++ [N.2.1]⟩, N.2.1, true) := by rw [hA1]; unfold playT; rw [hN, hok]
        rw [hX]
        have hr8 : N.2.1.b.l.length ≤ 1000 := by
          have h1 : (next t.f bt).2.2 = true := by rw [hN]; exact hok
          have h2 := next_row h1
          rw [hN] at h2
          rw [h2]
          have := (may_parts (nextB_may (next_ok h1).1)).2.2
          omega
        have hw : Has 0 w0 W (Cells p [.int .i64 (IntKind.i64.wrap (t.ix + 1)), .pointer (some ⟨pf, 0, none⟩), .slice vad t.rows.length vcap] 57 :: Fz H2 :: Free :: Sx.Own 28 5 (.slice vad t.rows.length vcap) t.rows.length xs :: Cells b8 (rowCells N.2.1 (.slice xad N.2.1.b.l.length xcap)) 28 :: FoldAt H2 pf N.1 :: Cells b6 (batCells bt (.slice bad bt.l.length bcap)) 25 :: Cells b4 zrc 28 :: Cells b3 (entCells e) 32 :: R) := (hw.free).perm (by repeat (first | exact List.Perm.refl _ | refine perm_pick (by repeat (first | exact Pick.hd | apply Pick.tl)) ?_))
        repeat (first | (refine sxv hs hw ?_; clear hs; intro a hs) | refine sxc hs ?_ | (refine sxa hs hw ?_; clear hs hw; intro a b W hw hs) | (refine sxs hs hw ?_; clear hs hw; intro W hs hw))
        refine rg_drawU (σ := Value × Fh × Nat × Option Addr) (V := fun u => [.pointer (some ⟨p, 0, none⟩), .pointer (some ⟨p, 0, none⟩), .pointer (some ⟨p, 0, none⟩), .pointer (some ⟨p, 0 + 2, none⟩), .slice vad t.rows.length vcap, .agg ⟨rowCells N.2.1 (.slice xad N.2.1.b.l.length xcap)⟩, .agg ⟨rowCells N.2.1 (u 6).1⟩, .slice (some ⟨(u 7).2.2.1, 0, none⟩) 1 1, .slice (u 8).2.2.2 (t.rows ++ [N.2.1]).length (u 8).2.2.1, .pointer (some ⟨p, 0, none⟩), .pointer (some ⟨p, 0 + 2, none⟩), .bool true])
          (Rs := fun u D => Cells p [.int .i64 (IntKind.i64.wrap (t.ix + 1)), .pointer (some ⟨pf, 0, none⟩), (if D 11 then .slice (u 8).2.2.2 (t.rows ++ [N.2.1]).length (u 8).2.2.1 else .slice vad t.rows.length vcap)] 57 :: (if D 6 then FzF (u 6).2.1 (H2.le (u 6).2.1 ∧ OpsH (u 6).2.1 (u 6).1 N.2.1.b.l) else Fz H2) :: (if D 7 then Cells (u 7).2.2.1 (rowCells N.2.1 (u 6).1) 28 else Free) :: (if D 8 then Sx.Own 28 5 (.slice (u 8).2.2.2 (t.rows ++ [N.2.1]).length (u 8).2.2.1) (t.rows ++ [N.2.1]).length (xs ++ rowCells N.2.1 (u 6).1) else Sx.Own 28 5 (.slice vad t.rows.length vcap) t.rows.length xs) :: Cells b8 (rowCells N.2.1 (.slice xad N.2.1.b.l.length xcap)) 28 :: FoldAt H2 pf N.1 :: Cells b6 (batCells bt (.slice bad bt.l.length bcap)) 25 :: Cells b4 zrc 28 :: Cells b3 (entCells e) 32 :: R) (fun _ => (.nilIface, H2, 0, none)) hs hw (hVu := ?vu_1) (ho := ⟨?_, ?_, ?_, ?_, ?c4_1, ?_, ?c6_1, ?c7_1, ?c8_1, ?_, ?_, ?c11_1, trivial⟩) (k := ?k_1)
        case vu_1 =>
          intro u u' j h
          rcases j with _ | _ | _ | _ | _ | _ | _ | _ | _ | _ | _ | _ | j
          all_goals first | rfl | simp [h]
        case c4_1 =>
          intro u LD D a W hcl hi hp hs hw
          have hA := Go.Sx.not_done hcl hi 8 (by kernel_rfl)
          have hS := Go.Sx.not_done hcl hA 11 (by kernel_rfl)
          have hw0 := hw
          simp only [hS, Bool.false_eq_true, if_false] at hw
          repeat (first | (refine sxv hs hw ?_; clear hs; intro a hs) | refine sxc hs ?_ | (refine sxa hs hw ?_; clear hs hw; intro a b W hw hs) | (refine sxs hs hw ?_; clear hs hw; intro W hs hw))
          exact Or.inl ⟨hs, hw0⟩
        case c6_1 =>
          intro u LD D a W hcl hi hp hs hw
          have hB := Go.Sx.not_done hcl hi 7 (by kernel_rfl)
          have hA := Go.Sx.not_done hcl hB 8 (by kernel_rfl)
          have hS := Go.Sx.not_done hcl hA 11 (by kernel_rfl)
          simp only [hi, hB, hA, hS, Bool.false_eq_true, if_false] at hw
          repeat (first | (refine sxv hs hw ?_; clear hs; intro a hs) | refine sxc hs ?_ | (refine sxa hs hw ?_; clear hs hw; intro a b W hw hs) | (refine sxs hs hw ?_; clear hs hw; intro W hs hw))
          have hw : Has 0 w0 W (Fz H2 :: Cells p [.int .i64 (IntKind.i64.wrap (t.ix + 1)), .pointer (some ⟨pf, 0, none⟩), .slice vad t.rows.length vcap] 57 :: Free :: Sx.Own 28 5 (.slice vad t.rows.length vcap) t.rows.length xs :: Cells b8 (rowCells N.2.1 (.slice xad N.2.1.b.l.length xcap)) 28 :: FoldAt H2 pf N.1 :: Cells b6 (batCells bt (.slice bad bt.l.length bcap)) 25 :: Cells b4 zrc 28 :: Cells b3 (entCells e) 32 :: R) := hw.perm (by repeat (first | exact List.Perm.refl _ | refine perm_pick (by repeat (first | exact Pick.hd | apply Pick.tl)) ?_))
          refine st_call hs (hc := table_own w0 _ H2 N.2.1 _ _ hr8 hsv hw) (k := ?_); rintro e0 W1 ⟨sv', H', rfl, h1, h2, hw1⟩; refine ⟨_, rfl, ?_⟩; clear hs hw; intro a hs; have hw := hw1; clear hw1
          repeat (first | (refine sxv hs hw ?_; clear hs; intro a hs) | refine sxc hs ?_ | (refine sxa hs hw ?_; clear hs hw; intro a b W hw hs) | (refine sxs hs hw ?_; clear hs hw; intro W hs hw))
          refine Or.inr ⟨(sv', H', 0, none), hs, ?_⟩
          have hw := hw.fzf (q := H2.le H' ∧ OpsH H' sv' N.2.1.b.l) ⟨h1, h2⟩
          show Has 0 w0 _ (Cells p [_, _, (if (Nat.beq 11 6 || D 11) = true then _ else _)] _ :: _ :: (if (Nat.beq 7 6 || D 7) = true then _ else _) :: (if (Nat.beq 8 6 || D 8) = true then _ else _) :: _)
          rw [hB, hA, hS]
          exact hw.perm (by repeat (first | exact List.Perm.refl _ | refine perm_pick (by repeat (first | exact Pick.hd | apply Pick.tl)) ?_))
        case c7_1 =>
          intro u LD D a W hcl hi hp hs hw
          have hB := hi
          have h6 := Go.Sx.done hp 6 (by kernel_rfl)
          have hA := Go.Sx.not_done hcl hB 8 (by kernel_rfl)
          have hS := Go.Sx.not_done hcl hA 11 (by kernel_rfl)
          simp only [hi, h6, hA, hS, Bool.false_eq_true, if_false, if_true] at hw
          repeat (first | (refine sxv hs hw ?_; clear hs; intro a hs) | refine sxc hs ?_ | (refine sxa hs hw ?_; clear hs hw; intro a b W hw hs) | (refine sxs hs hw ?_; clear hs hw; intro W hs hw))
          refine Or.inr ⟨(.nilIface, H2, _, none), hs, ?_⟩
          show Has 0 w0 _ (Cells p [_, _, (if (Nat.beq 11 7 || D 11) = true then _ else _)] _ :: (if (Nat.beq 6 7 || D 6) = true then _ else _) :: _ :: (if (Nat.beq 8 7 || D 8) = true then _ else _) :: _)
          rw [h6, hA, hS]
          exact hw.fill (Upd.tl (Upd.tl Upd.hd))
        case c8_1 =>
          intro u LD D a W hcl hi hp hs hw
          have hB := Go.Sx.done hp 7 (by kernel_rfl)
          have h6 := Go.Sx.done (hcl 7 _ rfl hB) 6 (by kernel_rfl)
          have hS := Go.Sx.not_done hcl hi 11 (by kernel_rfl)
          simp only [hi, hB, h6, hS, Bool.false_eq_true, if_false, if_true] at hw
          have hw : Has 0 w0 W (FzF (u 6).2.1 (H2.le (u 6).2.1 ∧ OpsH (u 6).2.1 (u 6).1 N.2.1.b.l) :: Sx.Own 28 5 (.slice vad t.rows.length vcap) t.rows.length xs :: Cells p [.int .i64 (IntKind.i64.wrap (t.ix + 1)), .pointer (some ⟨pf, 0, none⟩), .slice vad t.rows.length vcap] 57 :: Cells (u 7).2.2.1 (rowCells N.2.1 (u 6).1) 28 :: Cells b8 (rowCells N.2.1 (.slice xad N.2.1.b.l.length xcap)) 28 :: FoldAt H2 pf N.1 :: Cells b6 (batCells bt (.slice bad bt.l.length bcap)) 25 :: Cells b4 zrc 28 :: Cells b3 (entCells e) 32 :: R) := hw.perm (by repeat (first | exact List.Perm.refl _ | refine perm_pick (by repeat (first | exact Pick.hd | apply Pick.tl)) ?_))
          obtain ⟨⟨hle, hv⟩, _⟩ := hw.unfzf
          have hw : Has 0 w0 W (Sx.Own 28 5 (.slice vad t.rows.length vcap) t.rows.length xs :: FzF (u 6).2.1 (H2.le (u 6).2.1 ∧ OpsH (u 6).2.1 (u 6).1 N.2.1.b.l) :: Cells p [.int .i64 (IntKind.i64.wrap (t.ix + 1)), .pointer (some ⟨pf, 0, none⟩), .slice vad t.rows.length vcap] 57 :: Cells (u 7).2.2.1 (rowCells N.2.1 (u 6).1) 28 :: Cells b8 (rowCells N.2.1 (.slice xad N.2.1.b.l.length xcap)) 28 :: FoldAt H2 pf N.1 :: Cells b6 (batCells bt (.slice bad bt.l.length bcap)) 25 :: Cells b4 zrc 28 :: Cells b3 (entCells e) 32 :: R) := hw.swap2
          have hone := RowIn.ones (H := (u 6).2.1) N.2.1 (rowCells N.2.1 (u 6).1) ⟨_, rfl, hv⟩
          refine st_append1 hs (hw := hw) (hi := In.tl (In.tl In.hd)) (ch := (hch.mono (RowIn.le hle))) (ha := (⟨_, rfl, hv⟩ : RowIn (u 6).2.1 N.2.1 (rowCells N.2.1 (u 6).1))) (hl := rfl) (h1 := by rw [List.all_eq_true]; exact hone) (hb := by omega) (h63 := by omega) (k := ?_)
          clear hs hw; intro a ad cap W hs hw hc2
          repeat (first | (refine sxv hs hw ?_; clear hs; intro a hs) | refine sxc hs ?_ | (refine sxa hs hw ?_; clear hs hw; intro a b W hw hs) | (refine sxs hs hw ?_; clear hs hw; intro W hs hw))
          refine Or.inr ⟨(.nilIface, H2, cap, ad), hs, ?_⟩
          show Has 0 w0 _ (Cells p [_, _, (if (Nat.beq 11 8 || D 11) = true then _ else _)] _ :: (if (Nat.beq 6 8 || D 6) = true then _ else _) :: (if (Nat.beq 7 8 || D 7) = true then _ else _) :: _ :: _)
          rw [h6, hB, hS]
          exact hw.perm (by repeat (first | exact List.Perm.refl _ | refine perm_pick (by repeat (first | exact Pick.hd | apply Pick.tl)) ?_))
        case c11_1 =>
          intro u LD D a W hcl hi hp hs hw
          have hA := Go.Sx.done hp 8 (by kernel_rfl)
          simp only [hi, hA, Bool.false_eq_true, if_false, if_true] at hw
          repeat (first | (refine sxv hs hw ?_; clear hs; intro a hs) | refine sxc hs ?_ | (refine sxa hs hw ?_; clear hs hw; intro a b W hw hs) | (refine sxs hs hw ?_; clear hs hw; intro W hs hw))
          refine Or.inl ⟨hs, ?_⟩
          show Has 0 w0 _ (_ :: _ :: _ :: (if (Nat.beq 8 11 || D 8) = true then _ else _) :: _)
          rw [hA]
          exact hw
        case k_1 =>
          clear hs hw
          intro u a W hs hw
          replace hw : Has 0 w0 W (Cells p [.int .i64 (IntKind.i64.wrap (t.ix + 1)), .pointer (some ⟨pf, 0, none⟩), .slice (u 8).2.2.2 (t.rows ++ [N.2.1]).length (u 8).2.2.1] 57 :: FzF (u 6).2.1 (H2.le (u 6).2.1 ∧ OpsH (u 6).2.1 (u 6).1 N.2.1.b.l) :: Cells (u 7).2.2.1 (rowCells N.2.1 (u 6).1) 28 :: Sx.Own 28 5 (.slice (u 8).2.2.2 (t.rows ++ [N.2.1]).length (u 8).2.2.1) (t.rows ++ [N.2.1]).length (xs ++ rowCells N.2.1 (u 6).1) :: Cells b8 (rowCells N.2.1 (.slice xad N.2.1.b.l.length xcap)) 28 :: FoldAt H2 pf N.1 :: Cells b6 (batCells bt (.slice bad bt.l.length bcap)) 25 :: Cells b4 zrc 28 :: Cells b3 (entCells e) 32 :: R) := hw
          replace hs : Slots a 68 [(0, .pointer (some ⟨p, 0, none⟩)), (4, .pointer (some ⟨b4, 0, none⟩)), (8, .pointer (some ⟨b8, 0, none⟩)), (9, .bool true)] := hs.of ⟨rfl, rfl, rfl, rfl, trivial⟩
          generalize (u 8).2.2.2 = rad at *
          generalize (u 8).2.2.1 = rcap at *
          generalize (u 7).2.2.1 = bx at *
          generalize (u 6).2.1 = H3 at *
          generalize (u 6).1 = v3 at *
          clear u
          have hw : Has 0 w0 W (FzF H3 (H2.le H3 ∧ OpsH H3 v3 N.2.1.b.l) :: Cells p [.int .i64 (IntKind.i64.wrap (t.ix + 1)), .pointer (some ⟨pf, 0, none⟩), .slice rad (t.rows ++ [N.2.1]).length rcap] 57 :: Cells bx (rowCells N.2.1 v3) 28 :: Sx.Own 28 5 (.slice rad (t.rows ++ [N.2.1]).length rcap) (t.rows ++ [N.2.1]).length (xs ++ rowCells N.2.1 v3) :: Cells b8 (rowCells N.2.1 (.slice xad N.2.1.b.l.length xcap)) 28 :: FoldAt H2 pf N.1 :: Cells b6 (batCells bt (.slice bad bt.l.length bcap)) 25 :: Cells b4 zrc 28 :: Cells b3 (entCells e) 32 :: R) := hw.perm (by repeat (first | exact List.Perm.refl _ | refine perm_pick (by repeat (first | exact Pick.hd | apply Pick.tl)) ?_))
          obtain ⟨⟨hle3, hv⟩, hw⟩ := hw.unfzf
          have hw : Has 0 w0 W (FoldAt H2 pf N.1 :: Cells p [.int .i64 (IntKind.i64.wrap (t.ix + 1)), .pointer (some ⟨pf, 0, none⟩), .slice rad (t.rows ++ [N.2.1]).length rcap] 57 :: Sx.Own 28 5 (.slice rad (t.rows ++ [N.2.1]).length rcap) (t.rows ++ [N.2.1]).length (xs ++ rowCells N.2.1 v3) :: Cells b8 (rowCells N.2.1 (.slice xad N.2.1.b.l.length xcap)) 28 :: Cells b4 zrc 28 :: Fz H3 :: Cells b6 (batCells bt (.slice bad bt.l.length bcap)) 25 :: Cells b3 (entCells e) 32 :: Cells bx (rowCells N.2.1 v3) 28 :: R) := hw.perm (by repeat (first | exact List.Perm.refl _ | refine perm_pick (by repeat (first | exact Pick.hd | apply Pick.tl)) ?_))
          have hw := (foldLe hw hle3).swap2
          have hw := tabShut (t := ⟨(IntKind.i64.wrap (t.ix + 1)), N.1, t.rows ++ [N.2.1]⟩) hw ((hch.mono (RowIn.le hle3)).app (Ch.unit ⟨_, rfl, hv⟩))
          repeat (first | (refine sxv hs hw ?_; clear hs; intro a hs) | refine sxc hs ?_ | (refine sxa hs hw ?_; clear hs hw; intro a b W hw hs) | (refine sxs hs hw ?_; clear hs hw; intro W hs hw))
          refine rc2 hs rfl rfl hw (In.tl (In.tl In.hd)) rfl rfl ?_
          have hw := hw.sub (L' := TabAt H3 p ⟨(IntKind.i64.wrap (t.ix + 1)), N.1, t.rows ++ [N.2.1]⟩ :: Fz H3 :: R) (List.Sublist.cons_cons _ (List.Sublist.cons _ (List.Sublist.cons _ (List.Sublist.cons_cons _ (List.Sublist.cons _ (List.Sublist.cons _ (List.Sublist.cons _ (List.Sublist.refl _))))))))
          exact ⟨_, H3, rfl, (hle01.trans hle2).trans hle3, hsv.le hle3, hw⟩
        all_goals
          intro u LD D a W hcl hi hp hs hw
          repeat (first | (refine sxv hs hw ?_; clear hs; intro a hs) | refine sxc hs ?_ | (refine sxa hs hw ?_; clear hs hw; intro a b W hw hs) | (refine sxs hs hw ?_; clear hs hw; intro W hs hw))
          exact Or.inl ⟨hs, hw⟩
    all_goals
      intro u LD D a W hcl hi hp hs hw
      repeat (first | (refine sxv hs hw ?_; clear hs; intro a hs) | refine sxc hs ?_ | (refine sxa hs hw ?_; clear hs hw; intro a b W hw hs) | (refine sxs hs hw ?_; clear hs hw; intro W hs hw))
      exact Or.inl ⟨hs, hw⟩
  all_goals
    intro LD D a W hcl hi hp hs hw
    repeat (first | (refine sxv hs hw ?_; clear hs; intro a hs) | refine sxc hs ?_ | (refine sxa hs hw ?_; clear hs hw; intro a b W hw hs) | (refine sxs hs hw ?_; clear hs hw; intro W hs hw))
    exact ⟨hs, hw⟩
end Go.Proofs.YtalfmomnaghahaaDoor.Sw

/-
  Sx: a slice cut with its capacity; append to a slice that is full.
-/
set_option linter.unusedVariables false
set_option maxRecDepth 10000
namespace Go.Sx
open Go.RowKit
theorem Has.newOwn {G : Nat} {w W W' : World} {R : List Res} {E : TypeId} {size n : Nat} {v : Value} {xs : List Value} (h : Has G w W R) (hb : Below W.heap.size W W') (ho : OwnAt (fun b => W.heap.size ≤ b ∧ b < W'.heap.size) W' E size v n xs) : Has G w W' (Own E size v n xs :: R) := by
  have h1 := h.below hb
  refine ⟨h1.ext, h1.glob, _, ?_, ho, ?_⟩
  · rintro b ⟨hb1, hb2⟩
    exact ⟨Nat.le_trans h.globW hb1, hb2⟩
  · refine (h.has.loc fun b hb' => hb.block b hb'.2).mono fun b hb' => ⟨⟨hb'.1, Nat.lt_of_lt_of_le hb'.2 hb.size⟩, by omega⟩
section
variable {P : Program} {W : World}
theorem run_append_full {t tx ty E T : TypeId} {i : TypeInfo} {z : Value} (ht : P.underlying t = some (.slice E)) (hi : P.info? E = some i) (hz : i.zero = some z) (hzs : z.cells.size = i.size)
    {g k : Nat} {cur xs : List Value} (hg : W.heap[g]? = some (.cells ⟨cur⟩ T (0, 0))) (hk : k * i.size ≤ cur.length) (htk : cur.take (k * i.size) = xs) {x : Value} {m : Nat} {news : List Value} (hs : Src P i.size tx x m news W) (hm : 0 < m) (h63 : k + m ≤ 9223372036854775807) (hb : (k + m) * i.bytes ≤ 140737488355328) :
    ∃ ad cap W', (Builtin.append_ #[t, tx] ty #[.slice (some ⟨g, 0, none⟩) k k, x]).run P W = .ok (.slice ad (k + m) cap) W' ∧ OwnAt (fun b => W.heap.size ≤ b ∧ b < W'.heap.size) W' E i.size (.slice ad (k + m) cap) (k + m) (xs ++ news) ∧ Below W.heap.size W W' := by
  have hnl : news.length = m * i.size := hs.newsLen
  have hxl : xs.length = k * i.size := by rw [← htk, List.length_take]; omega
  have hlen : (xs ++ news).length = (k + m) * i.size := by rw [List.length_append, hxl, hnl, Nat.add_mul]
  have hold : (Builtin.firstCells i.size k (.slice (some ⟨g, 0, none⟩) k k)).run P W.drew = .ok xs.toArray W.drew := by
    have := run_loadCells_block (P := P) (W := W.drew) (b := g) (T := T) (cs := cur) hg 0 (k * i.size) (by omega)
    simp only [List.drop_zero, htk] at this
    simpa [Builtin.firstCells] using this
  have hr := run_append_grow_src (P := P) W t tx ty E i z ht hi hz (some ⟨g, 0, none⟩) k k xs hold x m news hs (by omega) (by omega) (growslice_fits (by omega) hb)
  have hge := grownCap_ge W (k + m) k E
  have hcm : grownCap W (k + m) k E ≤ maxLen := grownCap_le_maxLen W (k + m) k E (by unfold maxLen; omega)
  refine ⟨_, _, _, hr, ⟨hlen, .inr ⟨W.heap.size, _, ((xs ++ news).toArray ++ Builtin.zeroCells z.cells (grownCap W (k + m) k E - (k + m))).toList, rfl, ⟨Nat.le_refl _, lt_of_block (heap_alloc_new W.drew _)⟩, heap_alloc_new W.drew _, hge, hcm, ?_, ?_⟩⟩, rfl, rfl, rfl, by simp, fun b hb => heap_alloc_old W.drew _ hb⟩
  · simp only [Array.toList_append, List.length_append, Array.length_toList, size_zeroCells, hzs]
    rw [← List.length_append, hlen, ← Nat.add_mul]
    congr 1
    omega
  · simp only [Array.toList_append]
    rw [← hlen]
    exact List.take_left
end
section
variable {P : Program} {ops : Array Oper} {rest : List Oper} {Q : Exit → Act → World → Prop} {a : Act} {n G : Nat} {L : List (Nat × Value)} {w W : World} {R : List Res} {d : Nat} {T S S' E E' : TypeId} {p : String} {e : Array Edge} {x y hi mx : Operand} {v u : Value} {cur xs news : List Value} {g k m len cap size bytes : Nat} {q q' : IntKind} {z : List Value}
theorem st_slice3 {agg : Bool} [sl : Sl P S E] [t : Ty P E agg z] (hs : Slots a n L) (hk : k ≤ cap) (hx : ev L x = some (.slice (some ⟨g, 0, none⟩) len cap) := by with_unfolding_all exact rfl) (hh : ev L hi = some (.int q (k : Int)) := by with_unfolding_all exact rfl) (hm : ev L mx = some (.int q' (k : Int)) := by with_unfolding_all exact rfl) (hd : Nat.blt d n = true := by with_unfolding_all exact rfl)
    (c : ∀ a', Slots a' n ((d, .slice (some ⟨g, 0, none⟩) k k) :: L) → wpList P ops Q rest a' W) : wpList P ops Q (⟨some d, .slice S x none (some hi) (some mx), T, p, e, none⟩ :: rest) a W := by
  have hb : ∀ (y : Nat) (c : BoundsCode) (q : IntKind), k ≤ y → (Instr.sliceBound (.int q (k : Int)) y c).run P W = .ok k W := by
    intro y c q hy
    have : (0 : Int) ≤ (k : Int) ∧ (k : Int) ≤ (y : Int) := ⟨by omega, by omega⟩
    simp only [Instr.sliceBound, asIntOf, Sem.run_bind, Sem.run_pure, Result.andThen_ok]
    rw [if_pos this]
    simp
  have hbs : (Instr.sliceBounds true len cap none (some (.int q (k : Int))) (some (.int q' (k : Int)))).run P W = .ok (0, k, k) W := by
    unfold Instr.sliceBounds
    simp [hb cap .slice3Acap q' hk, hb k .slice3B q (Nat.le_refl _)]
  refine st_value hs hd (v := .slice (some ⟨g, 0, none⟩) k k) (W' := W) ?_ c
  simp only [execOp, Option.map_some, Option.map_none, hs.ev hx, hs.ev hh, hs.ev hm, Instr.sliceAt, Instr.slice, Sem.run_bind, run_underlying sl.out, Result.andThen_ok, hbs, t.sizeOf, Sem.run_pure]
  by_cases h0 : k = 0
  · subst h0; simp
  · rw [if_neg h0]; simp [addr_add]
/-- Nothing is appended. -/
theorem st_append_none [sl : Sl P S E] [el : El P E size bytes] (hs : Slots a n L) (hsrc : Src P size S' u 0 [] W) (hx : ev L x = some (.slice (some ⟨g, 0, none⟩) k k) := by with_unfolding_all exact rfl) (hy : ev L y = some u := by with_unfolding_all exact rfl) (hd : Nat.blt d n = true := by with_unfolding_all exact rfl)
    (c : ∀ a', Slots a' n ((d, .slice (some ⟨g, 0, none⟩) k k) :: L) → wpList P ops Q rest a' W) : wpList P ops Q (⟨some d, .call { callee := .builtin .append, args := #[x, y], argTypes := #[S, S'] }, T, p, e, none⟩ :: rest) a W := by
  obtain ⟨i, z, h1, h2, h3, h4, h5⟩ := el.out
  subst h4 h5
  have hr : (Builtin.append_ #[S, S'] T #[.slice (some ⟨g, 0, none⟩) k k, u]).run P W = .ok (.slice (some ⟨g, 0, none⟩) k k) W := by
    rcases hsrc.kind with ⟨e', hk⟩ | hk <;> simp [Builtin.append_, run_underlying sl.out, run_underlying hk, sizeOf, typeInfo, h1, hsrc.len, hsrc.cells, storeCells]
  refine st_value hs hd (v := .slice (some ⟨g, 0, none⟩) k k) (W' := W) ?_ c
  simp only [execOp, resolve, invoke, builtin, Sem.run_bind, Sem.run_pure, Result.andThen_ok, List.map_toArray, List.map_cons, List.map_nil, hs.ev hx, hs.ev hy, hr]
theorem st_append_full [sl : Sl P S E] [el : El P E size bytes] (hs : Slots a n L) (hw : Has G w W R) (hg : W.heap[g]? = some (.cells ⟨cur⟩ E' (0, 0))) (hk : k * size ≤ cur.length) (htk : cur.take (k * size) = xs) (hsrc : Src P size S' u m news W) (hm : 0 < m) (h63 : k + m ≤ 9223372036854775807) (hb : (k + m) * bytes ≤ 140737488355328) (hx : ev L x = some (.slice (some ⟨g, 0, none⟩) k k) := by with_unfolding_all exact rfl) (hy : ev L y = some u := by with_unfolding_all exact rfl) (hd : Nat.blt d n = true := by with_unfolding_all exact rfl)
    (c : ∀ a' ad cap W', Slots a' n ((d, .slice ad (k + m) cap) :: L) → Has G w W' (Own E size (.slice ad (k + m) cap) (k + m) (xs ++ news) :: R) → wpList P ops Q rest a' W') : wpList P ops Q (⟨some d, .call { callee := .builtin .append, args := #[x, y], argTypes := #[S, S'] }, T, p, e, none⟩ :: rest) a W := by
  obtain ⟨i, z, h1, h2, h3, h4, h5⟩ := el.out
  subst h4 h5
  obtain ⟨ad, cap, W', hr, ho, hbl⟩ := run_append_full (P := P) (ty := T) sl.out h1 h2 h3 hg hk htk hsrc hm h63 hb
  refine st_value hs hd (v := .slice ad (k + m) cap) (W' := W') ?_ fun a' hs' => c a' ad cap W' hs' (hw.newOwn hbl ho)
  simp only [execOp, resolve, invoke, builtin, Sem.run_bind, Sem.run_pure, Result.andThen_ok, List.map_toArray, List.map_cons, List.map_nil, hs.ev hx, hs.ev hy, hr]
end
section
variable {P : Program} {ops : Array Oper} {rest : List Oper} {Q : Exit → Act → World → Prop} {a : Act} {n G : Nat} {L : List (Nat × Value)} {w W : World} {R : List Res} {d : Nat} {T S E : TypeId} {p : String} {e : Array Edge} {x lo : Operand} {g k m cap size : Nat} {q : IntKind} {z cur : List Value} {H : Fh}
/-- The end of a slice of a block's own. -/
def tailV (g size k cap m : Nat) : Value := .slice (if cap = m then some ⟨g, 0, none⟩ else some ⟨g, m * size, none⟩) (k - m) (cap - m)
theorem st_slice_lo_at {agg : Bool} [sl : Sl P S E] [t : Ty P E agg z] (hs : Slots a n L) (h1 : m ≤ k) (hc : k ≤ cap) (hx : ev L x = some (.slice (some ⟨g, 0, none⟩) k cap) := by with_unfolding_all exact rfl) (hl : ev L lo = some (.int q (m : Int)) := by with_unfolding_all exact rfl) (hd : Nat.blt d n = true := by with_unfolding_all exact rfl)
    (c : ∀ a', Slots a' n ((d, tailV g z.length k cap m) :: L) → wpList P ops Q rest a' W) : wpList P ops Q (⟨some d, .slice S x (some lo) none none, T, p, e, none⟩ :: rest) a W := by
  have hb : (Instr.sliceBound (.int q (m : Int)) k .sliceB).run P W = .ok m W := by
    have : (0 : Int) ≤ (m : Int) ∧ (m : Int) ≤ (k : Int) := ⟨by omega, by omega⟩
    simp only [Instr.sliceBound, asIntOf, Sem.run_bind, Sem.run_pure, Result.andThen_ok]
    rw [if_pos this]
    simp
  have hbs : (Instr.sliceBounds true k cap (some (.int q (m : Int))) none none).run P W = .ok (m, k, cap) W := by
    unfold Instr.sliceBounds
    simp [hb]
  refine st_value hs hd (v := tailV g z.length k cap m) (W' := W) ?_ c
  simp only [execOp, Option.map_some, Option.map_none, hs.ev hx, hs.ev hl, Instr.sliceAt, Instr.slice, Sem.run_bind, run_underlying sl.out, Result.andThen_ok, hbs, t.sizeOf, Sem.run_pure]
  unfold tailV
  by_cases h0 : cap = m
  · simp [h0]
  · rw [if_neg h0, if_neg h0]; simp [addr_add]
theorem rd_tail (hg : W.heap[g]? = some (.cells ⟨cur⟩ E (0, 0))) (hl : cur.length = cap * size) (hc : k ≤ cap) (h1 : m ≤ k) (hm : cap ≤ maxLen) : Rd W size (tailV g size k cap m) (k - m) ((cur.take (k * size)).drop (m * size)) := by
  have e1 : k * size ≤ cap * size := Nat.mul_le_mul_right _ hc
  have e2 : m * size ≤ k * size := Nat.mul_le_mul_right _ h1
  unfold tailV
  refine ⟨by rw [List.length_drop, List.length_take, Nat.sub_mul]; omega, _, _, rfl, by omega, by unfold maxLen at hm; omega, ?_⟩
  by_cases h0 : cap = m
  · exact .inl (by omega)
  · refine .inr ⟨g, m * size, by rw [if_neg h0], lt_of_block hg, fun j u hu => ?_⟩
    rw [List.getElem?_drop, List.getElem?_take] at hu
    split at hu
    · rw [cell_block hg]; exact hu
    · cases hu
/-- A block is frozen. -/
theorem Has.freeze_cells (h : Has G w W (Cells g cur E :: Fz H :: R)) : ∃ H', H.le H' ∧ Has G w W (Fz H' :: R) ∧ H' g = some (.cells ⟨cur⟩ E (0, 0)) := by
  obtain ⟨H', h1, h2, F, ⟨hF, hg⟩, h4⟩ := h.freeze (R' := [])
  exact ⟨H', h1, h2, h4 g _ hF hg⟩
theorem rdH_head (hg : H g = some (.cells ⟨cur⟩ E (0, 0))) (hk : k * size ≤ cur.length) (h63 : k ≤ 9223372036854775807) : RdH H size (.slice (some ⟨g, 0, none⟩) k k) k (cur.take (k * size)) := by
  refine ⟨by rw [List.length_take]; omega, _, _, rfl, Nat.le_refl _, h63, .inr ⟨g, 0, _, _, _, rfl, hg, fun j u hu => ?_⟩⟩
  rw [List.getElem?_take] at hu
  split at hu
  · simpa using hu
  · cases hu
end
end Go.Sx

/-
  Sx, more: parts of cells; a region that only reads; function values.
-/
set_option linter.unusedVariables false
set_option maxRecDepth 10000
namespace Go.Sx
open Go.RowKit
section
variable {P : Program} {ops : Array Oper} {rest : List Oper} {Q : Exit → Act → World → Prop} {a : Act} {n : Nat} {L : List (Nat × Value)} {W : World} {d : Nat} {T : TypeId} {p : String} {e : Array Edge}
/-- A function value over what it captures. -/
theorem st_makeFunc {f : FuncId} {xs : List Operand} {vs : List Value} (hs : Slots a n L) (hx : evs L xs = some vs := by with_unfolding_all exact rfl) (hd : Nat.blt d n = true := by with_unfolding_all exact rfl)
    (k : ∀ a', Slots a' n ((d, .func (.func f) ⟨[]⟩ ⟨vs⟩) :: L) → wpList P ops Q rest a' W) : wpList P ops Q (⟨some d, .makeFunc (.func f) ⟨[]⟩ ⟨xs⟩, T, p, e, none⟩ :: rest) a W := by
  refine st_value hs hd (v := .func (.func f) ⟨[]⟩ ⟨vs⟩) (W' := W) ?_ k
  simp only [execOp, List.map_toArray, hs.evs hx, Instr.makeFunc, Sem.run_bind, Sem.run_pure, Result.andThen_ok, List.map_nil]
/-- A call of a function value whose contract is at hand. -/
theorem st_callv {f : FuncId} {x : Operand} {xs : List Operand} {ts : Array TypeId} {vs cs : List Value} {C : Ending → World → Prop} (hs : Slots a n L) (hfv : ev L x = some (.func (.func f) ⟨[]⟩ ⟨cs⟩) := by with_unfolding_all exact rfl) (hx : evs L xs = some vs := by with_unfolding_all exact rfl) (hd : Nat.blt d n = true := by with_unfolding_all exact rfl)
    (hf : callee P f = true) (hc : Calls P f ⟨vs ++ cs⟩ W C)
    (k : ∀ e' W', C e' W' → ∃ v, e' = .returned v ∧ ∀ a', Slots a' n ((d, v) :: L) → wpList P ops Q rest a' W') :
    wpList P ops Q (⟨some d, .call { callee := .value x, args := ⟨xs⟩, argTypes := ts }, T, p, e, none⟩ :: rest) a W := by
  refine wpList_plain rfl fun K hK => ?_
  have hr : (execOp a.eval ⟨some d, .call { callee := .value x, args := ⟨xs⟩, argTypes := ts }, T, p, e, none⟩).run P W = .ok (.enter f ⟨vs ++ cs⟩) W := by
    simp only [execOp, resolve, List.map_toArray, hs.evs hx, hs.ev hfv, Deferred.ofValue, Sem.run_bind, Sem.run_pure, Result.andThen_ok, invoke]
    have : ((⟨[]⟩ : Array Value) ++ ⟨vs⟩ ++ ⟨cs⟩) = ⟨vs ++ cs⟩ := by simp
    simp only [this, run_callFunc hf]
  simp only [Oper.wp, hr, Oper.upon_enter]
  refine hc.mono fun e' W' h => ?_
  obtain ⟨v, rfl, h2⟩ := k e' W' h
  exact hK _ _ (h2 _ (hs.put hd v))
end
theorem Ch.mem {α : Type} {R : α → List Value → Prop} {k : Nat} (hk : ∀ a c, R a c → c.length = k) {l : List α} {cs : List Value} (h : Ch R l cs) {i : Nat} {a : α} (hi : l[i]? = some a) : ∃ c, R a c ∧ cut cs (i * k) k = c := by
  obtain ⟨c, h1, h2, h3⟩ := h.get hk hi
  exact ⟨c, h1, h3⟩
theorem set_mid {cs1 c cs2 : List Value} {m : Nat} {x : Value} (hm : m < c.length) : (cs1 ++ (c ++ cs2)).set (cs1.length + m) x = cs1 ++ (c.set m x ++ cs2) := by
  rw [List.set_append_right _ _ (Nat.le_add_right _ _), Nat.add_sub_cancel_left, List.set_append_left _ _ hm]
/-- A part's cell is written. -/
theorem Ch.set_in {α : Type} {R R' : α → List Value → Prop} {k m i : Nat} {x : Value} {l : List α} {a a' : α} {cs : List Value} (hk : ∀ a c, R a c → c.length = k) (h : Ch R l cs) (hi : l[i]? = some a) (hm : m < k) (hx : ∀ c, R a c → R a' (c.set m x)) : Ch R (l.set i a') (cs.set (i * k + m) x) := by
  obtain ⟨cs1, c, cs2, rfl, h1, h2, h3, h4⟩ := h.split hk hi
  have hl := hk a c h2
  have hlt := (List.getElem?_eq_some_iff.1 hi).1
  rw [← h1, set_mid (by omega), List.set_eq_take_append_cons_drop, if_pos hlt]
  exact h3.app ⟨c.set m x, cs2, rfl, hx c h2, h4⟩
theorem set_same {α : Type} {l : List α} {i : Nat} {a : α} (h : l[i]? = some a) : l.set i a = l := by
  apply List.ext_getElem?
  intro j
  rw [List.getElem?_set]
  split
  · rename_i e
    subst e
    split
    · exact h.symm
    · rename_i hn
      exact absurd (List.getElem?_eq_some_iff.1 h).1 hn
  · rfl
/-- A cell of a part, in the block. -/
theorem Ch.at_cur {α : Type} {R : α → List Value → Prop} {k i n j : Nat} {l : List α} {a : α} {cs cur c : List Value} {u : Value} (hcut : cut cs (i * k) k = c) (ht : cur.take n = cs) (hu : c[j]? = some u) : cur[i * k + j]? = some u := by
  have h1 := congrArg (fun t => t[j]?) hcut
  simp only [cut_eq, List.getElem?_take, List.getElem?_drop, hu] at h1
  split at h1
  · rw [← ht, List.getElem?_take] at h1
    split at h1
    · exact h1
    · cases h1
  · cases h1
theorem In.of_mem {r : Res} : ∀ {L : List Res}, r ∈ L → In r L
  | q :: L, h => by
    rcases List.mem_cons.1 h with rfl | h
    · exact In.hd
    · exact In.tl (In.of_mem h)
theorem keepB {w W : World} {p : Fh → Prop} {b : Bool} (h : Has 0 w W ((if b = true then Ex (fun H => Fz H :: Fact ((fr w).le H ∧ p H) :: []) else Fz (fr w)) :: [])) : Below w.heap.size w W := by
  cases b with
  | false => exact h.endF In.hd (Fh.le.refl _)
  | true =>
    have h : Has 0 w W (Ex (fun H => Fz H :: Fact ((fr w).le H ∧ p H) :: []) :: []) := h
    obtain ⟨H, h⟩ := Has.open h
    have h : Has 0 w W (Fz H :: Fact ((fr w).le H ∧ p H) :: []) := h
    have h2 := h.told (In.tl In.hd)
    exact h.endF In.hd h2.1
theorem keepP {w W : World} {p : Fh → Prop} {b : Bool} (h : Has 0 w W ((if b = true then Ex (fun H => Fz H :: Fact ((fr w).le H ∧ p H) :: []) else Fz (fr w)) :: [])) (hb : b = true) : ∃ H, p H ∧ Has 0 w W (Fz H :: []) := by
  subst hb
  have h : Has 0 w W (Ex (fun H => Fz H :: Fact ((fr w).le H ∧ p H) :: []) :: []) := h
  obtain ⟨H, h⟩ := Has.open h
  have h : Has 0 w W (Fz H :: Fact ((fr w).le H ∧ p H) :: []) := h
  have h2 := h.told (In.tl In.hd)
  exact ⟨H, h2.2, h.sub (List.Sublist.cons_cons _ (List.Sublist.cons _ (List.Sublist.refl _)))⟩
theorem frLe {w W : World} (h : Below w.heap.size w W) : (fr w).le (fr W) := fun b o hb => by
  have hlt : b < w.heap.size := (Array.getElem?_eq_some_iff.1 hb).1
  exact (h.block b hlt).trans hb
theorem keepNew {w W : World} {p : Fh → Prop} (h : Below w.heap.size w W) (hp : p (fr W)) : Has 0 w W (Ex (fun H => Fz H :: Fact ((fr w).le H ∧ p H) :: []) :: []) := by
  have h1 : Has 0 w W (Fz (fr W) :: []) := ((Has.startF w).below h).trans (Has.startF W)
  exact Has.shut (Ls := fun H => Fz H :: Fact ((fr w).le H ∧ p H) :: []) (fr W) ((h1.fact (p := (fr w).le (fr W) ∧ p (fr W)) ⟨frLe h, hp⟩).perm (List.Perm.swap _ _ _))
theorem perm_pull {α β : Type} (f : α → β) : ∀ {l : List α} {i : Nat} {x : α}, l[i]? = some x → (l.map f).Perm (f x :: (l.eraseIdx i).map f)
  | y :: l, 0, x, h => by
    obtain rfl : y = x := by simpa using h
    exact List.Perm.refl _
  | y :: l, i + 1, x, h => ((perm_pull f (l := l) (i := i) (by simpa using h)).cons _).trans (List.Perm.swap _ _ _)
theorem erase_set {α : Type} : ∀ {l : List α} {i : Nat} {x : α}, (l.set i x).eraseIdx i = l.eraseIdx i
  | [], _, _ => rfl
  | y :: l, 0, x => rfl
  | y :: l, i + 1, x => by simp [erase_set]
/-- Some pieces are picked, in any order; the others are left. -/
inductive Sel : List Res → List Res → Prop
  | nil {L : List Res} : Sel [] L
  | refl (L : List Res) : Sel L L
  | cons {r : Res} {K L L' : List Res} : Pick r L L' → Sel K L' → Sel (r :: K) L
  | skip {r : Res} {K L : List Res} : Sel K L → Sel K (r :: L)
theorem Sel.perm {K L : List Res} (s : Sel K L) : ∃ M, L.Perm (K ++ M) := by
  induction s with
  | nil => exact ⟨_, List.Perm.refl _⟩
  | refl L => exact ⟨[], by rw [List.append_nil]⟩
  | cons p _ ih =>
    obtain ⟨M, h⟩ := ih
    exact ⟨M, perm_pick p h⟩
  | @skip r K L _ ih =>
    obtain ⟨M, h⟩ := ih
    exact ⟨r :: M, (h.cons r).trans List.perm_middle.symm⟩
theorem Has.sel {G : Nat} {w W : World} {K L : List Res} (h : Has G w W L) (s : Sel K L) : Has G w W K := by
  obtain ⟨M, hp⟩ := s.perm
  exact (h.perm hp).sub (List.sublist_append_left K M)
end Go.Sx

/-
  Tables: Rows, Data.
-/
set_option linter.unusedVariables false
set_option maxRecDepth 10000
namespace Go.Sx
open Go.RowKit
section
variable {P : Program} {ops : Array Oper} {rest : List Oper} {Q : Exit → Act → World → Prop} {a : Act} {n : Nat} {L : List (Nat × Value)} {W : World} {d : Nat} {T S E : TypeId} {p : String} {e : Array Edge} {x hi : Operand} {g o k m cap : Nat} {q : IntKind} {z : List Value}
/-- The head of a slice, its place told. -/
theorem st_slice_hi_at {agg : Bool} [sl : Sl P S E] [t : Ty P E agg z] (hs : Slots a n L) (h1 : m ≤ k) (hc : k ≤ cap) (h0 : 0 < cap) (hx : ev L x = some (.slice (some ⟨g, o, none⟩) k cap) := by with_unfolding_all exact rfl) (hl : ev L hi = some (.int q (m : Int)) := by with_unfolding_all exact rfl) (hd : Nat.blt d n = true := by with_unfolding_all exact rfl)
    (c : ∀ a', Slots a' n ((d, .slice (some ⟨g, o, none⟩) m cap) :: L) → wpList P ops Q rest a' W) : wpList P ops Q (⟨some d, .slice S x none (some hi) none, T, p, e, none⟩ :: rest) a W := by
  have hb : (Instr.sliceBound (.int q (m : Int)) cap .sliceAcap).run P W = .ok m W := by
    have : (0 : Int) ≤ (m : Int) ∧ (m : Int) ≤ (cap : Int) := ⟨by omega, by omega⟩
    simp only [Instr.sliceBound, asIntOf, Sem.run_bind, Sem.run_pure, Result.andThen_ok]
    rw [if_pos this]
    simp
  have hbs : (Instr.sliceBounds true k cap none (some (.int q (m : Int))) none).run P W = .ok (0, m, cap) W := by
    unfold Instr.sliceBounds
    simp [hb]
  refine st_value hs hd (v := .slice (some ⟨g, o, none⟩) m cap) (W' := W) ?_ c
  simp only [execOp, Option.map_some, Option.map_none, hs.ev hx, hs.ev hl, Instr.sliceAt, Instr.slice, Sem.run_bind, run_underlying sl.out, Result.andThen_ok, hbs, t.sizeOf, Sem.run_pure]
  by_cases h9 : cap = 0
  · omega
  · simp [h9, addr_add]
end
end Go.Sx
namespace Go.Proofs.YtalfmomnaghahaaDoor.Sw
open Go.RowKit Go.Sx

/-- Rows as a table tells them. -/
def rowsT (t : TabD) (fr_ n : Int) : List RowD :=
  if fr_ < 1 ∨ (t.rows.length : Int) < fr_ ∨ n < 1 then [] else (t.rows.drop (fr_ - 1).toNat).take (min n.toNat 10)
section
variable {P : Program} {ops : Array Oper} {rest : List Oper} {Q : Exit → Act → World → Prop} {a : Act} {n : Nat} {L : List (Nat × Value)} {W : World} {d : Nat} {T : TypeId} {p : String} {e : Array Edge} {x y z : Operand} {i j k : Int} {q q' q'' : IntKind}
theorem st_min3 {ts : Array TypeId} (hs : Slots a n L) (v : Int) (hv : (if k < (if j < i then j else i) then k else (if j < i then j else i)) = v) (hx : ev L x = some (.int q i) := by with_unfolding_all exact rfl) (hy : ev L y = some (.int q' j) := by with_unfolding_all exact rfl) (hz : ev L z = some (.int q'' k) := by with_unfolding_all exact rfl) (hd : Nat.blt d n = true := by with_unfolding_all exact rfl)
    (c : ∀ a', Slots a' n ((d, .int q v) :: L) → wpList P ops Q rest a' W) : wpList P ops Q (⟨some d, .call { callee := .builtin .min, args := #[x, y, z], argTypes := ts }, T, p, e, none⟩ :: rest) a W := by
  subst hv
  exact st_value hs hd (by simp only [execOp, resolve, invoke, builtin, List.map_toArray, List.map_cons, List.map_nil, hs.ev hx, hs.ev hy, hs.ev hz, Sem.run_bind, Sem.run_pure, Result.andThen_ok, run_min_int3]) c
end

set_option maxHeartbeats 16000000 in
theorem table_Rows (w0 W : World) (H : Fh) (p : Nat) (t : TabD) (from_ n : Int) (R : List Res) (hl : t.rows.length ≤ 1000000) (h8 : ∀ r ∈ t.rows, r.b.l.length ≤ 1000) (hw : Has 0 w0 W (TabAt H p t :: Fz H :: R)) :
    Calls Tryd.prog 9 ⟨[.pointer (some ⟨p, 0, none⟩), .int .i64 from_, .int .i64 n]⟩ W fun e W' => ∃ v H', e = .returned v ∧ H.le H' ∧ RowsH H' v (rowsT t from_ n) ∧ Has 0 w0 W' (TabAt H' p t :: Fz H' :: R) := by
  obtain ⟨pf, vad, vcap, xs, hch, hw⟩ := tabOpen hw
  have hnil : RowsH H (.slice none 0 0) [] := ⟨[], RdH.nil _ _ _ (by omega), rfl⟩
  refine enter Tryd.func9 Tryd.ntmps9 rfl rfl fun a hs => ?_
  repeat (first | (refine sxv hs hw ?_; clear hs; intro a hs) | refine sxc hs ?_ | (refine sxa hs hw ?_; clear hs hw; intro a b W hw hs) | (refine sxs hs hw ?_; clear hs hw; intro W hs hw) | ((with_reducible first | refine st_ptrSome hs (k := ?_) | refine st_ptrNone hs (k := ?_)); clear hs; intro a hs))
  cases c1 : decide (from_ < 1) with
  | true =>
    rw [c1] at hs
    have hX : rowsT t from_ n = [] := by unfold rowsT; rw [if_pos (.inl (of_decide_eq_true c1))]
    rw [hX]
    repeat (first | (refine sxv hs hw ?_; clear hs; intro a hs) | refine sxc hs ?_ | (refine sxa hs hw ?_; clear hs hw; intro a b W hw hs) | (refine sxs hs hw ?_; clear hs hw; intro W hs hw) | ((with_reducible first | refine st_ptrSome hs (k := ?_) | refine st_ptrNone hs (k := ?_)); clear hs; intro a hs))
    exact rt1 hs rfl rfl ⟨_, H, rfl, Fh.le.refl _, hnil, tabShut hw hch⟩
  | false =>
  rw [c1] at hs
  have g1 := of_decide_eq_false c1
  repeat (first | (refine sxv hs hw ?_; clear hs; intro a hs) | refine sxc hs ?_ | (refine sxa hs hw ?_; clear hs hw; intro a b W hw hs) | (refine sxs hs hw ?_; clear hs hw; intro W hs hw) | ((with_reducible first | refine st_ptrSome hs (k := ?_) | refine st_ptrNone hs (k := ?_)); clear hs; intro a hs))
  cases c2 : decide (from_ > (t.rows.length : Int)) with
  | true =>
    rw [c2] at hs
    have hX : rowsT t from_ n = [] := by unfold rowsT; rw [if_pos (.inr (.inl (of_decide_eq_true c2)))]
    rw [hX]
    repeat (first | (refine sxv hs hw ?_; clear hs; intro a hs) | refine sxc hs ?_ | (refine sxa hs hw ?_; clear hs hw; intro a b W hw hs) | (refine sxs hs hw ?_; clear hs hw; intro W hs hw) | ((with_reducible first | refine st_ptrSome hs (k := ?_) | refine st_ptrNone hs (k := ?_)); clear hs; intro a hs))
    exact rt1 hs rfl rfl ⟨_, H, rfl, Fh.le.refl _, hnil, tabShut hw hch⟩
  | false =>
  rw [c2] at hs
  have g2 := of_decide_eq_false c2
  repeat (first | (refine sxv hs hw ?_; clear hs; intro a hs) | refine sxc hs ?_ | (refine sxa hs hw ?_; clear hs hw; intro a b W hw hs) | (refine sxs hs hw ?_; clear hs hw; intro W hs hw) | ((with_reducible first | refine st_ptrSome hs (k := ?_) | refine st_ptrNone hs (k := ?_)); clear hs; intro a hs))
  cases c3 : decide (n < 1) with
  | true =>
    rw [c3] at hs
    have hX : rowsT t from_ n = [] := by unfold rowsT; rw [if_pos (.inr (.inr (of_decide_eq_true c3)))]
    rw [hX]
    repeat (first | (refine sxv hs hw ?_; clear hs; intro a hs) | refine sxc hs ?_ | (refine sxa hs hw ?_; clear hs hw; intro a b W hw hs) | (refine sxs hs hw ?_; clear hs hw; intro W hs hw) | ((with_reducible first | refine st_ptrSome hs (k := ?_) | refine st_ptrNone hs (k := ?_)); clear hs; intro a hs))
    exact rt1 hs rfl rfl ⟨_, H, rfl, Fh.le.refl _, hnil, tabShut hw hch⟩
  | false =>
  rw [c3] at hs
  have g3 := of_decide_eq_false c3
  obtain ⟨k, hk⟩ : ∃ k : Nat, from_ - 1 = (k : Int) := ⟨(from_ - 1).toNat, by omega⟩
  obtain ⟨mn, hmn⟩ : ∃ m : Nat, m = min (t.rows.length - k) (min n.toNat 10) := ⟨_, rfl⟩
  have hX : rowsT t from_ n = (t.rows.drop k).take mn := by
    unfold rowsT
    rw [if_neg (by omega), hk, Int.toNat_natCast]
    have hld : (t.rows.drop k).length = t.rows.length - k := List.length_drop
    by_cases h : min n.toNat 10 ≤ t.rows.length - k
    · rw [show mn = min n.toNat 10 by omega]
    · rw [List.take_of_length_le (by omega), List.take_of_length_le (by omega)]
  rw [hX]
  have hkM : k < t.rows.length := by omega
  have hw : Has 0 w0 W (Sx.Own 28 5 (.slice vad t.rows.length vcap) t.rows.length xs :: Cells p [.int .i64 t.ix, .pointer (some ⟨pf, 0, none⟩), .slice vad t.rows.length vcap] 57 :: FoldAt H pf t.f :: Fz H :: R) := hw.perm (by repeat (first | exact List.Perm.refl _ | refine perm_pick (by repeat (first | exact Pick.hd | apply Pick.tl)) ?_))
  obtain ⟨g, cur, rfl, hcur, hcl0, hkc, hcm, hw⟩ := hw.open_own (by omega)
  repeat (first | (refine sxv hs hw ?_; clear hs; intro a hs) | refine sxc hs ?_ | (refine sxa hs hw ?_; clear hs hw; intro a b W hw hs) | (refine sxs hs hw ?_; clear hs hw; intro W hs hw) | ((with_reducible first | refine st_ptrSome hs (k := ?_) | refine st_ptrNone hs (k := ?_)); clear hs; intro a hs))
  have ew : IntKind.i64.wrap (from_ - 1) = (k : Int) := by rw [hk, IntWalk.i64_in _ (by omega)]
  rw [ew] at hs
  refine st_slice_lo_at hs (z := zrc) (m := k) (h1 := by omega) (hc := hkc) (c := ?_); clear hs; intro a hs
  have et : tailV g zrc.length t.rows.length vcap k = .slice (some ⟨g, k * 5, none⟩) (t.rows.length - k) (vcap - k) := by
    unfold tailV
    rw [if_neg (by omega)]
    rfl
  rw [et] at hs
  repeat (first | (refine sxv hs hw ?_; clear hs; intro a hs) | refine sxc hs ?_ | (refine sxa hs hw ?_; clear hs hw; intro a b W hw hs) | (refine sxs hs hw ?_; clear hs hw; intro W hs hw) | ((with_reducible first | refine st_ptrSome hs (k := ?_) | refine st_ptrNone hs (k := ?_)); clear hs; intro a hs))
  refine st_min3 hs (v := (mn : Int)) (i := ((t.rows.length - k : Nat) : Int)) (j := n) (k := 10) (hv := by rw [hmn]; split <;> split <;> omega) (c := ?_); clear hs; intro a hs
  refine st_slice_hi_at hs (z := zrc) (m := mn) (k := t.rows.length - k) (cap := vcap - k) (h1 := by omega) (hc := by omega) (h0 := by omega) (c := ?_); clear hs; intro a hs
  repeat (first | (refine sxv hs hw ?_; clear hs; intro a hs) | refine sxc hs ?_ | (refine sxa hs hw ?_; clear hs hw; intro a b W hw hs) | (refine sxs hs hw ?_; clear hs hw; intro W hs hw))
  have hw := hw.nilOwn 28 5
  have hmr : mn ≤ t.rows.length - k := by omega
  have hml : ((t.rows.drop k).take mn).length = mn := by rw [List.length_take, List.length_drop]; omega
  obtain ⟨ro, hro⟩ : ∃ x, (t.rows.drop k).take mn = x := ⟨_, rfl⟩
  rw [hro] at hml ⊢
  have hroi : ∀ j r, ro[j]? = some r → t.rows[k + j]? = some r := by
    intro j r h
    rw [← hro, List.getElem?_take] at h
    split at h
    · rw [List.getElem?_drop] at h; exact h
    · cases h
  refine st_loop (σ := Nat × Option Addr × Nat × List Value × Fh) (fun u => [(42, .slice (some ⟨g, k * 5, none⟩) mn (vcap - k)), (43, .int .i64 (mn : Int)), (44, .int .i64 (u.1 : Int)), (8, .slice u.2.1 (ro.take u.1).length u.2.2.1)]) (fun u => Sx.Own 28 5 (.slice u.2.1 (ro.take u.1).length u.2.2.1) (ro.take u.1).length u.2.2.2.1 :: Fz u.2.2.2.2 :: Cells g cur 28 :: Cells p [.int .i64 t.ix, .pointer (some ⟨pf, 0, none⟩), .slice (some ⟨g, 0, none⟩) t.rows.length vcap] 57 :: FoldAt H pf t.f :: R) (fun u => u.1 ≤ mn ∧ H.le u.2.2.2.2 ∧ Ch (RowIn u.2.2.2.2) (ro.take u.1) u.2.2.2.1) (fun u => mn - u.1) (0, none, 0, [], H) ⟨Nat.zero_le _, Fh.le.refl _, rfl⟩ hs ⟨rfl, rfl, rfl, rfl, trivial⟩ (hw.perm (by repeat (first | exact List.Perm.refl _ | refine perm_pick (by repeat (first | exact Pick.hd | apply Pick.tl)) ?_))) ?_
  clear hs hw
  rintro ⟨j, oad, ocap, ys, H'⟩ a W ⟨hj, hH', hch2⟩ hs hw
  simp only at hj hH' hch2 hs hw
  repeat (first | (refine sxv hs hw ?_; clear hs; intro a hs) | refine sxc hs ?_ | (refine sxa hs hw ?_; clear hs hw; intro a b W hw hs) | (refine sxs hs hw ?_; clear hs hw; intro W hs hw))
  refine cd_split hs (kt := fun hcc => ?_) (kf := fun hcc => ?_)
  · have hj' : j < mn := by simpa using hcc
    obtain ⟨r, hri⟩ : ∃ o, ro[j]? = some o := ⟨ro[j]'(by omega), List.getElem?_eq_getElem _⟩
    have hri0 := hroi j r hri
    have hok := h8 r (List.mem_of_getElem? hri0)
    have htk : (ro.take j).length ≤ 1000000 := by rw [List.length_take]; omega
    obtain ⟨c0, ⟨ov0, rfl, hov⟩, hcut⟩ := hch.mem RowIn.len hri0
    obtain ⟨rad, rcap, rfl⟩ := hov.slice
    repeat (first | (refine sxv hs hw ?_; clear hs; intro a hs) | refine sxc hs ?_ | (refine sxa hs hw ?_; clear hs hw; intro a b W hw hs) | (refine sxs hs hw ?_; clear hs hw; intro W hs hw))
    refine st_index_at hs (z := zrc) (h0 := by omega) (h1 := by omega) (c := ?_); clear hs; intro a hs
    refine st_load_ats hs (z := zrc) (cs := rowCells r (.slice rad r.b.l.length rcap)) (hc := fun m u h => by
      rw [cell_block (hw.block (In.tl (In.tl In.hd))).1]
      have := Ch.at_cur (R := RowIn H) (l := t.rows) (a := r) (j := m) hcut hcur h
      rw [← this]
      congr 1
      show k * 5 + j * 5 + m = (k + j) * 5 + m
      omega) (hl := by rfl) (c := ?_); clear hs; intro a hs
    repeat (first | (refine sxv hs hw ?_; clear hs; intro a hs) | refine sxc hs ?_ | (refine sxa hs hw ?_; clear hs hw; intro a b W hw hs) | (refine sxs hs hw ?_; clear hs hw; intro W hs hw))
    obtain ⟨b5, q5⟩ := nm1 hw; subst q5
    have hw : Has 0 w0 _ (Fz H' :: Sx.Own 28 5 (.slice oad (ro.take j).length ocap) (ro.take j).length ys :: Cells g cur 28 :: Cells p [.int .i64 t.ix, .pointer (some ⟨pf, 0, none⟩), .slice (some ⟨g, 0, none⟩) t.rows.length vcap] 57 :: FoldAt H pf t.f :: Cells b5 (rowCells r (.slice rad r.b.l.length rcap)) 28 :: R) := hw.perm (by repeat (first | exact List.Perm.refl _ | refine perm_pick (by repeat (first | exact Pick.hd | apply Pick.tl)) ?_))
    refine st_call hs (hc := table_own w0 _ H' r _ _ hok (hov.le hH') hw) (k := ?_); rintro e0 W1 ⟨nv, H2, rfl, hle, hnv, hw1⟩; refine ⟨_, rfl, ?_⟩; clear hs hw; intro a hs; have hw := hw1; clear hw1
    obtain ⟨nad, ncap, rfl⟩ := hnv.slice
    repeat (first | (refine sxv hs hw ?_; clear hs; intro a hs) | refine sxc hs ?_ | (refine sxa hs hw ?_; clear hs hw; intro a b W hw hs) | (refine sxs hs hw ?_; clear hs hw; intro W hs hw))
    obtain ⟨bx, qx⟩ := nm1 hw; subst qx
    have hw : Has 0 w0 _ (Sx.Own 28 5 (.slice oad (ro.take j).length ocap) (ro.take j).length ys :: Cells bx (rowCells r (.slice nad r.b.l.length ncap)) 28 :: Fz H2 :: Cells g cur 28 :: Cells p [.int .i64 t.ix, .pointer (some ⟨pf, 0, none⟩), .slice (some ⟨g, 0, none⟩) t.rows.length vcap] 57 :: FoldAt H pf t.f :: Cells b5 (rowCells r (.slice rad r.b.l.length rcap)) 28 :: R) := hw.perm (by repeat (first | exact List.Perm.refl _ | refine perm_pick (by repeat (first | exact Pick.hd | apply Pick.tl)) ?_))
    refine st_append1 hs (hw := hw) (hi := In.hd) (ch := hch2.mono (RowIn.le hle)) (ha := (⟨_, rfl, hnv⟩ : RowIn H2 r (rowCells r (.slice nad r.b.l.length ncap)))) (hl := rfl) (h1 := rfl) (hb := by omega) (h63 := by omega) (k := ?_)
    clear hs hw; intro a ad2 cap2 W hs hw hc2
    rw [← take_of hri] at hs hw hc2
    repeat (first | (refine sxv hs hw ?_; clear hs; intro a hs) | refine sxc hs ?_ | (refine sxa hs hw ?_; clear hs hw; intro a b W hw hs) | (refine sxs hs hw ?_; clear hs hw; intro W hs hw))
    have hw := hw.sub (L' := Sx.Own 28 5 (.slice ad2 (ro.take (j + 1)).length cap2) (ro.take (j + 1)).length (ys ++ rowCells r (.slice nad r.b.l.length ncap)) :: Fz H2 :: Cells g cur 28 :: Cells p [.int .i64 t.ix, .pointer (some ⟨pf, 0, none⟩), .slice (some ⟨g, 0, none⟩) t.rows.length vcap] 57 :: FoldAt H pf t.f :: R) (List.Sublist.cons_cons _ (List.Sublist.cons _ (List.Sublist.cons_cons _ (List.Sublist.cons_cons _ (List.Sublist.cons_cons _ (List.Sublist.cons_cons _ (List.Sublist.cons _ (List.Sublist.refl _))))))))
    exact st_again (j + 1, ad2, cap2, ys ++ rowCells r (.slice nad r.b.l.length ncap), H2) hs hw ⟨hj', hH'.trans hle, hc2⟩ (by show mn - (j + 1) < mn - j; omega) ⟨rfl, rfl, int_eq (by show IntKind.i64.wrap ((j : Int) + 1) = ((j + 1 : Nat) : Int); rw [IntWalk.i64_in _ (by omega)]; omega), rfl, trivial⟩
  · have hj' : j = mn := by have : ¬ j < mn := by simpa using hcc
                            omega
    have htr : ro.take j = ro := List.take_of_length_le (by omega)
    rw [htr] at hs hw hch2
    repeat (first | (refine sxv hs hw ?_; clear hs; intro a hs) | refine sxc hs ?_ | (refine sxa hs hw ?_; clear hs hw; intro a b W hw hs) | (refine sxs hs hw ?_; clear hs hw; intro W hs hw))
    have hw : Has 0 w0 W (Cells g cur 28 :: Sx.Own 28 5 (.slice oad ro.length ocap) ro.length ys :: Fz H' :: Cells p [.int .i64 t.ix, .pointer (some ⟨pf, 0, none⟩), .slice (some ⟨g, 0, none⟩) t.rows.length vcap] 57 :: FoldAt H pf t.f :: R) := hw.perm (by repeat (first | exact List.Perm.refl _ | refine perm_pick (by repeat (first | exact Pick.hd | apply Pick.tl)) ?_))
    have hw := hw.shut_own (k := t.rows.length) (size := 5) hcur hcl0 hkc hcm
    have hw : Has 0 w0 W (Sx.Own 28 5 (.slice oad ro.length ocap) ro.length ys :: Fz H' :: Sx.Own 28 5 (.slice (some ⟨g, 0, none⟩) t.rows.length vcap) t.rows.length xs :: Cells p [.int .i64 t.ix, .pointer (some ⟨pf, 0, none⟩), .slice (some ⟨g, 0, none⟩) t.rows.length vcap] 57 :: FoldAt H pf t.f :: R) := hw.perm (by repeat (first | exact List.Perm.refl _ | refine perm_pick (by repeat (first | exact Pick.hd | apply Pick.tl)) ?_))
    obtain ⟨H2, hle, hw, hrd⟩ := hw.freeze_own
    have hw : Has 0 w0 W (FoldAt H pf t.f :: Cells p [.int .i64 t.ix, .pointer (some ⟨pf, 0, none⟩), .slice (some ⟨g, 0, none⟩) t.rows.length vcap] 57 :: Sx.Own 28 5 (.slice (some ⟨g, 0, none⟩) t.rows.length vcap) t.rows.length xs :: Fz H2 :: R) := hw.perm (by repeat (first | exact List.Perm.refl _ | refine perm_pick (by repeat (first | exact Pick.hd | apply Pick.tl)) ?_))
    have hle2 := hH'.trans hle
    have hw := tabShut (foldLe hw hle2).swap2 (hch.mono (RowIn.le hle2))
    exact rt1 hs rfl rfl ⟨_, H2, rfl, hle2, ⟨ys, hrd, hch2.mono (RowIn.le hle)⟩, hw⟩

theorem flat_len {l : List RowD} (h : ∀ r ∈ l, (rowB r).length ≤ 1300) : (l.flatMap rowB).length ≤ l.length * 1300 := by
  induction l with
  | nil => simp
  | cons r l ih =>
    have h1 := h r (by simp)
    have h2 := ih fun q hq => h q (by simp [hq])
    simp only [List.flatMap_cons, List.length_append, List.length_cons]
    omega
theorem rowB_len {r : RowD} (h : mayB r.b = true) : (rowB r).length ≤ 1300 := by
  have h1 : (encB r.b).length ≤ 1200 := (mayBatch_parts h).2.2.2.2
  have h2 := Ph.putI_length_le ((encB r.b).length : Int)
  unfold rowB Ph.putT
  rw [List.length_append]
  omega

set_option maxHeartbeats 16000000 in
theorem table_Data (w0 W : World) (H : Fh) (p : Nat) (t : TabD) (R : List Res) (hl : t.rows.length ≤ 200000) (hix : i64 t.ix) (hb : ∀ r ∈ t.rows, BatOk r.b ∧ mayB r.b = true) (hH : (fr w0).le H) (hT : Tabs w0) (hw : Has 0 w0 W (TabAt H p t :: Fz H :: R)) :
    Calls Tryd.prog 15 ⟨[.pointer (some ⟨p, 0, none⟩)]⟩ W fun e W' => e = .returned (.string ⟨(dataT t).toArray⟩) ∧ Has 0 w0 W' (TabAt H p t :: Fz H :: R) := by
  obtain ⟨pf, vad, vcap, xs, hch, hw⟩ := tabOpen hw
  refine enter Tryd.func15 Tryd.ntmps15 rfl rfl fun a hs => ?_
  repeat (first | (refine sxv hs hw ?_; clear hs; intro a hs) | refine sxc hs ?_ | (refine sxa hs hw ?_; clear hs hw; intro a b W hw hs) | (refine sxs hs hw ?_; clear hs hw; intro W hs hw) | ((with_reducible first | refine st_ptrSome hs (k := ?_) | refine st_ptrNone hs (k := ?_)); clear hs; intro a hs))
  have hpi := Ph.putI_length_le t.ix
  have hpl := Ph.putI_length_le (t.rows.length : Int)
  have hw : Has 0 w0 _ (Sx.OwnB 5 (.slice none 0 0) [] :: Cells p [.int .i64 t.ix, .pointer (some ⟨pf, 0, none⟩), .slice vad t.rows.length vcap] 57 :: FoldAt H pf t.f :: Sx.Own 28 5 (.slice vad t.rows.length vcap) t.rows.length xs :: Fz H :: R) := (hw.nilOwn 5 1).perm (by repeat (first | exact List.Perm.refl _ | refine perm_pick (by repeat (first | exact Pick.hd | apply Pick.tl)) ?_))
  refine rg_drawU (σ := Option Addr × Nat) (V := fun u => [.pointer (some ⟨p, 0, none⟩), .pointer (some ⟨p, 0, none⟩), .pointer (some ⟨p, 0 + 0, none⟩), .int .i64 t.ix, (.slice (u 4).1 (Ph.putI t.ix).length (u 4).2), .pointer (some ⟨p, 0, none⟩), .pointer (some ⟨p, 0, none⟩), .pointer (some ⟨p, 0 + 2, none⟩), .slice vad t.rows.length vcap, .int .i64 (t.rows.length : Int), (.slice (u 10).1 ((Ph.putI t.ix) ++ (Ph.putI (t.rows.length : Int))).length (u 10).2), (.slice (u 11).1 ((Ph.putI t.ix) ++ (Ph.putI (t.rows.length : Int))).length (u 11).2)])
    (Rs := fun u D => (if D 11 then Sx.OwnB 5 (.slice (u 11).1 ((Ph.putI t.ix) ++ (Ph.putI (t.rows.length : Int))).length (u 11).2) ((Ph.putI t.ix) ++ (Ph.putI (t.rows.length : Int))) else if D 10 then Sx.OwnB 5 (.slice (u 10).1 ((Ph.putI t.ix) ++ (Ph.putI (t.rows.length : Int))).length (u 10).2) ((Ph.putI t.ix) ++ (Ph.putI (t.rows.length : Int))) else if D 4 then Sx.OwnB 5 (.slice (u 4).1 (Ph.putI t.ix).length (u 4).2) (Ph.putI t.ix) else Sx.OwnB 5 (.slice none 0 0) []) :: Cells p [.int .i64 t.ix, .pointer (some ⟨pf, 0, none⟩), .slice vad t.rows.length vcap] 57 :: FoldAt H pf t.f :: Sx.Own 28 5 (.slice vad t.rows.length vcap) t.rows.length xs :: Fz H :: R) (fun _ => (none, 0)) hs hw (hVu := ?vu_1) (ho := ⟨?_, ?_, ?_, ?_, ?c4_1, ?_, ?_, ?_, ?_, ?_, ?c10_1, ?c11_1, trivial⟩) (k := ?k_1)
  case vu_1 =>
    intro u u' j h
    rcases j with _ | _ | _ | _ | _ | _ | _ | _ | _ | _ | _ | _ | j
    all_goals first | rfl | simp [h]
  case c4_1 =>
    intro u LD D a W hcl hi hp hs hw
    have hA := Go.Sx.not_done hcl hi 10 (by kernel_rfl)
    have hB := Go.Sx.not_done hcl hA 11 (by kernel_rfl)
    simp only [hi, hA, hB, Bool.false_eq_true, if_false] at hw
    refine st_call hs (hc := num_Put w0 _ (.slice none 0 0) [] t.ix _ hix.1 hix.2 (by simp) hw) (k := ?_); rintro e0 W1 ⟨ad, cap, rfl, hw1⟩; refine ⟨_, rfl, ?_⟩; clear hs hw; intro a hs; have hw := hw1; clear hw1
    rw [List.nil_append] at hs hw
    repeat (first | (refine sxv hs hw ?_; clear hs; intro a hs) | refine sxc hs ?_ | (refine sxa hs hw ?_; clear hs hw; intro a b W hw hs) | (refine sxs hs hw ?_; clear hs hw; intro W hs hw))
    refine Or.inr ⟨(ad, cap), hs, ?_⟩
    show Has 0 w0 _ ((if (Nat.beq 11 4 || D 11) = true then _ else if (Nat.beq 10 4 || D 10) = true then _ else _) :: _)
    rw [hA, hB]
    exact hw
  case c10_1 =>
    intro u LD D a W hcl hi hp hs hw
    have hB := Go.Sx.not_done hcl hi 11 (by kernel_rfl)
    have h4 := Go.Sx.done hp 4 (by kernel_rfl)
    simp only [hi, h4, hB, Bool.false_eq_true, if_false, if_true] at hw
    refine st_call hs (hc := num_Put w0 _ _ (Ph.putI t.ix) (t.rows.length : Int) _ (by omega) (by omega) (by omega) hw) (k := ?_); rintro e0 W1 ⟨ad, cap, rfl, hw1⟩; refine ⟨_, rfl, ?_⟩; clear hs hw; intro a hs; have hw := hw1; clear hw1
    repeat (first | (refine sxv hs hw ?_; clear hs; intro a hs) | refine sxc hs ?_ | (refine sxa hs hw ?_; clear hs hw; intro a b W hw hs) | (refine sxs hs hw ?_; clear hs hw; intro W hs hw))
    refine Or.inr ⟨(ad, cap), hs, ?_⟩
    show Has 0 w0 _ ((if (Nat.beq 11 10 || D 11) = true then _ else _) :: _)
    rw [hB]
    exact hw
  case c11_1 =>
    intro u LD D a W hcl hi hp hs hw
    have hA := Go.Sx.done hp 10 (by kernel_rfl)
    simp only [hi, hA, Bool.false_eq_true, if_false, if_true] at hw
    repeat (first | (refine sxv hs hw ?_; clear hs; intro a hs) | refine sxc hs ?_ | (refine sxa hs hw ?_; clear hs hw; intro a b W hw hs) | (refine sxs hs hw ?_; clear hs hw; intro W hs hw))
    exact Or.inr ⟨u 10, hs, hw⟩
  case k_1 =>
    clear hs hw
    intro u a W hs hw
    replace hw : Has 0 w0 W (Sx.OwnB 5 (.slice (u 11).1 ((Ph.putI t.ix) ++ (Ph.putI (t.rows.length : Int))).length (u 11).2) ((Ph.putI t.ix) ++ (Ph.putI (t.rows.length : Int))) :: Cells p [.int .i64 t.ix, .pointer (some ⟨pf, 0, none⟩), .slice vad t.rows.length vcap] 57 :: FoldAt H pf t.f :: Sx.Own 28 5 (.slice vad t.rows.length vcap) t.rows.length xs :: Fz H :: R) := hw
    replace hs : Slots a 37 [(3, (.slice (u 11).1 ((Ph.putI t.ix) ++ (Ph.putI (t.rows.length : Int))).length (u 11).2)), (0, .pointer (some ⟨p, 0, none⟩))] := hs.of ⟨rfl, rfl, trivial⟩
    generalize (u 11).1 = ad1 at *
    generalize (u 11).2 = cap1 at *
    clear u
    have ez : (Ph.putI t.ix) ++ (Ph.putI (t.rows.length : Int)) = (Ph.putI t.ix ++ (Ph.putI (t.rows.length : Int) ++ (t.rows.take 0).flatMap rowB)) := by simp
    rw [ez] at hs hw
    repeat (first | (refine sxv hs hw ?_; clear hs; intro a hs) | refine sxc hs ?_ | (refine sxa hs hw ?_; clear hs hw; intro a b W hw hs) | (refine sxs hs hw ?_; clear hs hw; intro W hs hw) | ((with_reducible first | refine st_ptrSome hs (k := ?_) | refine st_ptrNone hs (k := ?_)); clear hs; intro a hs))
    refine st_loop (σ := Nat × Option Addr × Nat) (fun u => [(22, .slice vad t.rows.length vcap), (23, .int .i64 (t.rows.length : Int)), (24, .int .i64 (u.1 : Int)), (3, .slice u.2.1 (Ph.putI t.ix ++ (Ph.putI (t.rows.length : Int) ++ (t.rows.take u.1).flatMap rowB)).length u.2.2)]) (fun u => Sx.OwnB 5 (.slice u.2.1 (Ph.putI t.ix ++ (Ph.putI (t.rows.length : Int) ++ (t.rows.take u.1).flatMap rowB)).length u.2.2) (Ph.putI t.ix ++ (Ph.putI (t.rows.length : Int) ++ (t.rows.take u.1).flatMap rowB)) :: Cells p [.int .i64 t.ix, .pointer (some ⟨pf, 0, none⟩), .slice vad t.rows.length vcap] 57 :: FoldAt H pf t.f :: Sx.Own 28 5 (.slice vad t.rows.length vcap) t.rows.length xs :: Fz H :: R) (fun u => u.1 ≤ t.rows.length) (fun u => t.rows.length - u.1) (0, ad1, cap1) (Nat.zero_le _) hs ⟨rfl, rfl, rfl, rfl, trivial⟩ hw ?_
    clear hs hw
    rintro ⟨j, oad, ocap⟩ a W hj hs hw
    simp only at hj hs hw
    repeat (first | (refine sxv hs hw ?_; clear hs; intro a hs) | refine sxc hs ?_ | (refine sxa hs hw ?_; clear hs hw; intro a b W hw hs) | (refine sxs hs hw ?_; clear hs hw; intro W hs hw))
    refine cd_split hs (kt := fun hcc => ?_) (kf := fun hcc => ?_)
    · have hj' : j < t.rows.length := by simpa using hcc
      obtain ⟨r, hri⟩ : ∃ o, t.rows[j]? = some o := ⟨t.rows[j], List.getElem?_eq_getElem hj'⟩
      obtain ⟨hbo, hmb⟩ := hb r (List.mem_of_getElem? hri)
      have hfl : ((t.rows.take j).flatMap rowB).length ≤ (t.rows.take j).length * 1300 := flat_len fun q hq => rowB_len (hb q (List.mem_of_mem_take hq)).2
      have htl : (t.rows.take j).length ≤ 200000 := by rw [List.length_take]; omega
      have hacc : (Ph.putI t.ix ++ (Ph.putI (t.rows.length : Int) ++ (t.rows.take j).flatMap rowB)).length ≤ 300000000 := by
        simp only [List.length_append]
        omega
      have hnext : (Ph.putI t.ix ++ (Ph.putI (t.rows.length : Int) ++ (t.rows.take j).flatMap rowB)) ++ Ph.putT (encB r.b) = (Ph.putI t.ix ++ (Ph.putI (t.rows.length : Int) ++ (t.rows.take (j + 1)).flatMap rowB)) := by
        rw [take_of hri]
        simp [rowB]
      have he12 : (encB r.b).length ≤ 1200 := (mayBatch_parts hmb).2.2.2.2
      obtain ⟨acc, hae⟩ : ∃ x, (Ph.putI t.ix ++ (Ph.putI (t.rows.length : Int) ++ (t.rows.take j).flatMap rowB)) = x := ⟨_, rfl⟩
      rw [hae] at hs hw hacc hnext
      repeat (first | (refine sxv hs hw ?_; clear hs; intro a hs) | refine sxc hs ?_ | (refine sxa hs hw ?_; clear hs hw; intro a b W hw hs) | (refine sxs hs hw ?_; clear hs hw; intro W hs hw))
      refine st_index_ch hs (r := hw.rd_own (In.tl (In.tl (In.tl In.hd)))) (hk := RowIn.len) (ch := hch) (ho := hri) (hlen := rfl) (c := ?_); clear hs; intro a g off c hc hcl hpc hlt hs
      obtain ⟨rv, rfl, hrv⟩ := hc
      obtain ⟨rad, rcap, rfl⟩ := hrv.slice
      refine st_load_ats hs (cs := rowCells r (.slice rad r.b.l.length rcap)) (hc := hpc) (hl := by rfl) (c := ?_); clear hs; intro a hs
      clear hpc
      repeat (first | (refine sxv hs hw ?_; clear hs; intro a hs) | refine sxc hs ?_ | (refine sxa hs hw ?_; clear hs hw; intro a b W hw hs) | (refine sxs hs hw ?_; clear hs hw; intro W hs hw))
      refine st_call hs (hc := op_Encode r.b.c r.b.q r.b.l _ _ hbo.c hbo.q hbo.ops (hw.rdH (by repeat (first | exact In.hd | apply In.tl)) hrv) (hT.keep (hw.endF (by repeat (first | exact In.hd | apply In.tl)) hH))) (k := ?_); rintro e0 W1 ⟨ead, ecap, rfl, _, hw1⟩; refine ⟨_, rfl, ?_⟩; clear hs; intro a hs; replace hw := hw.call hw1; clear hw1
      have hif : (if mayBatch r.b.c r.b.q r.b.l = true then textB r.b.c r.b.q r.b.l else []) = encB r.b := by rw [if_pos (show mayBatch r.b.c r.b.q r.b.l = true from hmb)]; rfl
      rw [hif] at hs hw
      refine st_string_b hs (r := hw.rd_own In.hd) (k := ?_); clear hs; intro a hs
      obtain ⟨b5, q5⟩ : ∃ x : Nat, x = 0 := ⟨0, rfl⟩
      clear b5 q5
      have hw := hw.sub (List.Sublist.cons _ (List.Sublist.refl _))
      have hw := hw.swap2
      refine st_call hs (hc := num_PutText w0 _ _ acc ⟨(encB r.b).toArray⟩ _ (by show (encB r.b).length ≤ _; omega) (by omega) hw) (k := ?_); rintro e0 W1 ⟨ad, cap, rfl, hw1⟩; refine ⟨_, rfl, ?_⟩; clear hs hw; intro a hs; have hw := hw1; clear hw1
      have hds : ((⟨(encB r.b).toArray⟩ : ByteArray).data.toList) = encB r.b := rfl
      rw [hds, hnext] at hs hw
      repeat (first | (refine sxv hs hw ?_; clear hs; intro a hs) | refine sxc hs ?_ | (refine sxa hs hw ?_; clear hs hw; intro a b W hw hs) | (refine sxs hs hw ?_; clear hs hw; intro W hs hw))
      have hw := hw.sub (L' := Sx.OwnB 5 (.slice ad (Ph.putI t.ix ++ (Ph.putI (t.rows.length : Int) ++ (t.rows.take (j + 1)).flatMap rowB)).length cap) (Ph.putI t.ix ++ (Ph.putI (t.rows.length : Int) ++ (t.rows.take (j + 1)).flatMap rowB)) :: Cells p [.int .i64 t.ix, .pointer (some ⟨pf, 0, none⟩), .slice vad t.rows.length vcap] 57 :: FoldAt H pf t.f :: Sx.Own 28 5 (.slice vad t.rows.length vcap) t.rows.length xs :: Fz H :: R) (List.Sublist.cons_cons _ (List.Sublist.cons _ (List.Sublist.refl _)))
      exact st_again (j + 1, ad, cap) hs hw hj' (by show t.rows.length - (j + 1) < t.rows.length - j; omega) ⟨rfl, rfl, int_eq (by show IntKind.i64.wrap ((j : Int) + 1) = ((j + 1 : Nat) : Int); rw [IntWalk.i64_in _ (by omega)]; omega), rfl, trivial⟩
    · have hj' : j = t.rows.length := by have : ¬ j < t.rows.length := by simpa using hcc
                                         omega
      have hdt : (Ph.putI t.ix ++ (Ph.putI (t.rows.length : Int) ++ (t.rows.take j).flatMap rowB)) = dataT t := by
        rw [hj', List.take_length]; rfl
      rw [hdt] at hs hw
      repeat (first | (refine sxv hs hw ?_; clear hs; intro a hs) | refine sxc hs ?_ | (refine sxa hs hw ?_; clear hs hw; intro a b W hw hs) | (refine sxs hs hw ?_; clear hs hw; intro W hs hw))
      refine st_string_b hs (r := hw.rd_own In.hd) (k := ?_); clear hs; intro a hs
      repeat (first | (refine sxv hs hw ?_; clear hs; intro a hs) | refine sxc hs ?_ | (refine sxa hs hw ?_; clear hs hw; intro a b W hw hs) | (refine sxs hs hw ?_; clear hs hw; intro W hs hw))
      have hw := hw.sub (List.Sublist.cons _ (List.Sublist.refl _))
      exact rt1 hs rfl rfl ⟨rfl, tabShut hw hch⟩
  all_goals
    intro u LD D a W hcl hi hp hs hw
    repeat (first | (refine sxv hs hw ?_; clear hs; intro a hs) | refine sxc hs ?_ | (refine sxa hs hw ?_; clear hs hw; intro a b W hw hs) | (refine sxs hs hw ?_; clear hs hw; intro W hs hw))
    exact Or.inl ⟨hs, hw⟩
end Go.Proofs.YtalfmomnaghahaaDoor.Sw
