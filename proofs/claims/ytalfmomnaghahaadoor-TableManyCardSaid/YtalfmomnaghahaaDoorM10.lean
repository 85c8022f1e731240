/-
  Texts of the proof, one behind the other (part 10).
-/
import Derived.Test.YtalfmomnaghahaaDoorM9
import Derived.Lib.SmallJoins
/-
  Tables: Load.
-/
set_option linter.unusedVariables false
set_option maxRecDepth 10000
namespace Go.Sx
open Go.RowKit
theorem Has.rdM {G b cap : Nat} {w W W0 : World} {R : List Res} {E : TypeId} {l : List UInt8} {ext : List Value} (h : Has G w W R) (i : In (CellsM b (bys l ++ ext) E) R) (r0 : RdB W0 (.slice (some ⟨b, 0, none⟩) l.length cap) l) : RdB W (.slice (some ⟨b, 0, none⟩) l.length cap) l := by
  obtain ⟨h1, ad, c2, e, h3, h4, h5⟩ := r0
  injection e with e1 e2 e3
  subst e1 e3
  refine ⟨h1, _, _, rfl, h3, h4, .inr ⟨b, 0, rfl, (h.blockM i).2.2, fun j u hj => ?_⟩⟩
  rw [cell_m (h.blockM i).1, Nat.zero_add]
  have hj2 := (List.getElem?_eq_some_iff.1 hj).1
  rw [List.getElem?_append_left hj2]; exact hj
end Go.Sx
namespace Go.Proofs.YtalfmomnaghahaaDoor.Sw
open Go.RowKit Go.Sx

theorem loadT_head {l : List UInt8} (h : headT l = none) : loadT l = none := by unfold loadT; rw [h]
theorem loadRows_succ (m : Nat) (f : FoldD) (rs : List RowD) (s : List UInt8) : loadRows (m + 1) f rs s = match (Ph.getT s).2.2 == 0, decode (Ph.getT s).1 with
    | true, some p => (match (next f (batOf p)).2.2 with
       | true => loadRows m (next f (batOf p)).1 (rs ++ [(next f (batOf p)).2.1]) (s.drop (Ph.getT s).2.1)
       | false => none)
    | _, _ => none := rfl

set_option maxHeartbeats 32000000 in
theorem table_Load (w0 W : World) (H : Fh) (s : ByteArray) (R : List Res) (hl : s.size ≤ 200000) (hH : (fr w0).le H) (hT : Tabs w0) (hw : Has 0 w0 W (Fz H :: R)) :
    Calls Tryd.prog 14 ⟨[.string s]⟩ W fun e W' => ∃ H', H.le H' ∧ ((loadT s.data.toList = none ∧ e = .returned (.tuple ⟨[.pointer none, .int .i64 1]⟩) ∧ Has 0 w0 W' (Fz H' :: R)) ∨ ∃ t p, loadT s.data.toList = some t ∧ e = .returned (.tuple ⟨[.pointer (some ⟨p, 0, none⟩), .int .i64 0]⟩) ∧ Has 0 w0 W' (TabAt H' p t :: Fz H' :: R)) := by
  refine enter Tryd.func14 Tryd.ntmps14 rfl rfl fun a hs => ?_
  repeat (first | (refine sxv hs hw ?_; clear hs; intro a hs) | refine sxc hs ?_ | (refine sxa hs hw ?_; clear hs hw; intro a b W hw hs) | (refine sxs hs hw ?_; clear hs hw; intro W hs hw))
  refine st_bytes (s := s) hs hw (by omega) (c := ?_); clear hs hw; intro a bb cap0 ext W hw hr0 hs
  have hll : s.data.toList.length ≤ 200000 := by rw [Array.length_toList]; exact hl
  generalize s.data.toList = l at *
  repeat (first | (refine sxv hs hw ?_; clear hs; intro a hs) | refine sxc hs ?_ | (refine sxa hs hw ?_; clear hs hw; intro a b W hw hs) | (refine sxs hs hw ?_; clear hs hw; intro W hs hw))
  refine st_call hs (hc := num_Get _ _ l (hw.rdM In.hd hr0)) (k := ?_); rintro e0 W1 ⟨rfl, rfl⟩; refine ⟨_, rfl, ?_⟩; clear hs; intro a hs
  have hk1 := Ph.getI_le l
  obtain ⟨⟨ix, k, err⟩, hg⟩ : ∃ x, Ph.getI l = x := ⟨_, rfl⟩
  rw [hg] at hs hk1
  simp only at hs hk1
  repeat (first | (refine sxv hs hw ?_; clear hs; intro a hs) | refine sxc hs ?_ | (refine sxa hs hw ?_; clear hs hw; intro a b W hw hs) | (refine sxs hs hw ?_; clear hs hw; intro W hs hw))
  cases c1 : (err != 0) with
  | true =>
    rw [c1] at hs
    have he : err ≠ 0 := by simpa using c1
    have hX : loadT l = none := loadT_head (by unfold headT; rw [hg, if_neg (fun h => he h.1)])
    repeat (first | (refine sxv hs hw ?_; clear hs; intro a hs) | refine sxc hs ?_ | (refine sxa hs hw ?_; clear hs hw; intro a b W hw hs) | (refine sxs hs hw ?_; clear hs hw; intro W hs hw))
    exact rt2 hs rfl rfl rfl ⟨H, Fh.le.refl _, .inl ⟨hX, rfl, hw.sub (List.Sublist.cons _ (List.Sublist.refl _))⟩⟩
  | false =>
  rw [c1] at hs
  have he1 : err = 0 := by simpa using c1
  repeat (first | (refine sxv hs hw ?_; clear hs; intro a hs) | refine sxc hs ?_ | (refine sxa hs hw ?_; clear hs hw; intro a b W hw hs) | (refine sxs hs hw ?_; clear hs hw; intro W hs hw))
  cases c2 : decide (ix < 0) with
  | true =>
    rw [c2] at hs
    have g2 := of_decide_eq_true c2
    have hX : loadT l = none := loadT_head (by unfold headT; rw [hg, if_neg (fun h => by have := h.2.1; simp only at this; omega)])
    repeat (first | (refine sxv hs hw ?_; clear hs; intro a hs) | refine sxc hs ?_ | (refine sxa hs hw ?_; clear hs hw; intro a b W hw hs) | (refine sxs hs hw ?_; clear hs hw; intro W hs hw))
    exact rt2 hs rfl rfl rfl ⟨H, Fh.le.refl _, .inl ⟨hX, rfl, hw.sub (List.Sublist.cons _ (List.Sublist.refl _))⟩⟩
  | false =>
  rw [c2] at hs
  have g2 := of_decide_eq_false c2
  repeat (first | (refine sxv hs hw ?_; clear hs; intro a hs) | refine sxc hs ?_ | (refine sxa hs hw ?_; clear hs hw; intro a b W hw hs) | (refine sxs hs hw ?_; clear hs hw; intro W hs hw))
  cases c3 : decide (ix > 1099511627776) with
  | true =>
    rw [c3] at hs
    have g3 := of_decide_eq_true c3
    have hX : loadT l = none := loadT_head (by unfold headT; rw [hg, if_neg (fun h => by have := h.2.2; simp only at this; omega)])
    repeat (first | (refine sxv hs hw ?_; clear hs; intro a hs) | refine sxc hs ?_ | (refine sxa hs hw ?_; clear hs hw; intro a b W hw hs) | (refine sxs hs hw ?_; clear hs hw; intro W hs hw))
    exact rt2 hs rfl rfl rfl ⟨H, Fh.le.refl _, .inl ⟨hX, rfl, hw.sub (List.Sublist.cons _ (List.Sublist.refl _))⟩⟩
  | false =>
  rw [c3] at hs
  have g3 := of_decide_eq_false c3
  repeat (first | (refine sxv hs hw ?_; clear hs; intro a hs) | refine sxc hs ?_ | (refine sxa hs hw ?_; clear hs hw; intro a b W hw hs) | (refine sxs hs hw ?_; clear hs hw; intro W hs hw))
  refine st_slice_lo_b (hs := hs) (r := hw.rdM In.hd hr0) (h0 := by omega) (h1 := by omega) (c := ?_); clear hs; intro a ad1 cap1 r1 hs
  rw [Int.toNat_natCast] at hs r1
  repeat (first | (refine sxv hs hw ?_; clear hs; intro a hs) | refine sxc hs ?_ | (refine sxa hs hw ?_; clear hs hw; intro a b W hw hs) | (refine sxs hs hw ?_; clear hs hw; intro W hs hw))
  refine st_call hs (hc := num_Get _ _ (l.drop k) r1) (k := ?_); rintro e0 W1 ⟨rfl, rfl⟩; refine ⟨_, rfl, ?_⟩; clear hs r1; intro a hs
  have hk2 := Ph.getI_le (l.drop k)
  obtain ⟨⟨n, m, err2⟩, hg2⟩ : ∃ x, Ph.getI (l.drop k) = x := ⟨_, rfl⟩
  rw [hg2] at hs hk2
  rw [List.length_drop] at hk2
  simp only at hs hk2
  have hhd : headT l = if err2 = 0 ∧ 0 ≤ n ∧ n ≤ ix ∧ n ≤ l.length then some (ix, n.toNat, l.drop (k + m)) else none := by
    unfold headT
    rw [hg]
    simp only
    rw [hg2, if_pos ⟨he1, by omega, by omega⟩]
  repeat (first | (refine sxv hs hw ?_; clear hs; intro a hs) | refine sxc hs ?_ | (refine sxa hs hw ?_; clear hs hw; intro a b W hw hs) | (refine sxs hs hw ?_; clear hs hw; intro W hs hw))
  cases c4 : (err2 != 0) with
  | true =>
    rw [c4] at hs
    have he : err2 ≠ 0 := by simpa using c4
    have hX : loadT l = none := loadT_head (by rw [hhd, if_neg (fun h => he h.1)])
    repeat (first | (refine sxv hs hw ?_; clear hs; intro a hs) | refine sxc hs ?_ | (refine sxa hs hw ?_; clear hs hw; intro a b W hw hs) | (refine sxs hs hw ?_; clear hs hw; intro W hs hw))
    exact rt2 hs rfl rfl rfl ⟨H, Fh.le.refl _, .inl ⟨hX, rfl, hw.sub (List.Sublist.cons _ (List.Sublist.refl _))⟩⟩
  | false =>
  rw [c4] at hs
  have he2 : err2 = 0 := by simpa using c4
  repeat (first | (refine sxv hs hw ?_; clear hs; intro a hs) | refine sxc hs ?_ | (refine sxa hs hw ?_; clear hs hw; intro a b W hw hs) | (refine sxs hs hw ?_; clear hs hw; intro W hs hw))
  cases c5 : decide (n < 0) with
  | true =>
    rw [c5] at hs
    have g5 := of_decide_eq_true c5
    have hX : loadT l = none := loadT_head (by rw [hhd, if_neg (fun h => by have := h.2.1; omega)])
    repeat (first | (refine sxv hs hw ?_; clear hs; intro a hs) | refine sxc hs ?_ | (refine sxa hs hw ?_; clear hs hw; intro a b W hw hs) | (refine sxs hs hw ?_; clear hs hw; intro W hs hw))
    exact rt2 hs rfl rfl rfl ⟨H, Fh.le.refl _, .inl ⟨hX, rfl, hw.sub (List.Sublist.cons _ (List.Sublist.refl _))⟩⟩
  | false =>
  rw [c5] at hs
  have g5 := of_decide_eq_false c5
  repeat (first | (refine sxv hs hw ?_; clear hs; intro a hs) | refine sxc hs ?_ | (refine sxa hs hw ?_; clear hs hw; intro a b W hw hs) | (refine sxs hs hw ?_; clear hs hw; intro W hs hw))
  cases c6 : decide (n > ix) with
  | true =>
    rw [c6] at hs
    have g6 := of_decide_eq_true c6
    have hX : loadT l = none := loadT_head (by rw [hhd, if_neg (fun h => by have := h.2.2.1; omega)])
    repeat (first | (refine sxv hs hw ?_; clear hs; intro a hs) | refine sxc hs ?_ | (refine sxa hs hw ?_; clear hs hw; intro a b W hw hs) | (refine sxs hs hw ?_; clear hs hw; intro W hs hw))
    exact rt2 hs rfl rfl rfl ⟨H, Fh.le.refl _, .inl ⟨hX, rfl, hw.sub (List.Sublist.cons _ (List.Sublist.refl _))⟩⟩
  | false =>
  rw [c6] at hs
  have g6 := of_decide_eq_false c6
  repeat (first | (refine sxv hs hw ?_; clear hs; intro a hs) | refine sxc hs ?_ | (refine sxa hs hw ?_; clear hs hw; intro a b W hw hs) | (refine sxs hs hw ?_; clear hs hw; intro W hs hw))
  cases c7 : decide (n > (l.length : Int)) with
  | true =>
    rw [c7] at hs
    have g7 := of_decide_eq_true c7
    have hX : loadT l = none := loadT_head (by rw [hhd, if_neg (fun h => by have := h.2.2.2; omega)])
    repeat (first | (refine sxv hs hw ?_; clear hs; intro a hs) | refine sxc hs ?_ | (refine sxa hs hw ?_; clear hs hw; intro a b W hw hs) | (refine sxs hs hw ?_; clear hs hw; intro W hs hw))
    exact rt2 hs rfl rfl rfl ⟨H, Fh.le.refl _, .inl ⟨hX, rfl, hw.sub (List.Sublist.cons _ (List.Sublist.refl _))⟩⟩
  | false =>
  rw [c7] at hs
  have g7 := of_decide_eq_false c7
  obtain ⟨nn, rfl⟩ := Int.eq_ofNat_of_zero_le (show 0 ≤ n by omega)
  rw [if_pos ⟨he2, by omega, by omega, by omega⟩, Int.toNat_natCast] at hhd
  have hload : loadT l = match loadRows nn emptyF [] (l.drop (k + m)) with
      | none => none
      | some (f, rs) => if dataT ⟨ix, f, rs⟩ = l then some ⟨ix, f, rs⟩ else none := by
    unfold loadT; rw [hhd]; rfl
  repeat (first | (refine sxv hs hw ?_; clear hs; intro a hs) | refine sxc hs ?_ | (refine sxa hs hw ?_; clear hs hw; intro a b W hw hs) | (refine sxs hs hw ?_; clear hs hw; intro W hs hw))
  refine st_call hs (hc := table_New w0 _ H _ hw) (k := ?_); rintro e0 W1 ⟨p, rfl, hw1⟩; refine ⟨_, rfl, ?_⟩; clear hs hw; intro a hs; have hw := hw1; clear hw1
  repeat (first | (refine sxv hs hw ?_; clear hs; intro a hs) | refine sxn hs ?_ | (refine sxa hs hw ?_; clear hs hw; intro a b W hw hs) | (refine sxs hs hw ?_; clear hs hw; intro W hs hw))
  have ea : IntKind.i64.wrap ((k : Int) + (m : Int)) = ((k + m : Nat) : Int) := by rw [IntWalk.i64_in _ (by omega)]; omega
  rw [ea] at hs
  refine sq ?_
  refine merge (M := fun a W => ∃ (t : TabD) (H' : Fh), H.le H' ∧ t.ix = 0 ∧ loadRows nn emptyF [] (l.drop (k + m)) = some (t.f, t.rows) ∧ t.rows.length = nn ∧ (∀ r ∈ t.rows, BatOk r.b ∧ mayB r.b = true) ∧ Slots a 122 [(4, .slice (some ⟨bb, 0, none⟩) l.length cap0), (5, .int .i64 ix), (10, .pointer (some ⟨p, 0, none⟩))] ∧ Has 0 w0 W (TabAt H' p t :: Fz H' :: CellsM bb (bys l ++ ext) 5 :: R)) ?_ ?_
  · repeat (first | (refine sxv hs hw ?_; clear hs; intro a hs) | refine sxc hs ?_ | (refine sxa hs hw ?_; clear hs hw; intro a b W hw hs) | (refine sxs hs hw ?_; clear hs hw; intro W hs hw))
    refine st_loop (σ := Nat × TabD × Nat × Fh) (fun u => [(4, .slice (some ⟨bb, 0, none⟩) l.length cap0), (5, .int .i64 ix), (10, .pointer (some ⟨p, 0, none⟩)), (11, .int .i64 (u.2.2.1 : Int)), (65, .int .i64 (nn : Int)), (66, .int .i64 (u.1 : Int))]) (fun u => TabAt u.2.2.2 p u.2.1 :: Fz u.2.2.2 :: CellsM bb (bys l ++ ext) 5 :: R) (fun u => u.1 ≤ nn ∧ u.2.1.ix = 0 ∧ u.2.1.rows.length = u.1 ∧ u.2.2.1 ≤ l.length ∧ H.le u.2.2.2 ∧ loadRows (nn - u.1) u.2.1.f u.2.1.rows (l.drop u.2.2.1) = loadRows nn emptyF [] (l.drop (k + m)) ∧ ∀ r ∈ u.2.1.rows, BatOk r.b ∧ mayB r.b = true) (fun u => nn - u.1) (0, emptyT, k + m, H) ⟨Nat.zero_le _, rfl, rfl, by show k + m ≤ l.length; omega, Fh.le.refl _, rfl, by simp [emptyT]⟩ hs ⟨rfl, rfl, rfl, rfl, rfl, rfl, trivial⟩ (hw.perm (by repeat (first | exact List.Perm.refl _ | refine perm_pick (by repeat (first | exact Pick.hd | apply Pick.tl)) ?_))) ?_
    clear hs hw
    rintro ⟨j, t, at_, H0⟩ a W ⟨hj, hix, hrl, hat, hH0, hgo, hbk⟩ hs hw
    simp only at hj hix hrl hat hH0 hgo hbk hs hw
    repeat (first | (refine sxv hs hw ?_; clear hs; intro a hs) | refine sxc hs ?_ | (refine sxa hs hw ?_; clear hs hw; intro a b W hw hs) | (refine sxs hs hw ?_; clear hs hw; intro W hs hw))
    refine cd_split hs (kt := fun hcc => ?_) (kf := fun hcc => ?_)
    · have hj' : j < nn := by simpa using hcc
      rw [show nn - j = (nn - (j + 1)) + 1 by omega, loadRows_succ] at hgo
      repeat (first | (refine sxv hs hw ?_; clear hs; intro a hs) | refine sxc hs ?_ | (refine sxa hs hw ?_; clear hs hw; intro a b W hw hs) | (refine sxs hs hw ?_; clear hs hw; intro W hs hw))
      refine st_slice_lo_b (hs := hs) (r := hw.rdM (In.tl (In.tl In.hd)) hr0) (h0 := by omega) (h1 := by omega) (c := ?_); clear hs; intro a ad2 cap2 r2 hs
      rw [Int.toNat_natCast] at hs r2
      repeat (first | (refine sxv hs hw ?_; clear hs; intro a hs) | refine sxc hs ?_ | (refine sxa hs hw ?_; clear hs hw; intro a b W hw hs) | (refine sxs hs hw ?_; clear hs hw; intro W hs hw))
      refine st_call hs (hc := num_GetText _ _ (l.drop at_) r2) (k := ?_); rintro e0 W1 ⟨rfl, rfl⟩; refine ⟨_, rfl, ?_⟩; clear hs r2; intro a hs
      have hk3 := getT_le (l.drop at_)
      have hts := getT_size (l.drop at_)
      obtain ⟨⟨x, kx, err3⟩, hg3⟩ : ∃ x, Ph.getT (l.drop at_) = x := ⟨_, rfl⟩
      rw [hg3] at hs hk3 hgo hts
      rw [List.length_drop] at hk3 hts
      simp only at hs hk3 hgo hts
      repeat (first | (refine sxv hs hw ?_; clear hs; intro a hs) | refine sxc hs ?_ | (refine sxa hs hw ?_; clear hs hw; intro a b W hw hs) | (refine sxs hs hw ?_; clear hs hw; intro W hs hw))
      cases c8 : (err3 != 0) with
      | true =>
        rw [c8] at hs
        have he : (err3 == 0) = false := by simpa using c8
        rw [he] at hgo
        have hX : loadT l = none := by rw [hload, ← hgo]
        repeat (first | (refine sxv hs hw ?_; clear hs; intro a hs) | refine sxc hs ?_ | (refine sxa hs hw ?_; clear hs hw; intro a b W hw hs) | (refine sxs hs hw ?_; clear hs hw; intro W hs hw))
        exact rt2 hs rfl rfl rfl ⟨H0, hH0, .inl ⟨hX, rfl, hw.sub (List.Sublist.cons _ (List.Sublist.cons_cons _ (List.Sublist.cons _ (List.Sublist.refl _))))⟩⟩
      | false =>
      rw [c8] at hs
      have he3 : (err3 == 0) = true := by simpa using c8
      rw [he3] at hgo
      repeat (first | (refine sxv hs hw ?_; clear hs; intro a hs) | refine sxc hs ?_ | (refine sxa hs hw ?_; clear hs hw; intro a b W hw hs) | (refine sxs hs hw ?_; clear hs hw; intro W hs hw))
      have ea2 : IntKind.i64.wrap ((at_ : Int) + (kx : Int)) = ((at_ + kx : Nat) : Int) := by rw [IntWalk.i64_in _ (by omega)]; omega
      rw [ea2] at hs
      refine st_bytes (s := ⟨x.toArray⟩) hs hw (by show x.length ≤ _; have : x.length ≤ l.length - at_ := hts; omega) (c := ?_); clear hs hw; intro a bx0 cap3 ext3 W hw hr3 hs
      have hw := hw.sub (List.Sublist.cons _ (List.Sublist.refl _))
      have hxl : x.length ≤ 1000000 := by have : x.length ≤ l.length - at_ := hts; omega
      obtain ⟨⟨⟨c, q, ol⟩, err⟩, hdec⟩ : ∃ y, decR x = y := ⟨_, rfl⟩
      refine st_call hs (hc := op_DecodeR x c q ol err hdec _ _ hxl hr3 (hT.keep (hw.endF (In.tl In.hd) (hH.trans hH0)))) (k := ?_); rintro e0 W1 ⟨dad, dcap, rfl, hw1⟩; refine ⟨_, rfl, ?_⟩; clear hs; intro a hs; replace hw := hw.call hw1; clear hw1
      have hw : Has 0 w0 _ (Sx.Own 41 9 (.slice dad ol.length dcap) ol.length (ol.flatMap opCells) :: Fz H0 :: TabAt H0 p t :: CellsM bb (bys l ++ ext) 5 :: R) := hw.perm (by repeat (first | exact List.Perm.refl _ | refine perm_pick (by repeat (first | exact Pick.hd | apply Pick.tl)) ?_))
      obtain ⟨H1, hle01, hw, hbl⟩ := hw.freeze_own
      have hH1 := hH.trans (hH0.trans hle01)
      have hw := (tabLe hw.swap2 hle01)
      repeat (first | (refine sxv hs hw ?_; clear hs; intro a hs) | refine sxc hs ?_ | (refine sxa hs hw ?_; clear hs hw; intro a b W hw hs) | (refine sxs hs hw ?_; clear hs hw; intro W hs hw))
      obtain ⟨b15, q15⟩ := nm1 hw; subst q15
      have hw : Has 0 w0 _ (TabAt H1 p t :: Fz H1 :: CellsM bb (bys l ++ ext) 5 :: Cells b15 [.int .i64 c, .int .i64 q, .slice dad ol.length dcap] 25 :: R) := hw.perm (by repeat (first | exact List.Perm.refl _ | refine perm_pick (by repeat (first | exact Pick.hd | apply Pick.tl)) ?_))
      cases hdo : decode x with
      | none =>
        have he : err = 1 := by unfold decR at hdec; rw [hdo] at hdec; simp at hdec; exact hdec.2.symm
        subst he
        rw [hdo] at hgo
        have hX : loadT l = none := by rw [hload, ← hgo]
        repeat (first | (refine sxv hs hw ?_; clear hs; intro a hs) | refine sxc hs ?_ | (refine sxa hs hw ?_; clear hs hw; intro a b W hw hs) | (refine sxs hs hw ?_; clear hs hw; intro W hs hw))
        exact rt2 hs rfl rfl rfl ⟨H1, hH0.trans hle01, .inl ⟨hX, rfl, hw.sub (List.Sublist.cons _ (List.Sublist.cons_cons _ (List.Sublist.cons _ (List.Sublist.cons _ (List.Sublist.refl _)))))⟩⟩
      | some pd =>
      have hpe : pd = (c, q, ol) ∧ err = 0 := by unfold decR at hdec; rw [hdo] at hdec; simp at hdec; exact ⟨hdec.1, hdec.2.symm⟩
      obtain ⟨rfl, rfl⟩ := hpe
      have hdk := decode_ok hxl hdo
      rw [hdo] at hgo
      obtain ⟨bt, hbt⟩ : ∃ b : BatchD, b = ⟨c, q, ol⟩ := ⟨_, rfl⟩
      have hbo : BatOk bt := by rw [hbt]; exact ⟨hdk.1, hdk.2.1, hdk.2.2.2⟩
      have hbe : batOf (c, q, ol) = bt := by rw [hbt]; rfl
      simp only at hgo
      rw [hbe] at hgo
      obtain ⟨rfl, rfl, rfl⟩ : c = bt.c ∧ q = bt.q ∧ ol = bt.l := by rw [hbt]; exact ⟨rfl, rfl, rfl⟩
      clear hbt hdo hdec hdk hbe
      obtain ⟨bad, hbad⟩ : ∃ x, x = dad := ⟨_, rfl⟩
      obtain ⟨bcap, hbcap⟩ : ∃ x, x = dcap := ⟨_, rfl⟩
      subst hbad hbcap
      obtain ⟨N, hN⟩ : ∃ N, next t.f bt = N := ⟨_, rfl⟩
      rw [hN] at hgo
      have hbl : OpsH H1 (.slice bad bt.l.length bcap) bt.l := hbl
      obtain ⟨pf, vad, vcap, xs, hch, hw⟩ := tabOpen hw
      rw [hix] at hw
      repeat (first | (refine sxv hs hw ?_; clear hs; intro a hs) | refine sxc hs ?_ | (refine sxa hs hw ?_; clear hs hw; intro a b W hw hs) | (refine sxs hs hw ?_; clear hs hw; intro W hs hw))
      have hw : Has 0 w0 _ (Fz H1 :: FoldAt H1 pf t.f :: Free :: Free :: Free :: Cells p [.int .i64 0, .pointer (some ⟨pf, 0, none⟩), .slice vad t.rows.length vcap] 57 :: Cells b15 (batCells bt (.slice bad bt.l.length bcap)) 25 :: Sx.Own 28 5 (.slice vad t.rows.length vcap) t.rows.length xs :: CellsM bb (bys l ++ ext) 5 :: R) := (hw.free.free.free).perm (by repeat (first | exact List.Perm.refl _ | refine perm_pick (by repeat (first | exact Pick.hd | apply Pick.tl)) ?_))
      refine rg_drawU (σ := Value × Fh × Nat) (V := fun u => [.pointer (some ⟨p, 0, none⟩), .pointer (some ⟨p, 0, none⟩), .pointer (some ⟨p, 0 + 1, none⟩), .pointer (some ⟨pf, 0, none⟩), .agg ⟨batCells bt (.slice bad bt.l.length bcap)⟩, .tuple ⟨[.agg ⟨rowCells N.2.1 (u 5).1⟩, .bool N.2.2]⟩, .tuple ⟨[.agg ⟨rowCells N.2.1 (u 6).1⟩, .bool N.2.2]⟩, .agg ⟨rowCells N.2.1 (u 7).1⟩, .bool N.2.2, .pointer (some ⟨(u 9).2.2, 0, none⟩), .bool true, .bool N.2.2])
        (Rs := fun u D => (if D 5 then FzF (u 5).2.1 (H1.le (u 5).2.1 ∧ OpsH (u 5).2.1 (u 5).1 N.2.1.b.l) else Fz H1) :: (if D 5 then FoldAt (u 5).2.1 pf N.1 else FoldAt H1 pf t.f) :: (if D 9 then Cells (u 9).2.2 (if D 10 then rowCells N.2.1 (u 5).1 else zrc) 28 else Free) :: (if D 6 then Fact (u 6 = u 5) else Free) :: (if D 7 then Fact (u 7 = u 6) else Free) :: Cells p [.int .i64 0, .pointer (some ⟨pf, 0, none⟩), .slice vad t.rows.length vcap] 57 :: Cells b15 (batCells bt (.slice bad bt.l.length bcap)) 25 :: Sx.Own 28 5 (.slice vad t.rows.length vcap) t.rows.length xs :: CellsM bb (bys l ++ ext) 5 :: R) (fun _ => (.nilIface, H1, 0)) hs hw (hVu := ?vu_2) (ho := ⟨?_, ?_, ?_, ?_, ?_, ?c5_2, ?c6_2, ?c7_2, ?_, ?c9_2, ?c10_2, ?_, trivial⟩) (k := ?k_2)
      case vu_2 =>
        intro u u' j h
        rcases j with _ | _ | _ | _ | _ | _ | _ | _ | _ | _ | _ | _ | j
        all_goals first | rfl | simp [h]
      case c5_2 =>
        intro u LD D a W hcl hi hp hs hw
        have h6 := Go.Sx.not_done hcl hi 6 (by kernel_rfl)
        have h7 := Go.Sx.not_done hcl h6 7 (by kernel_rfl)
        have h10 := Go.Sx.not_done hcl h7 10 (by kernel_rfl)
        simp only [hi, h6, h7, h10, Bool.false_eq_true, if_false] at hw
        have hw := hw.swap2
        refine st_call hs (hc := fold_Next w0 _ H1 pf t.f bt _ _ hbo hbl hH1 hT hw) (k := ?_); rw [hN]; rintro e0 W1 ⟨sv', H2, rfl, hle, hsv, hw1⟩; refine ⟨_, rfl, ?_⟩; clear hs hw; intro a hs; have hw := hw1; clear hw1
        repeat (first | (refine sxv hs hw ?_; clear hs; intro a hs) | refine sxc hs ?_ | (refine sxa hs hw ?_; clear hs hw; intro a b W hw hs) | (refine sxs hs hw ?_; clear hs hw; intro W hs hw))
        refine Or.inr ⟨(sv', H2, 0), hs, ?_⟩
        have hw := (hw.swap2).fzf (q := H1.le H2 ∧ OpsH H2 sv' N.2.1.b.l) ⟨hle, hsv⟩
        show Has 0 w0 _ (_ :: _ :: (if D 9 then Cells (u 9).2.2 (if (Nat.beq 10 5 || D 10) = true then _ else _) _ else Free) :: (if (Nat.beq 6 5 || D 6) = true then _ else _) :: (if (Nat.beq 7 5 || D 7) = true then _ else _) :: _)
        rw [h6, h7, h10]
        exact hw
      case c6_2 =>
        intro u LD D a W hcl hi hp hs hw
        have h7 := Go.Sx.not_done hcl hi 7 (by kernel_rfl)
        simp only [hi, h7, Bool.false_eq_true, if_false] at hw
        repeat (first | (refine sxv hs hw ?_; clear hs; intro a hs) | refine sxc hs ?_ | (refine sxa hs hw ?_; clear hs hw; intro a b W hw hs) | (refine sxs hs hw ?_; clear hs hw; intro W hs hw))
        refine Or.inr ⟨u 5, hs, ?_⟩
        show Has 0 w0 _ (_ :: _ :: _ :: Fact (u 5 = u 5) :: (if (Nat.beq 7 6 || D 7) = true then _ else _) :: _)
        rw [h7]
        exact (hw.fact rfl).fill (Upd.tl (Upd.tl (Upd.tl Upd.hd)))
      case c7_2 =>
        intro u LD D a W hcl hi hp hs hw
        simp only [hi, Bool.false_eq_true, if_false] at hw
        repeat (first | (refine sxv hs hw ?_; clear hs; intro a hs) | refine sxc hs ?_ | (refine sxa hs hw ?_; clear hs hw; intro a b W hw hs) | (refine sxs hs hw ?_; clear hs hw; intro W hs hw))
        refine Or.inr ⟨u 6, hs, ?_⟩
        show Has 0 w0 _ (_ :: _ :: _ :: _ :: Fact (u 6 = u 6) :: _)
        exact (hw.fact rfl).fill (Upd.tl (Upd.tl (Upd.tl (Upd.tl Upd.hd))))
      case c9_2 =>
        intro u LD D a W hcl hi hp hs hw
        have h10 := Go.Sx.not_done hcl hi 10 (by kernel_rfl)
        simp only [hi, Bool.false_eq_true, if_false] at hw
        repeat (first | (refine sxv hs hw ?_; clear hs; intro a hs) | refine sxc hs ?_ | (refine sxa hs hw ?_; clear hs hw; intro a b W hw hs) | (refine sxs hs hw ?_; clear hs hw; intro W hs hw))
        refine Or.inr ⟨(.nilIface, H1, _), hs, ?_⟩
        show Has 0 w0 _ (_ :: _ :: Cells _ (if (Nat.beq 10 9 || D 10) = true then _ else _) _ :: _)
        rw [h10]
        exact hw.fill (Upd.tl (Upd.tl Upd.hd))
      case c10_2 =>
        intro u LD D a W hcl hi hp hs hw
        have h7 := Go.Sx.done hp 7 (by kernel_rfl)
        have h9 := Go.Sx.done hp 9 (by kernel_rfl)
        have h6 := Go.Sx.done (hcl 7 _ rfl h7) 6 (by kernel_rfl)
        have h5 := Go.Sx.done (hcl 6 _ rfl h6) 5 (by kernel_rfl)
        have e1 : (if D 7 = true then Fact (u 7 = u 6) else Free) = Fact (u 7 = u 6) := by rw [h7]; rfl
        have e2 : (if D 6 = true then Fact (u 6 = u 5) else Free) = Fact (u 6 = u 5) := by rw [h6]; rfl
        have g7 : u 7 = u 5 := by
          have hw2 := hw
          simp only [e1, e2] at hw2
          exact (hw2.told (In.tl (In.tl (In.tl (In.tl In.hd))))).trans (hw2.told (In.tl (In.tl (In.tl In.hd))))
        simp only [hi, h5, h9, Bool.false_eq_true, if_false, if_true] at hw
        obtain ⟨⟨_, hsv⟩, _⟩ := hw.unfzf
        obtain ⟨tad, tcap, e13⟩ := hsv.slice
        refine st_store hs (hw := hw) (vs := rowCells N.2.1 (u 7).1) (h1 := by rw [g7, e13]; rfl) (k := ?_); clear hs hw; intro W hs hw
        rw [show (u 7).1 = (u 5).1 from by rw [g7]] at hw
        repeat (first | (refine sxv hs hw ?_; clear hs; intro a hs) | refine sxc hs ?_ | (refine sxa hs hw ?_; clear hs hw; intro a b W hw hs) | (refine sxs hs hw ?_; clear hs hw; intro W hs hw))
        refine Or.inl ⟨hs, ?_⟩
        show Has 0 w0 _ ((if (Nat.beq 5 10 || D 5) = true then _ else _) :: (if (Nat.beq 5 10 || D 5) = true then _ else _) :: (if (Nat.beq 9 10 || D 9) = true then _ else _) :: _)
        rw [h5, h9]
        exact hw
      case k_2 =>
        clear hs hw
        intro u a W hs hw
        replace hw : Has 0 w0 W (FzF (u 5).2.1 (H1.le (u 5).2.1 ∧ OpsH (u 5).2.1 (u 5).1 N.2.1.b.l) :: FoldAt (u 5).2.1 pf N.1 :: Cells (u 9).2.2 (rowCells N.2.1 (u 5).1) 28 :: Fact (u 6 = u 5) :: Fact (u 7 = u 6) :: Cells p [.int .i64 0, .pointer (some ⟨pf, 0, none⟩), .slice vad t.rows.length vcap] 57 :: Cells b15 (batCells bt (.slice bad bt.l.length bcap)) 25 :: Sx.Own 28 5 (.slice vad t.rows.length vcap) t.rows.length xs :: CellsM bb (bys l ++ ext) 5 :: R) := hw
        replace hw := hw.sub (L' := FzF (u 5).2.1 (H1.le (u 5).2.1 ∧ OpsH (u 5).2.1 (u 5).1 N.2.1.b.l) :: FoldAt (u 5).2.1 pf N.1 :: Cells (u 9).2.2 (rowCells N.2.1 (u 5).1) 28 :: Cells p [.int .i64 0, .pointer (some ⟨pf, 0, none⟩), .slice vad t.rows.length vcap] 57 :: Cells b15 (batCells bt (.slice bad bt.l.length bcap)) 25 :: Sx.Own 28 5 (.slice vad t.rows.length vcap) t.rows.length xs :: CellsM bb (bys l ++ ext) 5 :: R) (List.Sublist.cons_cons _ (List.Sublist.cons_cons _ (List.Sublist.cons_cons _ (List.Sublist.cons _ (List.Sublist.cons _ (List.Sublist.refl _))))))
        replace hs : Slots a 122 [(4, .slice (some ⟨bb, 0, none⟩) l.length cap0), (5, .int .i64 ix), (10, .pointer (some ⟨p, 0, none⟩)), (11, .int .i64 ((at_ + kx : Nat) : Int)), (65, .int .i64 (nn : Int)), (66, .int .i64 (j : Int)), (16, .pointer (some ⟨(u 9).2.2, 0, none⟩)), (17, .bool N.2.2)] := hs.of ⟨rfl, rfl, rfl, rfl, rfl, rfl, rfl, rfl, trivial⟩
        generalize (u 9).2.2 = b8 at *
        generalize (u 5).2.1 = H2 at *
        generalize (u 5).1 = sv2 at *
        clear u
        obtain ⟨⟨hle2, hsv⟩, hw⟩ := hw.unfzf
        obtain ⟨xad, xcap, rfl⟩ := hsv.slice
        replace hch := hch.mono (RowIn.le hle2)
        have hrl2 : t.rows.length ≤ 200000 := by omega
        cases hok : N.2.2 with
        | false =>
          rw [hok] at hs hgo
          have hX : loadT l = none := by rw [hload, ← hgo]
          repeat (first | (refine sxv hs hw ?_; clear hs; intro a hs) | refine sxc hs ?_ | (refine sxa hs hw ?_; clear hs hw; intro a b W hw hs) | (refine sxs hs hw ?_; clear hs hw; intro W hs hw))
          have hw := hw.sub (L' := Fz H2 :: R) (List.Sublist.cons_cons _ (List.Sublist.cons _ (List.Sublist.cons _ (List.Sublist.cons _ (List.Sublist.cons _ (List.Sublist.cons _ (List.Sublist.cons _ (List.Sublist.refl _))))))))
          exact rt2 hs rfl rfl rfl ⟨H2, (hH0.trans hle01).trans hle2, .inl ⟨hX, rfl, hw⟩⟩
        | true =>
          rw [hok] at hs hgo
          simp only at hgo
          have hw : Has 0 w0 W (Cells p [.int .i64 0, .pointer (some ⟨pf, 0, none⟩), .slice vad t.rows.length vcap] 57 :: Fz H2 :: Free :: Sx.Own 28 5 (.slice vad t.rows.length vcap) t.rows.length xs :: Cells b8 (rowCells N.2.1 (.slice xad N.2.1.b.l.length xcap)) 28 :: FoldAt H2 pf N.1 :: Cells b15 (batCells bt (.slice bad bt.l.length bcap)) 25 :: CellsM bb (bys l ++ ext) 5 :: R) := (hw.free).perm (by repeat (first | exact List.Perm.refl _ | refine perm_pick (by repeat (first | exact Pick.hd | apply Pick.tl)) ?_))
          repeat (first | (refine sxv hs hw ?_; clear hs; intro a hs) | refine sxc hs ?_ | (refine sxa hs hw ?_; clear hs hw; intro a b W hw hs) | (refine sxs hs hw ?_; clear hs hw; intro W hs hw))
          refine rg_drawU (σ := Value × Fh × Nat × Option Addr) (V := fun u => [.pointer (some ⟨p, 0, none⟩), .pointer (some ⟨p, 0, none⟩), .pointer (some ⟨p, 0, none⟩), .pointer (some ⟨p, 0 + 2, none⟩), .slice vad t.rows.length vcap, .agg ⟨rowCells N.2.1 (.slice xad N.2.1.b.l.length xcap)⟩, .slice (some ⟨(u 6).2.2.1, 0, none⟩) 1 1, .slice (u 7).2.2.2 (t.rows ++ [N.2.1]).length (u 7).2.2.1, .pointer (some ⟨p, 0, none⟩), .pointer (some ⟨p, 0 + 2, none⟩), .bool true])
            (Rs := fun u D => Cells p [.int .i64 0, .pointer (some ⟨pf, 0, none⟩), (if D 10 then .slice (u 7).2.2.2 (t.rows ++ [N.2.1]).length (u 7).2.2.1 else .slice vad t.rows.length vcap)] 57 :: Fz H2 :: (if D 6 then Cells (u 6).2.2.1 (rowCells N.2.1 (.slice xad N.2.1.b.l.length xcap)) 28 else Free) :: (if D 7 then Sx.Own 28 5 (.slice (u 7).2.2.2 (t.rows ++ [N.2.1]).length (u 7).2.2.1) (t.rows ++ [N.2.1]).length (xs ++ rowCells N.2.1 (.slice xad N.2.1.b.l.length xcap)) else Sx.Own 28 5 (.slice vad t.rows.length vcap) t.rows.length xs) :: Cells b8 (rowCells N.2.1 (.slice xad N.2.1.b.l.length xcap)) 28 :: FoldAt H2 pf N.1 :: Cells b15 (batCells bt (.slice bad bt.l.length bcap)) 25 :: CellsM bb (bys l ++ ext) 5 :: R) (fun _ => (.nilIface, H2, 0, none)) hs hw (hVu := ?vu_1) (ho := ⟨?_, ?_, ?_, ?_, ?c4_1, ?_, ?c6_1, ?c7_1, ?_, ?_, ?c10_1, trivial⟩) (k := ?k_1)
          case vu_1 =>
            intro u u' j h
            rcases j with _ | _ | _ | _ | _ | _ | _ | _ | _ | _ | _ | j
            all_goals first | rfl | simp [h]
          case c4_1 =>
            intro u LD D a W hcl hi hp hs hw
            have hA := Go.Sx.not_done hcl hi 7 (by kernel_rfl)
            have hS := Go.Sx.not_done hcl hA 10 (by kernel_rfl)
            have hw0 := hw
            simp only [hS, Bool.false_eq_true, if_false] at hw
            repeat (first | (refine sxv hs hw ?_; clear hs; intro a hs) | refine sxc hs ?_ | (refine sxa hs hw ?_; clear hs hw; intro a b W hw hs) | (refine sxs hs hw ?_; clear hs hw; intro W hs hw))
            exact Or.inl ⟨hs, hw0⟩
          case c6_1 =>
            intro u LD D a W hcl hi hp hs hw
            have hB := hi
            have hA := Go.Sx.not_done hcl hB 7 (by kernel_rfl)
            have hS := Go.Sx.not_done hcl hA 10 (by kernel_rfl)
            simp only [hi, hA, hS, Bool.false_eq_true, if_false] at hw
            repeat (first | (refine sxv hs hw ?_; clear hs; intro a hs) | refine sxc hs ?_ | (refine sxa hs hw ?_; clear hs hw; intro a b W hw hs) | (refine sxs hs hw ?_; clear hs hw; intro W hs hw))
            refine Or.inr ⟨(.nilIface, H2, _, none), hs, ?_⟩
            show Has 0 w0 _ (Cells p [_, _, (if (Nat.beq 10 6 || D 10) = true then _ else _)] _ :: _ :: _ :: (if (Nat.beq 7 6 || D 7) = true then _ else _) :: _)
            rw [hA, hS]
            exact hw.fill (Upd.tl (Upd.tl Upd.hd))
          case c7_1 =>
            intro u LD D a W hcl hi hp hs hw
            have hB := Go.Sx.done hp 6 (by kernel_rfl)
            have hS := Go.Sx.not_done hcl hi 10 (by kernel_rfl)
            simp only [hi, hB, hS, Bool.false_eq_true, if_false, if_true] at hw
            have hw : Has 0 w0 W (Fz H2 :: Sx.Own 28 5 (.slice vad t.rows.length vcap) t.rows.length xs :: Cells p [.int .i64 0, .pointer (some ⟨pf, 0, none⟩), .slice vad t.rows.length vcap] 57 :: Cells (u 6).2.2.1 (rowCells N.2.1 (.slice xad N.2.1.b.l.length xcap)) 28 :: Cells b8 (rowCells N.2.1 (.slice xad N.2.1.b.l.length xcap)) 28 :: FoldAt H2 pf N.1 :: Cells b15 (batCells bt (.slice bad bt.l.length bcap)) 25 :: CellsM bb (bys l ++ ext) 5 :: R) := hw.perm (by repeat (first | exact List.Perm.refl _ | refine perm_pick (by repeat (first | exact Pick.hd | apply Pick.tl)) ?_))
            have hw : Has 0 w0 W (Sx.Own 28 5 (.slice vad t.rows.length vcap) t.rows.length xs :: Fz H2 :: Cells p [.int .i64 0, .pointer (some ⟨pf, 0, none⟩), .slice vad t.rows.length vcap] 57 :: Cells (u 6).2.2.1 (rowCells N.2.1 (.slice xad N.2.1.b.l.length xcap)) 28 :: Cells b8 (rowCells N.2.1 (.slice xad N.2.1.b.l.length xcap)) 28 :: FoldAt H2 pf N.1 :: Cells b15 (batCells bt (.slice bad bt.l.length bcap)) 25 :: CellsM bb (bys l ++ ext) 5 :: R) := hw.swap2
            have hone := RowIn.ones (H := H2) N.2.1 (rowCells N.2.1 (.slice xad N.2.1.b.l.length xcap)) ⟨_, rfl, hsv⟩
            refine st_append1 hs (hw := hw) (hi := In.tl (In.tl In.hd)) (ch := hch) (ha := (⟨_, rfl, hsv⟩ : RowIn H2 N.2.1 (rowCells N.2.1 (.slice xad N.2.1.b.l.length xcap)))) (hl := rfl) (h1 := by rw [List.all_eq_true]; exact hone) (hb := by omega) (h63 := by omega) (k := ?_)
            clear hs hw; intro a ad cap W hs hw hc2
            repeat (first | (refine sxv hs hw ?_; clear hs; intro a hs) | refine sxc hs ?_ | (refine sxa hs hw ?_; clear hs hw; intro a b W hw hs) | (refine sxs hs hw ?_; clear hs hw; intro W hs hw))
            refine Or.inr ⟨(.nilIface, H2, cap, ad), hs, ?_⟩
            show Has 0 w0 _ (Cells p [_, _, (if (Nat.beq 10 7 || D 10) = true then _ else _)] _ :: _ :: (if (Nat.beq 6 7 || D 6) = true then _ else _) :: _ :: _)
            rw [hB, hS]
            exact hw.perm (by repeat (first | exact List.Perm.refl _ | refine perm_pick (by repeat (first | exact Pick.hd | apply Pick.tl)) ?_))
          case c10_1 =>
            intro u LD D a W hcl hi hp hs hw
            have hA := Go.Sx.done hp 7 (by kernel_rfl)
            simp only [hi, hA, Bool.false_eq_true, if_false, if_true] at hw
            repeat (first | (refine sxv hs hw ?_; clear hs; intro a hs) | refine sxc hs ?_ | (refine sxa hs hw ?_; clear hs hw; intro a b W hw hs) | (refine sxs hs hw ?_; clear hs hw; intro W hs hw))
            refine Or.inl ⟨hs, ?_⟩
            show Has 0 w0 _ (_ :: _ :: _ :: (if (Nat.beq 7 10 || D 7) = true then _ else _) :: _)
            rw [hA]
            exact hw
          case k_1 =>
            clear hs hw
            intro u a W hs hw
            replace hw : Has 0 w0 W (Cells p [.int .i64 0, .pointer (some ⟨pf, 0, none⟩), .slice (u 7).2.2.2 (t.rows ++ [N.2.1]).length (u 7).2.2.1] 57 :: Fz H2 :: Cells (u 6).2.2.1 (rowCells N.2.1 (.slice xad N.2.1.b.l.length xcap)) 28 :: Sx.Own 28 5 (.slice (u 7).2.2.2 (t.rows ++ [N.2.1]).length (u 7).2.2.1) (t.rows ++ [N.2.1]).length (xs ++ rowCells N.2.1 (.slice xad N.2.1.b.l.length xcap)) :: Cells b8 (rowCells N.2.1 (.slice xad N.2.1.b.l.length xcap)) 28 :: FoldAt H2 pf N.1 :: Cells b15 (batCells bt (.slice bad bt.l.length bcap)) 25 :: CellsM bb (bys l ++ ext) 5 :: R) := hw
            replace hs : Slots a 122 [(4, .slice (some ⟨bb, 0, none⟩) l.length cap0), (5, .int .i64 ix), (10, .pointer (some ⟨p, 0, none⟩)), (11, .int .i64 ((at_ + kx : Nat) : Int)), (65, .int .i64 (nn : Int)), (66, .int .i64 (j : Int))] := hs.of ⟨rfl, rfl, rfl, rfl, rfl, rfl, trivial⟩
            generalize (u 7).2.2.2 = rad at *
            generalize (u 7).2.2.1 = rcap at *
            generalize (u 6).2.2.1 = bx at *
            clear u
            have hw : Has 0 w0 W (Cells p [.int .i64 0, .pointer (some ⟨pf, 0, none⟩), .slice rad (t.rows ++ [N.2.1]).length rcap] 57 :: FoldAt H2 pf N.1 :: Sx.Own 28 5 (.slice rad (t.rows ++ [N.2.1]).length rcap) (t.rows ++ [N.2.1]).length (xs ++ rowCells N.2.1 (.slice xad N.2.1.b.l.length xcap)) :: Fz H2 :: CellsM bb (bys l ++ ext) 5 :: Cells b8 (rowCells N.2.1 (.slice xad N.2.1.b.l.length xcap)) 28 :: Cells b15 (batCells bt (.slice bad bt.l.length bcap)) 25 :: Cells bx (rowCells N.2.1 (.slice xad N.2.1.b.l.length xcap)) 28 :: R) := hw.perm (by repeat (first | exact List.Perm.refl _ | refine perm_pick (by repeat (first | exact Pick.hd | apply Pick.tl)) ?_))
            have hw := tabShut (t := ⟨0, N.1, t.rows ++ [N.2.1]⟩) hw (hch.app (Ch.unit ⟨_, rfl, hsv⟩))
            repeat (first | (refine sxv hs hw ?_; clear hs; intro a hs) | refine sxc hs ?_ | (refine sxa hs hw ?_; clear hs hw; intro a b W hw hs) | (refine sxs hs hw ?_; clear hs hw; intro W hs hw))
            have hw := hw.sub (L' := TabAt H2 p ⟨0, N.1, t.rows ++ [N.2.1]⟩ :: Fz H2 :: CellsM bb (bys l ++ ext) 5 :: R) (List.Sublist.cons_cons _ (List.Sublist.cons_cons _ (List.Sublist.cons_cons _ (List.Sublist.cons _ (List.Sublist.cons _ (List.Sublist.cons _ (List.Sublist.refl _)))))))
            refine st_again (j + 1, ⟨0, N.1, t.rows ++ [N.2.1]⟩, at_ + kx, H2) hs hw ⟨hj', rfl, by show (t.rows ++ [N.2.1]).length = j + 1; rw [List.length_append, hrl]; rfl, by show at_ + kx ≤ l.length; omega, (hH0.trans hle01).trans hle2, ?_, fun r hr => ?_⟩ (by show nn - (j + 1) < nn - j; omega) ⟨rfl, rfl, rfl, rfl, rfl, int_eq (by show IntKind.i64.wrap ((j : Int) + 1) = ((j + 1 : Nat) : Int); rw [IntWalk.i64_in _ (by omega)]; omega), trivial⟩
            · rw [List.drop_drop] at hgo
              exact hgo
            · rcases List.mem_append.1 hr with hr | hr
              · exact hbk r hr
              · obtain rfl := List.mem_singleton.1 hr
                have h1 : (next t.f bt).2.2 = true := by rw [hN]; exact hok
                have h2 := next_row h1
                rw [hN] at h2
                rw [h2]
                exact ⟨hbo, nextB_may (next_ok h1).1⟩
          all_goals
            intro u LD D a W hcl hi hp hs hw
            repeat (first | (refine sxv hs hw ?_; clear hs; intro a hs) | refine sxc hs ?_ | (refine sxa hs hw ?_; clear hs hw; intro a b W hw hs) | (refine sxs hs hw ?_; clear hs hw; intro W hs hw))
            exact Or.inl ⟨hs, hw⟩
      all_goals
        intro u LD D a W hcl hi hp hs hw
        repeat (first | (refine sxv hs hw ?_; clear hs; intro a hs) | refine sxc hs ?_ | (refine sxa hs hw ?_; clear hs hw; intro a b W hw hs) | (refine sxs hs hw ?_; clear hs hw; intro W hs hw))
        exact Or.inl ⟨hs, hw⟩
    · have hj' : j = nn := by have : ¬ j < nn := by simpa using hcc
                              omega
      rw [hj', Nat.sub_self] at hgo
      repeat (first | (refine sxv hs hw ?_; clear hs; intro a hs) | refine sxc hs ?_ | (refine sxa hs hw ?_; clear hs hw; intro a b W hw hs) | (refine sxs hs hw ?_; clear hs hw; intro W hs hw))
      exact ⟨t, H0, hH0, hix, hgo.symm, by omega, hbk, hs.of ⟨rfl, rfl, rfl, trivial⟩, hw⟩
  · clear hs hw
    rintro a W ⟨t, H1, hle, hix, hgo, hrl, hbk, hs, hw⟩
    rw [hgo] at hload
    simp only at hload
    obtain ⟨pf, vad, vcap, xs, hch, hw⟩ := tabOpen hw
    repeat (first | (refine sxv hs hw ?_; clear hs; intro a hs) | refine sxc hs ?_ | (refine sxa hs hw ?_; clear hs hw; intro a b W hw hs) | (refine sxs hs hw ?_; clear hs hw; intro W hs hw) | ((with_reducible first | refine st_ptrSome hs (k := ?_) | refine st_ptrNone hs (k := ?_)); clear hs; intro a hs))
    have hw : Has 0 w0 W (Cells p [.int .i64 ix, .pointer (some ⟨pf, 0, none⟩), .slice vad t.rows.length vcap] 57 :: FoldAt H1 pf t.f :: Sx.Own 28 5 (.slice vad t.rows.length vcap) t.rows.length xs :: Fz H1 :: CellsM bb (bys l ++ ext) 5 :: R) := hw
    have hw := tabShut (t := ⟨ix, t.f, t.rows⟩) hw hch
    refine st_call hs (hc := table_Data w0 _ H1 p ⟨ix, t.f, t.rows⟩ _ (by show t.rows.length ≤ 200000; omega) ⟨by show _ ≤ ix; omega, by show ix ≤ _; omega⟩ hbk (hH.trans hle) hT hw) (k := ?_); rintro e0 W1 ⟨rfl, hw1⟩; refine ⟨_, rfl, ?_⟩; clear hs hw; intro a hs; have hw := hw1; clear hw1
    have hdl : (dataT ⟨ix, t.f, t.rows⟩).length ≤ 300000000 := by
      have h1 := Ph.putI_length_le ix
      have h2 := Ph.putI_length_le (t.rows.length : Int)
      have h3 := flat_len (l := t.rows) fun r hr => rowB_len (hbk r hr).2
      unfold dataT
      simp only [List.length_append]
      omega
    generalize dataT ⟨ix, t.f, t.rows⟩ = dt at *
    refine st_bytes (s := ⟨dt.toArray⟩) hs hw (by show dt.length ≤ _; omega) (c := ?_); clear hs hw; intro a bd cap4 ext4 W hw hr4 hs
    repeat (first | (refine sxv hs hw ?_; clear hs; intro a hs) | refine sxc hs ?_ | (refine sxa hs hw ?_; clear hs hw; intro a b W hw hs) | (refine sxs hs hw ?_; clear hs hw; intro W hs hw))
    refine st_call hs (hc := bytes_Equal dt l _ _ _ hr4 (hw.rdM (In.tl (In.tl (In.tl In.hd))) hr0)) (k := ?_); rintro e0 W1 ⟨rfl, hb⟩; refine ⟨_, rfl, ?_⟩; clear hs; intro a hs; replace hw := hw.below hb; clear hb
    by_cases heq : dt = l
    · rw [if_pos heq] at hload
      rw [heq, beq_self_eq_true] at hs
      repeat (first | (refine sxv hs hw ?_; clear hs; intro a hs) | refine sxc hs ?_ | (refine sxa hs hw ?_; clear hs hw; intro a b W hw hs) | (refine sxs hs hw ?_; clear hs hw; intro W hs hw))
      exact rt2 hs rfl rfl rfl ⟨H1, hle, .inr ⟨_, p, hload, rfl, hw.sub (List.Sublist.cons _ (List.Sublist.cons_cons _ (List.Sublist.cons_cons _ (List.Sublist.cons _ (List.Sublist.refl _)))))⟩⟩
    · rw [if_neg heq] at hload
      have hne : (dt == l) = false := by simpa using heq
      rw [hne] at hs
      repeat (first | (refine sxv hs hw ?_; clear hs; intro a hs) | refine sxc hs ?_ | (refine sxa hs hw ?_; clear hs hw; intro a b W hw hs) | (refine sxs hs hw ?_; clear hs hw; intro W hs hw))
      exact rt2 hs rfl rfl rfl ⟨H1, hle, .inl ⟨hload, rfl, hw.sub (List.Sublist.cons _ (List.Sublist.cons _ (List.Sublist.cons_cons _ (List.Sublist.cons _ (List.Sublist.refl _)))))⟩⟩
end Go.Proofs.YtalfmomnaghahaaDoor.Sw

/-
  The walks of packhorselaw21.begun and of StreamNone.
-/
set_option linter.unusedVariables false
set_option maxRecDepth 10000
namespace Go.Proofs.YtalfmomnaghahaaDoor.Sw
open Go.RowKit Go.Sx

-- pieces

abbrev addN : OpD := ⟨4, ⟨#[110]⟩, 0, 0, ⟨#[]⟩, 0, 0, ⟨#[]⟩, 1⟩
abbrev b1 : BatchD := ⟨1, 1, [addN]⟩
theorem rows_b1 : rowsOf [b1] = [⟨1, b1, 0⟩] := by kernel_rfl
theorem addN_wf : OpWf addN := ⟨by decide, by decide, by decide, by decide, by decide, by decide, by decide, by decide, by decide⟩
theorem b1_wf : ∀ b ∈ [b1], BatWf b := by
  intro b hb
  rw [List.mem_singleton] at hb
  subst hb
  exact ⟨by decide, by decide, fun o ho => by rw [List.mem_singleton] at ho; subst ho; exact addN_wf⟩

/-- Its stream behind those rows. -/
theorem take_rows {l : List BatchD} : takeN ⟨emptyF, []⟩ 0 (rowsOf l) = (⟨foldOf l, rowsOf l⟩, (rowsOf l).length, 0) := by
  obtain ⟨h1, h2⟩ := rows_play l
  have := take_play (l := []) (n := 0) h1 rfl (by simp; omega)
  rw [this]; simp
theorem fold_place (l : List BatchD) : (foldOf l).place = ((rowsOf l).length : Nat) := by
  obtain ⟨h1, h2⟩ := rows_play l
  have := (play_places (k := 0) h1 rfl (by omega)).1
  rw [this]; simp
theorem old_rows (l : List BatchD) : ∀ r ∈ rowsOf l, 1 ≤ r.place ∧ r.place ≤ (rowsOf l).length ∧ (rowsOf l)[(r.place - 1).toNat]? = some r := by
  intro r hr
  obtain ⟨h1, h2⟩ := rows_play l
  obtain ⟨i, hi⟩ := List.getElem?_of_mem hr
  have hi' := (List.getElem?_eq_some_iff.1 hi).1
  have := (play_places (k := 0) h1 rfl (by omega)).2 i r hi
  rw [this]
  refine ⟨by omega, by omega, ?_⟩
  rw [show (((0 + i + 1 : Nat) : Int) - 1).toNat = i by omega]
  exact hi

end Go.Proofs.YtalfmomnaghahaaDoor.Sw

/-
  packhorselaw19.begun; the walk of TableNone.
-/
set_option linter.unusedVariables false
set_option maxRecDepth 10000
namespace Go.Proofs.YtalfmomnaghahaaDoor.Sw
open Go.RowKit Go.Sx

abbrev addT : OpD := ⟨4, ⟨#[110]⟩, 0, 0, ⟨#[]⟩, 0, 0, ⟨#[]⟩, 2⟩
abbrev bT : BatchD := ⟨1, 1, [addT]⟩
abbrev rT : RowD := ⟨1, bT, 0⟩
abbrev tT : TabD := ⟨2, (next emptyF bT).1, [rT]⟩
abbrev e1T : EntD := ⟨1, 1, 1, ⟨#[]⟩⟩
abbrev e2T : EntD := ⟨2, 1, 2, ⟨(textB 1 1 [addT]).toArray⟩⟩
theorem app1 : applyT emptyT e1T = (⟨1, emptyF, []⟩, zeroRow, false) := by kernel_rfl
theorem app2 : applyT ⟨1, emptyF, []⟩ e2T = (tT, rT, true) := by kernel_rfl
theorem loadx : loadT [120] = none := by kernel_rfl
theorem may1 : mayBatch 1 1 [addT] = true := by kernel_rfl
theorem addT_ok : ∀ o ∈ [addT], OpOk o := by
  intro o ho
  rw [List.mem_singleton] at ho
  subst ho
  exact ⟨⟨by decide, by decide⟩, ⟨by decide, by decide⟩, ⟨by decide, by decide⟩, ⟨by decide, by decide⟩, ⟨by decide, by decide⟩, ⟨by decide, by decide⟩, by decide, by decide, by decide⟩
theorem rT_ok : RowOk rT := ⟨⟨by decide, by decide⟩, ⟨by decide, by decide⟩, ⟨⟨by decide, by decide⟩, ⟨by decide, by decide⟩, addT_ok⟩⟩
theorem rowsT1 : rowsT tT 1 5 = [rT] := by kernel_rfl
theorem tT_ok : TabOk tT := by
  refine ⟨⟨by kernel_rfl, by kernel_rfl, rfl⟩, fun r hr => ?_, ⟨by decide, by decide⟩, by decide⟩
  have hr : r ∈ [rT] := hr
  rw [List.mem_singleton] at hr
  subst hr
  exact rT_ok
theorem tT_rows : ∀ r ∈ tT.rows, BatOk r.b ∧ mayB r.b = true := by
  intro r hr
  have hr : r ∈ [rT] := hr
  rw [List.mem_singleton] at hr
  subst hr
  exact ⟨rT_ok.b, may1⟩
theorem tT_len : (dataT tT).length ≤ 200000 := of_decide_eq_true (by kernel_rfl)

set_option maxHeartbeats 32000000 in
theorem law19_begun (w : World) (hT : Tabs w) :
    Calls Tryd.prog 7 ⟨[]⟩ w fun e w' => e = .returned (.bool true) ∧ Below w.heap.size w w' := by
  have hw := Has.startF w
  refine enter Tryd.func7 Tryd.ntmps7 rfl rfl fun a hs => ?_
  repeat (first | (refine sxv hs hw ?_; clear hs; intro a hs) | refine sxc hs ?_ | (refine sxa hs hw ?_; clear hs hw; intro a b W hw hs) | (refine sxs hs hw ?_; clear hs hw; intro W hs hw))
  refine st_call hs (hc := table_New w _ (fr w) _ hw) (k := ?_); rintro e0 W1 ⟨p, rfl, hw1⟩; refine ⟨_, rfl, ?_⟩; clear hs hw; intro a hs; have hw := hw1; clear hw1
  repeat (first | (refine sxv hs hw ?_; clear hs; intro a hs) | refine sxc hs ?_ | (refine sxa hs hw ?_; clear hs hw; intro a b W hw hs) | (refine sxs hs hw ?_; clear hs hw; intro W hs hw) | ((with_reducible first | refine st_ptrSome hs (k := ?_) | refine st_ptrNone hs (k := ?_)); clear hs; intro a hs))
  obtain ⟨b2, q2⟩ := nm1 hw; subst q2
  obtain ⟨bo, qo⟩ := nm2 hw; subst qo
  have hw : Has 0 w _ (Cells bo (opCells addT) 41 :: Fz (fr w) :: Cells b2 (batCells bT (.slice (some ⟨bo, 0, none⟩) 1 1)) 25 :: TabAt (fr w) p emptyT :: []) := hw.perm (by repeat (first | exact List.Perm.refl _ | refine perm_pick (by repeat (first | exact Pick.hd | apply Pick.tl)) ?_))
  obtain ⟨H1, hle1, hw, hop⟩ := hw.freeze_lit (m := 1) (sz := 9) rfl (by decide)
  have hop : OpsH H1 (.slice (some ⟨bo, 0, none⟩) 1 1) [addT] := hop
  have hw : Has 0 w _ (TabAt (fr w) p emptyT :: Fz H1 :: Cells b2 (batCells bT (.slice (some ⟨bo, 0, none⟩) 1 1)) 25 :: []) := hw.sel (by repeat (first | exact Sel.nil | exact Sel.refl _ | refine Sel.cons (by repeat (first | exact Pick.hd | apply Pick.tl)) ?_ | refine Sel.skip ?_))
  have hw := tabLe hw hle1
  refine st_call hs (hc := table_Apply w _ H1 p emptyT e1T _ (by decide) (by decide) hle1 hT hw) (k := ?_); rintro e0 W1 ⟨v1, H2, rfl, hle2, hv1, hw1⟩; refine ⟨_, rfl, ?_⟩; clear hs hw; intro a hs; have hw := hw1; clear hw1
  rw [app1] at hs hw hv1
  replace hop := hop.le hle2
  obtain ⟨ad1, cap1, rfl⟩ := hv1.slice
  replace hle2 := hle1.trans hle2
  clear hle1 hv1
  repeat (first | (refine sxv hs hw ?_; clear hs; intro a hs) | refine sxc hs ?_ | (refine sxa hs hw ?_; clear hs hw; intro a b W hw hs) | (refine sxs hs hw ?_; clear hs hw; intro W hs hw))
  refine st_call hs (hc := ref_EncodeBatch 1 1 [addT] _ _ ⟨by decide, by decide⟩ ⟨by decide, by decide⟩ addT_ok (hw.rdH (by repeat (first | exact In.hd | apply In.tl)) hop)) (k := ?_); rintro e0 W1 ⟨ead, ecap, rfl, hw1⟩; refine ⟨_, rfl, ?_⟩; clear hs; intro a hs; replace hw := hw.call hw1; clear hw1
  rw [if_pos may1] at hs hw
  refine st_string_b hs (r := hw.rd_own In.hd) (k := ?_); clear hs; intro a hs
  have hw := hw.sub (List.Sublist.cons _ (List.Sublist.refl _))
  have hw : Has 0 w _ (TabAt H2 p ⟨1, emptyF, []⟩ :: Fz H2 :: []) := hw.sel (by repeat (first | exact Sel.nil | exact Sel.refl _ | refine Sel.cons (by repeat (first | exact Pick.hd | apply Pick.tl)) ?_ | refine Sel.skip ?_))
  repeat (first | (refine sxv hs hw ?_; clear hs; intro a hs) | refine sxc hs ?_ | (refine sxa hs hw ?_; clear hs hw; intro a b W hw hs) | (refine sxs hs hw ?_; clear hs hw; intro W hs hw))
  refine st_call hs (hc := table_Apply w _ H2 p ⟨1, emptyF, []⟩ e2T _ (by decide) (by decide) hle2 hT hw) (k := ?_); rintro e0 W1 ⟨v2, H3, rfl, hle3, hv2, hw1⟩; refine ⟨_, rfl, ?_⟩; clear hs hw; intro a hs; have hw := hw1; clear hw1
  rw [app2] at hs hw hv2
  obtain ⟨ad2, cap2, rfl⟩ := hv2.slice
  replace hle3 := hle2.trans hle3
  clear hle2 hv2 hop
  repeat (first | (refine sxv hs hw ?_; clear hs; intro a hs) | refine sxc hs ?_ | (refine sxa hs hw ?_; clear hs hw; intro a b W hw hs) | (refine sxs hs hw ?_; clear hs hw; intro W hs hw))
  obtain ⟨b5, q5⟩ := nm1 hw; subst q5
  have hw : Has 0 w _ (TabAt H3 p tT :: Fz H3 :: Cells b5 (rowCells rT (.slice ad2 1 cap2)) 28 :: []) := hw.sel (by repeat (first | exact Sel.nil | exact Sel.refl _ | refine Sel.cons (by repeat (first | exact Pick.hd | apply Pick.tl)) ?_ | refine Sel.skip ?_))
  refine st_call hs (hc := table_Data w _ H3 p tT _ (by decide) ⟨by decide, by decide⟩ tT_rows hle3 hT hw) (k := ?_); rintro e0 W1 ⟨rfl, hw1⟩; refine ⟨_, rfl, ?_⟩; clear hs hw; intro a hs; have hw := hw1; clear hw1
  have hw : Has 0 w _ (Fz H3 :: TabAt H3 p tT :: Cells b5 (rowCells rT (.slice ad2 1 cap2)) 28 :: []) := hw.sel (by repeat (first | exact Sel.nil | exact Sel.refl _ | refine Sel.cons (by repeat (first | exact Pick.hd | apply Pick.tl)) ?_ | refine Sel.skip ?_))
  refine st_call hs (hc := table_Load w _ H3 ⟨(dataT tT).toArray⟩ _ tT_len hle3 hT hw) (k := ?_); rintro e0 W1 ⟨H4, hle4, hld⟩
  have h34 : H3.le H4 := hle4
  have hlT := load_data tT_ok
  rcases hld with ⟨h, _, _⟩ | ⟨u, q, hu, rfl, hw1⟩
  · have h : loadT (dataT tT) = none := h
    rw [hlT] at h; cases h
  have hu : loadT (dataT tT) = some u := hu
  rw [hlT] at hu
  obtain rfl : tT = u := Option.some.inj hu
  clear hu hlT
  refine ⟨_, rfl, ?_⟩; clear hs hw; intro a hs; have hw := hw1; clear hw1
  replace hle4 := hle3.trans hle4
  repeat (first | (refine sxv hs hw ?_; clear hs; intro a hs) | refine sxc hs ?_ | (refine sxa hs hw ?_; clear hs hw; intro a b W hw hs) | (refine sxs hs hw ?_; clear hs hw; intro W hs hw))
  have hw : Has 0 w _ (Fz H4 :: TabAt H4 q tT :: TabAt H3 p tT :: Cells b5 (rowCells rT (.slice ad2 1 cap2)) 28 :: []) := hw.sel (by repeat (first | exact Sel.nil | exact Sel.refl _ | refine Sel.cons (by repeat (first | exact Pick.hd | apply Pick.tl)) ?_ | refine Sel.skip ?_))
  refine st_call hs (hc := table_Load w _ H4 ⟨#[120]⟩ _ (by decide) hle4 hT hw) (k := ?_); rintro e0 W1 ⟨H5, hle5, hld⟩
  have h45 : H4.le H5 := hle5
  obtain ⟨-, rfl, hw1⟩ := hld.resolve_right (by
    rintro ⟨u, q2, hu, _, _⟩
    have hu : loadT [120] = some u := hu
    rw [loadx] at hu; cases hu)
  refine ⟨_, rfl, ?_⟩; clear hs hw; intro a hs; have hw := hw1; clear hw1
  replace hle5 := hle4.trans hle5
  repeat (first | (refine sxv hs hw ?_; clear hs; intro a hs) | refine sxc hs ?_ | (refine sxa hs hw ?_; clear hs hw; intro a b W hw hs) | (refine sxs hs hw ?_; clear hs hw; intro W hs hw))
  have hw : Has 0 w _ (TabAt H3 p tT :: Fz H5 :: TabAt H4 q tT :: Cells b5 (rowCells rT (.slice ad2 1 cap2)) 28 :: []) := hw.sel (by repeat (first | exact Sel.nil | exact Sel.refl _ | refine Sel.cons (by repeat (first | exact Pick.hd | apply Pick.tl)) ?_ | refine Sel.skip ?_))
  refine st_call hs (hc := table_Index w _ H3 p tT _ hw) (k := ?_); rintro e0 W1 ⟨rfl, hw1⟩; refine ⟨_, rfl, ?_⟩; clear hs hw; intro a hs; have hw := hw1; clear hw1
  repeat (first | (refine sxv hs hw ?_; clear hs; intro a hs) | refine sxc hs ?_ | (refine sxa hs hw ?_; clear hs hw; intro a b W hw hs) | (refine sxs hs hw ?_; clear hs hw; intro W hs hw))
  have hw := tabLe hw (h34.trans h45)
  refine st_call hs (hc := table_Rows w _ H5 p tT 1 5 _ (by decide) (by intro r hr; have hr : r ∈ [rT] := hr; rw [List.mem_singleton] at hr; subst hr; decide) hw) (k := ?_); rintro e0 W1 ⟨rv, H6, rfl, hle6, hrv, hw1⟩; refine ⟨_, rfl, ?_⟩; clear hs hw; intro a hs; have hw := hw1; clear hw1
  rw [rowsT1] at hrv
  obtain ⟨rad, rcap, rfl⟩ : ∃ ad cap, rv = .slice ad 1 cap := by obtain ⟨xs, h, _⟩ := hrv; exact h.slice
  repeat (first | (refine sxv hs hw ?_; clear hs; intro a hs) | refine sxc hs ?_ | (refine sxa hs hw ?_; clear hs hw; intro a b W hw hs) | (refine sxs hs hw ?_; clear hs hw; intro W hs hw))
  have hw : Has 0 w _ (TabAt H4 q tT :: Fz H6 :: []) := hw.sel (by repeat (first | exact Sel.nil | exact Sel.refl _ | refine Sel.cons (by repeat (first | exact Pick.hd | apply Pick.tl)) ?_ | refine Sel.skip ?_))
  refine st_call hs (hc := table_Index w _ H4 q tT _ hw) (k := ?_); rintro e0 W1 ⟨rfl, hw1⟩; refine ⟨_, rfl, ?_⟩; clear hs hw; intro a hs; have hw := hw1; clear hw1
  repeat (first | (refine sxv hs hw ?_; clear hs; intro a hs) | refine sxc hs ?_ | (refine sxa hs hw ?_; clear hs hw; intro a b W hw hs) | (refine sxs hs hw ?_; clear hs hw; intro W hs hw))
  have hw := tabLe hw (h45.trans hle6)
  refine st_call hs (hc := table_Rows w _ H6 q tT 1 5 _ (by decide) (by intro r hr; have hr : r ∈ [rT] := hr; rw [List.mem_singleton] at hr; subst hr; decide) hw) (k := ?_); rintro e0 W1 ⟨rv2, H7, rfl, hle7, hrv2, hw1⟩; refine ⟨_, rfl, ?_⟩; clear hs hw; intro a hs; have hw := hw1; clear hw1
  rw [rowsT1] at hrv2
  obtain ⟨rad2, rcap2, rfl⟩ : ∃ ad cap, rv2 = .slice ad 1 cap := by obtain ⟨xs, h, _⟩ := hrv2; exact h.slice
  repeat (first | (refine sxv hs hw ?_; clear hs; intro a hs) | refine sxc hs ?_ | (refine sxa hs hw ?_; clear hs hw; intro a b W hw hs) | (refine sxs hs hw ?_; clear hs hw; intro W hs hw))
  exact rt1 hs rfl rfl ⟨rfl, hw.endF (In.tl In.hd) ((hle5.trans hle6).trans hle7)⟩

set_option maxHeartbeats 4000000 in
theorem table_Rows0 (i n : Int) (W : World) : Calls Tryd.prog 9 ⟨[.pointer none, .int .i64 i, .int .i64 n]⟩ W fun e W' => e = .returned (.slice none 0 0) ∧ Below W.heap.size W W' := by
  have hw := Has.start (G := 0) (w := W) (Nat.zero_le _)
  refine enter Tryd.func9 Tryd.ntmps9 rfl rfl fun a hs => ?_
  repeat (first | (refine sxv hs hw ?_; clear hs; intro a hs) | refine sxc hs ?_ | (refine sxa hs hw ?_; clear hs hw; intro a b W hw hs) | (refine sxs hs hw ?_; clear hs hw; intro W hs hw) | ((with_reducible first | refine st_ptrSome hs (k := ?_) | refine st_ptrNone hs (k := ?_)); clear hs; intro a hs))
  exact rt1 hs rfl rfl ⟨rfl, hw.end (by repeat (first | exact In.hd | apply In.tl))⟩

set_option maxHeartbeats 4000000 in
theorem walk_TableNone (w : World) (hT : Tabs w) :
    Calls Tryd.prog 3 ⟨[]⟩ w fun e w' => e = .returned (.bool true) ∧ Below w.heap.size w w' := by
  have hw := Has.start (G := 0) (w := w) (Nat.zero_le _)
  refine enter Tryd.func3 Tryd.ntmps3 rfl rfl fun a hs => ?_
  repeat (first | (refine sxv hs hw ?_; clear hs; intro a hs) | refine sxc hs ?_ | (refine sxa hs hw ?_; clear hs hw; intro a b W hw hs) | (refine sxs hs hw ?_; clear hs hw; intro W hs hw))
  refine st_call hs (hc := table_Apply0 e1T _) (k := ?_); rintro e0 W1 ⟨rfl, hb⟩; refine ⟨_, rfl, ?_⟩; clear hs; intro a hs; replace hw := hw.below hb; clear hb
  repeat (first | (refine sxv hs hw ?_; clear hs; intro a hs) | refine sxc hs ?_ | (refine sxa hs hw ?_; clear hs hw; intro a b W hw hs) | (refine sxs hs hw ?_; clear hs hw; intro W hs hw))
  refine st_call hs (hc := law19_begun _ (hT.keep (hw.end (by repeat (first | exact In.hd | apply In.tl))))) (k := ?_); rintro e0 W1 ⟨rfl, hb⟩; refine ⟨_, rfl, ?_⟩; clear hs; intro a hs; replace hw := hw.below hb; clear hb
  repeat (first | (refine sxv hs hw ?_; clear hs; intro a hs) | refine sxc hs ?_ | (refine sxa hs hw ?_; clear hs hw; intro a b W hw hs) | (refine sxs hs hw ?_; clear hs hw; intro W hs hw))
  refine st_call hs (hc := table_Index0 _) (k := ?_); rintro e0 W1 ⟨rfl, hb⟩; refine ⟨_, rfl, ?_⟩; clear hs; intro a hs; replace hw := hw.below hb; clear hb
  repeat (first | (refine sxv hs hw ?_; clear hs; intro a hs) | refine sxc hs ?_ | (refine sxa hs hw ?_; clear hs hw; intro a b W hw hs) | (refine sxs hs hw ?_; clear hs hw; intro W hs hw))
  refine st_call hs (hc := table_Rows0 1 5 _) (k := ?_); rintro e0 W1 ⟨rfl, hb⟩; refine ⟨_, rfl, ?_⟩; clear hs; intro a hs; replace hw := hw.below hb; clear hb
  repeat (first | (refine sxv hs hw ?_; clear hs; intro a hs) | refine sxc hs ?_ | (refine sxa hs hw ?_; clear hs hw; intro a b W hw hs) | (refine sxs hs hw ?_; clear hs hw; intro W hs hw))
  exact rt1 hs rfl rfl ⟨rfl, hw.end (by repeat (first | exact In.hd | apply In.tl))⟩
end Go.Proofs.YtalfmomnaghahaaDoor.Sw

/-
  Batches, rows, whole numbers as they come in.
-/
set_option linter.unusedVariables false
namespace Go.Proofs.YtalfmomnaghahaaDoor.Sw
open Go.RowKit Go.Sx

def BatRd (W : World) (b : BatchD) (cs : List Value) : Prop := ∃ sv, cs = batCells b sv ∧ Rd W 9 sv b.l.length (b.l.flatMap opCells)
/-- Batches as they come in. -/
def BatsRd (W : World) (v : Value) (l : List BatchD) : Prop := ∃ xs, Rd W 3 v l.length xs ∧ Ch (BatRd W) l xs
theorem BatsRd.h {W : World} {v : Value} {l : List BatchD} (r : BatsRd W v l) : BatsH (fr W) v l := by
  obtain ⟨xs, h1, h2⟩ := r
  exact ⟨xs, RdH.of_rd h1 (Fh.le.refl _) (by decide), h2.mono fun b c ⟨sv, e, h⟩ => ⟨sv, e, RdH.of_rd h (Fh.le.refl _) (by decide)⟩⟩
structure RowWf (r : RowD) : Prop where
  place : (Lit.int .i64 r.place).wf = true
  err : (Lit.int .i64 r.err).wf = true
  b : BatWf r.b
/-- Rows as they come in. -/
def RowsRd (W : World) (v : Value) (l : List RowD) : Prop := ∃ xs, Rd W 5 v l.length xs ∧ Ch (RowRd W) l xs
theorem RowsRd.h {W : World} {v : Value} {l : List RowD} (r : RowsRd W v l) : RowsH (fr W) v l := by
  obtain ⟨xs, h1, h2⟩ := r
  exact ⟨xs, RdH.of_rd h1 (Fh.le.refl _) (by decide), h2.mono fun b c ⟨sv, e, h⟩ => ⟨sv, e, RdH.of_rd h (Fh.le.refl _) (by decide)⟩⟩
def IntIn (x : Int) (c : List Value) : Prop := c = [.int .i64 x]
theorem IntIn.len : ∀ (x : Int) (c : List Value), IntIn x c → c.length = 1 := by rintro x c rfl; rfl
/-- Whole numbers as they come in. -/
def IntsRd (W : World) (v : Value) (l : List Int) : Prop := ∃ xs, Rd W 1 v l.length xs ∧ Ch IntIn l xs
end Go.Proofs.YtalfmomnaghahaaDoor.Sw

/-
  packhorselaw19.tells; the walk of TableAny.
-/
set_option linter.unusedVariables false
set_option maxRecDepth 10000
namespace Go.Proofs.YtalfmomnaghahaaDoor.Sw
open Go.RowKit Go.Sx

theorem next_place {f : FoldD} {b : BatchD} (h : (next f b).2.2 = true) : (next f b).2.1.place = IntKind.i64.wrap (f.place + 1) ∧ (next f b).1.place = IntKind.i64.wrap (f.place + 1) := by
  rw [(next_ok h).2]; exact ⟨rfl, rfl⟩
theorem next_rowok {f : FoldD} {b : BatchD} (h : (next f b).2.2 = true) (hb : BatOk b) : RowOk (next f b).2.1 := by
  rw [(next_ok h).2]
  have := applyL_err f.d b.l
  exact ⟨wrap_i64 _, ⟨by show _ ≤ (applyL f.d b.l).1; omega, by show (applyL f.d b.l).1 ≤ _; omega⟩, hb⟩
/-- What an entry leaves is a table of entries. -/
theorem applyT_ok {t : TabD} {e : EntD} (h : TabOk t) (hl : t.rows.length + 1 ≤ 100000) (hi : t.ix + 1 ≤ 1099511627776) (hd : e.data.size ≤ 1000000) : TabOk (applyT t e).1 ∧ (applyT t e).1.rows.length ≤ t.rows.length + 1 ∧ ((applyT t e).1.ix = t.ix ∨ (applyT t e).1.ix = t.ix + 1) ∧ (e.ix = t.ix + 1 → (applyT t e).1.ix = t.ix + 1) := by
  have h0 : 0 ≤ t.ix := by have := h.ix.1; omega
  have hwrap : IntKind.i64.wrap (t.ix + 1) = t.ix + 1 := IntWalk.i64_in _ (by omega)
  have hz : TabOk ⟨t.ix + 1, t.f, t.rows⟩ := ⟨h.play, h.ok, ⟨by have := h.ix.1; show (t.rows.length : Int) ≤ t.ix + 1; omega, hi⟩, h.len⟩
  unfold applyT
  rw [hwrap]
  by_cases hx : e.ix = t.ix + 1
  · rw [if_pos hx]
    have hdl : e.data.data.toList.length ≤ 1000000 := by rw [Array.length_toList]; exact hd
    split
    · rename_i p hk hdec
      obtain ⟨c, q, l⟩ := p
      have hdk := decode_ok hdl hdec
      have hbo : BatOk ⟨c, q, l⟩ := ⟨hdk.1, hdk.2.1, hdk.2.2.2⟩
      show TabOk (playT (t.ix + 1) t ⟨c, q, l⟩).1 ∧ _
      unfold playT
      cases hn : (next t.f ⟨c, q, l⟩).2.2 with
      | false => exact ⟨hz, by show t.rows.length ≤ _; omega, .inr rfl, fun _ => rfl⟩
      | true =>
        have hrb := next_row hn
        refine ⟨⟨h.play.app ⟨by rw [hrb]; exact hn, by rw [hrb], by rw [hrb]; rfl⟩, fun r hr => ?_, ⟨?_, hi⟩, ?_⟩, ?_, .inr rfl, fun _ => rfl⟩
        · rcases List.mem_append.1 hr with hr | hr
          · exact h.ok r hr
          · obtain rfl := List.mem_singleton.1 hr
            exact next_rowok hn hbo
        · have := h.ix.1
          show ((t.rows ++ [(next t.f ⟨c, q, l⟩).2.1]).length : Int) ≤ t.ix + 1
          rw [List.length_append, List.length_singleton]; omega
        · show (t.rows ++ [(next t.f ⟨c, q, l⟩).2.1]).length ≤ 100000
          rw [List.length_append, List.length_singleton]; omega
        · show (t.rows ++ [(next t.f ⟨c, q, l⟩).2.1]).length ≤ t.rows.length + 1
          rw [List.length_append, List.length_singleton]; omega
    · exact ⟨hz, by show t.rows.length ≤ _; omega, .inr rfl, fun _ => rfl⟩
  · rw [if_neg hx]
    exact ⟨h, by show t.rows.length ≤ _; omega, .inl rfl, fun h => absurd h hx⟩
theorem TabOk.rows {t : TabD} (h : TabOk t) : ∀ r ∈ t.rows, BatOk r.b ∧ mayB r.b = true := fun r hr => ⟨(h.ok r hr).b, play_mem h.play r hr⟩
theorem TabOk.nil : TabOk emptyT := ⟨rfl, by simp [emptyT], ⟨by decide, by decide⟩, by decide⟩
theorem TabOk.i64 {t : TabD} (h : TabOk t) : i64 t.ix := ⟨by have := h.ix.1; omega, by have := h.ix.2; omega⟩
theorem dataT_len {t : TabD} (hb : ∀ r ∈ t.rows, BatOk r.b ∧ mayB r.b = true) : (dataT t).length ≤ 20 + t.rows.length * 1300 := by
  have h1 := Ph.putI_length_le t.ix
  have h2 := Ph.putI_length_le (t.rows.length : Int)
  have h3 := flat_len (l := t.rows) fun r hr => rowB_len (hb r hr).2
  unfold dataT
  simp only [List.length_append]
  omega

set_option maxHeartbeats 16000000 in
theorem law19_tells (w0 W : World) (H : Fh) (s : ByteArray) (R : List Res) (hl : s.size ≤ 200000) (hH : (fr w0).le H) (hT : Tabs w0) (hw : Has 0 w0 W (Fz H :: R)) :
    Calls Tryd.prog 17 ⟨[.string s]⟩ W fun e W' => ∃ H', H.le H' ∧ e = .returned (.bool true) ∧ Has 0 w0 W' (Fz H' :: R) := by
  refine enter Tryd.func17 Tryd.ntmps17 rfl rfl fun a hs => ?_
  repeat (first | (refine sxv hs hw ?_; clear hs; intro a hs) | refine sxc hs ?_ | (refine sxa hs hw ?_; clear hs hw; intro a b W hw hs) | (refine sxs hs hw ?_; clear hs hw; intro W hs hw))
  refine st_call hs (hc := table_Load w0 _ H s _ hl hH hT hw) (k := ?_); rintro e0 W1 ⟨H1, hle1, hld⟩
  rcases hld with ⟨_, rfl, hw1⟩ | ⟨t, p, hlt, rfl, hw1⟩
  · refine ⟨_, rfl, ?_⟩; clear hs hw; intro a hs; have hw := hw1; clear hw1
    repeat (first | (refine sxv hs hw ?_; clear hs; intro a hs) | refine sxc hs ?_ | (refine sxa hs hw ?_; clear hs hw; intro a b W hw hs) | (refine sxs hs hw ?_; clear hs hw; intro W hs hw) | ((with_reducible first | refine st_ptrSome hs (k := ?_) | refine st_ptrNone hs (k := ?_)); clear hs; intro a hs))
    exact rt1 hs rfl rfl ⟨H1, hle1, rfl, hw⟩
  · refine ⟨_, rfl, ?_⟩; clear hs hw; intro a hs; have hw := hw1; clear hw1
    have hsl : s.data.toList.length ≤ 200000 := by rw [Array.length_toList]; exact hl
    obtain ⟨hdt, hpl, hix1, hix2, hrl, hbo⟩ := load_some (by omega) hlt
    have hpp := (play_places (k := 0) hpl rfl (by omega)).1
    repeat (first | (refine sxv hs hw ?_; clear hs; intro a hs) | refine sxc hs ?_ | (refine sxa hs hw ?_; clear hs hw; intro a b W hw hs) | (refine sxs hs hw ?_; clear hs hw; intro W hs hw))
    refine st_call hs (hc := table_Data w0 _ H1 p t _ (by omega) ⟨by omega, by omega⟩ (fun r hr => ⟨hbo r hr, play_mem hpl r hr⟩) (hH.trans hle1) hT hw) (k := ?_); rintro e0 W1 ⟨rfl, hw1⟩; refine ⟨_, rfl, ?_⟩; clear hs hw; intro a hs; have hw := hw1; clear hw1
    rw [hdt, ba_mk] at hs
    repeat (first | (refine sxv hs hw ?_; clear hs; intro a hs) | refine sxc hs ?_ | (refine sxa hs hw ?_; clear hs hw; intro a b W hw hs) | (refine sxs hs hw ?_; clear hs hw; intro W hs hw))
    rw [beq_self_eq_true] at hs
    repeat (first | (refine sxv hs hw ?_; clear hs; intro a hs) | refine sxc hs ?_ | (refine sxa hs hw ?_; clear hs hw; intro a b W hw hs) | (refine sxs hs hw ?_; clear hs hw; intro W hs hw))
    refine st_call hs (hc := table_Index w0 _ H1 p t _ hw) (k := ?_); rintro e0 W1 ⟨rfl, hw1⟩; refine ⟨_, rfl, ?_⟩; clear hs hw; intro a hs; have hw := hw1; clear hw1
    repeat (first | (refine sxv hs hw ?_; clear hs; intro a hs) | refine sxc hs ?_ | (refine sxa hs hw ?_; clear hs hw; intro a b W hw hs) | (refine sxs hs hw ?_; clear hs hw; intro W hs hw))
    refine st_call hs (hc := table_Fold w0 _ H1 p t _ hw) (k := ?_); rintro e0 W1 ⟨q, rfl, hw1⟩; refine ⟨_, rfl, ?_⟩; clear hs hw; intro a hs; have hw := hw1; clear hw1
    repeat (first | (refine sxv hs hw ?_; clear hs; intro a hs) | refine sxc hs ?_ | (refine sxa hs hw ?_; clear hs hw; intro a b W hw hs) | (refine sxs hs hw ?_; clear hs hw; intro W hs hw))
    refine st_call hs (hc := fold_Place w0 _ H1 q t.f _ hw) (k := ?_); rintro e0 W1 ⟨rfl, hw1⟩; refine ⟨_, rfl, ?_⟩; clear hs hw; intro a hs; have hw := hw1; clear hw1
    repeat (first | (refine sxv hs hw ?_; clear hs; intro a hs) | refine sxc hs ?_ | (refine sxa hs hw ?_; clear hs hw; intro a b W hw hs) | (refine sxs hs hw ?_; clear hs hw; intro W hs hw))
    have hge : decide (t.ix ≥ t.f.place) = true := by rw [hpp]; exact decide_eq_true (by omega)
    rw [hge] at hs
    repeat (first | (refine sxv hs hw ?_; clear hs; intro a hs) | refine sxc hs ?_ | (refine sxa hs hw ?_; clear hs hw; intro a b W hw hs) | (refine sxs hs hw ?_; clear hs hw; intro W hs hw))
    exact rt1 hs rfl rfl ⟨H1, hle1, rfl, hw.sel (by repeat (first | exact Sel.nil | exact Sel.refl _ | refine Sel.cons (by repeat (first | exact Pick.hd | apply Pick.tl)) ?_ | refine Sel.skip ?_))⟩

theorem xor_byte (b c : Int) : ∃ d : UInt8, bits .xor .u8 b c = (d.toNat : Int) := by
  have h := bits_within .xor .u8 b c
  have h1 : 0 ≤ bits .xor .u8 b c ∧ bits .xor .u8 b c ≤ 255 := by
    simpa [IntKind.min, IntKind.max, IntKind.signed, IntKind.bits] using h
  obtain ⟨n, hn⟩ := Int.eq_ofNat_of_zero_le h1.1
  refine ⟨n.toUInt8, ?_⟩
  rw [hn]
  have : n < 256 := by omega
  simp [Nat.mod_eq_of_lt this]
theorem bys_set (l : List UInt8) (k : Nat) (d : UInt8) (ext : List Value) (hk : k < l.length) : (bys l ++ ext).set k (.int .u8 (d.toNat : Int)) = bys (l.set k d) ++ ext := by
  rw [List.set_append_left _ _ (by simpa using hk)]
  unfold bys
  rw [List.map_set]

set_option maxHeartbeats 32000000 in
theorem walk_TableAny (l : List BatchD) (v : Value) (at_ x : Int) (raw : ByteArray) (w : World) (hb : ∀ b ∈ l, BatWf b) (hr : BatsRd w v l) (hat : (Lit.int .i64 at_).wf = true) (hx : (Lit.int .u8 x).wf = true) (hraw : raw.size ≤ 9223372036854775807) (hT : Tabs w) :
    Calls Tryd.prog 5 ⟨[v, .int .i64 at_, .int .u8 x, .string raw]⟩ w fun e w' => e = .returned (.bool true) ∧ Below w.heap.size w w' := by
  have hw := Has.startF w
  refine enter Tryd.func5 Tryd.ntmps5 rfl rfl fun a hs => ?_
  repeat (first | (refine sxv hs hw ?_; clear hs; intro a hs) | refine sxc hs ?_ | (refine sxa hs hw ?_; clear hs hw; intro a b W hw hs) | (refine sxs hs hw ?_; clear hs hw; intro W hs hw))
  refine st_call hs (hc := law19_begun _ hT) (k := ?_); rintro e0 W1 ⟨rfl, hb⟩; refine ⟨_, rfl, ?_⟩; clear hs; intro a hs; replace hw := hw.below hb; clear hb
  repeat (first | (refine sxv hs hw ?_; clear hs; intro a hs) | refine sxc hs ?_ | (refine sxa hs hw ?_; clear hs hw; intro a b W hw hs) | (refine sxs hs hw ?_; clear hs hw; intro W hs hw))
  refine st_call hs (hc := table_New w _ (fr w) _ hw) (k := ?_); rintro e0 W1 ⟨p, rfl, hw1⟩; refine ⟨_, rfl, ?_⟩; clear hs hw; intro a hs; have hw := hw1; clear hw1
  repeat (first | (refine sxv hs hw ?_; clear hs; intro a hs) | refine sxc hs ?_ | (refine sxa hs hw ?_; clear hs hw; intro a b W hw hs) | (refine sxs hs hw ?_; clear hs hw; intro W hs hw))
  have hw := hw.swap2
  refine st_call hs (hc := law7_Batches w _ (fr w) l v 10 _ (by decide) hb hr.h hw) (k := ?_); rintro e0 W1 ⟨bv, H1, rfl, hle1, hbs, hw1⟩; refine ⟨_, rfl, ?_⟩; clear hs hw; intro a hs; have hw := hw1; clear hw1
  have hbo := batsB_ok hb 10
  have hbl := batsB_len l 10
  generalize batsB l 10 = m at *
  obtain ⟨ys, hbs, hbc⟩ := hbs
  obtain ⟨mad, mcap, rfl⟩ := hbs.slice
  have hw := tabLe hw.swap2 hle1
  repeat (first | (refine sxv hs hw ?_; clear hs; intro a hs) | refine sxn hs ?_ | (refine sxa hs hw ?_; clear hs hw; intro a b W hw hs) | (refine sxs hs hw ?_; clear hs hw; intro W hs hw))
  refine sq ?_
  refine merge (M := fun a W => ∃ (t : TabD) (H' : Fh), H1.le H' ∧ TabOk t ∧ t.rows.length ≤ 10 ∧ Slots a 64 [(10, .pointer (some ⟨p, 0, none⟩)), (1, .int .i64 at_), (2, .int .u8 x), (3, .string raw)] ∧ Has 0 w W (TabAt H' p t :: Fz H' :: [])) ?_ ?_
  · repeat (first | (refine sxv hs hw ?_; clear hs; intro a hs) | refine sxc hs ?_ | (refine sxa hs hw ?_; clear hs hw; intro a b W hw hs) | (refine sxs hs hw ?_; clear hs hw; intro W hs hw))
    refine st_loop (σ := Nat × TabD × Fh) (fun u => [(0, .slice mad m.length mcap), (10, .pointer (some ⟨p, 0, none⟩)), (1, .int .i64 at_), (2, .int .u8 x), (3, .string raw), (11, .int .i64 (u.1 : Int))]) (fun u => TabAt u.2.2 p u.2.1 :: Fz u.2.2 :: []) (fun u => u.1 ≤ m.length ∧ u.2.1.ix = u.1 ∧ u.2.1.rows.length ≤ u.1 ∧ TabOk u.2.1 ∧ H1.le u.2.2) (fun u => m.length - u.1) (0, emptyT, H1) ⟨Nat.zero_le _, rfl, Nat.zero_le _, TabOk.nil, Fh.le.refl _⟩ hs ⟨rfl, rfl, rfl, rfl, rfl, rfl, trivial⟩ hw ?_
    clear hs hw
    rintro ⟨j, t, H2⟩ a W ⟨hj, hix, hrl, hok, hH2⟩ hs hw
    simp only at hj hix hrl hok hH2 hs hw
    repeat (first | (refine sxv hs hw ?_; clear hs; intro a hs) | refine sxc hs ?_ | (refine sxa hs hw ?_; clear hs hw; intro a b W hw hs) | (refine sxs hs hw ?_; clear hs hw; intro W hs hw))
    refine cd_split hs (kt := fun hcc => ?_) (kf := fun hcc => ?_)
    · have hj' : j < m.length := by simpa using hcc
      obtain ⟨bt, hbi⟩ : ∃ o, m[j]? = some o := ⟨m[j], List.getElem?_eq_getElem hj'⟩
      have hbk := hbo bt (List.mem_of_getElem? hbi)
      repeat (first | (refine sxv hs hw ?_; clear hs; intro a hs) | refine sxc hs ?_ | (refine sxa hs hw ?_; clear hs hw; intro a b W hw hs) | (refine sxs hs hw ?_; clear hs hw; intro W hs hw))
      refine st_index_ch hs (r := hw.rdH (In.tl In.hd) (hbs.le hH2)) (hk := BatIn.len) (ch := hbc.mono (BatIn.le hH2)) (ho := hbi) (hlen := rfl) (c := ?_); clear hs; intro a g off c hc hcl hpc hlt hs
      obtain ⟨ov, rfl, hov⟩ := hc
      refine st_load_ats hs (cs := batCells bt ov) (hc := hpc) (hl := by rfl) (c := ?_); clear hs; intro a hs
      clear hpc
      refine st_call hs (hc := ref_EncodeBatch bt.c bt.q bt.l ov _ hbk.c hbk.q hbk.ops (hw.rdH (by repeat (first | exact In.hd | apply In.tl)) hov)) (k := ?_); rintro e0 W1 ⟨ead, ecap, rfl, hw1⟩; refine ⟨_, rfl, ?_⟩; clear hs; intro a hs; replace hw := hw.call hw1; clear hw1
      have hdl : (if mayBatch bt.c bt.q bt.l = true then textB bt.c bt.q bt.l else []).length ≤ 1200 := by
        split
        · rename_i h; exact (mayBatch_parts h).2.2.2.2
        · simp
      generalize (if mayBatch bt.c bt.q bt.l = true then textB bt.c bt.q bt.l else []) = dt at *
      refine st_string_b hs (r := hw.rd_own In.hd) (k := ?_); clear hs; intro a hs
      have hw := hw.sub (List.Sublist.cons _ (List.Sublist.refl _))
      have ew : IntKind.i64.wrap ((j : Int) + 1) = t.ix + 1 := by rw [hix, IntWalk.i64_in _ (by omega)]
      repeat (first | (refine sxv hs hw ?_; clear hs; intro a hs) | refine sxc hs ?_ | (refine sxa hs hw ?_; clear hs hw; intro a b W hw hs) | (refine sxs hs hw ?_; clear hs hw; intro W hs hw))
      rw [ew] at hs
      refine st_call hs (hc := table_Apply w _ H2 p t ⟨t.ix + 1, 1, 2, ⟨dt.toArray⟩⟩ _ (by omega) (by show dt.length ≤ _; omega) (hle1.trans hH2) hT hw) (k := ?_); rintro e0 W1 ⟨nv, H3, rfl, hle3, hnv, hw1⟩; refine ⟨_, rfl, ?_⟩; clear hs hw; intro a hs; have hw := hw1; clear hw1
      have hap := applyT_ok (e := ⟨t.ix + 1, 1, 2, ⟨dt.toArray⟩⟩) hok (by omega) (by omega) (by show dt.length ≤ _; omega)
      generalize applyT t ⟨t.ix + 1, 1, 2, ⟨dt.toArray⟩⟩ = A at *
      repeat (first | (refine sxv hs hw ?_; clear hs; intro a hs) | refine sxc hs ?_ | (refine sxa hs hw ?_; clear hs hw; intro a b W hw hs) | (refine sxs hs hw ?_; clear hs hw; intro W hs hw))
      exact st_again (j + 1, A.1, H3) hs hw ⟨hj', by show A.1.ix = ((j + 1 : Nat) : Int); rw [hap.2.2.2 rfl, hix]; omega, by show A.1.rows.length ≤ j + 1; have := hap.2.1; omega, hap.1, hH2.trans hle3⟩ (by show m.length - (j + 1) < m.length - j; omega) ⟨rfl, rfl, rfl, rfl, rfl, int_eq (by show IntKind.i64.wrap ((j : Int) + 1) = ((j + 1 : Nat) : Int); rw [IntWalk.i64_in _ (by omega)]; omega), trivial⟩
    · repeat (first | (refine sxv hs hw ?_; clear hs; intro a hs) | refine sxc hs ?_ | (refine sxa hs hw ?_; clear hs hw; intro a b W hw hs) | (refine sxs hs hw ?_; clear hs hw; intro W hs hw))
      exact ⟨t, H2, hH2, hok, by omega, hs.of ⟨rfl, rfl, rfl, rfl, trivial⟩, hw⟩
  · clear hs hw
    rintro a W ⟨t, H2, hH2, hok, hr10, hs, hw⟩
    have hle := hle1.trans hH2
    have hdl := dataT_len hok.rows
    repeat (first | (refine sxv hs hw ?_; clear hs; intro a hs) | refine sxc hs ?_ | (refine sxa hs hw ?_; clear hs hw; intro a b W hw hs) | (refine sxs hs hw ?_; clear hs hw; intro W hs hw))
    refine st_call hs (hc := table_Data w _ H2 p t _ (by omega) hok.i64 hok.rows hle hT hw) (k := ?_); rintro e0 W1 ⟨rfl, hw1⟩; refine ⟨_, rfl, ?_⟩; clear hs hw; intro a hs; have hw := hw1; clear hw1
    generalize dataT t = dt at *
    refine st_bytes (s := ⟨dt.toArray⟩) hs hw (by show dt.length ≤ _; omega) (c := ?_); clear hs hw; intro a bd cap4 ext4 W hw hr4 hs
    have hr4 : RdB W (.slice (some ⟨bd, 0, none⟩) dt.length cap4) dt := hr4
    have hw : Has 0 w W (CellsM bd (bys dt ++ ext4) 5 :: TabAt H2 p t :: Fz H2 :: []) := hw
    have hw : Has 0 w W (CellsM bd (bys dt ++ ext4) 5 :: Fz H2 :: []) := hw.sel (by repeat (first | exact Sel.nil | exact Sel.refl _ | refine Sel.cons (by repeat (first | exact Pick.hd | apply Pick.tl)) ?_ | refine Sel.skip ?_))
    have hs : Slots a 64 ((38, .slice (some ⟨bd, 0, none⟩) dt.length cap4) :: _) := hs
    repeat (first | (refine sxv hs hw ?_; clear hs; intro a hs) | refine sxn hs ?_ | (refine sxa hs hw ?_; clear hs hw; intro a b W hw hs) | (refine sxs hs hw ?_; clear hs hw; intro W hs hw))
    refine sq ?_
    refine merge (M := fun a W => ∃ d2 : List UInt8, d2.length = dt.length ∧ Slots a 64 [(12, .slice (some ⟨bd, 0, none⟩) d2.length cap4), (3, .string raw)] ∧ Has 0 w W (CellsM bd (bys d2 ++ ext4) 5 :: Fz H2 :: [])) ?_ ?_
    · repeat (first | (refine sxv hs hw ?_; clear hs; intro a hs) | refine sxc hs ?_ | (refine sxa hs hw ?_; clear hs hw; intro a b W hw hs) | (refine sxs hs hw ?_; clear hs hw; intro W hs hw))
      cases c1 : decide ((dt.length : Int) > 0) with
      | false =>
        rw [c1] at hs
        repeat (first | (refine sxv hs hw ?_; clear hs; intro a hs) | refine sxc hs ?_ | (refine sxa hs hw ?_; clear hs hw; intro a b W hw hs) | (refine sxs hs hw ?_; clear hs hw; intro W hs hw))
        exact ⟨dt, rfl, hs.of ⟨rfl, rfl, trivial⟩, hw⟩
      | true =>
      rw [c1] at hs
      have g1 := of_decide_eq_true c1
      repeat (first | (refine sxv hs hw ?_; clear hs; intro a hs) | refine sxc hs ?_ | (refine sxa hs hw ?_; clear hs hw; intro a b W hw hs) | (refine sxs hs hw ?_; clear hs hw; intro W hs hw))
      cases c2 : decide (at_ ≥ 0) with
      | false =>
        rw [c2] at hs
        repeat (first | (refine sxv hs hw ?_; clear hs; intro a hs) | refine sxc hs ?_ | (refine sxa hs hw ?_; clear hs hw; intro a b W hw hs) | (refine sxs hs hw ?_; clear hs hw; intro W hs hw))
        exact ⟨dt, rfl, hs.of ⟨rfl, rfl, trivial⟩, hw⟩
      | true =>
      rw [c2] at hs
      have g2 := of_decide_eq_true c2
      obtain ⟨kk, hkk⟩ : ∃ kk : Nat, at_.tmod (dt.length : Int) = (kk : Int) := ⟨(at_.tmod (dt.length : Int)).toNat, by have := Int.tmod_nonneg (dt.length : Int) g2; omega⟩
      have hkl : kk < dt.length := by
        have := Int.tmod_lt_of_pos at_ (b := (dt.length : Int)) (by omega)
        omega
      repeat (first | (refine sxv hs hw ?_; clear hs; intro a hs) | refine sxc hs ?_ | (refine sxa hs hw ?_; clear hs hw; intro a b W hw hs) | (refine sxs hs hw ?_; clear hs hw; intro W hs hw))
      refine st_idiv hs (hne := beq_eq_false_iff_ne.2 (by omega)) (k := ?_); clear hs; intro a hs
      rw [hkk] at hs
      refine st_index_at hs (z := [.int .u8 0]) (h0 := by omega) (h1 := by omega) (c := ?_); clear hs; intro a hs
      have hcell : W.cell? ⟨bd, 0 + ((kk : Int)).toNat * 1, none⟩ = some (.int .u8 ((dt[kk]).toNat : Int)) := by
        rw [cell_m (hw.blockM In.hd).1, Nat.zero_add, Int.toNat_natCast, Nat.mul_one, List.getElem?_append_left (by simpa using hkl)]
        simp [bys, List.getElem?_eq_getElem hkl]
      refine st_load_at hs (hc := hcell) (c := ?_); clear hs; intro a hs
      repeat (first | (refine sxv hs hw ?_; clear hs; intro a hs) | refine sxc hs ?_ | (refine sxa hs hw ?_; clear hs hw; intro a b W hw hs) | (refine sxs hs hw ?_; clear hs hw; intro W hs hw))
      obtain ⟨d, hd⟩ := xor_byte ((dt[kk]).toNat : Int) x
      rw [hd] at hs
      refine st_index_at hs (z := [.int .u8 0]) (h0 := by omega) (h1 := by omega) (c := ?_); clear hs; intro a hs
      refine st_storeM hs hw (R' := CellsM bd ((bys dt ++ ext4).set (0 + ((kk : Int)).toNat * 1) (.int .u8 (d.toNat : Int))) 5 :: Fz H2 :: []) Upd.hd (by rw [Int.toNat_natCast, List.length_append]; simp; omega) (k := ?_); clear hs hw; intro W hs hw
      rw [Nat.zero_add, Int.toNat_natCast, Nat.mul_one, bys_set dt kk d ext4 hkl] at hw
      repeat (first | (refine sxv hs hw ?_; clear hs; intro a hs) | refine sxc hs ?_ | (refine sxa hs hw ?_; clear hs hw; intro a b W hw hs) | (refine sxs hs hw ?_; clear hs hw; intro W hs hw))
      exact ⟨dt.set kk d, List.length_set, hs.of ⟨by rw [List.length_set]; rfl, rfl, trivial⟩, hw⟩
    · clear hs hw
      rintro a W ⟨d2, hd2, hs, hw⟩
      have hr5 : RdB W (.slice (some ⟨bd, 0, none⟩) d2.length cap4) d2 := by
        obtain ⟨h1, ad, c2, e, h3, h4, h5⟩ := hr4
        injection e with e1 e2 e3
        subst e1 e3
        refine ⟨by simp, _, _, rfl, by omega, h4, .inr ⟨bd, 0, rfl, (hw.blockM In.hd).2.2, fun j u hj => ?_⟩⟩
        rw [cell_m (hw.blockM In.hd).1, Nat.zero_add]
        have hj2 := (List.getElem?_eq_some_iff.1 hj).1
        rw [List.getElem?_append_left hj2]; exact hj
      repeat (first | (refine sxv hs hw ?_; clear hs; intro a hs) | refine sxc hs ?_ | (refine sxa hs hw ?_; clear hs hw; intro a b W hw hs) | (refine sxs hs hw ?_; clear hs hw; intro W hs hw))
      refine st_string_b hs (r := hr5) (k := ?_); clear hs; intro a hs
      have hw := hw.sub (List.Sublist.cons _ (List.Sublist.refl _))
      refine st_call hs (hc := law19_tells w _ H2 ⟨d2.toArray⟩ _ (by show d2.length ≤ _; omega) hle hT hw) (k := ?_); rintro e0 W1 ⟨H3, hle3, rfl, hw1⟩; refine ⟨_, rfl, ?_⟩; clear hs hw; intro a hs; have hw := hw1; clear hw1
      repeat (first | (refine sxv hs hw ?_; clear hs; intro a hs) | refine sxc hs ?_ | (refine sxa hs hw ?_; clear hs hw; intro a b W hw hs) | (refine sxs hs hw ?_; clear hs hw; intro W hs hw))
      refine st_call hs (hc := law1_Cut raw 80 _ hraw (by decide)) (k := ?_); rintro e0 W1 ⟨rfl, rfl⟩; refine ⟨_, rfl, ?_⟩; clear hs; intro a hs
      have hcs : (cutS raw 80).size ≤ 200000 := Nat.le_trans (cutS_size raw 80) (by decide)
      rw [show Int.toNat 80 = 80 from rfl] at hs
      repeat (first | (refine sxv hs hw ?_; clear hs; intro a hs) | refine sxc hs ?_ | (refine sxa hs hw ?_; clear hs hw; intro a b W hw hs) | (refine sxs hs hw ?_; clear hs hw; intro W hs hw))
      refine st_call hs (hc := law19_tells w _ H3 (cutS raw 80) _ hcs (hle.trans hle3) hT hw) (k := ?_); rintro e0 W1 ⟨H4, hle4, rfl, hw1⟩; refine ⟨_, rfl, ?_⟩; clear hs hw; intro a hs; have hw := hw1; clear hw1
      repeat (first | (refine sxv hs hw ?_; clear hs; intro a hs) | refine sxc hs ?_ | (refine sxa hs hw ?_; clear hs hw; intro a b W hw hs) | (refine sxs hs hw ?_; clear hs hw; intro W hs hw))
      exact rt1 hs rfl rfl ⟨rfl, hw.endF In.hd ((hle.trans hle3).trans hle4)⟩
end Go.Proofs.YtalfmomnaghahaaDoor.Sw

/-
  The walk of TableMany.
-/
set_option linter.unusedVariables false
set_option maxRecDepth 10000
namespace Go.Proofs.YtalfmomnaghahaaDoor.Sw
open Go.RowKit Go.Sx

theorem addN_ok : ∀ o ∈ [addN], OpOk o := by
  intro o ho
  rw [List.mem_singleton] at ho
  subst ho
  exact ⟨⟨by decide, by decide⟩, ⟨by decide, by decide⟩, ⟨by decide, by decide⟩, ⟨by decide, by decide⟩, ⟨by decide, by decide⟩, ⟨by decide, by decide⟩, by decide, by decide, by decide⟩
theorem add_len : ([addN].flatMap opB).length ≤ 100 := of_decide_eq_true (by kernel_rfl)
theorem add_may : [addN].all mayD = true := by kernel_rfl
theorem may_add {c q : Int} (hc : 1 ≤ c ∧ c ≤ 5) (hq : 1 ≤ q ∧ q ≤ 1099511627776) : mayBatch c q [addN] = true := by
  have h1 := Ph.putI_length_le c
  have h2 := Ph.putI_length_le q
  have h3 := Ph.putI_length_le (([addN] : List OpD).length : Int)
  have h4 := add_len
  have hl : ((textB c q [addN]).length : Int) ≤ 1200 := by
    unfold textB headB
    simp only [List.length_append] at *
    omega
  unfold mayBatch
  rw [decide_eq_false (show ¬ c < 1 by omega), decide_eq_false (show ¬ c > 5 by omega), decide_eq_false (show ¬ q < 1 by omega), decide_eq_false (show ¬ q > 1099511627776 by omega), add_may, decide_eq_true hl]
  rfl
theorem next_add {f : FoldD} {c : Int} (hm : mayBatch c (IntKind.i64.wrap (lastOf f c + 1)) [addN] = true) : (next f ⟨c, IntKind.i64.wrap (lastOf f c + 1), [addN]⟩).2.2 = true := by
  have : nextB f ⟨c, IntKind.i64.wrap (lastOf f c + 1), [addN]⟩ = true := by
    unfold nextB mayB
    simp only [hm, Bool.true_and, beq_self_eq_true]
  unfold next
  rw [this]
theorem apply_add {t : TabD} {c : Int} {j : Nat} (hix : t.ix = (j : Int)) (hj : j ≤ 100000) (hm : mayBatch c (IntKind.i64.wrap (lastOf t.f c + 1)) [addN] = true) : applyT t ⟨((j + 1 : Nat) : Int), 1, 2, ⟨(textB c (IntKind.i64.wrap (lastOf t.f c + 1)) [addN]).toArray⟩⟩ = (⟨IntKind.i64.wrap (t.ix + 1), (next t.f ⟨c, IntKind.i64.wrap (lastOf t.f c + 1), [addN]⟩).1, t.rows ++ [(next t.f ⟨c, IntKind.i64.wrap (lastOf t.f c + 1), [addN]⟩).2.1]⟩, (next t.f ⟨c, IntKind.i64.wrap (lastOf t.f c + 1), [addN]⟩).2.1, true) := by
  have hd : decode (textB c (IntKind.i64.wrap (lastOf t.f c + 1)) [addN]) = some (c, IntKind.i64.wrap (lastOf t.f c + 1), [addN]) := decode_text hm addN_ok
  unfold applyT
  rw [if_pos (by show ((j + 1 : Nat) : Int) = _; rw [hix, IntWalk.i64_in _ (by omega)]; omega)]
  show (match ((2 : Int) == 2), decode (textB c (IntKind.i64.wrap (lastOf t.f c + 1)) [addN]) with
     | true, some p => playT (IntKind.i64.wrap (t.ix + 1)) t ⟨p.1, p.2.1, p.2.2⟩
     | _, _ => _) = _
  rw [hd]
  show playT (IntKind.i64.wrap (t.ix + 1)) t ⟨c, IntKind.i64.wrap (lastOf t.f c + 1), [addN]⟩ = _
  unfold playT
  rw [next_add hm]
theorem last_next {f : FoldD} {c : Int} {j : Nat} (hl : ∀ c', 0 ≤ lastOf f c' ∧ lastOf f c' ≤ j) (hq : 0 ≤ IntKind.i64.wrap (lastOf f c + 1) ∧ IntKind.i64.wrap (lastOf f c + 1) ≤ ((j + 1 : Nat) : Int)) (hm : mayBatch c (IntKind.i64.wrap (lastOf f c + 1)) [addN] = true) : ∀ c', 0 ≤ lastOf (next f ⟨c, IntKind.i64.wrap (lastOf f c + 1), [addN]⟩).1 c' ∧ lastOf (next f ⟨c, IntKind.i64.wrap (lastOf f c + 1), [addN]⟩).1 c' ≤ ((j + 1 : Nat) : Int) := by
  intro c'
  rw [(next_ok (next_add hm)).2]
  generalize IntKind.i64.wrap (lastOf f c + 1) = Q at *
  have h0 := hl c'
  unfold lastOf at h0 ⊢
  by_cases h15 : 1 ≤ c' ∧ c' ≤ 5
  · rw [if_pos h15] at h0 ⊢
    show 0 ≤ (((f.told.set c.toNat (Q, nextR f ⟨c, Q, [addN]⟩))[c'.toNat]?).map (·.1)).getD 0 ∧ (((f.told.set c.toNat (Q, nextR f ⟨c, Q, [addN]⟩))[c'.toNat]?).map (·.1)).getD 0 ≤ ((j + 1 : Nat) : Int)
    rw [List.getElem?_set]
    split
    · split
      · exact hq
      · simp only [Option.map_none, Option.getD_none]; omega
    · constructor
      · exact h0.1
      · have := h0.2
        omega
  · rw [if_neg h15]
    omega
theorem rowsT_len {t : TabD} {k : Nat} (hk : k ≤ t.rows.length) : (rowsT t ((k : Int) + 1) 50).length = min 10 (t.rows.length - k) ∧ ∀ i r, (rowsT t ((k : Int) + 1) 50)[i]? = some r → t.rows[k + i]? = some r := by
  unfold rowsT
  by_cases h : k = t.rows.length
  · rw [if_pos (.inr (.inl (by omega)))]
    exact ⟨by simp; omega, by simp⟩
  · rw [if_neg (by omega), show (((k : Int) + 1 - 1)).toNat = k by omega]
    refine ⟨?_, fun i r hr => ?_⟩
    · rw [List.length_take, List.length_drop]
      show min (min 50 10) _ = _
      omega
    · rw [List.getElem?_take] at hr
      split at hr
      · rw [List.getElem?_drop] at hr; exact hr
      · cases hr

theorem last_empty : ∀ c, 0 ≤ lastOf emptyF c ∧ lastOf emptyF c ≤ ((0 : Nat) : Int) := by
  intro c
  unfold lastOf
  split
  · have : ∀ k : Nat, (((emptyF.told)[k]?).map (·.1)).getD 0 = 0 := by
      intro k
      rcases k with _ | _ | _ | _ | _ | _ | k <;> rfl
    rw [this]; decide
  · decide

set_option maxHeartbeats 32000000 in
theorem walk_TableMany (n : Int) (load : Bool) (w : World) (hn : (Lit.int .i64 n).wf = true) (hT : Tabs w) :
    Calls Tryd.prog 4 ⟨[.int .i64 n, .bool load]⟩ w fun e w' => e = .returned (.bool true) ∧ Below w.heap.size w w' := by
  have hw := Has.startF w
  refine enter Tryd.func4 Tryd.ntmps4 rfl rfl fun a hs => ?_
  repeat (first | (refine sxv hs hw ?_; clear hs; intro a hs) | refine sxc hs ?_ | (refine sxa hs hw ?_; clear hs hw; intro a b W hw hs) | (refine sxs hs hw ?_; clear hs hw; intro W hs hw))
  refine st_call hs (hc := law19_begun _ hT) (k := ?_); rintro e0 W1 ⟨rfl, hb⟩; refine ⟨_, rfl, ?_⟩; clear hs; intro a hs; replace hw := hw.below hb; clear hb
  repeat (first | (refine sxv hs hw ?_; clear hs; intro a hs) | refine sxc hs ?_ | (refine sxa hs hw ?_; clear hs hw; intro a b W hw hs) | (refine sxs hs hw ?_; clear hs hw; intro W hs hw))
  cases c1 : decide (n < 0) with
  | true =>
    rw [c1] at hs
    repeat (first | (refine sxv hs hw ?_; clear hs; intro a hs) | refine sxc hs ?_ | (refine sxa hs hw ?_; clear hs hw; intro a b W hw hs) | (refine sxs hs hw ?_; clear hs hw; intro W hs hw))
    exact rt1 hs rfl rfl ⟨rfl, hw.endF In.hd (Fh.le.refl _)⟩
  | false =>
  rw [c1] at hs
  have g1 := of_decide_eq_false c1
  repeat (first | (refine sxv hs hw ?_; clear hs; intro a hs) | refine sxc hs ?_ | (refine sxa hs hw ?_; clear hs hw; intro a b W hw hs) | (refine sxs hs hw ?_; clear hs hw; intro W hs hw))
  cases c2 : decide (n > 150) with
  | true =>
    rw [c2] at hs
    repeat (first | (refine sxv hs hw ?_; clear hs; intro a hs) | refine sxc hs ?_ | (refine sxa hs hw ?_; clear hs hw; intro a b W hw hs) | (refine sxs hs hw ?_; clear hs hw; intro W hs hw))
    exact rt1 hs rfl rfl ⟨rfl, hw.endF In.hd (Fh.le.refl _)⟩
  | false =>
  rw [c2] at hs
  have g2 := of_decide_eq_false c2
  obtain ⟨nn, rfl⟩ := Int.eq_ofNat_of_zero_le (show 0 ≤ n by omega)
  repeat (first | (refine sxv hs hw ?_; clear hs; intro a hs) | refine sxc hs ?_ | (refine sxa hs hw ?_; clear hs hw; intro a b W hw hs) | (refine sxs hs hw ?_; clear hs hw; intro W hs hw))
  refine st_call hs (hc := table_New w _ (fr w) _ hw) (k := ?_); rintro e0 W1 ⟨p, rfl, hw1⟩; refine ⟨_, rfl, ?_⟩; clear hs hw; intro a hs; have hw := hw1; clear hw1
  repeat (first | (refine sxv hs hw ?_; clear hs; intro a hs) | refine sxn hs ?_ | (refine sxa hs hw ?_; clear hs hw; intro a b W hw hs) | (refine sxs hs hw ?_; clear hs hw; intro W hs hw))
  refine sq ?_
  refine merge (M := fun a W => ∃ (t : TabD) (H' : Fh), (fr w).le H' ∧ TabOk t ∧ t.rows.length = nn ∧ Slots a 113 [(0, .int .i64 (nn : Int)), (1, .bool load), (6, .pointer (some ⟨p, 0, none⟩))] ∧ Has 0 w W (TabAt H' p t :: Fz H' :: [])) ?_ ?_
  · repeat (first | (refine sxv hs hw ?_; clear hs; intro a hs) | refine sxc hs ?_ | (refine sxa hs hw ?_; clear hs hw; intro a b W hw hs) | (refine sxs hs hw ?_; clear hs hw; intro W hs hw))
    refine st_loop (σ := Nat × TabD × Fh) (fun u => [(0, .int .i64 (nn : Int)), (1, .bool load), (6, .pointer (some ⟨p, 0, none⟩)), (7, .int .i64 ((u.1 + 1 : Nat) : Int))]) (fun u => TabAt u.2.2 p u.2.1 :: Fz u.2.2 :: []) (fun u => u.1 ≤ nn ∧ u.2.1.ix = u.1 ∧ u.2.1.rows.length = u.1 ∧ TabOk u.2.1 ∧ (fr w).le u.2.2 ∧ ∀ c, 0 ≤ lastOf u.2.1.f c ∧ lastOf u.2.1.f c ≤ u.1) (fun u => nn - u.1) (0, emptyT, fr w) ⟨Nat.zero_le _, rfl, rfl, TabOk.nil, Fh.le.refl _, last_empty⟩ hs ⟨rfl, rfl, rfl, rfl, trivial⟩ hw ?_
    clear hs hw
    rintro ⟨j, t, H1⟩ a W ⟨hj, hix, hrl, hok, hle1, hlast⟩ hs hw
    simp only at hj hix hrl hok hle1 hlast hs hw
    repeat (first | (refine sxv hs hw ?_; clear hs; intro a hs) | refine sxc hs ?_ | (refine sxa hs hw ?_; clear hs hw; intro a b W hw hs) | (refine sxs hs hw ?_; clear hs hw; intro W hs hw))
    cases c3 : decide (((j + 1 : Nat) : Int) ≤ (nn : Int)) with
    | false =>
      rw [c3] at hs
      have g3 := of_decide_eq_false c3
      repeat (first | (refine sxv hs hw ?_; clear hs; intro a hs) | refine sxc hs ?_ | (refine sxa hs hw ?_; clear hs hw; intro a b W hw hs) | (refine sxs hs hw ?_; clear hs hw; intro W hs hw))
      exact ⟨t, H1, hle1, hok, by omega, hs.of ⟨rfl, rfl, rfl, trivial⟩, hw⟩
    | true =>
    rw [c3] at hs
    have g3 := of_decide_eq_true c3
    have hm5 := Int.tmod_nonneg 5 (show 0 ≤ ((j + 1 : Nat) : Int) by omega)
    have hm6 := Int.tmod_lt_of_pos ((j + 1 : Nat) : Int) (show (0 : Int) < 5 by decide)
    obtain ⟨c, hc⟩ : ∃ c, IntKind.i64.wrap (1 + ((j + 1 : Nat) : Int).tmod 5) = c := ⟨_, rfl⟩
    have hc15 : 1 ≤ c ∧ c ≤ 5 := by rw [← hc, IntWalk.i64_in _ (by omega)]; omega
    repeat (first | (refine sxv hs hw ?_; clear hs; intro a hs) | refine sxc hs ?_ | (refine sxa hs hw ?_; clear hs hw; intro a b W hw hs) | (refine sxs hs hw ?_; clear hs hw; intro W hs hw))
    obtain ⟨q0, hq0⟩ : ∃ q, IntKind.i64.wrap ((IntKind.i64.wrap (((j + 1 : Nat) : Int) + 4)).tdiv 5) = q := ⟨_, rfl⟩
    obtain ⟨b8, q8⟩ := nm1 hw; subst q8
    obtain ⟨bo, qo⟩ := nm2 hw; subst qo
    rw [hc, hq0] at hs hw
    have hw : Has 0 w _ (Cells bo (opCells addN) 41 :: Fz H1 :: Cells b8 [.int .i64 c, .int .i64 q0, .slice (some ⟨bo, 0, none⟩) 1 1] 25 :: TabAt H1 p t :: []) := hw.perm (by repeat (first | exact List.Perm.refl _ | refine perm_pick (by repeat (first | exact Pick.hd | apply Pick.tl)) ?_))
    obtain ⟨H2, hle12, hw, hop⟩ := hw.freeze_lit (m := 1) (sz := 9) rfl (by decide)
    have hop : OpsH H2 (.slice (some ⟨bo, 0, none⟩) 1 1) [addN] := hop
    have hle2 := hle1.trans hle12
    have hw : Has 0 w _ (TabAt H1 p t :: Free :: Cells b8 [.int .i64 c, .int .i64 q0, .slice (some ⟨bo, 0, none⟩) 1 1] 25 :: Fz H2 :: []) := hw.free.perm (by repeat (first | exact List.Perm.refl _ | refine perm_pick (by repeat (first | exact Pick.hd | apply Pick.tl)) ?_))
    have hw := tabLe hw hle12
    refine rg_drawU (σ := Nat) (V := fun u => [.pointer (some ⟨p, 0, none⟩), .pointer (some ⟨u 1, 0, none⟩), .pointer (some ⟨b8, 0 + 0, none⟩), .int .i64 c, .int .i64 (lastOf t.f c), .int .i64 (IntKind.i64.wrap (lastOf t.f c + 1)), .pointer (some ⟨b8, 0 + 1, none⟩), .bool true])
      (Rs := fun u D => TabAt H2 p t :: (if D 1 then FoldAt H2 (u 1) t.f else Free) :: Cells b8 [.int .i64 c, (if D 7 then .int .i64 (IntKind.i64.wrap (lastOf t.f c + 1)) else .int .i64 q0), .slice (some ⟨bo, 0, none⟩) 1 1] 25 :: Fz H2 :: []) (fun _ => 0) hs hw (hVu := ?vu_1) (ho := ⟨?_, ?c1_1, ?_, ?_, ?c4_1, ?_, ?_, ?c7_1, trivial⟩) (k := ?k_1)
    case vu_1 =>
      intro u u' j h
      rcases j with _ | _ | _ | _ | _ | _ | _ | _ | j
      all_goals first | rfl | simp [h]
    case c1_1 =>
      intro u LD D a W hcl hi hp hs hw
      simp only [hi, Bool.false_eq_true, if_false] at hw
      refine st_call hs (hc := table_Fold w _ H2 p t _ hw) (k := ?_); rintro e0 W1 ⟨q, rfl, hw1⟩; refine ⟨_, rfl, ?_⟩; clear hs hw; intro a hs; have hw := hw1; clear hw1
      repeat (first | (refine sxv hs hw ?_; clear hs; intro a hs) | refine sxc hs ?_ | (refine sxa hs hw ?_; clear hs hw; intro a b W hw hs) | (refine sxs hs hw ?_; clear hs hw; intro W hs hw))
      exact Or.inr ⟨q, hs, hw.fill (Upd.tl Upd.hd)⟩
    case c4_1 =>
      intro u LD D a W hcl hi hp hs hw
      have h1 := Go.Sx.done hp 1 (by kernel_rfl)
      simp only [h1, if_true] at hw
      refine st_call hs (hc := fold_Last w _ H2 (u 1) t.f c _ hw.swap2) (k := ?_); rintro e0 W1 ⟨rfl, hw1⟩; refine ⟨_, rfl, ?_⟩; clear hs hw; intro a hs; have hw := hw1; clear hw1
      repeat (first | (refine sxv hs hw ?_; clear hs; intro a hs) | refine sxc hs ?_ | (refine sxa hs hw ?_; clear hs hw; intro a b W hw hs) | (refine sxs hs hw ?_; clear hs hw; intro W hs hw))
      refine Or.inl ⟨hs, ?_⟩
      show Has 0 w _ (_ :: (if (Nat.beq 1 4 || D 1) = true then _ else _) :: _)
      rw [h1]
      exact hw.swap2
    case c7_1 =>
      intro u LD D a W hcl hi hp hs hw
      simp only [hi, Bool.false_eq_true, if_false] at hw
      repeat (first | (refine sxv hs hw ?_; clear hs; intro a hs) | refine sxc hs ?_ | (refine sxa hs hw ?_; clear hs hw; intro a b W hw hs) | (refine sxs hs hw ?_; clear hs hw; intro W hs hw))
      exact Or.inl ⟨hs, hw⟩
    case k_1 =>
      clear hs hw
      intro u a W hs hw
      replace hw : Has 0 w W (TabAt H2 p t :: FoldAt H2 (u 1) t.f :: Cells b8 [.int .i64 c, .int .i64 (IntKind.i64.wrap (lastOf t.f c + 1)), .slice (some ⟨bo, 0, none⟩) 1 1] 25 :: Fz H2 :: []) := hw
      replace hs : Slots a 113 [(0, .int .i64 (nn : Int)), (1, .bool load), (6, .pointer (some ⟨p, 0, none⟩)), (7, .int .i64 ((j + 1 : Nat) : Int)), (8, .pointer (some ⟨b8, 0, none⟩))] := hs.of ⟨rfl, rfl, rfl, rfl, rfl, trivial⟩
      have hw : Has 0 w W (TabAt H2 p t :: Fz H2 :: Cells b8 [.int .i64 c, .int .i64 (IntKind.i64.wrap (lastOf t.f c + 1)), .slice (some ⟨bo, 0, none⟩) 1 1] 25 :: []) := hw.sel (by repeat (first | exact Sel.nil | exact Sel.refl _ | refine Sel.cons (by repeat (first | exact Pick.hd | apply Pick.tl)) ?_ | refine Sel.skip ?_))
      have hlc := hlast c
      have hQ : (IntKind.i64.wrap (lastOf t.f c + 1)) = lastOf t.f c + 1 := IntWalk.i64_in _ (by omega)
      have hm : mayBatch c (IntKind.i64.wrap (lastOf t.f c + 1)) [addN] = true := may_add hc15 (by rw [hQ]; omega)
      have hA := apply_add (t := t) (c := c) hix (by omega) hm
      repeat (first | (refine sxv hs hw ?_; clear hs; intro a hs) | refine sxc hs ?_ | (refine sxa hs hw ?_; clear hs hw; intro a b W hw hs) | (refine sxs hs hw ?_; clear hs hw; intro W hs hw))
      refine st_call hs (hc := ref_EncodeBatch c (IntKind.i64.wrap (lastOf t.f c + 1)) [addN] _ _ ⟨by omega, by omega⟩ ⟨by rw [hQ]; omega, by rw [hQ]; omega⟩ addN_ok (hw.rdH (by repeat (first | exact In.hd | apply In.tl)) hop)) (k := ?_); rintro e0 W1 ⟨ead, ecap, rfl, hw1⟩; refine ⟨_, rfl, ?_⟩; clear hs; intro a hs; replace hw := hw.call hw1; clear hw1
      rw [if_pos hm] at hs hw
      refine st_string_b hs (r := hw.rd_own In.hd) (k := ?_); clear hs; intro a hs
      have hw : Has 0 w _ (TabAt H2 p t :: Fz H2 :: []) := hw.sel (by repeat (first | exact Sel.nil | exact Sel.refl _ | refine Sel.cons (by repeat (first | exact Pick.hd | apply Pick.tl)) ?_ | refine Sel.skip ?_))
      have hdl : (textB c (IntKind.i64.wrap (lastOf t.f c + 1)) [addN]).length ≤ 1200 := (mayBatch_parts hm).2.2.2.2
      repeat (first | (refine sxv hs hw ?_; clear hs; intro a hs) | refine sxc hs ?_ | (refine sxa hs hw ?_; clear hs hw; intro a b W hw hs) | (refine sxs hs hw ?_; clear hs hw; intro W hs hw))
      refine st_call hs (hc := table_Apply w _ H2 p t ⟨((j + 1 : Nat) : Int), 1, 2, ⟨(textB c (IntKind.i64.wrap (lastOf t.f c + 1)) [addN]).toArray⟩⟩ _ (by omega) (by show (textB c (IntKind.i64.wrap (lastOf t.f c + 1)) [addN]).length ≤ _; omega) hle2 hT hw) (k := ?_); rintro e0 W1 ⟨nv, H3, rfl, hle3, hnv, hw1⟩; refine ⟨_, rfl, ?_⟩; clear hs hw; intro a hs; have hw := hw1; clear hw1
      have hap := applyT_ok (e := ⟨((j + 1 : Nat) : Int), 1, 2, ⟨(textB c (IntKind.i64.wrap (lastOf t.f c + 1)) [addN]).toArray⟩⟩) hok (by omega) (by omega) (by show (textB c (IntKind.i64.wrap (lastOf t.f c + 1)) [addN]).length ≤ _; omega)
      rw [hA] at hs hw hap hnv
      simp only at hs hw hap hnv
      obtain ⟨nad, ncap, rfl⟩ := hnv.slice
      repeat (first | (refine sxv hs hw ?_; clear hs; intro a hs) | refine sxc hs ?_ | (refine sxa hs hw ?_; clear hs hw; intro a b W hw hs) | (refine sxs hs hw ?_; clear hs hw; intro W hs hw))
      have hw := hw.sel (K := TabAt H3 p ⟨IntKind.i64.wrap (t.ix + 1), (next t.f ⟨c, (IntKind.i64.wrap (lastOf t.f c + 1)), [addN]⟩).1, t.rows ++ [(next t.f ⟨c, (IntKind.i64.wrap (lastOf t.f c + 1)), [addN]⟩).2.1]⟩ :: Fz H3 :: []) (by repeat (first | exact Sel.nil | exact Sel.refl _ | refine Sel.cons (by repeat (first | exact Pick.hd | apply Pick.tl)) ?_ | refine Sel.skip ?_))
      refine st_again (j + 1, _, H3) hs hw ⟨by omega, ?_, ?_, hap.1, hle2.trans hle3, ?_⟩ (by show nn - (j + 1) < nn - j; omega) ⟨rfl, rfl, rfl, int_eq (by show IntKind.i64.wrap (((j + 1 : Nat) : Int) + 1) = ((j + 1 + 1 : Nat) : Int); rw [IntWalk.i64_in _ (by omega)]; omega), trivial⟩
      · show IntKind.i64.wrap (t.ix + 1) = ((j + 1 : Nat) : Int)
        rw [hix, IntWalk.i64_in _ (by omega)]; omega
      · show (t.rows ++ [_]).length = j + 1
        rw [List.length_append, hrl]; rfl
      · exact last_next hlast (by rw [hQ]; omega) hm
    all_goals
      intro u LD D a W hcl hi hp hs hw
      repeat (first | (refine sxv hs hw ?_; clear hs; intro a hs) | refine sxc hs ?_ | (refine sxa hs hw ?_; clear hs hw; intro a b W hw hs) | (refine sxs hs hw ?_; clear hs hw; intro W hs hw))
      exact Or.inl ⟨hs, hw⟩
  · clear hs hw
    rintro a W ⟨t, H1, hle1, hok, hrl, hs, hw⟩
    have hpp := play_places (k := 0) hok.play rfl (by omega)
    repeat (first | (refine sxv hs hw ?_; clear hs; intro a hs) | refine sxn hs ?_ | (refine sxa hs hw ?_; clear hs hw; intro a b W hw hs) | (refine sxs hs hw ?_; clear hs hw; intro W hs hw))
    refine sq ?_
    refine merge (M := fun a W => ∃ (q : Nat) (H' : Fh), (fr w).le H' ∧ Slots a 113 [(0, .int .i64 (nn : Int)), (6, .pointer (some ⟨q, 0, none⟩))] ∧ Has 0 w W (TabAt H' q t :: Fz H' :: [])) ?_ ?_
    · repeat (first | (refine sxv hs hw ?_; clear hs; intro a hs) | refine sxc hs ?_ | (refine sxa hs hw ?_; clear hs hw; intro a b W hw hs) | (refine sxs hs hw ?_; clear hs hw; intro W hs hw))
      cases load with
      | false =>
        repeat (first | (refine sxv hs hw ?_; clear hs; intro a hs) | refine sxc hs ?_ | (refine sxa hs hw ?_; clear hs hw; intro a b W hw hs) | (refine sxs hs hw ?_; clear hs hw; intro W hs hw))
        exact ⟨p, H1, hle1, hs.of ⟨rfl, rfl, trivial⟩, hw⟩
      | true =>
        repeat (first | (refine sxv hs hw ?_; clear hs; intro a hs) | refine sxc hs ?_ | (refine sxa hs hw ?_; clear hs hw; intro a b W hw hs) | (refine sxs hs hw ?_; clear hs hw; intro W hs hw))
        have hdl := dataT_len hok.rows
        refine st_call hs (hc := table_Data w _ H1 p t _ (by omega) hok.i64 hok.rows hle1 hT hw) (k := ?_); rintro e0 W1 ⟨rfl, hw1⟩; refine ⟨_, rfl, ?_⟩; clear hs hw; intro a hs; have hw := hw1; clear hw1
        repeat (first | (refine sxv hs hw ?_; clear hs; intro a hs) | refine sxc hs ?_ | (refine sxa hs hw ?_; clear hs hw; intro a b W hw hs) | (refine sxs hs hw ?_; clear hs hw; intro W hs hw))
        refine st_call hs (hc := table_Load w _ H1 ⟨(dataT t).toArray⟩ _ (by show (dataT t).length ≤ _; omega) hle1 hT hw.swap2) (k := ?_); rintro e0 W1 ⟨H2, hle2, hld⟩
        obtain ⟨u, q, hu, rfl, hw1⟩ := hld.resolve_left (by
          rintro ⟨h, _, _⟩
          have h : loadT (dataT t) = none := h
          rw [load_data hok] at h; cases h)
        have hu : loadT (dataT t) = some u := hu
        rw [load_data hok] at hu
        obtain rfl : t = u := Option.some.inj hu
        refine ⟨_, rfl, ?_⟩; clear hs hw hu; intro a hs; have hw := hw1; clear hw1
        repeat (first | (refine sxv hs hw ?_; clear hs; intro a hs) | refine sxc hs ?_ | (refine sxa hs hw ?_; clear hs hw; intro a b W hw hs) | (refine sxs hs hw ?_; clear hs hw; intro W hs hw))
        exact ⟨q, H2, hle1.trans hle2, hs.of ⟨rfl, rfl, trivial⟩, hw.sel (by repeat (first | exact Sel.nil | exact Sel.refl _ | refine Sel.cons (by repeat (first | exact Pick.hd | apply Pick.tl)) ?_ | refine Sel.skip ?_))⟩
    clear hs hw
    rintro a W ⟨q, H2, hle2, hs, hw⟩
    repeat (first | (refine sxv hs hw ?_; clear hs; intro a hs) | refine sxc hs ?_ | (refine sxa hs hw ?_; clear hs hw; intro a b W hw hs) | (refine sxs hs hw ?_; clear hs hw; intro W hs hw))
    refine st_loop (σ := Nat × Fh) (fun u => [(0, .int .i64 (nn : Int)), (6, .pointer (some ⟨q, 0, none⟩)), (13, .int .i64 (u.1 : Int))]) (fun u => TabAt u.2 q t :: Fz u.2 :: []) (fun u => u.1 ≤ nn ∧ (fr w).le u.2) (fun u => nn - u.1) (0, H2) ⟨Nat.zero_le _, hle2⟩ hs ⟨rfl, rfl, rfl, trivial⟩ hw ?_
    clear hs hw
    rintro ⟨k, H3⟩ a W ⟨hk, hle3⟩ hs hw
    simp only at hk hle3 hs hw
    have h8 : ∀ r ∈ t.rows, r.b.l.length ≤ 1000 := fun r hr => by have := (may_parts (hok.rows r hr).2).2.2; omega
    have ew : IntKind.i64.wrap ((k : Int) + 1) = (k : Int) + 1 := IntWalk.i64_in _ (by omega)
    have ew2 : IntKind.i64.wrap ((nn : Int) - (k : Int)) = (nn : Int) - (k : Int) := IntWalk.i64_in _ (by omega)
    repeat (first | (refine sxv hs hw ?_; clear hs; intro a hs) | refine sxc hs ?_ | (refine sxa hs hw ?_; clear hs hw; intro a b W hw hs) | (refine sxs hs hw ?_; clear hs hw; intro W hs hw))
    rw [ew] at hs
    refine st_call hs (hc := table_Rows w _ H3 q t ((k : Int) + 1) 50 _ (by omega) h8 hw) (k := ?_); rintro e0 W1 ⟨rv, H4, rfl, hle4, hrv, hw1⟩; refine ⟨_, rfl, ?_⟩; clear hs hw; intro a hs; have hw := hw1; clear hw1
    obtain ⟨hrl2, hrat⟩ := rowsT_len (t := t) (k := k) (by omega)
    generalize rowsT t ((k : Int) + 1) 50 = ro at *
    obtain ⟨rxs, hrv, hrc⟩ := hrv
    obtain ⟨rad, rcap, rfl⟩ := hrv.slice
    repeat (first | (refine sxv hs hw ?_; clear hs; intro a hs) | refine sxc hs ?_ | (refine sxa hs hw ?_; clear hs hw; intro a b W hw hs) | (refine sxs hs hw ?_; clear hs hw; intro W hs hw))
    rw [ew2] at hs
    refine st_min hs (k := ?_); clear hs; intro a hs
    have hmin : (if (nn : Int) - (k : Int) < 10 then (nn : Int) - (k : Int) else 10) = (ro.length : Int) := by
      rw [hrl2, hrl]
      split <;> omega
    rw [hmin] at hs
    repeat (first | (refine sxv hs hw ?_; clear hs; intro a hs) | refine sxc hs ?_ | (refine sxa hs hw ?_; clear hs hw; intro a b W hw hs) | (refine sxs hs hw ?_; clear hs hw; intro W hs hw))
    rw [bne_self_eq_false] at hs
    repeat (first | (refine sxv hs hw ?_; clear hs; intro a hs) | refine sxc hs ?_ | (refine sxa hs hw ?_; clear hs hw; intro a b W hw hs) | (refine sxs hs hw ?_; clear hs hw; intro W hs hw))
    cases c4 : ((ro.length : Int) == 0) with
    | true =>
      rw [c4] at hs
      repeat (first | (refine sxv hs hw ?_; clear hs; intro a hs) | refine sxc hs ?_ | (refine sxa hs hw ?_; clear hs hw; intro a b W hw hs) | (refine sxs hs hw ?_; clear hs hw; intro W hs hw))
      refine st_call hs (hc := table_Rows w _ H4 q t 0 5 _ (by omega) h8 hw) (k := ?_); rintro e0 W1 ⟨rv2, H5, rfl, hle5, hrv2, hw1⟩; refine ⟨_, rfl, ?_⟩; clear hs hw; intro a hs; have hw := hw1; clear hw1
      have hz : rowsT t 0 5 = [] := by unfold rowsT; rw [if_pos (.inl (by decide))]
      rw [hz] at hrv2
      obtain ⟨rad2, rcap2, rfl⟩ : ∃ ad cap, rv2 = .slice ad 0 cap := by obtain ⟨_, h, _⟩ := hrv2; exact h.slice
      repeat (first | (refine sxv hs hw ?_; clear hs; intro a hs) | refine sxc hs ?_ | (refine sxa hs hw ?_; clear hs hw; intro a b W hw hs) | (refine sxs hs hw ?_; clear hs hw; intro W hs hw))
      refine st_call hs (hc := table_Rows w _ H5 q t (-1) 5 _ (by omega) h8 hw) (k := ?_); rintro e0 W1 ⟨rv3, H6, rfl, hle6, hrv3, hw1⟩; refine ⟨_, rfl, ?_⟩; clear hs hw; intro a hs; have hw := hw1; clear hw1
      have hz3 : rowsT t (-1) 5 = [] := by unfold rowsT; rw [if_pos (.inl (by decide))]
      rw [hz3] at hrv3
      obtain ⟨rad3, rcap3, rfl⟩ : ∃ ad cap, rv3 = .slice ad 0 cap := by obtain ⟨_, h, _⟩ := hrv3; exact h.slice
      repeat (first | (refine sxv hs hw ?_; clear hs; intro a hs) | refine sxc hs ?_ | (refine sxa hs hw ?_; clear hs hw; intro a b W hw hs) | (refine sxs hs hw ?_; clear hs hw; intro W hs hw))
      exact rt1 hs rfl rfl ⟨rfl, hw.endF (In.tl In.hd) (((hle3.trans hle4).trans hle5).trans hle6)⟩
    | false =>
    rw [c4] at hs
    have hrp : 0 < ro.length := by
      rcases Nat.eq_zero_or_pos ro.length with h | h
      · rw [h] at c4; cases c4
      · exact h
    have hro10 : ro.length ≤ 10 := by omega
    repeat (first | (refine sxv hs hw ?_; clear hs; intro a hs) | refine sxn hs ?_ | (refine sxa hs hw ?_; clear hs hw; intro a b W hw hs) | (refine sxs hs hw ?_; clear hs hw; intro W hs hw))
    refine sq ?_
    refine merge (M := fun a W => Slots a 113 [(0, .int .i64 (nn : Int)), (6, .pointer (some ⟨q, 0, none⟩)), (13, .int .i64 (k : Int)), (14, .slice rad ro.length rcap)] ∧ Has 0 w W (TabAt H4 q t :: Fz H4 :: [])) ?_ ?_
    · repeat (first | (refine sxv hs hw ?_; clear hs; intro a hs) | refine sxc hs ?_ | (refine sxa hs hw ?_; clear hs hw; intro a b W hw hs) | (refine sxs hs hw ?_; clear hs hw; intro W hs hw))
      refine st_loop (σ := Nat) (fun i => [(0, .int .i64 (nn : Int)), (6, .pointer (some ⟨q, 0, none⟩)), (13, .int .i64 (k : Int)), (14, .slice rad ro.length rcap), (15, .int .i64 (i : Int))]) (fun _ => TabAt H4 q t :: Fz H4 :: []) (fun i => i ≤ ro.length) (fun i => ro.length - i) 0 (Nat.zero_le _) hs ⟨rfl, rfl, rfl, rfl, rfl, trivial⟩ hw ?_
      clear hs hw
      rintro i a W hi hs hw
      repeat (first | (refine sxv hs hw ?_; clear hs; intro a hs) | refine sxc hs ?_ | (refine sxa hs hw ?_; clear hs hw; intro a b W hw hs) | (refine sxs hs hw ?_; clear hs hw; intro W hs hw))
      refine cd_split hs (kt := fun hcc => ?_) (kf := fun hcc => ?_)
      · have hi' : i < ro.length := by simpa using hcc
        obtain ⟨r, hri⟩ : ∃ o, ro[i]? = some o := ⟨ro[i], List.getElem?_eq_getElem hi'⟩
        have hpl := hpp.2 (k + i) r (hrat i r hri)
        repeat (first | (refine sxv hs hw ?_; clear hs; intro a hs) | refine sxc hs ?_ | (refine sxa hs hw ?_; clear hs hw; intro a b W hw hs) | (refine sxs hs hw ?_; clear hs hw; intro W hs hw))
        refine st_index_ch hs (r := hw.rdH (In.tl In.hd) hrv) (hk := RowIn.len) (ch := hrc) (ho := hri) (hlen := rfl) (c := ?_); clear hs; intro a g off c hc hcl hpc hlt hs
        obtain ⟨ov, rfl, hov⟩ := hc
        repeat (first | (refine sxv hs hw ?_; clear hs; intro a hs) | refine sxc hs ?_ | (refine sxa hs hw ?_; clear hs hw; intro a b W hw hs) | (refine sxs hs hw ?_; clear hs hw; intro W hs hw))
        refine st_load_at hs (hc := hpc 0 _ rfl) (c := ?_); clear hs; intro a hs
        clear hpc
        repeat (first | (refine sxv hs hw ?_; clear hs; intro a hs) | refine sxc hs ?_ | (refine sxa hs hw ?_; clear hs hw; intro a b W hw hs) | (refine sxs hs hw ?_; clear hs hw; intro W hs hw))
        have e1 : IntKind.i64.wrap ((k : Int) + (i : Int)) = ((k + i : Nat) : Int) := by rw [IntWalk.i64_in _ (by omega)]; omega
        rw [e1] at hs
        have e2 : IntKind.i64.wrap (((k + i : Nat) : Int) + 1) = r.place := by rw [hpl, IntWalk.i64_in _ (by omega)]; omega
        rw [e2, bne_self_eq_false] at hs
        repeat (first | (refine sxv hs hw ?_; clear hs; intro a hs) | refine sxc hs ?_ | (refine sxa hs hw ?_; clear hs hw; intro a b W hw hs) | (refine sxs hs hw ?_; clear hs hw; intro W hs hw))
        exact st_again (i + 1) hs hw hi' (by show ro.length - (i + 1) < ro.length - i; omega) ⟨rfl, rfl, rfl, rfl, int_eq (by show IntKind.i64.wrap ((i : Int) + 1) = ((i + 1 : Nat) : Int); rw [IntWalk.i64_in _ (by omega)]; omega), trivial⟩
      · repeat (first | (refine sxv hs hw ?_; clear hs; intro a hs) | refine sxc hs ?_ | (refine sxa hs hw ?_; clear hs hw; intro a b W hw hs) | (refine sxs hs hw ?_; clear hs hw; intro W hs hw))
        exact ⟨hs.of ⟨rfl, rfl, rfl, rfl, trivial⟩, hw⟩
    · clear hs hw
      rintro a W ⟨hs, hw⟩
      repeat (first | (refine sxv hs hw ?_; clear hs; intro a hs) | refine sxc hs ?_ | (refine sxa hs hw ?_; clear hs hw; intro a b W hw hs) | (refine sxs hs hw ?_; clear hs hw; intro W hs hw))
      exact st_again (k + ro.length, H4) hs hw ⟨by show k + ro.length ≤ nn; omega, hle3.trans hle4⟩ (by show nn - (k + ro.length) < nn - k; omega) ⟨rfl, rfl, int_eq (by show IntKind.i64.wrap ((k : Int) + (ro.length : Int)) = ((k + ro.length : Nat) : Int); rw [IntWalk.i64_in _ (by omega)]; omega), trivial⟩
end Go.Proofs.YtalfmomnaghahaaDoor.Sw

/-
  A raw value among the arguments: opened and shut.
-/
set_option linter.unusedVariables false
set_option maxRecDepth 10000
namespace Go.Proofs.YtalfmomnaghahaaDoor
open Go.ChangeShapes Go.WideShapes Go.ChangeAt Go.RowKit Go.Lib
open Go.ChangeMaps (open_string shut_string)
open Go.Joins

theorem open_raw {H : Type} {enc : TypeId × Value → H} {W : World} {base : Nat} {spare : Nat → Bool} {held : Bool} {r : Reach} {b0 : Nat} {v : Value} {d : DataW H} {p : List MemPlace}
    (hv : Value.okWide Tryd.prog W r b0 39 v) (h : DataW.Trod enc Tryd.prog W base spare held 39 v d p) :
    ∃ (k n : Int) (s : ByteArray), v = .agg #[.int .i64 k, .int .i64 n, .string s] ∧ d = .agg [.lit (.int .i64 k), .lit (.int .i64 n), .lit (.string s.data.toList)] ∧ p = [] ∧
      (Lit.int .i64 k).wf = true ∧ (Lit.int .i64 n).wf = true ∧ s.size ≤ maxLen ∧
      ∀ W' base' spare' held', DataW.Trod enc Tryd.prog W' base' spare' held' 39 (.agg #[.int .i64 k, .int .i64 n, .string s]) (.agg [.lit (.int .i64 k), .lit (.int .i64 n), .lit (.string s.data.toList)]) [] := by
  obtain ⟨v0, v1, v2, y0, y1, y2, m, rfl, rfl, rfl, h0, h1, h2⟩ := open_agg3 Tryd.underlying39 (by kernel_rfl) (by kernel_rfl) hv h
  obtain ⟨k, e0, rfl, w0⟩ := DataW.trod_int Tryd.underlying3 h0
  obtain ⟨n, e1, rfl, w1⟩ := DataW.trod_int Tryd.underlying2 h1
  obtain ⟨s, e2, rfl, w2⟩ := DataW.trod_string Tryd.underlying9 h2
  simp only [List.cons.injEq, and_true] at e0 e1 e2
  subst e0 e1 e2
  refine ⟨k, n, s, rfl, rfl, rfl, w0, w1, w2, fun W' base' spare' held' => ?_⟩
  exact shut_agg3 (y0 := (.lit (.int .i64 k), [])) (y1 := (.lit (.int .i64 n), [])) (y2 := (.lit (.string s.data.toList), [])) Tryd.underlying39 (by kernel_rfl) (by kernel_rfl)
    ⟨1, by simp [DataW.trod, Tryd.underlying3, w0]⟩ ⟨1, by simp [DataW.trod, Tryd.underlying2, w1]⟩ ⟨1, by simp [DataW.trod, Tryd.underlying9, w2]⟩
end Go.Proofs.YtalfmomnaghahaaDoor

/-
  A slice of bytes among the arguments: opened into what the walks read.
-/
set_option linter.unusedVariables false
set_option maxRecDepth 10000
namespace Go.Proofs.YtalfmomnaghahaaDoor
open Go.ChangeShapes Go.WideShapes Go.ChangeAt Go.RowKit Go.Lib Go.Sx Go.Proofs

theorem open_bytes {H : Type} {enc : TypeId × Value → H} {P : Program} {W : World} {spare : Nat → Bool} {t e : TypeId} {ad : Option Addr} {len cap : Nat} {d : DataW H} {p : List MemPlace}
    (ht : P.underlying t = some (.slice e)) (he : P.underlying e = some (.int .u8)) (hc : P.cellsOf e = 1) (h : DataW.Trod enc P W 0 spare true t (.slice ad len cap) d p) :
    ∃ l : List UInt8, RdB W (.slice ad len cap) l := by
  obtain ⟨fuel, hf⟩ := h
  have hlt := DataW.trod_lt _ _ _ _ hf
  rcases open_ints ht he hc hf with ⟨hcs, -⟩ | ⟨a, len', cap', zs, hcs, -, hl, hm, hz, hx, hcell, hwz⟩
  · simp [Value.cells] at hcs
    obtain ⟨rfl, rfl, rfl⟩ := hcs
    exact ⟨[], Rd.nil W 1 0 (by omega)⟩
  · simp [Value.cells] at hcs
    obtain ⟨rfl, rfl, rfl⟩ := hcs
    have hlz : len ≤ zs.length := by rw [hz]; split <;> omega
    have hlen : (zs.take len).length = len := by rw [List.length_take]; omega
    have hm' : cap ≤ 9223372036854775807 := by have : (maxLen : Nat) ≤ 9223372036854775807 := by decide
                                               omega
    refine ⟨(zs.take len).map fun z => UInt8.ofNat z.toNat, ?_⟩
    have hL : ((zs.take len).map fun z => UInt8.ofNat z.toNat).length = len := by rw [List.length_map, hlen]
    unfold RdB
    refine ⟨by simp, some a, cap, by rw [hL], by omega, hm', ?_⟩
    rw [hL]
    rcases Nat.eq_zero_or_pos len with h0 | h0
    · exact .inl h0
    · right
      obtain ⟨b, off, spot⟩ := a
      have hspot : spot = none := by simpa [Addr.add] using World.cell?_spot (hcell 0 (by omega))
      subst hspot
      refine ⟨b, off, rfl, ?_, fun j x hj => ?_⟩
      · have hx2 := congrArg Prod.snd hx
        simp only at hx2
        subst hx2
        have := hlt (.cell b off) (MemPlace.mem_row.2 ⟨0, by omega, rfl⟩)
        exact this
      · simp only [bys, List.map_map] at hj
        obtain ⟨z, hz1, rfl⟩ := List.getElem?_map .. |>.symm.trans hj |> Option.map_eq_some_iff.1
        obtain ⟨hj1, hj2⟩ := List.getElem?_eq_some_iff.1 hz1
        have hjl : j < len := by omega
        have e1 : zs[j]? = some z := by rw [List.getElem?_take, if_pos hjl] at hz1; exact hz1
        have hb := bounds_u8 (hwz z (List.mem_of_getElem? e1))
        rw [← add_plain, hcell j (by omega)]
        simp only [List.getD, e1, Option.getD_some, Function.comp]
        congr 2
        simp
        omega
end Go.Proofs.YtalfmomnaghahaaDoor
