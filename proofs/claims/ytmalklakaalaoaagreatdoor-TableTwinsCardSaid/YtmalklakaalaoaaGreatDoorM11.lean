/-
  Texts of the proof, one behind the other (part 11).
-/
import Derived.Test.YtmalklakaalaoaaGreatDoorM10
set_option linter.unusedVariables false
set_option maxRecDepth 10000
namespace Go.Sx
open Go.RowKit
section
variable {P : Program} {ops : Array Oper} {rest : List Oper} {Q : Exit → Act → World → Prop} {a : Act} {n : Nat} {L : List (Nat × Value)} {W : World} {d : Nat} {T S E : TypeId} {p : String} {e : Array Edge} {x hi : Operand} {g o k m cap : Nat} {q : IntKind} {z : List Value}
theorem st_slice_hi_at {agg : Bool} [sl : Sl P S E] [t : Ty P E agg z] (hs : Slots a n L) (h1 : m ≤ k) (hc : k ≤ cap) (h0 : 0 < cap) (hx : ev L x = some (.slice (some ⟨g, o, none⟩) k cap) := by with_unfolding_all exact rfl) (hl : ev L hi = some (.int q (m : Int)) := by with_unfolding_all exact rfl) (hd : Nat.blt d n = true := by with_unfolding_all exact rfl)
    (c : ∀ a', Slots a' n ((d, .slice (some ⟨g, o, none⟩) m cap) :: L) → wpList P ops Q rest a' W) : wpList P ops Q (⟨some d, .slice S x none (some hi) none, T, p, e, none⟩ :: rest) a W := by
  have hb : (Instr.sliceBound (.int q (m : Int)) cap .sliceAcap).run P W = .ok m W := by
    have : (0 : Int) ≤ (m : Int) ∧ (m : Int) ≤ (cap : Int) := ⟨by omega, by omega⟩
    simp only [Instr.sliceBound, asIntOf, Sem.run_bind, Sem.run_pure, Result.andThen_ok]
    rw [if_pos this]
    simp
  have hbs : (Instr.sliceBounds true k cap none (some (.int q (m : Int))) none).run P W = .ok (0, m, cap) W := by
    unfold Instr.sliceBounds
    simp [hb]
  refine st_value hs hd (v := .slice (some ⟨g, o, none⟩) m cap) (W' := W) ?_ c
  simp only [execOp, Option.map_some, Option.map_none, hs.ev hx, hs.ev hl, Instr.sliceAt, Instr.slice, Sem.run_bind, run_underlying sl.out, Result.andThen_ok, hbs, t.sizeOf, Sem.run_pure]
  by_cases h9 : cap = 0
  · omega
  · simp [h9, addr_add]
end
end Go.Sx
namespace Go.Proofs.YtmalklakaalaoaaGreatDoor.Sw
open Go.RowKit Go.Sx
def rowsT (t : TabD) (fr_ n : Int) : List RowD :=
  if fr_ < 1 ∨ (t.rows.length : Int) < fr_ ∨ n < 1 then [] else (t.rows.drop (fr_ - 1).toNat).take (min n.toNat 10)
section
variable {P : Program} {ops : Array Oper} {rest : List Oper} {Q : Exit → Act → World → Prop} {a : Act} {n : Nat} {L : List (Nat × Value)} {W : World} {d : Nat} {T : TypeId} {p : String} {e : Array Edge} {x y z : Operand} {i j k : Int} {q q' q'' : IntKind}
theorem st_min3 {ts : Array TypeId} (hs : Slots a n L) (v : Int) (hv : (if k < (if j < i then j else i) then k else (if j < i then j else i)) = v) (hx : ev L x = some (.int q i) := by with_unfolding_all exact rfl) (hy : ev L y = some (.int q' j) := by with_unfolding_all exact rfl) (hz : ev L z = some (.int q'' k) := by with_unfolding_all exact rfl) (hd : Nat.blt d n = true := by with_unfolding_all exact rfl)
    (c : ∀ a', Slots a' n ((d, .int q v) :: L) → wpList P ops Q rest a' W) : wpList P ops Q (⟨some d, .call { callee := .builtin .min, args := #[x, y, z], argTypes := ts }, T, p, e, none⟩ :: rest) a W := by
  subst hv
  exact st_value hs hd (by simp only [execOp, resolve, invoke, builtin, List.map_toArray, List.map_cons, List.map_nil, hs.ev hx, hs.ev hy, hs.ev hz, Sem.run_bind, Sem.run_pure, Result.andThen_ok, run_min_int3]) c
end
set_option maxHeartbeats 16000000 in
theorem table_Rows (w0 W : World) (H : Fh) (p : Nat) (t : TabD) (from_ n : Int) (R : List Res) (hl : t.rows.length ≤ 1000000) (h8 : ∀ r ∈ t.rows, r.b.l.length ≤ 1000) (hw : Has 0 w0 W (TabAt H p t :: Fz H :: R)) :
    Calls Tryz.prog 32 ⟨[.pointer (some ⟨p, 0, none⟩), .int .i64 from_, .int .i64 n]⟩ W fun e W' => ∃ v H', e = .returned v ∧ H.le H' ∧ RowsH H' v (rowsT t from_ n) ∧ Has 0 w0 W' (TabAt H' p t :: Fz H' :: R) := by
  obtain ⟨pf, vad, vcap, xs, hch, hw⟩ := tabOpen hw
  have hnil : RowsH H (.slice none 0 0) [] := ⟨[], RdH.nil _ _ _ (by omega), rfl⟩
  refine enter Tryz.func32 Tryz.ntmps32 rfl rfl fun a hs => ?_
  repeat (first | (refine sxv hs hw ?_; clear hs; intro a hs) | refine sxc hs ?_ | (refine sxa hs hw ?_; clear hs hw; intro a b W hw hs) | (refine sxs hs hw ?_; clear hs hw; intro W hs hw) | ((with_reducible first | refine st_ptrSome hs (k := ?_) | refine st_ptrNone hs (k := ?_)); clear hs; intro a hs))
  cases c1 : decide (from_ < 1) with
  | true =>
    rw [c1] at hs
    have hX : rowsT t from_ n = [] := by unfold rowsT; rw [if_pos (.inl (of_decide_eq_true c1))]
    rw [hX]
    repeat (first | (refine sxv hs hw ?_; clear hs; intro a hs) | refine sxc hs ?_ | (refine sxa hs hw ?_; clear hs hw; intro a b W hw hs) | (refine sxs hs hw ?_; clear hs hw; intro W hs hw) | ((with_reducible first | refine st_ptrSome hs (k := ?_) | refine st_ptrNone hs (k := ?_)); clear hs; intro a hs))
    exact rt1 hs rfl rfl ⟨_, H, rfl, Fh.le.refl _, hnil, tabShut hw hch⟩
  | false =>
  rw [c1] at hs
  have g1 := of_decide_eq_false c1
  repeat (first | (refine sxv hs hw ?_; clear hs; intro a hs) | refine sxc hs ?_ | (refine sxa hs hw ?_; clear hs hw; intro a b W hw hs) | (refine sxs hs hw ?_; clear hs hw; intro W hs hw) | ((with_reducible first | refine st_ptrSome hs (k := ?_) | refine st_ptrNone hs (k := ?_)); clear hs; intro a hs))
  cases c2 : decide (from_ > (t.rows.length : Int)) with
  | true =>
    rw [c2] at hs
    have hX : rowsT t from_ n = [] := by unfold rowsT; rw [if_pos (.inr (.inl (of_decide_eq_true c2)))]
    rw [hX]
    repeat (first | (refine sxv hs hw ?_; clear hs; intro a hs) | refine sxc hs ?_ | (refine sxa hs hw ?_; clear hs hw; intro a b W hw hs) | (refine sxs hs hw ?_; clear hs hw; intro W hs hw) | ((with_reducible first | refine st_ptrSome hs (k := ?_) | refine st_ptrNone hs (k := ?_)); clear hs; intro a hs))
    exact rt1 hs rfl rfl ⟨_, H, rfl, Fh.le.refl _, hnil, tabShut hw hch⟩
  | false =>
  rw [c2] at hs
  have g2 := of_decide_eq_false c2
  repeat (first | (refine sxv hs hw ?_; clear hs; intro a hs) | refine sxc hs ?_ | (refine sxa hs hw ?_; clear hs hw; intro a b W hw hs) | (refine sxs hs hw ?_; clear hs hw; intro W hs hw) | ((with_reducible first | refine st_ptrSome hs (k := ?_) | refine st_ptrNone hs (k := ?_)); clear hs; intro a hs))
  cases c3 : decide (n < 1) with
  | true =>
    rw [c3] at hs
    have hX : rowsT t from_ n = [] := by unfold rowsT; rw [if_pos (.inr (.inr (of_decide_eq_true c3)))]
    rw [hX]
    repeat (first | (refine sxv hs hw ?_; clear hs; intro a hs) | refine sxc hs ?_ | (refine sxa hs hw ?_; clear hs hw; intro a b W hw hs) | (refine sxs hs hw ?_; clear hs hw; intro W hs hw) | ((with_reducible first | refine st_ptrSome hs (k := ?_) | refine st_ptrNone hs (k := ?_)); clear hs; intro a hs))
    exact rt1 hs rfl rfl ⟨_, H, rfl, Fh.le.refl _, hnil, tabShut hw hch⟩
  | false =>
  rw [c3] at hs
  have g3 := of_decide_eq_false c3
  obtain ⟨k, hk⟩ : ∃ k : Nat, from_ - 1 = (k : Int) := ⟨(from_ - 1).toNat, by omega⟩
  obtain ⟨mn, hmn⟩ : ∃ m : Nat, m = min (t.rows.length - k) (min n.toNat 10) := ⟨_, rfl⟩
  have hX : rowsT t from_ n = (t.rows.drop k).take mn := by
    unfold rowsT
    rw [if_neg (by omega), hk, Int.toNat_natCast]
    have hld : (t.rows.drop k).length = t.rows.length - k := List.length_drop
    by_cases h : min n.toNat 10 ≤ t.rows.length - k
    · rw [show mn = min n.toNat 10 by omega]
    · rw [List.take_of_length_le (by omega), List.take_of_length_le (by omega)]
  rw [hX]
  have hkM : k < t.rows.length := by omega
  have hw : Has 0 w0 W (Sx.Own 39 5 (.slice vad t.rows.length vcap) t.rows.length xs :: Cells p [.int .i64 t.ix, .pointer (some ⟨pf, 0, none⟩), .slice vad t.rows.length vcap] 105 :: FoldAt H pf t.f :: Fz H :: R) := hw.perm (by repeat (first | exact List.Perm.refl _ | refine perm_pick (by repeat (first | exact Pick.hd | apply Pick.tl)) ?_))
  obtain ⟨g, cur, rfl, hcur, hcl0, hkc, hcm, hw⟩ := hw.open_own (by omega)
  repeat (first | (refine sxv hs hw ?_; clear hs; intro a hs) | refine sxc hs ?_ | (refine sxa hs hw ?_; clear hs hw; intro a b W hw hs) | (refine sxs hs hw ?_; clear hs hw; intro W hs hw) | ((with_reducible first | refine st_ptrSome hs (k := ?_) | refine st_ptrNone hs (k := ?_)); clear hs; intro a hs))
  have ew : IntKind.i64.wrap (from_ - 1) = (k : Int) := by rw [hk, IntWalk.i64_in _ (by omega)]
  rw [ew] at hs
  refine st_slice_lo_at hs (z := zrc) (m := k) (h1 := by omega) (hc := hkc) (c := ?_); clear hs; intro a hs
  have et : tailV g zrc.length t.rows.length vcap k = .slice (some ⟨g, k * 5, none⟩) (t.rows.length - k) (vcap - k) := by
    unfold tailV
    rw [if_neg (by omega)]
    rfl
  rw [et] at hs
  repeat (first | (refine sxv hs hw ?_; clear hs; intro a hs) | refine sxc hs ?_ | (refine sxa hs hw ?_; clear hs hw; intro a b W hw hs) | (refine sxs hs hw ?_; clear hs hw; intro W hs hw) | ((with_reducible first | refine st_ptrSome hs (k := ?_) | refine st_ptrNone hs (k := ?_)); clear hs; intro a hs))
  refine st_min3 hs (v := (mn : Int)) (i := ((t.rows.length - k : Nat) : Int)) (j := n) (k := 10) (hv := by rw [hmn]; split <;> split <;> omega) (c := ?_); clear hs; intro a hs
  refine st_slice_hi_at hs (z := zrc) (m := mn) (k := t.rows.length - k) (cap := vcap - k) (h1 := by omega) (hc := by omega) (h0 := by omega) (c := ?_); clear hs; intro a hs
  repeat (first | (refine sxv hs hw ?_; clear hs; intro a hs) | refine sxc hs ?_ | (refine sxa hs hw ?_; clear hs hw; intro a b W hw hs) | (refine sxs hs hw ?_; clear hs hw; intro W hs hw))
  have hw := hw.nilOwn 39 5
  have hmr : mn ≤ t.rows.length - k := by omega
  have hml : ((t.rows.drop k).take mn).length = mn := by rw [List.length_take, List.length_drop]; omega
  obtain ⟨ro, hro⟩ : ∃ x, (t.rows.drop k).take mn = x := ⟨_, rfl⟩
  rw [hro] at hml ⊢
  have hroi : ∀ j r, ro[j]? = some r → t.rows[k + j]? = some r := by
    intro j r h
    rw [← hro, List.getElem?_take] at h
    split at h
    · rw [List.getElem?_drop] at h; exact h
    · cases h
  refine st_loop (σ := Nat × Option Addr × Nat × List Value × Fh) (fun u => [(42, .slice (some ⟨g, k * 5, none⟩) mn (vcap - k)), (43, .int .i64 (mn : Int)), (44, .int .i64 (u.1 : Int)), (8, .slice u.2.1 (ro.take u.1).length u.2.2.1)]) (fun u => Sx.Own 39 5 (.slice u.2.1 (ro.take u.1).length u.2.2.1) (ro.take u.1).length u.2.2.2.1 :: Fz u.2.2.2.2 :: Cells g cur 39 :: Cells p [.int .i64 t.ix, .pointer (some ⟨pf, 0, none⟩), .slice (some ⟨g, 0, none⟩) t.rows.length vcap] 105 :: FoldAt H pf t.f :: R) (fun u => u.1 ≤ mn ∧ H.le u.2.2.2.2 ∧ Ch (RowIn u.2.2.2.2) (ro.take u.1) u.2.2.2.1) (fun u => mn - u.1) (0, none, 0, [], H) ⟨Nat.zero_le _, Fh.le.refl _, rfl⟩ hs ⟨rfl, rfl, rfl, rfl, trivial⟩ (hw.perm (by repeat (first | exact List.Perm.refl _ | refine perm_pick (by repeat (first | exact Pick.hd | apply Pick.tl)) ?_))) ?_
  clear hs hw
  rintro ⟨j, oad, ocap, ys, H'⟩ a W ⟨hj, hH', hch2⟩ hs hw
  simp only at hj hH' hch2 hs hw
  repeat (first | (refine sxv hs hw ?_; clear hs; intro a hs) | refine sxc hs ?_ | (refine sxa hs hw ?_; clear hs hw; intro a b W hw hs) | (refine sxs hs hw ?_; clear hs hw; intro W hs hw))
  refine cd_split hs (kt := fun hcc => ?_) (kf := fun hcc => ?_)
  · have hj' : j < mn := by simpa using hcc
    obtain ⟨r, hri⟩ : ∃ o, ro[j]? = some o := ⟨ro[j]'(by omega), List.getElem?_eq_getElem _⟩
    have hri0 := hroi j r hri
    have hok := h8 r (List.mem_of_getElem? hri0)
    have htk : (ro.take j).length ≤ 1000000 := by rw [List.length_take]; omega
    obtain ⟨c0, ⟨ov0, rfl, hov⟩, hcut⟩ := hch.mem RowIn.len hri0
    obtain ⟨rad, rcap, rfl⟩ := hov.slice
    repeat (first | (refine sxv hs hw ?_; clear hs; intro a hs) | refine sxc hs ?_ | (refine sxa hs hw ?_; clear hs hw; intro a b W hw hs) | (refine sxs hs hw ?_; clear hs hw; intro W hs hw))
    refine st_index_at hs (z := zrc) (h0 := by omega) (h1 := by omega) (c := ?_); clear hs; intro a hs
    refine st_load_ats hs (z := zrc) (cs := rowCells r (.slice rad r.b.l.length rcap)) (hc := fun m u h => by
      rw [cell_block (hw.block (In.tl (In.tl In.hd))).1]
      have := Ch.at_cur (R := RowIn H) (l := t.rows) (a := r) (j := m) hcut hcur h
      rw [← this]
      congr 1
      show k * 5 + j * 5 + m = (k + j) * 5 + m
      omega) (hl := by rfl) (c := ?_); clear hs; intro a hs
    repeat (first | (refine sxv hs hw ?_; clear hs; intro a hs) | refine sxc hs ?_ | (refine sxa hs hw ?_; clear hs hw; intro a b W hw hs) | (refine sxs hs hw ?_; clear hs hw; intro W hs hw))
    obtain ⟨b5, q5⟩ := nm1 hw; subst q5
    have hw : Has 0 w0 _ (Fz H' :: Sx.Own 39 5 (.slice oad (ro.take j).length ocap) (ro.take j).length ys :: Cells g cur 39 :: Cells p [.int .i64 t.ix, .pointer (some ⟨pf, 0, none⟩), .slice (some ⟨g, 0, none⟩) t.rows.length vcap] 105 :: FoldAt H pf t.f :: Cells b5 (rowCells r (.slice rad r.b.l.length rcap)) 39 :: R) := hw.perm (by repeat (first | exact List.Perm.refl _ | refine perm_pick (by repeat (first | exact Pick.hd | apply Pick.tl)) ?_))
    refine st_call hs (hc := table_own w0 _ H' r _ _ hok (hov.le hH') hw) (k := ?_); rintro e0 W1 ⟨nv, H2, rfl, hle, hnv, hw1⟩; refine ⟨_, rfl, ?_⟩; clear hs hw; intro a hs; have hw := hw1; clear hw1
    obtain ⟨nad, ncap, rfl⟩ := hnv.slice
    repeat (first | (refine sxv hs hw ?_; clear hs; intro a hs) | refine sxc hs ?_ | (refine sxa hs hw ?_; clear hs hw; intro a b W hw hs) | (refine sxs hs hw ?_; clear hs hw; intro W hs hw))
    obtain ⟨bx, qx⟩ := nm1 hw; subst qx
    have hw : Has 0 w0 _ (Sx.Own 39 5 (.slice oad (ro.take j).length ocap) (ro.take j).length ys :: Cells bx (rowCells r (.slice nad r.b.l.length ncap)) 39 :: Fz H2 :: Cells g cur 39 :: Cells p [.int .i64 t.ix, .pointer (some ⟨pf, 0, none⟩), .slice (some ⟨g, 0, none⟩) t.rows.length vcap] 105 :: FoldAt H pf t.f :: Cells b5 (rowCells r (.slice rad r.b.l.length rcap)) 39 :: R) := hw.perm (by repeat (first | exact List.Perm.refl _ | refine perm_pick (by repeat (first | exact Pick.hd | apply Pick.tl)) ?_))
    refine st_append1 hs (hw := hw) (hi := In.hd) (ch := hch2.mono (RowIn.le hle)) (ha := (⟨_, rfl, hnv⟩ : RowIn H2 r (rowCells r (.slice nad r.b.l.length ncap)))) (hl := rfl) (h1 := rfl) (hb := by omega) (h63 := by omega) (k := ?_)
    clear hs hw; intro a ad2 cap2 W hs hw hc2
    rw [← take_of hri] at hs hw hc2
    repeat (first | (refine sxv hs hw ?_; clear hs; intro a hs) | refine sxc hs ?_ | (refine sxa hs hw ?_; clear hs hw; intro a b W hw hs) | (refine sxs hs hw ?_; clear hs hw; intro W hs hw))
    have hw := hw.sub (L' := Sx.Own 39 5 (.slice ad2 (ro.take (j + 1)).length cap2) (ro.take (j + 1)).length (ys ++ rowCells r (.slice nad r.b.l.length ncap)) :: Fz H2 :: Cells g cur 39 :: Cells p [.int .i64 t.ix, .pointer (some ⟨pf, 0, none⟩), .slice (some ⟨g, 0, none⟩) t.rows.length vcap] 105 :: FoldAt H pf t.f :: R) (List.Sublist.cons_cons _ (List.Sublist.cons _ (List.Sublist.cons_cons _ (List.Sublist.cons_cons _ (List.Sublist.cons_cons _ (List.Sublist.cons_cons _ (List.Sublist.cons _ (List.Sublist.refl _))))))))
    exact st_again (j + 1, ad2, cap2, ys ++ rowCells r (.slice nad r.b.l.length ncap), H2) hs hw ⟨hj', hH'.trans hle, hc2⟩ (by show mn - (j + 1) < mn - j; omega) ⟨rfl, rfl, int_eq (by show IntKind.i64.wrap ((j : Int) + 1) = ((j + 1 : Nat) : Int); rw [IntWalk.i64_in _ (by omega)]; omega), rfl, trivial⟩
  · have hj' : j = mn := by have : ¬ j < mn := by simpa using hcc
                            omega
    have htr : ro.take j = ro := List.take_of_length_le (by omega)
    rw [htr] at hs hw hch2
    repeat (first | (refine sxv hs hw ?_; clear hs; intro a hs) | refine sxc hs ?_ | (refine sxa hs hw ?_; clear hs hw; intro a b W hw hs) | (refine sxs hs hw ?_; clear hs hw; intro W hs hw))
    have hw : Has 0 w0 W (Cells g cur 39 :: Sx.Own 39 5 (.slice oad ro.length ocap) ro.length ys :: Fz H' :: Cells p [.int .i64 t.ix, .pointer (some ⟨pf, 0, none⟩), .slice (some ⟨g, 0, none⟩) t.rows.length vcap] 105 :: FoldAt H pf t.f :: R) := hw.perm (by repeat (first | exact List.Perm.refl _ | refine perm_pick (by repeat (first | exact Pick.hd | apply Pick.tl)) ?_))
    have hw := hw.shut_own (k := t.rows.length) (size := 5) hcur hcl0 hkc hcm
    have hw : Has 0 w0 W (Sx.Own 39 5 (.slice oad ro.length ocap) ro.length ys :: Fz H' :: Sx.Own 39 5 (.slice (some ⟨g, 0, none⟩) t.rows.length vcap) t.rows.length xs :: Cells p [.int .i64 t.ix, .pointer (some ⟨pf, 0, none⟩), .slice (some ⟨g, 0, none⟩) t.rows.length vcap] 105 :: FoldAt H pf t.f :: R) := hw.perm (by repeat (first | exact List.Perm.refl _ | refine perm_pick (by repeat (first | exact Pick.hd | apply Pick.tl)) ?_))
    obtain ⟨H2, hle, hw, hrd⟩ := hw.freeze_own
    have hw : Has 0 w0 W (FoldAt H pf t.f :: Cells p [.int .i64 t.ix, .pointer (some ⟨pf, 0, none⟩), .slice (some ⟨g, 0, none⟩) t.rows.length vcap] 105 :: Sx.Own 39 5 (.slice (some ⟨g, 0, none⟩) t.rows.length vcap) t.rows.length xs :: Fz H2 :: R) := hw.perm (by repeat (first | exact List.Perm.refl _ | refine perm_pick (by repeat (first | exact Pick.hd | apply Pick.tl)) ?_))
    have hle2 := hH'.trans hle
    have hw := tabShut (foldLe hw hle2).swap2 (hch.mono (RowIn.le hle2))
    exact rt1 hs rfl rfl ⟨_, H2, rfl, hle2, ⟨ys, hrd, hch2.mono (RowIn.le hle)⟩, hw⟩
theorem flat_len {l : List RowD} (h : ∀ r ∈ l, (rowB r).length ≤ 1300) : (l.flatMap rowB).length ≤ l.length * 1300 := by
  induction l with
  | nil => simp
  | cons r l ih =>
    have h1 := h r (by simp)
    have h2 := ih fun q hq => h q (by simp [hq])
    simp only [List.flatMap_cons, List.length_append, List.length_cons]
    omega
theorem rowB_len {r : RowD} (h : mayB r.b = true) : (rowB r).length ≤ 1300 := by
  have h1 : (encB r.b).length ≤ 1200 := (mayBatch_parts h).2.2.2.2
  have h2 := Ph.putI_length_le ((encB r.b).length : Int)
  unfold rowB Ph.putT
  rw [List.length_append]
  omega
set_option maxHeartbeats 16000000 in
theorem table_Data (w0 W : World) (H : Fh) (p : Nat) (t : TabD) (R : List Res) (hl : t.rows.length ≤ 200000) (hix : i64 t.ix) (hb : ∀ r ∈ t.rows, BatOk r.b ∧ mayB r.b = true) (hH : (fr w0).le H) (hT : Tabs w0) (hw : Has 0 w0 W (TabAt H p t :: Fz H :: R)) :
    Calls Tryz.prog 29 ⟨[.pointer (some ⟨p, 0, none⟩)]⟩ W fun e W' => e = .returned (.string ⟨(dataT t).toArray⟩) ∧ Has 0 w0 W' (TabAt H p t :: Fz H :: R) := by
  obtain ⟨pf, vad, vcap, xs, hch, hw⟩ := tabOpen hw
  refine enter Tryz.func29 Tryz.ntmps29 rfl rfl fun a hs => ?_
  repeat (first | (refine sxv hs hw ?_; clear hs; intro a hs) | refine sxc hs ?_ | (refine sxa hs hw ?_; clear hs hw; intro a b W hw hs) | (refine sxs hs hw ?_; clear hs hw; intro W hs hw) | ((with_reducible first | refine st_ptrSome hs (k := ?_) | refine st_ptrNone hs (k := ?_)); clear hs; intro a hs))
  have hpi := Ph.putI_length_le t.ix
  have hpl := Ph.putI_length_le (t.rows.length : Int)
  have hw : Has 0 w0 _ (Sx.OwnB 5 (.slice none 0 0) [] :: Cells p [.int .i64 t.ix, .pointer (some ⟨pf, 0, none⟩), .slice vad t.rows.length vcap] 105 :: FoldAt H pf t.f :: Sx.Own 39 5 (.slice vad t.rows.length vcap) t.rows.length xs :: Fz H :: R) := (hw.nilOwn 5 1).perm (by repeat (first | exact List.Perm.refl _ | refine perm_pick (by repeat (first | exact Pick.hd | apply Pick.tl)) ?_))
  refine rg_drawU (σ := Option Addr × Nat) (V := fun u => [.pointer (some ⟨p, 0, none⟩), .pointer (some ⟨p, 0, none⟩), .pointer (some ⟨p, 0 + 0, none⟩), .int .i64 t.ix, (.slice (u 4).1 (Ph.putI t.ix).length (u 4).2), .pointer (some ⟨p, 0, none⟩), .pointer (some ⟨p, 0, none⟩), .pointer (some ⟨p, 0 + 2, none⟩), .slice vad t.rows.length vcap, .int .i64 (t.rows.length : Int), (.slice (u 10).1 ((Ph.putI t.ix) ++ (Ph.putI (t.rows.length : Int))).length (u 10).2), (.slice (u 11).1 ((Ph.putI t.ix) ++ (Ph.putI (t.rows.length : Int))).length (u 11).2)])
    (Rs := fun u D => (if D 11 then Sx.OwnB 5 (.slice (u 11).1 ((Ph.putI t.ix) ++ (Ph.putI (t.rows.length : Int))).length (u 11).2) ((Ph.putI t.ix) ++ (Ph.putI (t.rows.length : Int))) else if D 10 then Sx.OwnB 5 (.slice (u 10).1 ((Ph.putI t.ix) ++ (Ph.putI (t.rows.length : Int))).length (u 10).2) ((Ph.putI t.ix) ++ (Ph.putI (t.rows.length : Int))) else if D 4 then Sx.OwnB 5 (.slice (u 4).1 (Ph.putI t.ix).length (u 4).2) (Ph.putI t.ix) else Sx.OwnB 5 (.slice none 0 0) []) :: Cells p [.int .i64 t.ix, .pointer (some ⟨pf, 0, none⟩), .slice vad t.rows.length vcap] 105 :: FoldAt H pf t.f :: Sx.Own 39 5 (.slice vad t.rows.length vcap) t.rows.length xs :: Fz H :: R) (fun _ => (none, 0)) hs hw (hVu := ?vu_1) (ho := ⟨?_, ?_, ?_, ?_, ?c4_1, ?_, ?_, ?_, ?_, ?_, ?c10_1, ?c11_1, trivial⟩) (k := ?k_1)
  case vu_1 =>
    intro u u' j h
    rcases j with _ | _ | _ | _ | _ | _ | _ | _ | _ | _ | _ | _ | j
    all_goals first | rfl | simp [h]
  case c4_1 =>
    intro u LD D a W hcl hi hp hs hw
    have hA := Go.Sx.not_done hcl hi 10 (by kernel_rfl)
    have hB := Go.Sx.not_done hcl hA 11 (by kernel_rfl)
    simp only [hi, hA, hB, Bool.false_eq_true, if_false] at hw
    refine st_call hs (hc := num_Put w0 _ (.slice none 0 0) [] t.ix _ hix.1 hix.2 (by simp) hw) (k := ?_); rintro e0 W1 ⟨ad, cap, rfl, hw1⟩; refine ⟨_, rfl, ?_⟩; clear hs hw; intro a hs; have hw := hw1; clear hw1
    rw [List.nil_append] at hs hw
    repeat (first | (refine sxv hs hw ?_; clear hs; intro a hs) | refine sxc hs ?_ | (refine sxa hs hw ?_; clear hs hw; intro a b W hw hs) | (refine sxs hs hw ?_; clear hs hw; intro W hs hw))
    refine Or.inr ⟨(ad, cap), hs, ?_⟩
    show Has 0 w0 _ ((if (Nat.beq 11 4 || D 11) = true then _ else if (Nat.beq 10 4 || D 10) = true then _ else _) :: _)
    rw [hA, hB]
    exact hw
  case c10_1 =>
    intro u LD D a W hcl hi hp hs hw
    have hB := Go.Sx.not_done hcl hi 11 (by kernel_rfl)
    have h4 := Go.Sx.done hp 4 (by kernel_rfl)
    simp only [hi, h4, hB, Bool.false_eq_true, if_false, if_true] at hw
    refine st_call hs (hc := num_Put w0 _ _ (Ph.putI t.ix) (t.rows.length : Int) _ (by omega) (by omega) (by omega) hw) (k := ?_); rintro e0 W1 ⟨ad, cap, rfl, hw1⟩; refine ⟨_, rfl, ?_⟩; clear hs hw; intro a hs; have hw := hw1; clear hw1
    repeat (first | (refine sxv hs hw ?_; clear hs; intro a hs) | refine sxc hs ?_ | (refine sxa hs hw ?_; clear hs hw; intro a b W hw hs) | (refine sxs hs hw ?_; clear hs hw; intro W hs hw))
    refine Or.inr ⟨(ad, cap), hs, ?_⟩
    show Has 0 w0 _ ((if (Nat.beq 11 10 || D 11) = true then _ else _) :: _)
    rw [hB]
    exact hw
  case c11_1 =>
    intro u LD D a W hcl hi hp hs hw
    have hA := Go.Sx.done hp 10 (by kernel_rfl)
    simp only [hi, hA, Bool.false_eq_true, if_false, if_true] at hw
    repeat (first | (refine sxv hs hw ?_; clear hs; intro a hs) | refine sxc hs ?_ | (refine sxa hs hw ?_; clear hs hw; intro a b W hw hs) | (refine sxs hs hw ?_; clear hs hw; intro W hs hw))
    exact Or.inr ⟨u 10, hs, hw⟩
  case k_1 =>
    clear hs hw
    intro u a W hs hw
    replace hw : Has 0 w0 W (Sx.OwnB 5 (.slice (u 11).1 ((Ph.putI t.ix) ++ (Ph.putI (t.rows.length : Int))).length (u 11).2) ((Ph.putI t.ix) ++ (Ph.putI (t.rows.length : Int))) :: Cells p [.int .i64 t.ix, .pointer (some ⟨pf, 0, none⟩), .slice vad t.rows.length vcap] 105 :: FoldAt H pf t.f :: Sx.Own 39 5 (.slice vad t.rows.length vcap) t.rows.length xs :: Fz H :: R) := hw
    replace hs : Slots a 37 [(3, (.slice (u 11).1 ((Ph.putI t.ix) ++ (Ph.putI (t.rows.length : Int))).length (u 11).2)), (0, .pointer (some ⟨p, 0, none⟩))] := hs.of ⟨rfl, rfl, trivial⟩
    generalize (u 11).1 = ad1 at *
    generalize (u 11).2 = cap1 at *
    clear u
    have ez : (Ph.putI t.ix) ++ (Ph.putI (t.rows.length : Int)) = (Ph.putI t.ix ++ (Ph.putI (t.rows.length : Int) ++ (t.rows.take 0).flatMap rowB)) := by simp
    rw [ez] at hs hw
    repeat (first | (refine sxv hs hw ?_; clear hs; intro a hs) | refine sxc hs ?_ | (refine sxa hs hw ?_; clear hs hw; intro a b W hw hs) | (refine sxs hs hw ?_; clear hs hw; intro W hs hw) | ((with_reducible first | refine st_ptrSome hs (k := ?_) | refine st_ptrNone hs (k := ?_)); clear hs; intro a hs))
    refine st_loop (σ := Nat × Option Addr × Nat) (fun u => [(22, .slice vad t.rows.length vcap), (23, .int .i64 (t.rows.length : Int)), (24, .int .i64 (u.1 : Int)), (3, .slice u.2.1 (Ph.putI t.ix ++ (Ph.putI (t.rows.length : Int) ++ (t.rows.take u.1).flatMap rowB)).length u.2.2)]) (fun u => Sx.OwnB 5 (.slice u.2.1 (Ph.putI t.ix ++ (Ph.putI (t.rows.length : Int) ++ (t.rows.take u.1).flatMap rowB)).length u.2.2) (Ph.putI t.ix ++ (Ph.putI (t.rows.length : Int) ++ (t.rows.take u.1).flatMap rowB)) :: Cells p [.int .i64 t.ix, .pointer (some ⟨pf, 0, none⟩), .slice vad t.rows.length vcap] 105 :: FoldAt H pf t.f :: Sx.Own 39 5 (.slice vad t.rows.length vcap) t.rows.length xs :: Fz H :: R) (fun u => u.1 ≤ t.rows.length) (fun u => t.rows.length - u.1) (0, ad1, cap1) (Nat.zero_le _) hs ⟨rfl, rfl, rfl, rfl, trivial⟩ hw ?_
    clear hs hw
    rintro ⟨j, oad, ocap⟩ a W hj hs hw
    simp only at hj hs hw
    repeat (first | (refine sxv hs hw ?_; clear hs; intro a hs) | refine sxc hs ?_ | (refine sxa hs hw ?_; clear hs hw; intro a b W hw hs) | (refine sxs hs hw ?_; clear hs hw; intro W hs hw))
    refine cd_split hs (kt := fun hcc => ?_) (kf := fun hcc => ?_)
    · have hj' : j < t.rows.length := by simpa using hcc
      obtain ⟨r, hri⟩ : ∃ o, t.rows[j]? = some o := ⟨t.rows[j], List.getElem?_eq_getElem hj'⟩
      obtain ⟨hbo, hmb⟩ := hb r (List.mem_of_getElem? hri)
      have hfl : ((t.rows.take j).flatMap rowB).length ≤ (t.rows.take j).length * 1300 := flat_len fun q hq => rowB_len (hb q (List.mem_of_mem_take hq)).2
      have htl : (t.rows.take j).length ≤ 200000 := by rw [List.length_take]; omega
      have hacc : (Ph.putI t.ix ++ (Ph.putI (t.rows.length : Int) ++ (t.rows.take j).flatMap rowB)).length ≤ 300000000 := by
        simp only [List.length_append]
        omega
      have hnext : (Ph.putI t.ix ++ (Ph.putI (t.rows.length : Int) ++ (t.rows.take j).flatMap rowB)) ++ Ph.putT (encB r.b) = (Ph.putI t.ix ++ (Ph.putI (t.rows.length : Int) ++ (t.rows.take (j + 1)).flatMap rowB)) := by
        rw [take_of hri]
        simp [rowB]
      have he12 : (encB r.b).length ≤ 1200 := (mayBatch_parts hmb).2.2.2.2
      obtain ⟨acc, hae⟩ : ∃ x, (Ph.putI t.ix ++ (Ph.putI (t.rows.length : Int) ++ (t.rows.take j).flatMap rowB)) = x := ⟨_, rfl⟩
      rw [hae] at hs hw hacc hnext
      repeat (first | (refine sxv hs hw ?_; clear hs; intro a hs) | refine sxc hs ?_ | (refine sxa hs hw ?_; clear hs hw; intro a b W hw hs) | (refine sxs hs hw ?_; clear hs hw; intro W hs hw))
      refine st_index_ch hs (r := hw.rd_own (In.tl (In.tl (In.tl In.hd)))) (hk := RowIn.len) (ch := hch) (ho := hri) (hlen := rfl) (c := ?_); clear hs; intro a g off c hc hcl hpc hlt hs
      obtain ⟨rv, rfl, hrv⟩ := hc
      obtain ⟨rad, rcap, rfl⟩ := hrv.slice
      refine st_load_ats hs (cs := rowCells r (.slice rad r.b.l.length rcap)) (hc := hpc) (hl := by rfl) (c := ?_); clear hs; intro a hs
      clear hpc
      repeat (first | (refine sxv hs hw ?_; clear hs; intro a hs) | refine sxc hs ?_ | (refine sxa hs hw ?_; clear hs hw; intro a b W hw hs) | (refine sxs hs hw ?_; clear hs hw; intro W hs hw))
      refine st_call hs (hc := op_Encode r.b.c r.b.q r.b.l _ _ hbo.c hbo.q hbo.ops (hw.rdH (by repeat (first | exact In.hd | apply In.tl)) hrv) (hT.keep (hw.endF (by repeat (first | exact In.hd | apply In.tl)) hH))) (k := ?_); rintro e0 W1 ⟨ead, ecap, rfl, _, hw1⟩; refine ⟨_, rfl, ?_⟩; clear hs; intro a hs; replace hw := hw.call hw1; clear hw1
      have hif : (if mayBatch r.b.c r.b.q r.b.l = true then textB r.b.c r.b.q r.b.l else []) = encB r.b := by rw [if_pos (show mayBatch r.b.c r.b.q r.b.l = true from hmb)]; rfl
      rw [hif] at hs hw
      refine st_string_b hs (r := hw.rd_own In.hd) (k := ?_); clear hs; intro a hs
      obtain ⟨b5, q5⟩ : ∃ x : Nat, x = 0 := ⟨0, rfl⟩
      clear b5 q5
      have hw := hw.sub (List.Sublist.cons _ (List.Sublist.refl _))
      have hw := hw.swap2
      refine st_call hs (hc := num_PutText w0 _ _ acc ⟨(encB r.b).toArray⟩ _ (by show (encB r.b).length ≤ _; omega) (by omega) hw) (k := ?_); rintro e0 W1 ⟨ad, cap, rfl, hw1⟩; refine ⟨_, rfl, ?_⟩; clear hs hw; intro a hs; have hw := hw1; clear hw1
      have hds : ((⟨(encB r.b).toArray⟩ : ByteArray).data.toList) = encB r.b := rfl
      rw [hds, hnext] at hs hw
      repeat (first | (refine sxv hs hw ?_; clear hs; intro a hs) | refine sxc hs ?_ | (refine sxa hs hw ?_; clear hs hw; intro a b W hw hs) | (refine sxs hs hw ?_; clear hs hw; intro W hs hw))
      have hw := hw.sub (L' := Sx.OwnB 5 (.slice ad (Ph.putI t.ix ++ (Ph.putI (t.rows.length : Int) ++ (t.rows.take (j + 1)).flatMap rowB)).length cap) (Ph.putI t.ix ++ (Ph.putI (t.rows.length : Int) ++ (t.rows.take (j + 1)).flatMap rowB)) :: Cells p [.int .i64 t.ix, .pointer (some ⟨pf, 0, none⟩), .slice vad t.rows.length vcap] 105 :: FoldAt H pf t.f :: Sx.Own 39 5 (.slice vad t.rows.length vcap) t.rows.length xs :: Fz H :: R) (List.Sublist.cons_cons _ (List.Sublist.cons _ (List.Sublist.refl _)))
      exact st_again (j + 1, ad, cap) hs hw hj' (by show t.rows.length - (j + 1) < t.rows.length - j; omega) ⟨rfl, rfl, int_eq (by show IntKind.i64.wrap ((j : Int) + 1) = ((j + 1 : Nat) : Int); rw [IntWalk.i64_in _ (by omega)]; omega), rfl, trivial⟩
    · have hj' : j = t.rows.length := by have : ¬ j < t.rows.length := by simpa using hcc
                                         omega
      have hdt : (Ph.putI t.ix ++ (Ph.putI (t.rows.length : Int) ++ (t.rows.take j).flatMap rowB)) = dataT t := by
        rw [hj', List.take_length]; rfl
      rw [hdt] at hs hw
      repeat (first | (refine sxv hs hw ?_; clear hs; intro a hs) | refine sxc hs ?_ | (refine sxa hs hw ?_; clear hs hw; intro a b W hw hs) | (refine sxs hs hw ?_; clear hs hw; intro W hs hw))
      refine st_string_b hs (r := hw.rd_own In.hd) (k := ?_); clear hs; intro a hs
      repeat (first | (refine sxv hs hw ?_; clear hs; intro a hs) | refine sxc hs ?_ | (refine sxa hs hw ?_; clear hs hw; intro a b W hw hs) | (refine sxs hs hw ?_; clear hs hw; intro W hs hw))
      have hw := hw.sub (List.Sublist.cons _ (List.Sublist.refl _))
      exact rt1 hs rfl rfl ⟨rfl, tabShut hw hch⟩
  all_goals
    intro u LD D a W hcl hi hp hs hw
    repeat (first | (refine sxv hs hw ?_; clear hs; intro a hs) | refine sxc hs ?_ | (refine sxa hs hw ?_; clear hs hw; intro a b W hw hs) | (refine sxs hs hw ?_; clear hs hw; intro W hs hw))
    exact Or.inl ⟨hs, hw⟩
end Go.Proofs.YtmalklakaalaoaaGreatDoor.Sw

set_option linter.unusedVariables false
set_option maxRecDepth 10000
namespace Go.Sx
open Go.RowKit
theorem Has.rdM {G b cap : Nat} {w W W0 : World} {R : List Res} {E : TypeId} {l : List UInt8} {ext : List Value} (h : Has G w W R) (i : In (CellsM b (bys l ++ ext) E) R) (r0 : RdB W0 (.slice (some ⟨b, 0, none⟩) l.length cap) l) : RdB W (.slice (some ⟨b, 0, none⟩) l.length cap) l := by
  obtain ⟨h1, ad, c2, e, h3, h4, h5⟩ := r0
  injection e with e1 e2 e3
  subst e1 e3
  refine ⟨h1, _, _, rfl, h3, h4, .inr ⟨b, 0, rfl, (h.blockM i).2.2, fun j u hj => ?_⟩⟩
  rw [cell_m (h.blockM i).1, Nat.zero_add]
  have hj2 := (List.getElem?_eq_some_iff.1 hj).1
  rw [List.getElem?_append_left hj2]; exact hj
end Go.Sx
namespace Go.Proofs.YtmalklakaalaoaaGreatDoor.Sw
open Go.RowKit Go.Sx
theorem loadT_head {l : List UInt8} (h : headT l = none) : loadT l = none := by unfold loadT; rw [h]
theorem loadRows_succ (m : Nat) (f : FoldD) (rs : List RowD) (s : List UInt8) : loadRows (m + 1) f rs s = match (Ph.getT s).2.2 == 0, decode (Ph.getT s).1 with
    | true, some p => (match (next f (batOf p)).2.2 with
       | true => loadRows m (next f (batOf p)).1 (rs ++ [(next f (batOf p)).2.1]) (s.drop (Ph.getT s).2.1)
       | false => none)
    | _, _ => none := rfl
set_option maxHeartbeats 32000000 in
theorem table_Load (w0 W : World) (H : Fh) (s : ByteArray) (R : List Res) (hl : s.size ≤ 200000) (hH : (fr w0).le H) (hT : Tabs w0) (hw : Has 0 w0 W (Fz H :: R)) :
    Calls Tryz.prog 28 ⟨[.string s]⟩ W fun e W' => ∃ H', H.le H' ∧ ((loadT s.data.toList = none ∧ e = .returned (.tuple ⟨[.pointer none, .int .i64 1]⟩) ∧ Has 0 w0 W' (Fz H' :: R)) ∨ ∃ t p, loadT s.data.toList = some t ∧ e = .returned (.tuple ⟨[.pointer (some ⟨p, 0, none⟩), .int .i64 0]⟩) ∧ Has 0 w0 W' (TabAt H' p t :: Fz H' :: R)) := by
  refine enter Tryz.func28 Tryz.ntmps28 rfl rfl fun a hs => ?_
  repeat (first | (refine sxv hs hw ?_; clear hs; intro a hs) | refine sxc hs ?_ | (refine sxa hs hw ?_; clear hs hw; intro a b W hw hs) | (refine sxs hs hw ?_; clear hs hw; intro W hs hw))
  refine st_bytes (s := s) hs hw (by omega) (c := ?_); clear hs hw; intro a bb cap0 ext W hw hr0 hs
  have hll : s.data.toList.length ≤ 200000 := by rw [Array.length_toList]; exact hl
  generalize s.data.toList = l at *
  repeat (first | (refine sxv hs hw ?_; clear hs; intro a hs) | refine sxc hs ?_ | (refine sxa hs hw ?_; clear hs hw; intro a b W hw hs) | (refine sxs hs hw ?_; clear hs hw; intro W hs hw))
  refine st_call hs (hc := num_Get _ _ l (hw.rdM In.hd hr0)) (k := ?_); rintro e0 W1 ⟨rfl, rfl⟩; refine ⟨_, rfl, ?_⟩; clear hs; intro a hs
  have hk1 := Ph.getI_le l
  obtain ⟨⟨ix, k, err⟩, hg⟩ : ∃ x, Ph.getI l = x := ⟨_, rfl⟩
  rw [hg] at hs hk1
  simp only at hs hk1
  repeat (first | (refine sxv hs hw ?_; clear hs; intro a hs) | refine sxc hs ?_ | (refine sxa hs hw ?_; clear hs hw; intro a b W hw hs) | (refine sxs hs hw ?_; clear hs hw; intro W hs hw))
  cases c1 : (err != 0) with
  | true =>
    rw [c1] at hs
    have he : err ≠ 0 := by simpa using c1
    have hX : loadT l = none := loadT_head (by unfold headT; rw [hg, if_neg (fun h => he h.1)])
    repeat (first | (refine sxv hs hw ?_; clear hs; intro a hs) | refine sxc hs ?_ | (refine sxa hs hw ?_; clear hs hw; intro a b W hw hs) | (refine sxs hs hw ?_; clear hs hw; intro W hs hw))
    exact rt2 hs rfl rfl rfl ⟨H, Fh.le.refl _, .inl ⟨hX, rfl, hw.sub (List.Sublist.cons _ (List.Sublist.refl _))⟩⟩
  | false =>
  rw [c1] at hs
  have he1 : err = 0 := by simpa using c1
  repeat (first | (refine sxv hs hw ?_; clear hs; intro a hs) | refine sxc hs ?_ | (refine sxa hs hw ?_; clear hs hw; intro a b W hw hs) | (refine sxs hs hw ?_; clear hs hw; intro W hs hw))
  cases c2 : decide (ix < 0) with
  | true =>
    rw [c2] at hs
    have g2 := of_decide_eq_true c2
    have hX : loadT l = none := loadT_head (by unfold headT; rw [hg, if_neg (fun h => by have := h.2.1; simp only at this; omega)])
    repeat (first | (refine sxv hs hw ?_; clear hs; intro a hs) | refine sxc hs ?_ | (refine sxa hs hw ?_; clear hs hw; intro a b W hw hs) | (refine sxs hs hw ?_; clear hs hw; intro W hs hw))
    exact rt2 hs rfl rfl rfl ⟨H, Fh.le.refl _, .inl ⟨hX, rfl, hw.sub (List.Sublist.cons _ (List.Sublist.refl _))⟩⟩
  | false =>
  rw [c2] at hs
  have g2 := of_decide_eq_false c2
  repeat (first | (refine sxv hs hw ?_; clear hs; intro a hs) | refine sxc hs ?_ | (refine sxa hs hw ?_; clear hs hw; intro a b W hw hs) | (refine sxs hs hw ?_; clear hs hw; intro W hs hw))
  cases c3 : decide (ix > 1099511627776) with
  | true =>
    rw [c3] at hs
    have g3 := of_decide_eq_true c3
    have hX : loadT l = none := loadT_head (by unfold headT; rw [hg, if_neg (fun h => by have := h.2.2; simp only at this; omega)])
    repeat (first | (refine sxv hs hw ?_; clear hs; intro a hs) | refine sxc hs ?_ | (refine sxa hs hw ?_; clear hs hw; intro a b W hw hs) | (refine sxs hs hw ?_; clear hs hw; intro W hs hw))
    exact rt2 hs rfl rfl rfl ⟨H, Fh.le.refl _, .inl ⟨hX, rfl, hw.sub (List.Sublist.cons _ (List.Sublist.refl _))⟩⟩
  | false =>
  rw [c3] at hs
  have g3 := of_decide_eq_false c3
  repeat (first | (refine sxv hs hw ?_; clear hs; intro a hs) | refine sxc hs ?_ | (refine sxa hs hw ?_; clear hs hw; intro a b W hw hs) | (refine sxs hs hw ?_; clear hs hw; intro W hs hw))
  refine st_slice_lo_b (hs := hs) (r := hw.rdM In.hd hr0) (h0 := by omega) (h1 := by omega) (c := ?_); clear hs; intro a ad1 cap1 r1 hs
  rw [Int.toNat_natCast] at hs r1
  repeat (first | (refine sxv hs hw ?_; clear hs; intro a hs) | refine sxc hs ?_ | (refine sxa hs hw ?_; clear hs hw; intro a b W hw hs) | (refine sxs hs hw ?_; clear hs hw; intro W hs hw))
  refine st_call hs (hc := num_Get _ _ (l.drop k) r1) (k := ?_); rintro e0 W1 ⟨rfl, rfl⟩; refine ⟨_, rfl, ?_⟩; clear hs r1; intro a hs
  have hk2 := Ph.getI_le (l.drop k)
  obtain ⟨⟨n, m, err2⟩, hg2⟩ : ∃ x, Ph.getI (l.drop k) = x := ⟨_, rfl⟩
  rw [hg2] at hs hk2
  rw [List.length_drop] at hk2
  simp only at hs hk2
  have hhd : headT l = if err2 = 0 ∧ 0 ≤ n ∧ n ≤ ix ∧ n ≤ l.length then some (ix, n.toNat, l.drop (k + m)) else none := by
    unfold headT
    rw [hg]
    simp only
    rw [hg2, if_pos ⟨he1, by omega, by omega⟩]
  repeat (first | (refine sxv hs hw ?_; clear hs; intro a hs) | refine sxc hs ?_ | (refine sxa hs hw ?_; clear hs hw; intro a b W hw hs) | (refine sxs hs hw ?_; clear hs hw; intro W hs hw))
  cases c4 : (err2 != 0) with
  | true =>
    rw [c4] at hs
    have he : err2 ≠ 0 := by simpa using c4
    have hX : loadT l = none := loadT_head (by rw [hhd, if_neg (fun h => he h.1)])
    repeat (first | (refine sxv hs hw ?_; clear hs; intro a hs) | refine sxc hs ?_ | (refine sxa hs hw ?_; clear hs hw; intro a b W hw hs) | (refine sxs hs hw ?_; clear hs hw; intro W hs hw))
    exact rt2 hs rfl rfl rfl ⟨H, Fh.le.refl _, .inl ⟨hX, rfl, hw.sub (List.Sublist.cons _ (List.Sublist.refl _))⟩⟩
  | false =>
  rw [c4] at hs
  have he2 : err2 = 0 := by simpa using c4
  repeat (first | (refine sxv hs hw ?_; clear hs; intro a hs) | refine sxc hs ?_ | (refine sxa hs hw ?_; clear hs hw; intro a b W hw hs) | (refine sxs hs hw ?_; clear hs hw; intro W hs hw))
  cases c5 : decide (n < 0) with
  | true =>
    rw [c5] at hs
    have g5 := of_decide_eq_true c5
    have hX : loadT l = none := loadT_head (by rw [hhd, if_neg (fun h => by have := h.2.1; omega)])
    repeat (first | (refine sxv hs hw ?_; clear hs; intro a hs) | refine sxc hs ?_ | (refine sxa hs hw ?_; clear hs hw; intro a b W hw hs) | (refine sxs hs hw ?_; clear hs hw; intro W hs hw))
    exact rt2 hs rfl rfl rfl ⟨H, Fh.le.refl _, .inl ⟨hX, rfl, hw.sub (List.Sublist.cons _ (List.Sublist.refl _))⟩⟩
  | false =>
  rw [c5] at hs
  have g5 := of_decide_eq_false c5
  repeat (first | (refine sxv hs hw ?_; clear hs; intro a hs) | refine sxc hs ?_ | (refine sxa hs hw ?_; clear hs hw; intro a b W hw hs) | (refine sxs hs hw ?_; clear hs hw; intro W hs hw))
  cases c6 : decide (n > ix) with
  | true =>
    rw [c6] at hs
    have g6 := of_decide_eq_true c6
    have hX : loadT l = none := loadT_head (by rw [hhd, if_neg (fun h => by have := h.2.2.1; omega)])
    repeat (first | (refine sxv hs hw ?_; clear hs; intro a hs) | refine sxc hs ?_ | (refine sxa hs hw ?_; clear hs hw; intro a b W hw hs) | (refine sxs hs hw ?_; clear hs hw; intro W hs hw))
    exact rt2 hs rfl rfl rfl ⟨H, Fh.le.refl _, .inl ⟨hX, rfl, hw.sub (List.Sublist.cons _ (List.Sublist.refl _))⟩⟩
  | false =>
  rw [c6] at hs
  have g6 := of_decide_eq_false c6
  repeat (first | (refine sxv hs hw ?_; clear hs; intro a hs) | refine sxc hs ?_ | (refine sxa hs hw ?_; clear hs hw; intro a b W hw hs) | (refine sxs hs hw ?_; clear hs hw; intro W hs hw))
  cases c7 : decide (n > (l.length : Int)) with
  | true =>
    rw [c7] at hs
    have g7 := of_decide_eq_true c7
    have hX : loadT l = none := loadT_head (by rw [hhd, if_neg (fun h => by have := h.2.2.2; omega)])
    repeat (first | (refine sxv hs hw ?_; clear hs; intro a hs) | refine sxc hs ?_ | (refine sxa hs hw ?_; clear hs hw; intro a b W hw hs) | (refine sxs hs hw ?_; clear hs hw; intro W hs hw))
    exact rt2 hs rfl rfl rfl ⟨H, Fh.le.refl _, .inl ⟨hX, rfl, hw.sub (List.Sublist.cons _ (List.Sublist.refl _))⟩⟩
  | false =>
  rw [c7] at hs
  have g7 := of_decide_eq_false c7
  obtain ⟨nn, rfl⟩ := Int.eq_ofNat_of_zero_le (show 0 ≤ n by omega)
  rw [if_pos ⟨he2, by omega, by omega, by omega⟩, Int.toNat_natCast] at hhd
  have hload : loadT l = match loadRows nn emptyF [] (l.drop (k + m)) with
      | none => none
      | some (f, rs) => if dataT ⟨ix, f, rs⟩ = l then some ⟨ix, f, rs⟩ else none := by
    unfold loadT; rw [hhd]; rfl
  repeat (first | (refine sxv hs hw ?_; clear hs; intro a hs) | refine sxc hs ?_ | (refine sxa hs hw ?_; clear hs hw; intro a b W hw hs) | (refine sxs hs hw ?_; clear hs hw; intro W hs hw))
  refine st_call hs (hc := table_New w0 _ H _ hw) (k := ?_); rintro e0 W1 ⟨p, rfl, hw1⟩; refine ⟨_, rfl, ?_⟩; clear hs hw; intro a hs; have hw := hw1; clear hw1
  repeat (first | (refine sxv hs hw ?_; clear hs; intro a hs) | refine sxn hs ?_ | (refine sxa hs hw ?_; clear hs hw; intro a b W hw hs) | (refine sxs hs hw ?_; clear hs hw; intro W hs hw))
  have ea : IntKind.i64.wrap ((k : Int) + (m : Int)) = ((k + m : Nat) : Int) := by rw [IntWalk.i64_in _ (by omega)]; omega
  rw [ea] at hs
  refine sq ?_
  refine merge (M := fun a W => ∃ (t : TabD) (H' : Fh), H.le H' ∧ t.ix = 0 ∧ loadRows nn emptyF [] (l.drop (k + m)) = some (t.f, t.rows) ∧ t.rows.length = nn ∧ (∀ r ∈ t.rows, BatOk r.b ∧ mayB r.b = true) ∧ Slots a 122 [(4, .slice (some ⟨bb, 0, none⟩) l.length cap0), (5, .int .i64 ix), (10, .pointer (some ⟨p, 0, none⟩))] ∧ Has 0 w0 W (TabAt H' p t :: Fz H' :: CellsM bb (bys l ++ ext) 5 :: R)) ?_ ?_
  · repeat (first | (refine sxv hs hw ?_; clear hs; intro a hs) | refine sxc hs ?_ | (refine sxa hs hw ?_; clear hs hw; intro a b W hw hs) | (refine sxs hs hw ?_; clear hs hw; intro W hs hw))
    refine st_loop (σ := Nat × TabD × Nat × Fh) (fun u => [(4, .slice (some ⟨bb, 0, none⟩) l.length cap0), (5, .int .i64 ix), (10, .pointer (some ⟨p, 0, none⟩)), (11, .int .i64 (u.2.2.1 : Int)), (65, .int .i64 (nn : Int)), (66, .int .i64 (u.1 : Int))]) (fun u => TabAt u.2.2.2 p u.2.1 :: Fz u.2.2.2 :: CellsM bb (bys l ++ ext) 5 :: R) (fun u => u.1 ≤ nn ∧ u.2.1.ix = 0 ∧ u.2.1.rows.length = u.1 ∧ u.2.2.1 ≤ l.length ∧ H.le u.2.2.2 ∧ loadRows (nn - u.1) u.2.1.f u.2.1.rows (l.drop u.2.2.1) = loadRows nn emptyF [] (l.drop (k + m)) ∧ ∀ r ∈ u.2.1.rows, BatOk r.b ∧ mayB r.b = true) (fun u => nn - u.1) (0, emptyT, k + m, H) ⟨Nat.zero_le _, rfl, rfl, by show k + m ≤ l.length; omega, Fh.le.refl _, rfl, by simp [emptyT]⟩ hs ⟨rfl, rfl, rfl, rfl, rfl, rfl, trivial⟩ (hw.perm (by repeat (first | exact List.Perm.refl _ | refine perm_pick (by repeat (first | exact Pick.hd | apply Pick.tl)) ?_))) ?_
    clear hs hw
    rintro ⟨j, t, at_, H0⟩ a W ⟨hj, hix, hrl, hat, hH0, hgo, hbk⟩ hs hw
    simp only at hj hix hrl hat hH0 hgo hbk hs hw
    repeat (first | (refine sxv hs hw ?_; clear hs; intro a hs) | refine sxc hs ?_ | (refine sxa hs hw ?_; clear hs hw; intro a b W hw hs) | (refine sxs hs hw ?_; clear hs hw; intro W hs hw))
    refine cd_split hs (kt := fun hcc => ?_) (kf := fun hcc => ?_)
    · have hj' : j < nn := by simpa using hcc
      rw [show nn - j = (nn - (j + 1)) + 1 by omega, loadRows_succ] at hgo
      repeat (first | (refine sxv hs hw ?_; clear hs; intro a hs) | refine sxc hs ?_ | (refine sxa hs hw ?_; clear hs hw; intro a b W hw hs) | (refine sxs hs hw ?_; clear hs hw; intro W hs hw))
      refine st_slice_lo_b (hs := hs) (r := hw.rdM (In.tl (In.tl In.hd)) hr0) (h0 := by omega) (h1 := by omega) (c := ?_); clear hs; intro a ad2 cap2 r2 hs
      rw [Int.toNat_natCast] at hs r2
      repeat (first | (refine sxv hs hw ?_; clear hs; intro a hs) | refine sxc hs ?_ | (refine sxa hs hw ?_; clear hs hw; intro a b W hw hs) | (refine sxs hs hw ?_; clear hs hw; intro W hs hw))
      refine st_call hs (hc := num_GetText _ _ (l.drop at_) r2) (k := ?_); rintro e0 W1 ⟨rfl, rfl⟩; refine ⟨_, rfl, ?_⟩; clear hs r2; intro a hs
      have hk3 := getT_le (l.drop at_)
      have hts := getT_size (l.drop at_)
      obtain ⟨⟨x, kx, err3⟩, hg3⟩ : ∃ x, Ph.getT (l.drop at_) = x := ⟨_, rfl⟩
      rw [hg3] at hs hk3 hgo hts
      rw [List.length_drop] at hk3 hts
      simp only at hs hk3 hgo hts
      repeat (first | (refine sxv hs hw ?_; clear hs; intro a hs) | refine sxc hs ?_ | (refine sxa hs hw ?_; clear hs hw; intro a b W hw hs) | (refine sxs hs hw ?_; clear hs hw; intro W hs hw))
      cases c8 : (err3 != 0) with
      | true =>
        rw [c8] at hs
        have he : (err3 == 0) = false := by simpa using c8
        rw [he] at hgo
        have hX : loadT l = none := by rw [hload, ← hgo]
        repeat (first | (refine sxv hs hw ?_; clear hs; intro a hs) | refine sxc hs ?_ | (refine sxa hs hw ?_; clear hs hw; intro a b W hw hs) | (refine sxs hs hw ?_; clear hs hw; intro W hs hw))
        exact rt2 hs rfl rfl rfl ⟨H0, hH0, .inl ⟨hX, rfl, hw.sub (List.Sublist.cons _ (List.Sublist.cons_cons _ (List.Sublist.cons _ (List.Sublist.refl _))))⟩⟩
      | false =>
      rw [c8] at hs
      have he3 : (err3 == 0) = true := by simpa using c8
      rw [he3] at hgo
      repeat (first | (refine sxv hs hw ?_; clear hs; intro a hs) | refine sxc hs ?_ | (refine sxa hs hw ?_; clear hs hw; intro a b W hw hs) | (refine sxs hs hw ?_; clear hs hw; intro W hs hw))
      have ea2 : IntKind.i64.wrap ((at_ : Int) + (kx : Int)) = ((at_ + kx : Nat) : Int) := by rw [IntWalk.i64_in _ (by omega)]; omega
      rw [ea2] at hs
      refine st_bytes (s := ⟨x.toArray⟩) hs hw (by show x.length ≤ _; have : x.length ≤ l.length - at_ := hts; omega) (c := ?_); clear hs hw; intro a bx0 cap3 ext3 W hw hr3 hs
      have hw := hw.sub (List.Sublist.cons _ (List.Sublist.refl _))
      have hxl : x.length ≤ 1000000 := by have : x.length ≤ l.length - at_ := hts; omega
      obtain ⟨⟨⟨c, q, ol⟩, err⟩, hdec⟩ : ∃ y, decR x = y := ⟨_, rfl⟩
      refine st_call hs (hc := op_DecodeR x c q ol err hdec _ _ hxl hr3 (hT.keep (hw.endF (In.tl In.hd) (hH.trans hH0)))) (k := ?_); rintro e0 W1 ⟨dad, dcap, rfl, hw1⟩; refine ⟨_, rfl, ?_⟩; clear hs; intro a hs; replace hw := hw.call hw1; clear hw1
      have hw : Has 0 w0 _ (Sx.Own 95 9 (.slice dad ol.length dcap) ol.length (ol.flatMap opCells) :: Fz H0 :: TabAt H0 p t :: CellsM bb (bys l ++ ext) 5 :: R) := hw.perm (by repeat (first | exact List.Perm.refl _ | refine perm_pick (by repeat (first | exact Pick.hd | apply Pick.tl)) ?_))
      obtain ⟨H1, hle01, hw, hbl⟩ := hw.freeze_own
      have hH1 := hH.trans (hH0.trans hle01)
      have hw := (tabLe hw.swap2 hle01)
      repeat (first | (refine sxv hs hw ?_; clear hs; intro a hs) | refine sxc hs ?_ | (refine sxa hs hw ?_; clear hs hw; intro a b W hw hs) | (refine sxs hs hw ?_; clear hs hw; intro W hs hw))
      obtain ⟨b15, q15⟩ := nm1 hw; subst q15
      have hw : Has 0 w0 _ (TabAt H1 p t :: Fz H1 :: CellsM bb (bys l ++ ext) 5 :: Cells b15 [.int .i64 c, .int .i64 q, .slice dad ol.length dcap] 36 :: R) := hw.perm (by repeat (first | exact List.Perm.refl _ | refine perm_pick (by repeat (first | exact Pick.hd | apply Pick.tl)) ?_))
      cases hdo : decode x with
      | none =>
        have he : err = 1 := by unfold decR at hdec; rw [hdo] at hdec; simp at hdec; exact hdec.2.symm
        subst he
        rw [hdo] at hgo
        have hX : loadT l = none := by rw [hload, ← hgo]
        repeat (first | (refine sxv hs hw ?_; clear hs; intro a hs) | refine sxc hs ?_ | (refine sxa hs hw ?_; clear hs hw; intro a b W hw hs) | (refine sxs hs hw ?_; clear hs hw; intro W hs hw))
        exact rt2 hs rfl rfl rfl ⟨H1, hH0.trans hle01, .inl ⟨hX, rfl, hw.sub (List.Sublist.cons _ (List.Sublist.cons_cons _ (List.Sublist.cons _ (List.Sublist.cons _ (List.Sublist.refl _)))))⟩⟩
      | some pd =>
      have hpe : pd = (c, q, ol) ∧ err = 0 := by unfold decR at hdec; rw [hdo] at hdec; simp at hdec; exact ⟨hdec.1, hdec.2.symm⟩
      obtain ⟨rfl, rfl⟩ := hpe
      have hdk := decode_ok hxl hdo
      rw [hdo] at hgo
      obtain ⟨bt, hbt⟩ : ∃ b : BatchD, b = ⟨c, q, ol⟩ := ⟨_, rfl⟩
      have hbo : BatOk bt := by rw [hbt]; exact ⟨hdk.1, hdk.2.1, hdk.2.2.2⟩
      have hbe : batOf (c, q, ol) = bt := by rw [hbt]; rfl
      simp only at hgo
      rw [hbe] at hgo
      obtain ⟨rfl, rfl, rfl⟩ : c = bt.c ∧ q = bt.q ∧ ol = bt.l := by rw [hbt]; exact ⟨rfl, rfl, rfl⟩
      clear hbt hdo hdec hdk hbe
      obtain ⟨bad, hbad⟩ : ∃ x, x = dad := ⟨_, rfl⟩
      obtain ⟨bcap, hbcap⟩ : ∃ x, x = dcap := ⟨_, rfl⟩
      subst hbad hbcap
      obtain ⟨N, hN⟩ : ∃ N, next t.f bt = N := ⟨_, rfl⟩
      rw [hN] at hgo
      have hbl : OpsH H1 (.slice bad bt.l.length bcap) bt.l := hbl
      obtain ⟨pf, vad, vcap, xs, hch, hw⟩ := tabOpen hw
      rw [hix] at hw
      repeat (first | (refine sxv hs hw ?_; clear hs; intro a hs) | refine sxc hs ?_ | (refine sxa hs hw ?_; clear hs hw; intro a b W hw hs) | (refine sxs hs hw ?_; clear hs hw; intro W hs hw))
      have hw : Has 0 w0 _ (Fz H1 :: FoldAt H1 pf t.f :: Free :: Free :: Free :: Cells p [.int .i64 0, .pointer (some ⟨pf, 0, none⟩), .slice vad t.rows.length vcap] 105 :: Cells b15 (batCells bt (.slice bad bt.l.length bcap)) 36 :: Sx.Own 39 5 (.slice vad t.rows.length vcap) t.rows.length xs :: CellsM bb (bys l ++ ext) 5 :: R) := (hw.free.free.free).perm (by repeat (first | exact List.Perm.refl _ | refine perm_pick (by repeat (first | exact Pick.hd | apply Pick.tl)) ?_))
      refine rg_drawU (σ := Value × Fh × Nat) (V := fun u => [.pointer (some ⟨p, 0, none⟩), .pointer (some ⟨p, 0, none⟩), .pointer (some ⟨p, 0 + 1, none⟩), .pointer (some ⟨pf, 0, none⟩), .agg ⟨batCells bt (.slice bad bt.l.length bcap)⟩, .tuple ⟨[.agg ⟨rowCells N.2.1 (u 5).1⟩, .bool N.2.2]⟩, .tuple ⟨[.agg ⟨rowCells N.2.1 (u 6).1⟩, .bool N.2.2]⟩, .agg ⟨rowCells N.2.1 (u 7).1⟩, .bool N.2.2, .pointer (some ⟨(u 9).2.2, 0, none⟩), .bool true, .bool N.2.2])
        (Rs := fun u D => (if D 5 then FzF (u 5).2.1 (H1.le (u 5).2.1 ∧ OpsH (u 5).2.1 (u 5).1 N.2.1.b.l) else Fz H1) :: (if D 5 then FoldAt (u 5).2.1 pf N.1 else FoldAt H1 pf t.f) :: (if D 9 then Cells (u 9).2.2 (if D 10 then rowCells N.2.1 (u 5).1 else zrc) 39 else Free) :: (if D 6 then Fact (u 6 = u 5) else Free) :: (if D 7 then Fact (u 7 = u 6) else Free) :: Cells p [.int .i64 0, .pointer (some ⟨pf, 0, none⟩), .slice vad t.rows.length vcap] 105 :: Cells b15 (batCells bt (.slice bad bt.l.length bcap)) 36 :: Sx.Own 39 5 (.slice vad t.rows.length vcap) t.rows.length xs :: CellsM bb (bys l ++ ext) 5 :: R) (fun _ => (.nilIface, H1, 0)) hs hw (hVu := ?vu_2) (ho := ⟨?_, ?_, ?_, ?_, ?_, ?c5_2, ?c6_2, ?c7_2, ?_, ?c9_2, ?c10_2, ?_, trivial⟩) (k := ?k_2)
      case vu_2 =>
        intro u u' j h
        rcases j with _ | _ | _ | _ | _ | _ | _ | _ | _ | _ | _ | _ | j
        all_goals first | rfl | simp [h]
      case c5_2 =>
        intro u LD D a W hcl hi hp hs hw
        have h6 := Go.Sx.not_done hcl hi 6 (by kernel_rfl)
        have h7 := Go.Sx.not_done hcl h6 7 (by kernel_rfl)
        have h10 := Go.Sx.not_done hcl h7 10 (by kernel_rfl)
        simp only [hi, h6, h7, h10, Bool.false_eq_true, if_false] at hw
        have hw := hw.swap2
        refine st_call hs (hc := fold_Next w0 _ H1 pf t.f bt _ _ hbo hbl hH1 hT hw) (k := ?_); rw [hN]; rintro e0 W1 ⟨sv', H2, rfl, hle, hsv, hw1⟩; refine ⟨_, rfl, ?_⟩; clear hs hw; intro a hs; have hw := hw1; clear hw1
        repeat (first | (refine sxv hs hw ?_; clear hs; intro a hs) | refine sxc hs ?_ | (refine sxa hs hw ?_; clear hs hw; intro a b W hw hs) | (refine sxs hs hw ?_; clear hs hw; intro W hs hw))
        refine Or.inr ⟨(sv', H2, 0), hs, ?_⟩
        have hw := (hw.swap2).fzf (q := H1.le H2 ∧ OpsH H2 sv' N.2.1.b.l) ⟨hle, hsv⟩
        show Has 0 w0 _ (_ :: _ :: (if D 9 then Cells (u 9).2.2 (if (Nat.beq 10 5 || D 10) = true then _ else _) _ else Free) :: (if (Nat.beq 6 5 || D 6) = true then _ else _) :: (if (Nat.beq 7 5 || D 7) = true then _ else _) :: _)
        rw [h6, h7, h10]
        exact hw
      case c6_2 =>
        intro u LD D a W hcl hi hp hs hw
        have h7 := Go.Sx.not_done hcl hi 7 (by kernel_rfl)
        simp only [hi, h7, Bool.false_eq_true, if_false] at hw
        repeat (first | (refine sxv hs hw ?_; clear hs; intro a hs) | refine sxc hs ?_ | (refine sxa hs hw ?_; clear hs hw; intro a b W hw hs) | (refine sxs hs hw ?_; clear hs hw; intro W hs hw))
        refine Or.inr ⟨u 5, hs, ?_⟩
        show Has 0 w0 _ (_ :: _ :: _ :: Fact (u 5 = u 5) :: (if (Nat.beq 7 6 || D 7) = true then _ else _) :: _)
        rw [h7]
        exact (hw.fact rfl).fill (Upd.tl (Upd.tl (Upd.tl Upd.hd)))
      case c7_2 =>
        intro u LD D a W hcl hi hp hs hw
        simp only [hi, Bool.false_eq_true, if_false] at hw
        repeat (first | (refine sxv hs hw ?_; clear hs; intro a hs) | refine sxc hs ?_ | (refine sxa hs hw ?_; clear hs hw; intro a b W hw hs) | (refine sxs hs hw ?_; clear hs hw; intro W hs hw))
        refine Or.inr ⟨u 6, hs, ?_⟩
        show Has 0 w0 _ (_ :: _ :: _ :: _ :: Fact (u 6 = u 6) :: _)
        exact (hw.fact rfl).fill (Upd.tl (Upd.tl (Upd.tl (Upd.tl Upd.hd))))
      case c9_2 =>
        intro u LD D a W hcl hi hp hs hw
        have h10 := Go.Sx.not_done hcl hi 10 (by kernel_rfl)
        simp only [hi, Bool.false_eq_true, if_false] at hw
        repeat (first | (refine sxv hs hw ?_; clear hs; intro a hs) | refine sxc hs ?_ | (refine sxa hs hw ?_; clear hs hw; intro a b W hw hs) | (refine sxs hs hw ?_; clear hs hw; intro W hs hw))
        refine Or.inr ⟨(.nilIface, H1, _), hs, ?_⟩
        show Has 0 w0 _ (_ :: _ :: Cells _ (if (Nat.beq 10 9 || D 10) = true then _ else _) _ :: _)
        rw [h10]
        exact hw.fill (Upd.tl (Upd.tl Upd.hd))
      case c10_2 =>
        intro u LD D a W hcl hi hp hs hw
        have h7 := Go.Sx.done hp 7 (by kernel_rfl)
        have h9 := Go.Sx.done hp 9 (by kernel_rfl)
        have h6 := Go.Sx.done (hcl 7 _ rfl h7) 6 (by kernel_rfl)
        have h5 := Go.Sx.done (hcl 6 _ rfl h6) 5 (by kernel_rfl)
        have e1 : (if D 7 = true then Fact (u 7 = u 6) else Free) = Fact (u 7 = u 6) := by rw [h7]; rfl
        have e2 : (if D 6 = true then Fact (u 6 = u 5) else Free) = Fact (u 6 = u 5) := by rw [h6]; rfl
        have g7 : u 7 = u 5 := by
          have hw2 := hw
          simp only [e1, e2] at hw2
          exact (hw2.told (In.tl (In.tl (In.tl (In.tl In.hd))))).trans (hw2.told (In.tl (In.tl (In.tl In.hd))))
        simp only [hi, h5, h9, Bool.false_eq_true, if_false, if_true] at hw
        obtain ⟨⟨_, hsv⟩, _⟩ := hw.unfzf
        obtain ⟨tad, tcap, e13⟩ := hsv.slice
        refine st_store hs (hw := hw) (vs := rowCells N.2.1 (u 7).1) (h1 := by rw [g7, e13]; rfl) (k := ?_); clear hs hw; intro W hs hw
        rw [show (u 7).1 = (u 5).1 from by rw [g7]] at hw
        repeat (first | (refine sxv hs hw ?_; clear hs; intro a hs) | refine sxc hs ?_ | (refine sxa hs hw ?_; clear hs hw; intro a b W hw hs) | (refine sxs hs hw ?_; clear hs hw; intro W hs hw))
        refine Or.inl ⟨hs, ?_⟩
        show Has 0 w0 _ ((if (Nat.beq 5 10 || D 5) = true then _ else _) :: (if (Nat.beq 5 10 || D 5) = true then _ else _) :: (if (Nat.beq 9 10 || D 9) = true then _ else _) :: _)
        rw [h5, h9]
        exact hw
      case k_2 =>
        clear hs hw
        intro u a W hs hw
        replace hw : Has 0 w0 W (FzF (u 5).2.1 (H1.le (u 5).2.1 ∧ OpsH (u 5).2.1 (u 5).1 N.2.1.b.l) :: FoldAt (u 5).2.1 pf N.1 :: Cells (u 9).2.2 (rowCells N.2.1 (u 5).1) 39 :: Fact (u 6 = u 5) :: Fact (u 7 = u 6) :: Cells p [.int .i64 0, .pointer (some ⟨pf, 0, none⟩), .slice vad t.rows.length vcap] 105 :: Cells b15 (batCells bt (.slice bad bt.l.length bcap)) 36 :: Sx.Own 39 5 (.slice vad t.rows.length vcap) t.rows.length xs :: CellsM bb (bys l ++ ext) 5 :: R) := hw
        replace hw := hw.sub (L' := FzF (u 5).2.1 (H1.le (u 5).2.1 ∧ OpsH (u 5).2.1 (u 5).1 N.2.1.b.l) :: FoldAt (u 5).2.1 pf N.1 :: Cells (u 9).2.2 (rowCells N.2.1 (u 5).1) 39 :: Cells p [.int .i64 0, .pointer (some ⟨pf, 0, none⟩), .slice vad t.rows.length vcap] 105 :: Cells b15 (batCells bt (.slice bad bt.l.length bcap)) 36 :: Sx.Own 39 5 (.slice vad t.rows.length vcap) t.rows.length xs :: CellsM bb (bys l ++ ext) 5 :: R) (List.Sublist.cons_cons _ (List.Sublist.cons_cons _ (List.Sublist.cons_cons _ (List.Sublist.cons _ (List.Sublist.cons _ (List.Sublist.refl _))))))
        replace hs : Slots a 122 [(4, .slice (some ⟨bb, 0, none⟩) l.length cap0), (5, .int .i64 ix), (10, .pointer (some ⟨p, 0, none⟩)), (11, .int .i64 ((at_ + kx : Nat) : Int)), (65, .int .i64 (nn : Int)), (66, .int .i64 (j : Int)), (16, .pointer (some ⟨(u 9).2.2, 0, none⟩)), (17, .bool N.2.2)] := hs.of ⟨rfl, rfl, rfl, rfl, rfl, rfl, rfl, rfl, trivial⟩
        generalize (u 9).2.2 = b8 at *
        generalize (u 5).2.1 = H2 at *
        generalize (u 5).1 = sv2 at *
        clear u
        obtain ⟨⟨hle2, hsv⟩, hw⟩ := hw.unfzf
        obtain ⟨xad, xcap, rfl⟩ := hsv.slice
        replace hch := hch.mono (RowIn.le hle2)
        have hrl2 : t.rows.length ≤ 200000 := by omega
        cases hok : N.2.2 with
        | false =>
          rw [hok] at hs hgo
          have hX : loadT l = none := by rw [hload, ← hgo]
          repeat (first | (refine sxv hs hw ?_; clear hs; intro a hs) | refine sxc hs ?_ | (refine sxa hs hw ?_; clear hs hw; intro a b W hw hs) | (refine sxs hs hw ?_; clear hs hw; intro W hs hw))
          have hw := hw.sub (L' := Fz H2 :: R) (List.Sublist.cons_cons _ (List.Sublist.cons _ (List.Sublist.cons _ (List.Sublist.cons _ (List.Sublist.cons _ (List.Sublist.cons _ (List.Sublist.cons _ (List.Sublist.refl _))))))))
          exact rt2 hs rfl rfl rfl ⟨H2, (hH0.trans hle01).trans hle2, .inl ⟨hX, rfl, hw⟩⟩
        | true =>
          rw [hok] at hs hgo
          simp only at hgo
          have hw : Has 0 w0 W (Cells p [.int .i64 0, .pointer (some ⟨pf, 0, none⟩), .slice vad t.rows.length vcap] 105 :: Fz H2 :: Free :: Sx.Own 39 5 (.slice vad t.rows.length vcap) t.rows.length xs :: Cells b8 (rowCells N.2.1 (.slice xad N.2.1.b.l.length xcap)) 39 :: FoldAt H2 pf N.1 :: Cells b15 (batCells bt (.slice bad bt.l.length bcap)) 36 :: CellsM bb (bys l ++ ext) 5 :: R) := (hw.free).perm (by repeat (first | exact List.Perm.refl _ | refine perm_pick (by repeat (first | exact Pick.hd | apply Pick.tl)) ?_))
          repeat (first | (refine sxv hs hw ?_; clear hs; intro a hs) | refine sxc hs ?_ | (refine sxa hs hw ?_; clear hs hw; intro a b W hw hs) | (refine sxs hs hw ?_; clear hs hw; intro W hs hw))
          refine rg_drawU (σ := Value × Fh × Nat × Option Addr) (V := fun u => [.pointer (some ⟨p, 0, none⟩), .pointer (some ⟨p, 0, none⟩), .pointer (some ⟨p, 0, none⟩), .pointer (some ⟨p, 0 + 2, none⟩), .slice vad t.rows.length vcap, .agg ⟨rowCells N.2.1 (.slice xad N.2.1.b.l.length xcap)⟩, .slice (some ⟨(u 6).2.2.1, 0, none⟩) 1 1, .slice (u 7).2.2.2 (t.rows ++ [N.2.1]).length (u 7).2.2.1, .pointer (some ⟨p, 0, none⟩), .pointer (some ⟨p, 0 + 2, none⟩), .bool true])
            (Rs := fun u D => Cells p [.int .i64 0, .pointer (some ⟨pf, 0, none⟩), (if D 10 then .slice (u 7).2.2.2 (t.rows ++ [N.2.1]).length (u 7).2.2.1 else .slice vad t.rows.length vcap)] 105 :: Fz H2 :: (if D 6 then Cells (u 6).2.2.1 (rowCells N.2.1 (.slice xad N.2.1.b.l.length xcap)) 39 else Free) :: (if D 7 then Sx.Own 39 5 (.slice (u 7).2.2.2 (t.rows ++ [N.2.1]).length (u 7).2.2.1) (t.rows ++ [N.2.1]).length (xs ++ rowCells N.2.1 (.slice xad N.2.1.b.l.length xcap)) else Sx.Own 39 5 (.slice vad t.rows.length vcap) t.rows.length xs) :: Cells b8 (rowCells N.2.1 (.slice xad N.2.1.b.l.length xcap)) 39 :: FoldAt H2 pf N.1 :: Cells b15 (batCells bt (.slice bad bt.l.length bcap)) 36 :: CellsM bb (bys l ++ ext) 5 :: R) (fun _ => (.nilIface, H2, 0, none)) hs hw (hVu := ?vu_1) (ho := ⟨?_, ?_, ?_, ?_, ?c4_1, ?_, ?c6_1, ?c7_1, ?_, ?_, ?c10_1, trivial⟩) (k := ?k_1)
          case vu_1 =>
            intro u u' j h
            rcases j with _ | _ | _ | _ | _ | _ | _ | _ | _ | _ | _ | j
            all_goals first | rfl | simp [h]
          case c4_1 =>
            intro u LD D a W hcl hi hp hs hw
            have hA := Go.Sx.not_done hcl hi 7 (by kernel_rfl)
            have hS := Go.Sx.not_done hcl hA 10 (by kernel_rfl)
            have hw0 := hw
            simp only [hS, Bool.false_eq_true, if_false] at hw
            repeat (first | (refine sxv hs hw ?_; clear hs; intro a hs) | refine sxc hs ?_ | (refine sxa hs hw ?_; clear hs hw; intro a b W hw hs) | (refine sxs hs hw ?_; clear hs hw; intro W hs hw))
            exact Or.inl ⟨hs, hw0⟩
          case c6_1 =>
            intro u LD D a W hcl hi hp hs hw
            have hB := hi
            have hA := Go.Sx.not_done hcl hB 7 (by kernel_rfl)
            have hS := Go.Sx.not_done hcl hA 10 (by kernel_rfl)
            simp only [hi, hA, hS, Bool.false_eq_true, if_false] at hw
            repeat (first | (refine sxv hs hw ?_; clear hs; intro a hs) | refine sxc hs ?_ | (refine sxa hs hw ?_; clear hs hw; intro a b W hw hs) | (refine sxs hs hw ?_; clear hs hw; intro W hs hw))
            refine Or.inr ⟨(.nilIface, H2, _, none), hs, ?_⟩
            show Has 0 w0 _ (Cells p [_, _, (if (Nat.beq 10 6 || D 10) = true then _ else _)] _ :: _ :: _ :: (if (Nat.beq 7 6 || D 7) = true then _ else _) :: _)
            rw [hA, hS]
            exact hw.fill (Upd.tl (Upd.tl Upd.hd))
          case c7_1 =>
            intro u LD D a W hcl hi hp hs hw
            have hB := Go.Sx.done hp 6 (by kernel_rfl)
            have hS := Go.Sx.not_done hcl hi 10 (by kernel_rfl)
            simp only [hi, hB, hS, Bool.false_eq_true, if_false, if_true] at hw
            have hw : Has 0 w0 W (Fz H2 :: Sx.Own 39 5 (.slice vad t.rows.length vcap) t.rows.length xs :: Cells p [.int .i64 0, .pointer (some ⟨pf, 0, none⟩), .slice vad t.rows.length vcap] 105 :: Cells (u 6).2.2.1 (rowCells N.2.1 (.slice xad N.2.1.b.l.length xcap)) 39 :: Cells b8 (rowCells N.2.1 (.slice xad N.2.1.b.l.length xcap)) 39 :: FoldAt H2 pf N.1 :: Cells b15 (batCells bt (.slice bad bt.l.length bcap)) 36 :: CellsM bb (bys l ++ ext) 5 :: R) := hw.perm (by repeat (first | exact List.Perm.refl _ | refine perm_pick (by repeat (first | exact Pick.hd | apply Pick.tl)) ?_))
            have hw : Has 0 w0 W (Sx.Own 39 5 (.slice vad t.rows.length vcap) t.rows.length xs :: Fz H2 :: Cells p [.int .i64 0, .pointer (some ⟨pf, 0, none⟩), .slice vad t.rows.length vcap] 105 :: Cells (u 6).2.2.1 (rowCells N.2.1 (.slice xad N.2.1.b.l.length xcap)) 39 :: Cells b8 (rowCells N.2.1 (.slice xad N.2.1.b.l.length xcap)) 39 :: FoldAt H2 pf N.1 :: Cells b15 (batCells bt (.slice bad bt.l.length bcap)) 36 :: CellsM bb (bys l ++ ext) 5 :: R) := hw.swap2
            have hone := RowIn.ones (H := H2) N.2.1 (rowCells N.2.1 (.slice xad N.2.1.b.l.length xcap)) ⟨_, rfl, hsv⟩
            refine st_append1 hs (hw := hw) (hi := In.tl (In.tl In.hd)) (ch := hch) (ha := (⟨_, rfl, hsv⟩ : RowIn H2 N.2.1 (rowCells N.2.1 (.slice xad N.2.1.b.l.length xcap)))) (hl := rfl) (h1 := by rw [List.all_eq_true]; exact hone) (hb := by omega) (h63 := by omega) (k := ?_)
            clear hs hw; intro a ad cap W hs hw hc2
            repeat (first | (refine sxv hs hw ?_; clear hs; intro a hs) | refine sxc hs ?_ | (refine sxa hs hw ?_; clear hs hw; intro a b W hw hs) | (refine sxs hs hw ?_; clear hs hw; intro W hs hw))
            refine Or.inr ⟨(.nilIface, H2, cap, ad), hs, ?_⟩
            show Has 0 w0 _ (Cells p [_, _, (if (Nat.beq 10 7 || D 10) = true then _ else _)] _ :: _ :: (if (Nat.beq 6 7 || D 6) = true then _ else _) :: _ :: _)
            rw [hB, hS]
            exact hw.perm (by repeat (first | exact List.Perm.refl _ | refine perm_pick (by repeat (first | exact Pick.hd | apply Pick.tl)) ?_))
          case c10_1 =>
            intro u LD D a W hcl hi hp hs hw
            have hA := Go.Sx.done hp 7 (by kernel_rfl)
            simp only [hi, hA, Bool.false_eq_true, if_false, if_true] at hw
            repeat (first | (refine sxv hs hw ?_; clear hs; intro a hs) | refine sxc hs ?_ | (refine sxa hs hw ?_; clear hs hw; intro a b W hw hs) | (refine sxs hs hw ?_; clear hs hw; intro W hs hw))
            refine Or.inl ⟨hs, ?_⟩
            show Has 0 w0 _ (_ :: _ :: _ :: (if (Nat.beq 7 10 || D 7) = true then _ else _) :: _)
            rw [hA]
            exact hw
          case k_1 =>
            clear hs hw
            intro u a W hs hw
            replace hw : Has 0 w0 W (Cells p [.int .i64 0, .pointer (some ⟨pf, 0, none⟩), .slice (u 7).2.2.2 (t.rows ++ [N.2.1]).length (u 7).2.2.1] 105 :: Fz H2 :: Cells (u 6).2.2.1 (rowCells N.2.1 (.slice xad N.2.1.b.l.length xcap)) 39 :: Sx.Own 39 5 (.slice (u 7).2.2.2 (t.rows ++ [N.2.1]).length (u 7).2.2.1) (t.rows ++ [N.2.1]).length (xs ++ rowCells N.2.1 (.slice xad N.2.1.b.l.length xcap)) :: Cells b8 (rowCells N.2.1 (.slice xad N.2.1.b.l.length xcap)) 39 :: FoldAt H2 pf N.1 :: Cells b15 (batCells bt (.slice bad bt.l.length bcap)) 36 :: CellsM bb (bys l ++ ext) 5 :: R) := hw
            replace hs : Slots a 122 [(4, .slice (some ⟨bb, 0, none⟩) l.length cap0), (5, .int .i64 ix), (10, .pointer (some ⟨p, 0, none⟩)), (11, .int .i64 ((at_ + kx : Nat) : Int)), (65, .int .i64 (nn : Int)), (66, .int .i64 (j : Int))] := hs.of ⟨rfl, rfl, rfl, rfl, rfl, rfl, trivial⟩
            generalize (u 7).2.2.2 = rad at *
            generalize (u 7).2.2.1 = rcap at *
            generalize (u 6).2.2.1 = bx at *
            clear u
            have hw : Has 0 w0 W (Cells p [.int .i64 0, .pointer (some ⟨pf, 0, none⟩), .slice rad (t.rows ++ [N.2.1]).length rcap] 105 :: FoldAt H2 pf N.1 :: Sx.Own 39 5 (.slice rad (t.rows ++ [N.2.1]).length rcap) (t.rows ++ [N.2.1]).length (xs ++ rowCells N.2.1 (.slice xad N.2.1.b.l.length xcap)) :: Fz H2 :: CellsM bb (bys l ++ ext) 5 :: Cells b8 (rowCells N.2.1 (.slice xad N.2.1.b.l.length xcap)) 39 :: Cells b15 (batCells bt (.slice bad bt.l.length bcap)) 36 :: Cells bx (rowCells N.2.1 (.slice xad N.2.1.b.l.length xcap)) 39 :: R) := hw.perm (by repeat (first | exact List.Perm.refl _ | refine perm_pick (by repeat (first | exact Pick.hd | apply Pick.tl)) ?_))
            have hw := tabShut (t := ⟨0, N.1, t.rows ++ [N.2.1]⟩) hw (hch.app (Ch.unit ⟨_, rfl, hsv⟩))
            repeat (first | (refine sxv hs hw ?_; clear hs; intro a hs) | refine sxc hs ?_ | (refine sxa hs hw ?_; clear hs hw; intro a b W hw hs) | (refine sxs hs hw ?_; clear hs hw; intro W hs hw))
            have hw := hw.sub (L' := TabAt H2 p ⟨0, N.1, t.rows ++ [N.2.1]⟩ :: Fz H2 :: CellsM bb (bys l ++ ext) 5 :: R) (List.Sublist.cons_cons _ (List.Sublist.cons_cons _ (List.Sublist.cons_cons _ (List.Sublist.cons _ (List.Sublist.cons _ (List.Sublist.cons _ (List.Sublist.refl _)))))))
            refine st_again (j + 1, ⟨0, N.1, t.rows ++ [N.2.1]⟩, at_ + kx, H2) hs hw ⟨hj', rfl, by show (t.rows ++ [N.2.1]).length = j + 1; rw [List.length_append, hrl]; rfl, by show at_ + kx ≤ l.length; omega, (hH0.trans hle01).trans hle2, ?_, fun r hr => ?_⟩ (by show nn - (j + 1) < nn - j; omega) ⟨rfl, rfl, rfl, rfl, rfl, int_eq (by show IntKind.i64.wrap ((j : Int) + 1) = ((j + 1 : Nat) : Int); rw [IntWalk.i64_in _ (by omega)]; omega), trivial⟩
            · rw [List.drop_drop] at hgo
              exact hgo
            · rcases List.mem_append.1 hr with hr | hr
              · exact hbk r hr
              · obtain rfl := List.mem_singleton.1 hr
                have h1 : (next t.f bt).2.2 = true := by rw [hN]; exact hok
                have h2 := next_row h1
                rw [hN] at h2
                rw [h2]
                exact ⟨hbo, nextB_may (next_ok h1).1⟩
          all_goals
            intro u LD D a W hcl hi hp hs hw
            repeat (first | (refine sxv hs hw ?_; clear hs; intro a hs) | refine sxc hs ?_ | (refine sxa hs hw ?_; clear hs hw; intro a b W hw hs) | (refine sxs hs hw ?_; clear hs hw; intro W hs hw))
            exact Or.inl ⟨hs, hw⟩
      all_goals
        intro u LD D a W hcl hi hp hs hw
        repeat (first | (refine sxv hs hw ?_; clear hs; intro a hs) | refine sxc hs ?_ | (refine sxa hs hw ?_; clear hs hw; intro a b W hw hs) | (refine sxs hs hw ?_; clear hs hw; intro W hs hw))
        exact Or.inl ⟨hs, hw⟩
    · have hj' : j = nn := by have : ¬ j < nn := by simpa using hcc
                              omega
      rw [hj', Nat.sub_self] at hgo
      repeat (first | (refine sxv hs hw ?_; clear hs; intro a hs) | refine sxc hs ?_ | (refine sxa hs hw ?_; clear hs hw; intro a b W hw hs) | (refine sxs hs hw ?_; clear hs hw; intro W hs hw))
      exact ⟨t, H0, hH0, hix, hgo.symm, by omega, hbk, hs.of ⟨rfl, rfl, rfl, trivial⟩, hw⟩
  · clear hs hw
    rintro a W ⟨t, H1, hle, hix, hgo, hrl, hbk, hs, hw⟩
    rw [hgo] at hload
    simp only at hload
    obtain ⟨pf, vad, vcap, xs, hch, hw⟩ := tabOpen hw
    repeat (first | (refine sxv hs hw ?_; clear hs; intro a hs) | refine sxc hs ?_ | (refine sxa hs hw ?_; clear hs hw; intro a b W hw hs) | (refine sxs hs hw ?_; clear hs hw; intro W hs hw) | ((with_reducible first | refine st_ptrSome hs (k := ?_) | refine st_ptrNone hs (k := ?_)); clear hs; intro a hs))
    have hw : Has 0 w0 W (Cells p [.int .i64 ix, .pointer (some ⟨pf, 0, none⟩), .slice vad t.rows.length vcap] 105 :: FoldAt H1 pf t.f :: Sx.Own 39 5 (.slice vad t.rows.length vcap) t.rows.length xs :: Fz H1 :: CellsM bb (bys l ++ ext) 5 :: R) := hw
    have hw := tabShut (t := ⟨ix, t.f, t.rows⟩) hw hch
    refine st_call hs (hc := table_Data w0 _ H1 p ⟨ix, t.f, t.rows⟩ _ (by show t.rows.length ≤ 200000; omega) ⟨by show _ ≤ ix; omega, by show ix ≤ _; omega⟩ hbk (hH.trans hle) hT hw) (k := ?_); rintro e0 W1 ⟨rfl, hw1⟩; refine ⟨_, rfl, ?_⟩; clear hs hw; intro a hs; have hw := hw1; clear hw1
    have hdl : (dataT ⟨ix, t.f, t.rows⟩).length ≤ 300000000 := by
      have h1 := Ph.putI_length_le ix
      have h2 := Ph.putI_length_le (t.rows.length : Int)
      have h3 := flat_len (l := t.rows) fun r hr => rowB_len (hbk r hr).2
      unfold dataT
      simp only [List.length_append]
      omega
    generalize dataT ⟨ix, t.f, t.rows⟩ = dt at *
    refine st_bytes (s := ⟨dt.toArray⟩) hs hw (by show dt.length ≤ _; omega) (c := ?_); clear hs hw; intro a bd cap4 ext4 W hw hr4 hs
    repeat (first | (refine sxv hs hw ?_; clear hs; intro a hs) | refine sxc hs ?_ | (refine sxa hs hw ?_; clear hs hw; intro a b W hw hs) | (refine sxs hs hw ?_; clear hs hw; intro W hs hw))
    refine st_call hs (hc := bytes_Equal dt l _ _ _ hr4 (hw.rdM (In.tl (In.tl (In.tl In.hd))) hr0)) (k := ?_); rintro e0 W1 ⟨rfl, hb⟩; refine ⟨_, rfl, ?_⟩; clear hs; intro a hs; replace hw := hw.below hb; clear hb
    by_cases heq : dt = l
    · rw [if_pos heq] at hload
      rw [heq, beq_self_eq_true] at hs
      repeat (first | (refine sxv hs hw ?_; clear hs; intro a hs) | refine sxc hs ?_ | (refine sxa hs hw ?_; clear hs hw; intro a b W hw hs) | (refine sxs hs hw ?_; clear hs hw; intro W hs hw))
      exact rt2 hs rfl rfl rfl ⟨H1, hle, .inr ⟨_, p, hload, rfl, hw.sub (List.Sublist.cons _ (List.Sublist.cons_cons _ (List.Sublist.cons_cons _ (List.Sublist.cons _ (List.Sublist.refl _)))))⟩⟩
    · rw [if_neg heq] at hload
      have hne : (dt == l) = false := by simpa using heq
      rw [hne] at hs
      repeat (first | (refine sxv hs hw ?_; clear hs; intro a hs) | refine sxc hs ?_ | (refine sxa hs hw ?_; clear hs hw; intro a b W hw hs) | (refine sxs hs hw ?_; clear hs hw; intro W hs hw))
      exact rt2 hs rfl rfl rfl ⟨H1, hle, .inl ⟨hload, rfl, hw.sub (List.Sublist.cons _ (List.Sublist.cons _ (List.Sublist.cons_cons _ (List.Sublist.cons _ (List.Sublist.refl _)))))⟩⟩
end Go.Proofs.YtmalklakaalaoaaGreatDoor.Sw

set_option linter.unusedVariables false
set_option maxRecDepth 10000
namespace Go.Proofs.YtmalklakaalaoaaGreatDoor.Sw
open Go.RowKit Go.Sx
-- pieces
abbrev addT : OpD := ⟨4, ⟨#[110]⟩, 0, 0, ⟨#[]⟩, 0, 0, ⟨#[]⟩, 2⟩
abbrev bT : BatchD := ⟨1, 1, [addT]⟩
abbrev rT : RowD := ⟨1, bT, 0⟩
abbrev tT : TabD := ⟨2, (next emptyF bT).1, [rT]⟩
abbrev e1T : EntD := ⟨1, 1, 1, ⟨#[]⟩⟩
abbrev e2T : EntD := ⟨2, 1, 2, ⟨(textB 1 1 [addT]).toArray⟩⟩
theorem app1 : applyT emptyT e1T = (⟨1, emptyF, []⟩, zeroRow, false) := by kernel_rfl
theorem app2 : applyT ⟨1, emptyF, []⟩ e2T = (tT, rT, true) := by kernel_rfl
theorem loadx : loadT [120] = none := by kernel_rfl
theorem may1 : mayBatch 1 1 [addT] = true := by kernel_rfl
theorem addT_ok : ∀ o ∈ [addT], OpOk o := by
  intro o ho
  rw [List.mem_singleton] at ho
  subst ho
  exact ⟨⟨by decide, by decide⟩, ⟨by decide, by decide⟩, ⟨by decide, by decide⟩, ⟨by decide, by decide⟩, ⟨by decide, by decide⟩, ⟨by decide, by decide⟩, by decide, by decide, by decide⟩
theorem rT_ok : RowOk rT := ⟨⟨by decide, by decide⟩, ⟨by decide, by decide⟩, ⟨⟨by decide, by decide⟩, ⟨by decide, by decide⟩, addT_ok⟩⟩
theorem rowsT1 : rowsT tT 1 5 = [rT] := by kernel_rfl
theorem tT_ok : TabOk tT := by
  refine ⟨⟨by kernel_rfl, by kernel_rfl, rfl⟩, fun r hr => ?_, ⟨by decide, by decide⟩, by decide⟩
  have hr : r ∈ [rT] := hr
  rw [List.mem_singleton] at hr
  subst hr
  exact rT_ok
theorem tT_rows : ∀ r ∈ tT.rows, BatOk r.b ∧ mayB r.b = true := by
  intro r hr
  have hr : r ∈ [rT] := hr
  rw [List.mem_singleton] at hr
  subst hr
  exact ⟨rT_ok.b, may1⟩
theorem tT_len : (dataT tT).length ≤ 200000 := of_decide_eq_true (by kernel_rfl)
set_option maxHeartbeats 32000000 in
theorem law19_begun (w : World) (hT : Tabs w) :
    Calls Tryz.prog 19 ⟨[]⟩ w fun e w' => e = .returned (.bool true) ∧ Below w.heap.size w w' := by
  have hw := Has.startF w
  refine enter Tryz.func19 Tryz.ntmps19 rfl rfl fun a hs => ?_
  repeat (first | (refine sxv hs hw ?_; clear hs; intro a hs) | refine sxc hs ?_ | (refine sxa hs hw ?_; clear hs hw; intro a b W hw hs) | (refine sxs hs hw ?_; clear hs hw; intro W hs hw))
  refine st_call hs (hc := table_New w _ (fr w) _ hw) (k := ?_); rintro e0 W1 ⟨p, rfl, hw1⟩; refine ⟨_, rfl, ?_⟩; clear hs hw; intro a hs; have hw := hw1; clear hw1
  repeat (first | (refine sxv hs hw ?_; clear hs; intro a hs) | refine sxc hs ?_ | (refine sxa hs hw ?_; clear hs hw; intro a b W hw hs) | (refine sxs hs hw ?_; clear hs hw; intro W hs hw) | ((with_reducible first | refine st_ptrSome hs (k := ?_) | refine st_ptrNone hs (k := ?_)); clear hs; intro a hs))
  obtain ⟨b2, q2⟩ := nm1 hw; subst q2
  obtain ⟨bo, qo⟩ := nm2 hw; subst qo
  have hw : Has 0 w _ (Cells bo (opCells addT) 95 :: Fz (fr w) :: Cells b2 (batCells bT (.slice (some ⟨bo, 0, none⟩) 1 1)) 36 :: TabAt (fr w) p emptyT :: []) := hw.perm (by repeat (first | exact List.Perm.refl _ | refine perm_pick (by repeat (first | exact Pick.hd | apply Pick.tl)) ?_))
  obtain ⟨H1, hle1, hw, hop⟩ := hw.freeze_lit (m := 1) (sz := 9) rfl (by decide)
  have hop : OpsH H1 (.slice (some ⟨bo, 0, none⟩) 1 1) [addT] := hop
  have hw : Has 0 w _ (TabAt (fr w) p emptyT :: Fz H1 :: Cells b2 (batCells bT (.slice (some ⟨bo, 0, none⟩) 1 1)) 36 :: []) := hw.sel (by repeat (first | exact Sel.nil | exact Sel.refl _ | refine Sel.cons (by repeat (first | exact Pick.hd | apply Pick.tl)) ?_ | refine Sel.skip ?_))
  have hw := tabLe hw hle1
  refine st_call hs (hc := table_Apply w _ H1 p emptyT e1T _ (by decide) (by decide) hle1 hT hw) (k := ?_); rintro e0 W1 ⟨v1, H2, rfl, hle2, hv1, hw1⟩; refine ⟨_, rfl, ?_⟩; clear hs hw; intro a hs; have hw := hw1; clear hw1
  rw [app1] at hs hw hv1
  replace hop := hop.le hle2
  obtain ⟨ad1, cap1, rfl⟩ := hv1.slice
  replace hle2 := hle1.trans hle2
  clear hle1 hv1
  repeat (first | (refine sxv hs hw ?_; clear hs; intro a hs) | refine sxc hs ?_ | (refine sxa hs hw ?_; clear hs hw; intro a b W hw hs) | (refine sxs hs hw ?_; clear hs hw; intro W hs hw))
  refine st_call hs (hc := ref_EncodeBatch 1 1 [addT] _ _ ⟨by decide, by decide⟩ ⟨by decide, by decide⟩ addT_ok (hw.rdH (by repeat (first | exact In.hd | apply In.tl)) hop)) (k := ?_); rintro e0 W1 ⟨ead, ecap, rfl, hw1⟩; refine ⟨_, rfl, ?_⟩; clear hs; intro a hs; replace hw := hw.call hw1; clear hw1
  rw [if_pos may1] at hs hw
  refine st_string_b hs (r := hw.rd_own In.hd) (k := ?_); clear hs; intro a hs
  have hw := hw.sub (List.Sublist.cons _ (List.Sublist.refl _))
  have hw : Has 0 w _ (TabAt H2 p ⟨1, emptyF, []⟩ :: Fz H2 :: []) := hw.sel (by repeat (first | exact Sel.nil | exact Sel.refl _ | refine Sel.cons (by repeat (first | exact Pick.hd | apply Pick.tl)) ?_ | refine Sel.skip ?_))
  repeat (first | (refine sxv hs hw ?_; clear hs; intro a hs) | refine sxc hs ?_ | (refine sxa hs hw ?_; clear hs hw; intro a b W hw hs) | (refine sxs hs hw ?_; clear hs hw; intro W hs hw))
  refine st_call hs (hc := table_Apply w _ H2 p ⟨1, emptyF, []⟩ e2T _ (by decide) (by decide) hle2 hT hw) (k := ?_); rintro e0 W1 ⟨v2, H3, rfl, hle3, hv2, hw1⟩; refine ⟨_, rfl, ?_⟩; clear hs hw; intro a hs; have hw := hw1; clear hw1
  rw [app2] at hs hw hv2
  obtain ⟨ad2, cap2, rfl⟩ := hv2.slice
  replace hle3 := hle2.trans hle3
  clear hle2 hv2 hop
  repeat (first | (refine sxv hs hw ?_; clear hs; intro a hs) | refine sxc hs ?_ | (refine sxa hs hw ?_; clear hs hw; intro a b W hw hs) | (refine sxs hs hw ?_; clear hs hw; intro W hs hw))
  obtain ⟨b5, q5⟩ := nm1 hw; subst q5
  have hw : Has 0 w _ (TabAt H3 p tT :: Fz H3 :: Cells b5 (rowCells rT (.slice ad2 1 cap2)) 39 :: []) := hw.sel (by repeat (first | exact Sel.nil | exact Sel.refl _ | refine Sel.cons (by repeat (first | exact Pick.hd | apply Pick.tl)) ?_ | refine Sel.skip ?_))
  refine st_call hs (hc := table_Data w _ H3 p tT _ (by decide) ⟨by decide, by decide⟩ tT_rows hle3 hT hw) (k := ?_); rintro e0 W1 ⟨rfl, hw1⟩; refine ⟨_, rfl, ?_⟩; clear hs hw; intro a hs; have hw := hw1; clear hw1
  have hw : Has 0 w _ (Fz H3 :: TabAt H3 p tT :: Cells b5 (rowCells rT (.slice ad2 1 cap2)) 39 :: []) := hw.sel (by repeat (first | exact Sel.nil | exact Sel.refl _ | refine Sel.cons (by repeat (first | exact Pick.hd | apply Pick.tl)) ?_ | refine Sel.skip ?_))
  refine st_call hs (hc := table_Load w _ H3 ⟨(dataT tT).toArray⟩ _ tT_len hle3 hT hw) (k := ?_); rintro e0 W1 ⟨H4, hle4, hld⟩
  have h34 : H3.le H4 := hle4
  have hlT := load_data tT_ok
  rcases hld with ⟨h, _, _⟩ | ⟨u, q, hu, rfl, hw1⟩
  · have h : loadT (dataT tT) = none := h
    rw [hlT] at h; cases h
  have hu : loadT (dataT tT) = some u := hu
  rw [hlT] at hu
  obtain rfl : tT = u := Option.some.inj hu
  clear hu hlT
  refine ⟨_, rfl, ?_⟩; clear hs hw; intro a hs; have hw := hw1; clear hw1
  replace hle4 := hle3.trans hle4
  repeat (first | (refine sxv hs hw ?_; clear hs; intro a hs) | refine sxc hs ?_ | (refine sxa hs hw ?_; clear hs hw; intro a b W hw hs) | (refine sxs hs hw ?_; clear hs hw; intro W hs hw))
  have hw : Has 0 w _ (Fz H4 :: TabAt H4 q tT :: TabAt H3 p tT :: Cells b5 (rowCells rT (.slice ad2 1 cap2)) 39 :: []) := hw.sel (by repeat (first | exact Sel.nil | exact Sel.refl _ | refine Sel.cons (by repeat (first | exact Pick.hd | apply Pick.tl)) ?_ | refine Sel.skip ?_))
  refine st_call hs (hc := table_Load w _ H4 ⟨#[120]⟩ _ (by decide) hle4 hT hw) (k := ?_); rintro e0 W1 ⟨H5, hle5, hld⟩
  have h45 : H4.le H5 := hle5
  obtain ⟨-, rfl, hw1⟩ := hld.resolve_right (by
    rintro ⟨u, q2, hu, _, _⟩
    have hu : loadT [120] = some u := hu
    rw [loadx] at hu; cases hu)
  refine ⟨_, rfl, ?_⟩; clear hs hw; intro a hs; have hw := hw1; clear hw1
  replace hle5 := hle4.trans hle5
  repeat (first | (refine sxv hs hw ?_; clear hs; intro a hs) | refine sxc hs ?_ | (refine sxa hs hw ?_; clear hs hw; intro a b W hw hs) | (refine sxs hs hw ?_; clear hs hw; intro W hs hw))
  have hw : Has 0 w _ (TabAt H3 p tT :: Fz H5 :: TabAt H4 q tT :: Cells b5 (rowCells rT (.slice ad2 1 cap2)) 39 :: []) := hw.sel (by repeat (first | exact Sel.nil | exact Sel.refl _ | refine Sel.cons (by repeat (first | exact Pick.hd | apply Pick.tl)) ?_ | refine Sel.skip ?_))
  refine st_call hs (hc := table_Index w _ H3 p tT _ hw) (k := ?_); rintro e0 W1 ⟨rfl, hw1⟩; refine ⟨_, rfl, ?_⟩; clear hs hw; intro a hs; have hw := hw1; clear hw1
  repeat (first | (refine sxv hs hw ?_; clear hs; intro a hs) | refine sxc hs ?_ | (refine sxa hs hw ?_; clear hs hw; intro a b W hw hs) | (refine sxs hs hw ?_; clear hs hw; intro W hs hw))
  have hw := tabLe hw (h34.trans h45)
  refine st_call hs (hc := table_Rows w _ H5 p tT 1 5 _ (by decide) (by intro r hr; have hr : r ∈ [rT] := hr; rw [List.mem_singleton] at hr; subst hr; decide) hw) (k := ?_); rintro e0 W1 ⟨rv, H6, rfl, hle6, hrv, hw1⟩; refine ⟨_, rfl, ?_⟩; clear hs hw; intro a hs; have hw := hw1; clear hw1
  rw [rowsT1] at hrv
  obtain ⟨rad, rcap, rfl⟩ : ∃ ad cap, rv = .slice ad 1 cap := by obtain ⟨xs, h, _⟩ := hrv; exact h.slice
  repeat (first | (refine sxv hs hw ?_; clear hs; intro a hs) | refine sxc hs ?_ | (refine sxa hs hw ?_; clear hs hw; intro a b W hw hs) | (refine sxs hs hw ?_; clear hs hw; intro W hs hw))
  have hw : Has 0 w _ (TabAt H4 q tT :: Fz H6 :: []) := hw.sel (by repeat (first | exact Sel.nil | exact Sel.refl _ | refine Sel.cons (by repeat (first | exact Pick.hd | apply Pick.tl)) ?_ | refine Sel.skip ?_))
  refine st_call hs (hc := table_Index w _ H4 q tT _ hw) (k := ?_); rintro e0 W1 ⟨rfl, hw1⟩; refine ⟨_, rfl, ?_⟩; clear hs hw; intro a hs; have hw := hw1; clear hw1
  repeat (first | (refine sxv hs hw ?_; clear hs; intro a hs) | refine sxc hs ?_ | (refine sxa hs hw ?_; clear hs hw; intro a b W hw hs) | (refine sxs hs hw ?_; clear hs hw; intro W hs hw))
  have hw := tabLe hw (h45.trans hle6)
  refine st_call hs (hc := table_Rows w _ H6 q tT 1 5 _ (by decide) (by intro r hr; have hr : r ∈ [rT] := hr; rw [List.mem_singleton] at hr; subst hr; decide) hw) (k := ?_); rintro e0 W1 ⟨rv2, H7, rfl, hle7, hrv2, hw1⟩; refine ⟨_, rfl, ?_⟩; clear hs hw; intro a hs; have hw := hw1; clear hw1
  rw [rowsT1] at hrv2
  obtain ⟨rad2, rcap2, rfl⟩ : ∃ ad cap, rv2 = .slice ad 1 cap := by obtain ⟨xs, h, _⟩ := hrv2; exact h.slice
  repeat (first | (refine sxv hs hw ?_; clear hs; intro a hs) | refine sxc hs ?_ | (refine sxa hs hw ?_; clear hs hw; intro a b W hw hs) | (refine sxs hs hw ?_; clear hs hw; intro W hs hw))
  exact rt1 hs rfl rfl ⟨rfl, hw.endF (In.tl In.hd) ((hle5.trans hle6).trans hle7)⟩
end Go.Proofs.YtmalklakaalaoaaGreatDoor.Sw

set_option linter.unusedVariables false
set_option maxRecDepth 10000
namespace Go.Proofs.YtmalklakaalaoaaGreatDoor.Sw
open Go.RowKit Go.Sx
-- pieces
theorem next_rowok {f : FoldD} {b : BatchD} (h : (next f b).2.2 = true) (hb : BatOk b) : RowOk (next f b).2.1 := by
  rw [(next_ok h).2]
  have := applyL_err f.d b.l
  exact ⟨wrap_i64 _, ⟨by show _ ≤ (applyL f.d b.l).1; omega, by show (applyL f.d b.l).1 ≤ _; omega⟩, hb⟩
theorem applyT_ok {t : TabD} {e : EntD} (h : TabOk t) (hl : t.rows.length + 1 ≤ 100000) (hi : t.ix + 1 ≤ 1099511627776) (hd : e.data.size ≤ 1000000) : TabOk (applyT t e).1 ∧ (applyT t e).1.rows.length ≤ t.rows.length + 1 ∧ ((applyT t e).1.ix = t.ix ∨ (applyT t e).1.ix = t.ix + 1) ∧ (e.ix = t.ix + 1 → (applyT t e).1.ix = t.ix + 1) := by
  have h0 : 0 ≤ t.ix := by have := h.ix.1; omega
  have hwrap : IntKind.i64.wrap (t.ix + 1) = t.ix + 1 := IntWalk.i64_in _ (by omega)
  have hz : TabOk ⟨t.ix + 1, t.f, t.rows⟩ := ⟨h.play, h.ok, ⟨by have := h.ix.1; show (t.rows.length : Int) ≤ t.ix + 1; omega, hi⟩, h.len⟩
  unfold applyT
  rw [hwrap]
  by_cases hx : e.ix = t.ix + 1
  · rw [if_pos hx]
    have hdl : e.data.data.toList.length ≤ 1000000 := by rw [Array.length_toList]; exact hd
    split
    · rename_i p hk hdec
      obtain ⟨c, q, l⟩ := p
      have hdk := decode_ok hdl hdec
      have hbo : BatOk ⟨c, q, l⟩ := ⟨hdk.1, hdk.2.1, hdk.2.2.2⟩
      show TabOk (playT (t.ix + 1) t ⟨c, q, l⟩).1 ∧ _
      unfold playT
      cases hn : (next t.f ⟨c, q, l⟩).2.2 with
      | false => exact ⟨hz, by show t.rows.length ≤ _; omega, .inr rfl, fun _ => rfl⟩
      | true =>
        have hrb := next_row hn
        refine ⟨⟨h.play.app ⟨by rw [hrb]; exact hn, by rw [hrb], by rw [hrb]; rfl⟩, fun r hr => ?_, ⟨?_, hi⟩, ?_⟩, ?_, .inr rfl, fun _ => rfl⟩
        · rcases List.mem_append.1 hr with hr | hr
          · exact h.ok r hr
          · obtain rfl := List.mem_singleton.1 hr
            exact next_rowok hn hbo
        · have := h.ix.1
          show ((t.rows ++ [(next t.f ⟨c, q, l⟩).2.1]).length : Int) ≤ t.ix + 1
          rw [List.length_append, List.length_singleton]; omega
        · show (t.rows ++ [(next t.f ⟨c, q, l⟩).2.1]).length ≤ 100000
          rw [List.length_append, List.length_singleton]; omega
        · show (t.rows ++ [(next t.f ⟨c, q, l⟩).2.1]).length ≤ t.rows.length + 1
          rw [List.length_append, List.length_singleton]; omega
    · exact ⟨hz, by show t.rows.length ≤ _; omega, .inr rfl, fun _ => rfl⟩
  · rw [if_neg hx]
    exact ⟨h, by show t.rows.length ≤ _; omega, .inl rfl, fun h => absurd h hx⟩
theorem TabOk.rows {t : TabD} (h : TabOk t) : ∀ r ∈ t.rows, BatOk r.b ∧ mayB r.b = true := fun r hr => ⟨(h.ok r hr).b, play_mem h.play r hr⟩
theorem TabOk.nil : TabOk emptyT := ⟨rfl, by simp [emptyT], ⟨by decide, by decide⟩, by decide⟩
theorem TabOk.i64 {t : TabD} (h : TabOk t) : i64 t.ix := ⟨by have := h.ix.1; omega, by have := h.ix.2; omega⟩
theorem dataT_len {t : TabD} (hb : ∀ r ∈ t.rows, BatOk r.b ∧ mayB r.b = true) : (dataT t).length ≤ 20 + t.rows.length * 1300 := by
  have h1 := Ph.putI_length_le t.ix
  have h2 := Ph.putI_length_le (t.rows.length : Int)
  have h3 := flat_len (l := t.rows) fun r hr => rowB_len (hb r hr).2
  unfold dataT
  simp only [List.length_append]
  omega
end Go.Proofs.YtmalklakaalaoaaGreatDoor.Sw

set_option linter.unusedVariables false
set_option maxRecDepth 10000
namespace Go.Proofs.YtmalklakaalaoaaGreatDoor.Sw
open Go.RowKit Go.Sx
theorem pairs_len : ∀ {m : Dm}, (∀ p ∈ m, PairOk p) → (m.flatMap pairB).length ≤ m.length * 1000300
  | [], _ => by simp
  | p :: m, h => by
    have h1 := pairB_len (h p (by simp))
    have h2 := (h p (by simp)).key
    have h3 := pairs_len (m := m) fun q hq => h q (by simp [hq])
    rw [List.flatMap_cons, List.length_append, List.length_cons]
    omega
def docA (d : Dm) (i : Nat) : List UInt8 := Ph.putI (d.length : Int) ++ (d.take i).flatMap pairB
theorem docA_len {d : Dm} (h : DocOk d) (i : Nat) : (docA d i).length ≤ 60000000 := by
  have h1 := pairs_len (m := d.take i) fun q hq => h.all q (List.mem_of_mem_take hq)
  have h2 := Ph.putI_length_le (d.length : Int)
  have h3 := h.len
  have h4 : (d.take i).length ≤ 50 := by rw [List.length_take]; omega
  unfold docA
  rw [List.length_append]
  omega
theorem docA_all (d : Dm) : docA d d.length = docB d := by unfold docA docB; rw [List.take_length]
theorem docA_next {d : Dm} {i : Nat} {o : ByteArray × DV} (h : d[i]? = some o) : docA d (i + 1) = docA d i ++ Ph.putT o.1.data.toList ++ putR (kindOf (some o.2)) (intIn (some o.2)) (textIn (some o.2)) := by
  unfold docA
  rw [List.take_add_one, h, List.flatMap_append]
  simp [pairB, rawB]
theorem kind_i64 (v : DV) : -9223372036854775808 ≤ kindOf (some v) ∧ kindOf (some v) ≤ 9223372036854775807 := by
  rcases v with n | s
  · exact ⟨(by decide : (-9223372036854775808 : Int) ≤ 1), (by decide : (1 : Int) ≤ 9223372036854775807)⟩
  · exact ⟨(by decide : (-9223372036854775808 : Int) ≤ 2), (by decide : (2 : Int) ≤ 9223372036854775807)⟩
set_option maxHeartbeats 16000000 in
theorem doc_Encode (w0 W : World) (p : Nat) (d : Dm) (R : List Res) (hd : DocFine d) (hw : Has 0 w0 W (DocAt p d :: R)) :
    Calls Tryz.prog 68 ⟨[.pointer (some ⟨p, 0, none⟩)]⟩ W fun e W' => ∃ ad cap, e = .returned (.slice ad (docB d).length cap) ∧ Has 0 w0 W' (Sx.OwnB 5 (.slice ad (docB d).length cap) (docB d) :: DocAt p d :: R) := by
  have hl := hd.ok.len
  obtain ⟨m, d', hp, hk, hw⟩ := docOpen hw
  have hlen : d'.length = d.length := hp.length_eq
  have hlen' : (kvOf d').length = d'.length := by simp [kvOf]
  refine enter Tryz.func68 Tryz.ntmps68 rfl rfl fun a hs => ?_
  repeat (first | (refine sxv hs hw ?_; clear hs; intro a hs) | refine sxc hs ?_ | (refine sxa hs hw ?_; clear hs hw; intro a b W hw hs) | (refine sxs hs hw ?_; clear hs hw; intro W hs hw) | ((with_reducible first | refine st_ptrSome hs (k := ?_) | refine st_ptrNone hs (k := ?_)); clear hs; intro a hs))
  refine st_len_map hs (hw := hw) (c := ?_); clear hs; intro a hs
  rw [hlen', hlen] at hs
  repeat (first | (refine sxv hs hw ?_; clear hs; intro a hs) | refine sxc hs ?_ | (refine sxa hs hw ?_; clear hs hw; intro a b W hw hs) | (refine sxs hs hw ?_; clear hs hw; intro W hs hw) | ((with_reducible first | refine st_ptrSome hs (k := ?_) | refine st_ptrNone hs (k := ?_)); clear hs; intro a hs))
  have hw := hw.nilB 5
  refine st_call hs (hc := num_Put w0 _ (.slice none 0 0) [] (d.length : Int) _ (by omega) (by omega) (by simp) hw) (k := ?_); rintro e0 W1 ⟨ad, cap, rfl, hw1⟩; refine ⟨_, rfl, ?_⟩; clear hs hw; intro a hs; have hw := hw1; clear hw1
  rw [List.nil_append] at hs hw
  repeat (first | (refine sxv hs hw ?_; clear hs; intro a hs) | refine sxc hs ?_ | (refine sxa hs hw ?_; clear hs hw; intro a b W hw hs) | (refine sxs hs hw ?_; clear hs hw; intro W hs hw) | ((with_reducible first | refine st_ptrSome hs (k := ?_) | refine st_ptrNone hs (k := ?_)); clear hs; intro a hs))
  have hw : Has 0 w0 _ (Cells p [.map (some m)] 141 :: MapOf m (kvOf d') :: Sx.OwnB 5 (.slice ad (Ph.putI (d.length : Int)).length cap) (Ph.putI (d.length : Int)) :: R) := hw.perm (by repeat (first | exact List.Perm.refl _ | refine perm_pick (by repeat (first | exact Pick.hd | apply Pick.tl)) ?_))
  have hw := docShut hw hp hk
  clear hp hk hlen hlen'
  refine st_call hs (hc := doc_Keys w0 _ p d _ hd hw) (k := ?_); rintro e0 W1 ⟨kv, rfl, hw1⟩; refine ⟨_, rfl, ?_⟩; clear hs hw; intro a hs; have hw := hw1; clear hw1
  obtain ⟨kad, kcap, rfl⟩ : ∃ kad kcap, kv = .slice kad d.length kcap := by
    obtain ⟨_, ad, cap, e, _⟩ := hw.rd_own In.hd
    exact ⟨ad, cap, e⟩
  obtain ⟨m, d', hp, hk, hw⟩ := docOpen (hw.perm (List.Perm.swap _ _ _))
  repeat (first | (refine sxv hs hw ?_; clear hs; intro a hs) | refine sxc hs ?_ | (refine sxa hs hw ?_; clear hs hw; intro a b W hw hs) | (refine sxs hs hw ?_; clear hs hw; intro W hs hw) | ((with_reducible first | refine st_ptrSome hs (k := ?_) | refine st_ptrNone hs (k := ?_)); clear hs; intro a hs))
  refine st_loop (σ := Nat × Option Addr × Nat) (fun s => [(0, .pointer (some ⟨p, 0, none⟩)), (15, .slice kad d.length kcap), (16, .int .i64 (d.length : Int)), (17, .int .i64 (s.1 : Int)), (3, .slice s.2.1 (docA d s.1).length s.2.2)]) (fun s => Sx.OwnB 5 (.slice s.2.1 (docA d s.1).length s.2.2) (docA d s.1) :: Own 9 1 (.slice kad d.length kcap) d.length (d.map fun x => Value.string x.1) :: Cells p [.map (some m)] 141 :: MapOf m (kvOf d') :: R) (fun s => s.1 ≤ d.length) (fun s => d.length - s.1) (0, ad, cap) (Nat.zero_le _) hs ⟨rfl, rfl, rfl, rfl, by simp only [docA, List.take_zero, List.flatMap_nil, List.append_nil]; rfl, trivial⟩ (by
    have e0 : docA d 0 = Ph.putI (d.length : Int) := by simp [docA]
    simp only [e0]
    exact hw.perm (by repeat (first | exact List.Perm.refl _ | refine perm_pick (by repeat (first | exact Pick.hd | apply Pick.tl)) ?_))) ?_
  clear hs hw
  rintro ⟨i, oad, ocap⟩ a W hi hs hw
  simp only at hi hs hw
  repeat (first | (refine sxv hs hw ?_; clear hs; intro a hs) | refine sxc hs ?_ | (refine sxa hs hw ?_; clear hs hw; intro a b W hw hs) | (refine sxs hs hw ?_; clear hs hw; intro W hs hw) | ((with_reducible first | refine st_ptrSome hs (k := ?_) | refine st_ptrNone hs (k := ?_)); clear hs; intro a hs))
  refine cd_split hs (kt := fun hcc => ?_) (kf := fun hcc => ?_)
  · have hi' : i < d.length := by simpa using hcc
    obtain ⟨o, hoi⟩ : ∃ o, d[i]? = some o := ⟨d[i], List.getElem?_eq_getElem hi'⟩
    have hgk := getK_at hd.ok.keys hoi
    have hpo := hd.ok.all o (List.mem_of_getElem? hoi)
    have hrr := raw_range (k := o.1) (v := o.2) hpo
    have hkk := hpo.key
    have hki := kind_i64 o.2
    have hal := docA_len hd.ok i
    have hal2 := docA_len hd.ok (i + 1)
    have hnx := docA_next hoi
    rw [hnx] at hal2
    simp only [List.length_append] at hal2
    repeat (first | (refine sxv hs hw ?_; clear hs; intro a hs) | refine sxc hs ?_ | (refine sxa hs hw ?_; clear hs hw; intro a b W hw hs) | (refine sxs hs hw ?_; clear hs hw; intro W hs hw) | ((with_reducible first | refine st_ptrSome hs (k := ?_) | refine st_ptrNone hs (k := ?_)); clear hs; intro a hs))
    refine st_index_ch hs (r := hw.rd_own (In.tl In.hd)) (hk := fun _ _ h => by rw [h]; rfl) (ch := chMap (fun x : ByteArray × DV => Value.string x.1) d) (ho := hoi) (hlen := rfl) (c := ?_); clear hs; intro a g off c hc hcl hpc hlt hs
    subst hc
    repeat (first | (refine sxv hs hw ?_; clear hs; intro a hs) | refine sxc hs ?_ | (refine sxa hs hw ?_; clear hs hw; intro a b W hw hs) | (refine sxs hs hw ?_; clear hs hw; intro W hs hw) | ((with_reducible first | refine st_ptrSome hs (k := ?_) | refine st_ptrNone hs (k := ?_)); clear hs; intro a hs))
    refine st_load_at hs (hc := hpc 0 _ rfl) (c := ?_); clear hs hpc; intro a hs
    repeat (first | (refine sxv hs hw ?_; clear hs; intro a hs) | refine sxc hs ?_ | (refine sxa hs hw ?_; clear hs hw; intro a b W hw hs) | (refine sxs hs hw ?_; clear hs hw; intro W hs hw) | ((with_reducible first | refine st_ptrSome hs (k := ?_) | refine st_ptrNone hs (k := ?_)); clear hs; intro a hs))
    refine rg_drawU (σ := Option Addr × Nat) (V := fun u => [.slice oad (docA d i).length ocap, .string o.1, .slice (u 2).1 (docA d i ++ Ph.putT o.1.data.toList).length (u 2).2, .pointer (some ⟨p, 0, none⟩), .pointer (some ⟨p, 0, none⟩), .pointer (some ⟨p, 0 + 0, none⟩), .map (some m), .string o.1, .agg ⟨[vCell (some o.2)]⟩, .agg ⟨rawCells (some o.2)⟩, .slice (u 10).1 (docA d i ++ Ph.putT o.1.data.toList ++ putR (kindOf (some o.2)) (intIn (some o.2)) (textIn (some o.2))).length (u 10).2, .slice (u 11).1 (docA d i ++ Ph.putT o.1.data.toList ++ putR (kindOf (some o.2)) (intIn (some o.2)) (textIn (some o.2))).length (u 11).2])
      (Rs := fun u D => (if D 11 then Sx.OwnB 5 (.slice (u 11).1 (docA d i ++ Ph.putT o.1.data.toList ++ putR (kindOf (some o.2)) (intIn (some o.2)) (textIn (some o.2))).length (u 11).2) (docA d i ++ Ph.putT o.1.data.toList ++ putR (kindOf (some o.2)) (intIn (some o.2)) (textIn (some o.2))) else if D 10 then Sx.OwnB 5 (.slice (u 10).1 (docA d i ++ Ph.putT o.1.data.toList ++ putR (kindOf (some o.2)) (intIn (some o.2)) (textIn (some o.2))).length (u 10).2) (docA d i ++ Ph.putT o.1.data.toList ++ putR (kindOf (some o.2)) (intIn (some o.2)) (textIn (some o.2))) else if D 2 then Sx.OwnB 5 (.slice (u 2).1 (docA d i ++ Ph.putT o.1.data.toList).length (u 2).2) (docA d i ++ Ph.putT o.1.data.toList) else Sx.OwnB 5 (.slice oad (docA d i).length ocap) (docA d i)) :: Own 9 1 (.slice kad d.length kcap) d.length (d.map fun x => Value.string x.1) :: Cells p [.map (some m)] 141 :: MapOf m (kvOf d') :: R) (fun _ => (none, 0)) hs hw (hVu := ?vu_c) (ho := ⟨?_, ?_, ?c2_c, ?_, ?_, ?_, ?_, ?_, ?c8_c, ?c9_c, ?c10_c, ?c11_c, trivial⟩) (k := ?k_c)
    case vu_c =>
      intro u u' j h
      rcases j with _ | _ | _ | _ | _ | _ | _ | _ | _ | _ | _ | _ | j
      all_goals first | rfl | simp [h]
    case c2_c =>
      intro u LD D a W hcl hi hp hs hw
      have hA := Go.Sx.not_done hcl hi 10 (by kernel_rfl)
      have hB := Go.Sx.not_done hcl hA 11 (by kernel_rfl)
      simp only [hi, hA, hB, Bool.false_eq_true, if_false] at hw
      refine st_call hs (hc := num_PutText w0 _ _ (docA d i) o.1 _ (by omega) (by omega) hw) (k := ?_); rintro e0 W1 ⟨ad, cap, rfl, hw1⟩; refine ⟨_, rfl, ?_⟩; clear hs hw; intro a hs; have hw := hw1; clear hw1
      repeat (first | (refine sxv hs hw ?_; clear hs; intro a hs) | refine sxc hs ?_ | (refine sxa hs hw ?_; clear hs hw; intro a b W hw hs) | (refine sxs hs hw ?_; clear hs hw; intro W hs hw) | ((with_reducible first | refine st_ptrSome hs (k := ?_) | refine st_ptrNone hs (k := ?_)); clear hs; intro a hs))
      refine Or.inr ⟨(ad, cap), hs, ?_⟩
      show Has 0 w0 _ ((if (Nat.beq 11 2 || D 11) = true then _ else if (Nat.beq 10 2 || D 10) = true then _ else _) :: _)
      rw [hA, hB]
      exact hw
    case c8_c =>
      intro u LD D a W hcl hi hp hs hw
      refine st_lookup hs (hw := hw) (hz := zeroVal) (c := ?_); clear hs; intro a hs
      rw [dget_kv, getK_perm ‹d'.Perm d› ((dKeys_perm ‹d'.Perm d›).2 hk), hgk] at hs
      repeat (first | (refine sxv hs hw ?_; clear hs; intro a hs) | refine sxc hs ?_ | (refine sxa hs hw ?_; clear hs hw; intro a b W hw hs) | (refine sxs hs hw ?_; clear hs hw; intro W hs hw) | ((with_reducible first | refine st_ptrSome hs (k := ?_) | refine st_ptrNone hs (k := ?_)); clear hs; intro a hs))
      exact Or.inl ⟨hs, hw⟩
    case c9_c =>
      intro u LD D a W hcl hi hp hs hw
      refine st_call hs (hc := Raw_any (some o.2) _) (k := ?_); rintro e0 W1 ⟨rfl, hb⟩; refine ⟨_, rfl, ?_⟩; clear hs; intro a hs; replace hw := hw.below hb; clear hb
      repeat (first | (refine sxv hs hw ?_; clear hs; intro a hs) | refine sxc hs ?_ | (refine sxa hs hw ?_; clear hs hw; intro a b W hw hs) | (refine sxs hs hw ?_; clear hs hw; intro W hs hw) | ((with_reducible first | refine st_ptrSome hs (k := ?_) | refine st_ptrNone hs (k := ?_)); clear hs; intro a hs))
      exact Or.inl ⟨hs, hw⟩
    case c10_c =>
      intro u LD D a W hcl hi hp hs hw
      have hB := Go.Sx.not_done hcl hi 11 (by kernel_rfl)
      have h2 := Go.Sx.done hp 2 (by kernel_rfl)
      simp only [hi, h2, hB, Bool.false_eq_true, if_false, if_true] at hw
      refine st_call hs (hc := value_Put w0 _ _ (docA d i ++ Ph.putT o.1.data.toList) (kindOf (some o.2)) (intIn (some o.2)) (textIn (some o.2)) _ hki.1 hki.2 hrr.1.1 hrr.1.2 (by omega) (by rw [List.length_append]; omega) hw) (k := ?_); rintro e0 W1 ⟨ad, cap, rfl, hw1⟩; refine ⟨_, rfl, ?_⟩; clear hs hw; intro a hs; have hw := hw1; clear hw1
      repeat (first | (refine sxv hs hw ?_; clear hs; intro a hs) | refine sxc hs ?_ | (refine sxa hs hw ?_; clear hs hw; intro a b W hw hs) | (refine sxs hs hw ?_; clear hs hw; intro W hs hw) | ((with_reducible first | refine st_ptrSome hs (k := ?_) | refine st_ptrNone hs (k := ?_)); clear hs; intro a hs))
      refine Or.inr ⟨(ad, cap), hs, ?_⟩
      show Has 0 w0 _ ((if (Nat.beq 11 10 || D 11) = true then _ else _) :: _)
      rw [hB]
      exact hw
    case c11_c =>
      intro u LD D a W hcl hi hp hs hw
      have hA := Go.Sx.done hp 10 (by kernel_rfl)
      simp only [hi, hA, Bool.false_eq_true, if_false, if_true] at hw
      repeat (first | (refine sxv hs hw ?_; clear hs; intro a hs) | refine sxc hs ?_ | (refine sxa hs hw ?_; clear hs hw; intro a b W hw hs) | (refine sxs hs hw ?_; clear hs hw; intro W hs hw) | ((with_reducible first | refine st_ptrSome hs (k := ?_) | refine st_ptrNone hs (k := ?_)); clear hs; intro a hs))
      exact Or.inr ⟨u 10, hs, hw⟩
    case k_c =>
      clear hs hw
      intro u a W hs hw
      rw [← hnx] at hs
      simp only [← hnx] at hw
      replace hw : Has 0 w0 W (Sx.OwnB 5 (.slice (u 11).1 (docA d (i + 1)).length (u 11).2) (docA d (i + 1)) :: Own 9 1 (.slice kad d.length kcap) d.length (d.map fun x => Value.string x.1) :: Cells p [.map (some m)] 141 :: MapOf m (kvOf d') :: R) := hw
      replace hs : Slots a 34 [(0, .pointer (some ⟨p, 0, none⟩)), (15, .slice kad d.length kcap), (16, .int .i64 (d.length : Int)), (17, .int .i64 (i : Int)), (3, .slice (u 11).1 (docA d (i + 1)).length (u 11).2)] := hs.of ⟨rfl, rfl, rfl, rfl, rfl, trivial⟩
      generalize (u 11).1 = ad1 at *
      generalize (u 11).2 = cap1 at *
      clear u
      repeat (first | (refine sxv hs hw ?_; clear hs; intro a hs) | refine sxc hs ?_ | (refine sxa hs hw ?_; clear hs hw; intro a b W hw hs) | (refine sxs hs hw ?_; clear hs hw; intro W hs hw) | ((with_reducible first | refine st_ptrSome hs (k := ?_) | refine st_ptrNone hs (k := ?_)); clear hs; intro a hs))
      exact st_again (i + 1, ad1, cap1) hs hw hi' (by show d.length - (i + 1) < d.length - i; omega) ⟨rfl, rfl, rfl, int_eq (by show IntKind.i64.wrap ((i : Int) + 1) = ((i + 1 : Nat) : Int); rw [IntWalk.i64_in _ (by omega)]; omega), rfl, trivial⟩
    all_goals
      intro u LD D a W hcl hi hp hs hw
      repeat (first | (refine sxv hs hw ?_; clear hs; intro a hs) | refine sxc hs ?_ | (refine sxa hs hw ?_; clear hs hw; intro a b W hw hs) | (refine sxs hs hw ?_; clear hs hw; intro W hs hw) | ((with_reducible first | refine st_ptrSome hs (k := ?_) | refine st_ptrNone hs (k := ?_)); clear hs; intro a hs))
      exact Or.inl ⟨hs, hw⟩
  · have hi' : i = d.length := by have : ¬ i < d.length := by simpa using hcc
                                  omega
    subst hi'
    rw [docA_all] at hs hw
    repeat (first | (refine sxv hs hw ?_; clear hs; intro a hs) | refine sxc hs ?_ | (refine sxa hs hw ?_; clear hs hw; intro a b W hw hs) | (refine sxs hs hw ?_; clear hs hw; intro W hs hw) | ((with_reducible first | refine st_ptrSome hs (k := ?_) | refine st_ptrNone hs (k := ?_)); clear hs; intro a hs))
    refine rt1 hs rfl rfl ⟨_, _, rfl, ?_⟩
    have hw : Has 0 w0 _ (Cells p [.map (some m)] 141 :: MapOf m (kvOf d') :: Sx.OwnB 5 (.slice oad (docB d).length ocap) (docB d) :: Own 9 1 (.slice kad d.length kcap) d.length (d.map fun x => Value.string x.1) :: R) := hw.perm (by repeat (first | exact List.Perm.refl _ | refine perm_pick (by repeat (first | exact Pick.hd | apply Pick.tl)) ?_))
    exact ((docShut hw hp hk).sub (List.Sublist.cons_cons _ (List.Sublist.cons_cons _ (List.Sublist.cons _ (List.Sublist.refl _))))).swap2
end Go.Proofs.YtmalklakaalaoaaGreatDoor.Sw

set_option linter.unusedVariables false
set_option maxRecDepth 10000
namespace Go.Sx
end Go.Sx
namespace Go.Proofs.YtmalklakaalaoaaGreatDoor.Sw
open Go.RowKit Go.Sx
-- pieces
end Go.Proofs.YtmalklakaalaoaaGreatDoor.Sw

set_option linter.unusedVariables false
set_option maxRecDepth 10000
namespace Go.Proofs.YtmalklakaalaoaaGreatDoor.Sw
open Go.RowKit Go.Sx
def accF (f : FoldD) (c : Nat) : List UInt8 := Ph.putI f.place ++ Ph.putT (docB f.d) ++ ((f.told.drop 1).take (c - 1)).flatMap seqB
theorem putT_le2 (l : List UInt8) : (Ph.putT l).length ≤ l.length + 10 := by
  have := Ph.putI_length_le (l.length : Int)
  unfold Ph.putT
  rw [List.length_append]; omega
theorem seqB_len {place : Int} {c : Nat} {x : Int × RowD} (h : x = (0, zeroRow) ∨ (1 ≤ c ∧ ToldFine place c x)) : (seqB x).length ≤ 1300 := by
  have h1 := Ph.putI_length_le x.1
  have h2 := Ph.putI_length_le x.2.place
  have h3 := Ph.putI_length_le x.2.err
  have h4 := putT_le2 (encB x.2.b)
  unfold seqB
  rcases h with rfl | ⟨_, h⟩
  · simp only [List.length_append]
    rw [if_neg (by decide)]
    simp only [List.length_nil]
    have h1 : (Ph.putI 0).length ≤ 10 := h1
    omega
  · have h5 := encB_le h.may
    rw [List.length_append]
    split
    · simp only [List.length_append]; omega
    · simp only [List.length_nil]; omega
theorem accF_len {f : FoldD} (hf : FoldFine f) (c : Nat) : (accF f c).length ≤ 100000 := by
  have h1 := Ph.putI_length_le f.place
  have h2 := putT_le2 (docB f.d)
  have h3 := hf.doc.len
  have h4 : ∀ l : List (Int × RowD), (∀ x ∈ l, (seqB x).length ≤ 1300) → (l.flatMap seqB).length ≤ l.length * 1300 := by
    intro l
    induction l with
    | nil => intro _; simp
    | cons x l ih =>
      intro h
      have a := h x (by simp)
      have b := ih fun y hy => h y (by simp [hy])
      rw [List.flatMap_cons, List.length_append, List.length_cons]; omega
  have h5 := h4 ((f.told.drop 1).take (c - 1)) fun x hx => by
    obtain ⟨i, hi⟩ := List.mem_iff_getElem?.1 (List.mem_of_mem_drop (List.mem_of_mem_take hx))
    exact seqB_len (hf.told i x hi)
  have h6 : ((f.told.drop 1).take (c - 1)).length ≤ 5 := by rw [List.length_take, List.length_drop, hf.six]; omega
  unfold accF
  simp only [List.length_append]
  omega
theorem accF_all {f : FoldD} (hf : FoldFine f) : accF f 6 = foldB f := by
  unfold accF foldB
  rw [List.take_of_length_le (by rw [List.length_drop, hf.six]; decide)]
theorem accF_next {f : FoldD} {c : Nat} (hc : 1 ≤ c) {x : Int × RowD} (hx : f.told[c]? = some x) : accF f (c + 1) = accF f c ++ seqB x := by
  obtain ⟨k, rfl⟩ : ∃ k, c = k + 1 := ⟨c - 1, by omega⟩
  have h : (f.told.drop 1)[k]? = some x := by rw [List.getElem?_drop, Nat.add_comm]; exact hx
  unfold accF
  rw [show k + 1 + 1 - 1 = k + 1 from rfl, show k + 1 - 1 = k from rfl, List.take_add_one, h, List.flatMap_append]
  simp
set_option maxHeartbeats 32000000 in
theorem fold_Encode (w0 W : World) (H : Fh) (p : Nat) (f : FoldD) (R : List Res) (hf : FoldFine f) (hH : (fr w0).le H) (hT : Tabs w0) (hw : Has 0 w0 W (FoldAt H p f :: Fz H :: R)) :
    Calls Tryz.prog 38 ⟨[.pointer (some ⟨p, 0, none⟩)]⟩ W fun e W' => ∃ ad cap, e = .returned (.slice ad (foldB f).length cap) ∧ Has 0 w0 W' (Sx.OwnB 5 (.slice ad (foldB f).length cap) (foldB f) :: FoldAt H p f :: Fz H :: R) := by
  obtain ⟨pd, xs, ht, hw⟩ := foldOpen hw
  have hdl := hf.doc.len
  have hpl := Ph.putI_length_le f.place
  have htl := putT_le2 (docB f.d)
  refine enter Tryz.func38 Tryz.ntmps38 rfl rfl fun a hs => ?_
  repeat (first | (refine sxv hs hw ?_; clear hs; intro a hs) | refine sxc hs ?_ | (refine sxa hs hw ?_; clear hs hw; intro a b W hw hs) | (refine sxs hs hw ?_; clear hs hw; intro W hs hw) | ((with_reducible first | refine st_ptrSome hs (k := ?_) | refine st_ptrNone hs (k := ?_)); clear hs; intro a hs))
  have hw := hw.free.free
  refine rg_drawU (σ := Option Addr × Nat) (V := fun u => [.pointer (some ⟨p, 0, none⟩), .pointer (some ⟨p, 0, none⟩), .pointer (some ⟨p, 0 + 0, none⟩), .int .i64 f.place, (.slice (u 4).1 (Ph.putI f.place).length (u 4).2), .pointer (some ⟨p, 0, none⟩), .pointer (some ⟨p, 0, none⟩), .pointer (some ⟨p, 0 + 1, none⟩), .pointer (some ⟨pd, 0, none⟩), (.slice (u 9).1 (docB f.d).length (u 9).2), .string ⟨(docB f.d).toArray⟩, (.slice (u 11).1 (Ph.putI f.place ++ Ph.putT (docB f.d)).length (u 11).2), (.slice (u 12).1 (Ph.putI f.place ++ Ph.putT (docB f.d)).length (u 12).2)])
    (Rs := fun u D => (if D 12 then Sx.OwnB 5 (.slice (u 12).1 (Ph.putI f.place ++ Ph.putT (docB f.d)).length (u 12).2) (Ph.putI f.place ++ Ph.putT (docB f.d)) else if D 11 then Sx.OwnB 5 (.slice (u 11).1 (Ph.putI f.place ++ Ph.putT (docB f.d)).length (u 11).2) (Ph.putI f.place ++ Ph.putT (docB f.d)) else if D 4 then Sx.OwnB 5 (.slice (u 4).1 (Ph.putI f.place).length (u 4).2) (Ph.putI f.place) else Free) :: (if D 9 then Sx.OwnB 5 (.slice (u 9).1 (docB f.d).length (u 9).2) (docB f.d) else Free) :: Cells p (foldCells f.place pd xs) 126 :: DocAt pd f.d :: Fz H :: R) (fun _ => (none, 0)) hs hw (hVu := ?vu_3) (ho := ⟨?_, ?_, ?_, ?_, ?c4_3, ?_, ?_, ?_, ?_, ?c9_3, ?c10_3, ?c11_3, ?c12_3, trivial⟩) (k := ?k_3)
  case vu_3 =>
    intro u u' j h
    rcases j with _ | _ | _ | _ | _ | _ | _ | _ | _ | _ | _ | _ | _ | j
    all_goals first | rfl | simp [h]
  case c4_3 =>
    intro u LD D a W hcl hi hp hs hw
    have h11 := Go.Sx.not_done hcl hi 11 (by kernel_rfl)
    have h12 := Go.Sx.not_done hcl h11 12 (by kernel_rfl)
    simp only [hi, h11, h12, Bool.false_eq_true, if_false] at hw
    replace hw := hw.nilB 5
    refine st_call hs (hc := num_Put w0 _ _ [] f.place _ (by have := hf.place.1; omega) hf.place.2 (by simp) hw) (k := ?_); rintro e0 W1 ⟨ad, cap, rfl, hw1⟩; refine ⟨_, rfl, ?_⟩; clear hs hw; intro a hs; have hw := hw1; clear hw1
    rw [List.nil_append] at hs hw
    repeat (first | (refine sxv hs hw ?_; clear hs; intro a hs) | refine sxc hs ?_ | (refine sxa hs hw ?_; clear hs hw; intro a b W hw hs) | (refine sxs hs hw ?_; clear hs hw; intro W hs hw) | ((with_reducible first | refine st_ptrSome hs (k := ?_) | refine st_ptrNone hs (k := ?_)); clear hs; intro a hs))
    refine Or.inr ⟨(ad, cap), hs, ?_⟩
    show Has 0 w0 _ ((if (Nat.beq 12 4 || D 12) = true then _ else if (Nat.beq 11 4 || D 11) = true then _ else _) :: _)
    rw [h12, h11]
    exact hw.fill Upd.hd
  case c9_3 =>
    intro u LD D a W hcl hi hp hs hw
    have h11 := Go.Sx.not_done hcl hi 11 (by kernel_rfl)
    have h12 := Go.Sx.not_done hcl h11 12 (by kernel_rfl)
    simp only [hi, h11, h12, Bool.false_eq_true, if_false] at hw
    replace hw : Has 0 w0 W (DocAt pd f.d :: (if D 4 = true then Sx.OwnB 5 (.slice (u 4).1 (Ph.putI f.place).length (u 4).2) (Ph.putI f.place) else Free) :: Free :: Cells p (foldCells f.place pd xs) 126 :: Fz H :: R) := hw.perm (by repeat (first | exact List.Perm.refl _ | refine perm_pick (by repeat (first | exact Pick.hd | apply Pick.tl)) ?_))
    refine st_call hs (hc := doc_Encode w0 _ pd f.d _ hf.doc hw) (k := ?_); rintro e0 W1 ⟨ad, cap, rfl, hw1⟩; refine ⟨_, rfl, ?_⟩; clear hs hw; intro a hs; have hw := hw1; clear hw1
    repeat (first | (refine sxv hs hw ?_; clear hs; intro a hs) | refine sxc hs ?_ | (refine sxa hs hw ?_; clear hs hw; intro a b W hw hs) | (refine sxs hs hw ?_; clear hs hw; intro W hs hw) | ((with_reducible first | refine st_ptrSome hs (k := ?_) | refine st_ptrNone hs (k := ?_)); clear hs; intro a hs))
    refine Or.inr ⟨(ad, cap), hs, ?_⟩
    show Has 0 w0 _ ((if (Nat.beq 12 9 || D 12) = true then _ else if (Nat.beq 11 9 || D 11) = true then _ else _) :: _)
    rw [h12, h11]
    replace hw := hw.fill (Upd.tl (Upd.tl Upd.hd))
    exact hw.perm (by repeat (first | exact List.Perm.refl _ | refine perm_pick (by repeat (first | exact Pick.hd | apply Pick.tl)) ?_))
  case c10_3 =>
    intro u LD D a W hcl hi hp hs hw
    have h9 := Go.Sx.done hp 9 (by kernel_rfl)
    have hw0 := hw
    simp only [h9, if_true] at hw
    refine st_string_b hs (r := hw.rd_own (In.tl In.hd)) (k := ?_); clear hs; intro a hs
    repeat (first | (refine sxv hs hw ?_; clear hs; intro a hs) | refine sxc hs ?_ | (refine sxa hs hw ?_; clear hs hw; intro a b W hw hs) | (refine sxs hs hw ?_; clear hs hw; intro W hs hw) | ((with_reducible first | refine st_ptrSome hs (k := ?_) | refine st_ptrNone hs (k := ?_)); clear hs; intro a hs))
    exact Or.inl ⟨hs, hw0⟩
  case c11_3 =>
    intro u LD D a W hcl hi hp hs hw
    have h4 := Go.Sx.done hp 4 (by kernel_rfl)
    have h12 := Go.Sx.not_done hcl hi 12 (by kernel_rfl)
    simp only [hi, h4, h12, Bool.false_eq_true, if_false, if_true] at hw
    refine st_call hs (hc := num_PutText w0 _ _ (Ph.putI f.place) ⟨(docB f.d).toArray⟩ _ (by show (docB f.d).toArray.size ≤ _; simp; omega) (by omega) hw) (k := ?_); rintro e0 W1 ⟨ad, cap, rfl, hw1⟩; refine ⟨_, rfl, ?_⟩; clear hs hw; intro a hs; have hw := hw1; clear hw1
    repeat (first | (refine sxv hs hw ?_; clear hs; intro a hs) | refine sxc hs ?_ | (refine sxa hs hw ?_; clear hs hw; intro a b W hw hs) | (refine sxs hs hw ?_; clear hs hw; intro W hs hw) | ((with_reducible first | refine st_ptrSome hs (k := ?_) | refine st_ptrNone hs (k := ?_)); clear hs; intro a hs))
    refine Or.inr ⟨(ad, cap), hs, ?_⟩
    show Has 0 w0 _ ((if (Nat.beq 12 11 || D 12) = true then _ else _) :: _)
    rw [h12]
    exact hw
  case c12_3 =>
    intro u LD D a W hcl hi hp hs hw
    have h11 := Go.Sx.done hp 11 (by kernel_rfl)
    simp only [hi, h11, Bool.false_eq_true, if_false, if_true] at hw
    repeat (first | (refine sxv hs hw ?_; clear hs; intro a hs) | refine sxc hs ?_ | (refine sxa hs hw ?_; clear hs hw; intro a b W hw hs) | (refine sxs hs hw ?_; clear hs hw; intro W hs hw) | ((with_reducible first | refine st_ptrSome hs (k := ?_) | refine st_ptrNone hs (k := ?_)); clear hs; intro a hs))
    exact Or.inr ⟨u 11, hs, hw⟩
  case k_3 =>
    clear hs hw
    intro u a W hs hw
    replace hw : Has 0 w0 W (Sx.OwnB 5 (.slice (u 12).1 (Ph.putI f.place ++ Ph.putT (docB f.d)).length (u 12).2) (Ph.putI f.place ++ Ph.putT (docB f.d)) :: Sx.OwnB 5 (.slice (u 9).1 (docB f.d).length (u 9).2) (docB f.d) :: Cells p (foldCells f.place pd xs) 126 :: DocAt pd f.d :: Fz H :: R) := hw
    replace hw := hw.drop2
    replace hs : Slots a 54 [(0, .pointer (some ⟨p, 0, none⟩)), (3, (.slice (u 12).1 (Ph.putI f.place ++ Ph.putT (docB f.d)).length (u 12).2))] := hs.of ⟨rfl, rfl, trivial⟩
    generalize (u 12).1 = ad0 at *
    generalize (u 12).2 = cap0 at *
    clear u
    repeat (first | (refine sxv hs hw ?_; clear hs; intro a hs) | refine sxc hs ?_ | (refine sxa hs hw ?_; clear hs hw; intro a b W hw hs) | (refine sxs hs hw ?_; clear hs hw; intro W hs hw) | ((with_reducible first | refine st_ptrSome hs (k := ?_) | refine st_ptrNone hs (k := ?_)); clear hs; intro a hs))
    refine st_loop (σ := Value × Nat) (fun s => [(0, .pointer (some ⟨p, 0, none⟩)), (3, s.1), (4, .int .i64 (s.2 : Int))]) (fun s => Sx.OwnB 5 s.1 (accF f s.2) :: Cells p (foldCells f.place pd xs) 126 :: DocAt pd f.d :: Fz H :: R) (fun s => 1 ≤ s.2 ∧ s.2 ≤ 6) (fun s => 6 - s.2) (.slice ad0 (Ph.putI f.place ++ Ph.putT (docB f.d)).length cap0, 1) ⟨by show 1 ≤ 1; decide, by show 1 ≤ 6; decide⟩ hs ⟨rfl, rfl, rfl, trivial⟩ (by rw [show accF f 1 = Ph.putI f.place ++ Ph.putT (docB f.d) from by simp [accF]]; exact hw) ?_
    clear hs hw
    rintro ⟨v, c⟩ a W ⟨hc1, hc6⟩ hs hw
    simp only at hc1 hc6 hs hw
    obtain ⟨ad, cap, rfl⟩ := hw.own_slice
    repeat (first | (refine sxv hs hw ?_; clear hs; intro a hs) | refine sxc hs ?_ | (refine sxa hs hw ?_; clear hs hw; intro a b W hw hs) | (refine sxs hs hw ?_; clear hs hw; intro W hs hw) | ((with_reducible first | refine st_ptrSome hs (k := ?_) | refine st_ptrNone hs (k := ?_)); clear hs; intro a hs))
    refine cd_split hs (kt := fun hcc => ?_) (kf := fun hcc => ?_)
    · have hc5 : c ≤ 5 := by have := of_decide_eq_true hcc; omega
      obtain ⟨x, hx⟩ : ∃ x, f.told[c]? = some x := ⟨f.told[c]'(by rw [hf.six]; omega), List.getElem?_eq_getElem _⟩
      have hfx := hf.told c x hx
      have hsl := seqB_len hfx
      have hal := accF_len hf c
      have hnext := accF_next hc1 hx
      generalize accF f c = acc at *
      obtain ⟨sv, hsv, h6⟩ := told_get ht hx
      obtain ⟨sad, scap, rfl⟩ := hsv.slice
      repeat (first | (refine sxv hs hw ?_; clear hs; intro a hs) | refine sxc hs ?_ | (refine sxa hs hw ?_; clear hs hw; intro a b W hw hs) | (refine sxs hs hw ?_; clear hs hw; intro W hs hw) | ((with_reducible first | refine st_ptrSome hs (k := ?_) | refine st_ptrNone hs (k := ?_)); clear hs; intro a hs))
      refine st_index_arr hs (h0 := by omega) (h1 := by omega) (c := ?_); clear hs; intro a hs
      rw [Int.toNat_natCast] at hs
      repeat (first | (refine sxv hs hw ?_; clear hs; intro a hs) | refine sxc hs ?_ | (refine sxa hs hw ?_; clear hs hw; intro a b W hw hs) | (refine sxs hs hw ?_; clear hs hw; intro W hs hw) | ((with_reducible first | refine st_ptrSome hs (k := ?_) | refine st_ptrNone hs (k := ?_)); clear hs; intro a hs))
      refine st_load_ats (z := ztold) hs (cs := .int .i64 x.1 :: rowCells x.2 (.slice sad x.2.b.l.length scap)) (hc := fun j u hu => ?hcc) (hl := rfl) (c := ?_)
      case hcc =>
        rw [cell_block (hw.block (In.tl In.hd)).1]
        show (foldCells f.place pd xs)[0 + 2 + c * 6 + j]? = _
        rw [show 0 + 2 + c * 6 + j = c * 6 + j + 1 + 1 by omega]
        have h9 := congrArg (fun t => t[j]?) h6
        simp only [cut_eq, List.getElem?_take, List.getElem?_drop] at h9
        rw [hu] at h9
        split at h9
        · simpa [foldCells] using h9
        · cases h9
      clear hs; intro a hs
      repeat (first | (refine sxv hs hw ?_; clear hs; intro a hs) | refine sxc hs ?_ | (refine sxa hs hw ?_; clear hs hw; intro a b W hw hs) | (refine sxs hs hw ?_; clear hs hw; intro W hs hw) | ((with_reducible first | refine st_ptrSome hs (k := ?_) | refine st_ptrNone hs (k := ?_)); clear hs; intro a hs))
      obtain ⟨b5, q5⟩ := nm1 hw; subst q5
      replace hw : Has 0 w0 _ (Sx.OwnB 5 (.slice ad acc.length cap) acc :: Cells b5 (.int .i64 x.1 :: rowCells x.2 (.slice sad x.2.b.l.length scap)) 123 :: Cells p (foldCells f.place pd xs) 126 :: DocAt pd f.d :: Fz H :: R) := hw.perm (by repeat (first | exact List.Perm.refl _ | refine perm_pick (by repeat (first | exact Pick.hd | apply Pick.tl)) ?_))
      have hxi : i64 x.1 := by
        rcases hfx with rfl | ⟨_, e⟩
        · exact ⟨by decide, by decide⟩
        · have := e.ok.q; rw [e.seq]; exact this
      refine st_call hs (hc := num_Put w0 _ _ acc x.1 _ hxi.1 hxi.2 (by omega) hw) (k := ?_); rintro e0 W1 ⟨ad1, cap1, rfl, hw1⟩; refine ⟨_, rfl, ?_⟩; clear hs hw; intro a hs; have hw := hw1; clear hw1
      repeat (first | (refine sxv hs hw ?_; clear hs; intro a hs) | refine sxc hs ?_ | (refine sxa hs hw ?_; clear hs hw; intro a b W hw hs) | (refine sxs hs hw ?_; clear hs hw; intro W hs hw) | ((with_reducible first | refine st_ptrSome hs (k := ?_) | refine st_ptrNone hs (k := ?_)); clear hs; intro a hs))
      rcases hfx with rfl | ⟨_, hfine⟩
      · repeat (first | (refine sxv hs hw ?_; clear hs; intro a hs) | refine sxc hs ?_ | (refine sxa hs hw ?_; clear hs hw; intro a b W hw hs) | (refine sxs hs hw ?_; clear hs hw; intro W hs hw) | ((with_reducible first | refine st_ptrSome hs (k := ?_) | refine st_ptrNone hs (k := ?_)); clear hs; intro a hs))
        rw [show acc ++ Ph.putI ((0 : Int), zeroRow).1 = accF f (c + 1) from by rw [hnext]; simp [seqB]] at hs hw
        exact st_again (_, c + 1) hs (hw.drop2) ⟨by show 1 ≤ c + 1; omega, by show c + 1 ≤ 6; omega⟩ (by show 6 - (c + 1) < 6 - c; omega) ⟨rfl, rfl, int_eq (by show IntKind.i64.wrap ((c : Int) + 1) = ((c + 1 : Nat) : Int); rw [IntWalk.i64_in _ (by omega)]; omega), trivial⟩
      · have hpos := hfine.pos
        have hpi : i64 x.2.place := ⟨by have := hfine.pl.1; omega, by have := hfine.pl.2; have := hf.place.2; omega⟩
        have hei := fineE_i64 hfine.err
        have hel := encB_le hfine.may
        have hok := hfine.ok
        have hmay : mayBatch x.2.b.c x.2.b.q x.2.b.l = true := hfine.may
        have h1l := Ph.putI_length_le x.2.place
        have h2l := putT_le2 (encB x.2.b)
        have h0l := Ph.putI_length_le x.1
        have hnx : accF f (c + 1) = acc ++ Ph.putI x.1 ++ Ph.putI x.2.place ++ Ph.putT (encB x.2.b) ++ Ph.putI x.2.err := by
          rw [hnext]; unfold seqB; rw [if_pos hpos]; simp
        have hl1 : (acc ++ Ph.putI x.1).length ≤ 100010 := by rw [List.length_append]; omega
        rw [show decide (x.1 > 0) = true from decide_eq_true hpos] at hs
        generalize acc ++ Ph.putI x.1 = acc1 at *
        repeat (first | (refine sxv hs hw ?_; clear hs; intro a hs) | refine sxc hs ?_ | (refine sxa hs hw ?_; clear hs hw; intro a b W hw hs) | (refine sxs hs hw ?_; clear hs hw; intro W hs hw) | ((with_reducible first | refine st_ptrSome hs (k := ?_) | refine st_ptrNone hs (k := ?_)); clear hs; intro a hs))
        replace hw : Has 0 w0 _ (Sx.OwnB 5 (.slice ad1 acc1.length cap1) (acc1) :: Free :: Cells b5 (.int .i64 x.1 :: rowCells x.2 (.slice sad x.2.b.l.length scap)) 123 :: Cells p (foldCells f.place pd xs) 126 :: DocAt pd f.d :: Fz H :: R) := hw.free.swap2
        refine rg_drawU (σ := Option Addr × Nat) (V := fun u => [(.slice ad1 acc1.length cap1), .pointer (some ⟨b5, 0 + 1, none⟩), .pointer (some ⟨b5, 0 + 1 + 0, none⟩), .int .i64 x.2.place, (.slice (u 4).1 (acc1 ++ Ph.putI x.2.place).length (u 4).2), .pointer (some ⟨b5, 0 + 1, none⟩), .pointer (some ⟨b5, 0 + 1 + 1, none⟩), .agg ⟨batCells x.2.b (.slice sad x.2.b.l.length scap)⟩, (.slice (u 8).1 (encB x.2.b).length (u 8).2), .string ⟨(encB x.2.b).toArray⟩, (.slice (u 10).1 (acc1 ++ Ph.putI x.2.place ++ Ph.putT (encB x.2.b)).length (u 10).2), (.slice (u 11).1 (acc1 ++ Ph.putI x.2.place ++ Ph.putT (encB x.2.b)).length (u 11).2)])
          (Rs := fun u D => (if D 11 then Sx.OwnB 5 (.slice (u 11).1 (acc1 ++ Ph.putI x.2.place ++ Ph.putT (encB x.2.b)).length (u 11).2) (acc1 ++ Ph.putI x.2.place ++ Ph.putT (encB x.2.b)) else if D 10 then Sx.OwnB 5 (.slice (u 10).1 (acc1 ++ Ph.putI x.2.place ++ Ph.putT (encB x.2.b)).length (u 10).2) (acc1 ++ Ph.putI x.2.place ++ Ph.putT (encB x.2.b)) else if D 4 then Sx.OwnB 5 (.slice (u 4).1 (acc1 ++ Ph.putI x.2.place).length (u 4).2) (acc1 ++ Ph.putI x.2.place) else Sx.OwnB 5 (.slice ad1 acc1.length cap1) (acc1)) :: (if D 8 then Sx.OwnB 5 (.slice (u 8).1 (encB x.2.b).length (u 8).2) (encB x.2.b) else Free) :: Cells b5 (.int .i64 x.1 :: rowCells x.2 (.slice sad x.2.b.l.length scap)) 123 :: Cells p (foldCells f.place pd xs) 126 :: DocAt pd f.d :: Fz H :: R) (fun _ => (none, 0)) hs hw (hVu := ?vu_10) (ho := ⟨?_, ?_, ?_, ?_, ?c4_10, ?_, ?_, ?_, ?c8_10, ?c9_10, ?c10_10, ?c11_10, trivial⟩) (k := ?k_10)
        case vu_10 =>
          intro u u' j h
          rcases j with _ | _ | _ | _ | _ | _ | _ | _ | _ | _ | _ | _ | j
          all_goals first | rfl | simp [h]
        case c4_10 =>
          intro u LD D a W hcl hi hp hs hw
          have h10 := Go.Sx.not_done hcl hi 10 (by kernel_rfl)
          have h11 := Go.Sx.not_done hcl h10 11 (by kernel_rfl)
          simp only [hi, h10, h11, Bool.false_eq_true, if_false] at hw
          refine st_call hs (hc := num_Put w0 _ _ acc1 x.2.place _ hpi.1 hpi.2 (by omega) hw) (k := ?_); rintro e0 W1 ⟨ad, cap, rfl, hw1⟩; refine ⟨_, rfl, ?_⟩; clear hs hw; intro a hs; have hw := hw1; clear hw1
          repeat (first | (refine sxv hs hw ?_; clear hs; intro a hs) | refine sxc hs ?_ | (refine sxa hs hw ?_; clear hs hw; intro a b W hw hs) | (refine sxs hs hw ?_; clear hs hw; intro W hs hw) | ((with_reducible first | refine st_ptrSome hs (k := ?_) | refine st_ptrNone hs (k := ?_)); clear hs; intro a hs))
          refine Or.inr ⟨(ad, cap), hs, ?_⟩
          show Has 0 w0 _ ((if (Nat.beq 11 4 || D 11) = true then _ else if (Nat.beq 10 4 || D 10) = true then _ else _) :: _)
          rw [h11, h10]
          exact hw
        case c8_10 =>
          intro u LD D a W hcl hi hp hs hw
          have h10 := Go.Sx.not_done hcl hi 10 (by kernel_rfl)
          have h11 := Go.Sx.not_done hcl h10 11 (by kernel_rfl)
          simp only [hi, h10, h11, Bool.false_eq_true, if_false] at hw
          refine st_call hs (hc := op_Encode x.2.b.c x.2.b.q x.2.b.l _ _ hok.c hok.q hok.ops (hw.rdH (In.tl (In.tl (In.tl (In.tl (In.tl In.hd))))) hsv) (hT.keep (hw.endF (In.tl (In.tl (In.tl (In.tl (In.tl In.hd))))) hH))) (k := ?_); rintro e0 W1 ⟨ad, cap, rfl, hnil, hw1⟩; refine ⟨_, rfl, ?_⟩; clear hs; intro a hs; replace hw := hw.call hw1; clear hw1
          rw [hmay] at hs hw
          simp only [if_true] at hs hw
          repeat (first | (refine sxv hs hw ?_; clear hs; intro a hs) | refine sxc hs ?_ | (refine sxa hs hw ?_; clear hs hw; intro a b W hw hs) | (refine sxs hs hw ?_; clear hs hw; intro W hs hw) | ((with_reducible first | refine st_ptrSome hs (k := ?_) | refine st_ptrNone hs (k := ?_)); clear hs; intro a hs))
          refine Or.inr ⟨(ad, cap), hs, ?_⟩
          show Has 0 w0 _ ((if (Nat.beq 11 8 || D 11) = true then _ else if (Nat.beq 10 8 || D 10) = true then _ else _) :: _)
          rw [h11, h10]
          exact hw.fill (Upd.tl Upd.hd)
        case c9_10 =>
          intro u LD D a W hcl hi hp hs hw
          have h8 := Go.Sx.done hp 8 (by kernel_rfl)
          have hw0 := hw
          simp only [h8, if_true] at hw
          refine st_string_b hs (r := hw.rd_own (In.tl In.hd)) (k := ?_); clear hs; intro a hs
          repeat (first | (refine sxv hs hw ?_; clear hs; intro a hs) | refine sxc hs ?_ | (refine sxa hs hw ?_; clear hs hw; intro a b W hw hs) | (refine sxs hs hw ?_; clear hs hw; intro W hs hw) | ((with_reducible first | refine st_ptrSome hs (k := ?_) | refine st_ptrNone hs (k := ?_)); clear hs; intro a hs))
          exact Or.inl ⟨hs, hw0⟩
        case c10_10 =>
          intro u LD D a W hcl hi hp hs hw
          have h4 := Go.Sx.done hp 4 (by kernel_rfl)
          have h11 := Go.Sx.not_done hcl hi 11 (by kernel_rfl)
          simp only [hi, h4, h11, Bool.false_eq_true, if_false, if_true] at hw
          refine st_call hs (hc := num_PutText w0 _ _ (acc1 ++ Ph.putI x.2.place) ⟨(encB x.2.b).toArray⟩ _ (by show (encB x.2.b).toArray.size ≤ _; simp; omega) (by rw [List.length_append]; omega) hw) (k := ?_); rintro e0 W1 ⟨ad, cap, rfl, hw1⟩; refine ⟨_, rfl, ?_⟩; clear hs hw; intro a hs; have hw := hw1; clear hw1
          repeat (first | (refine sxv hs hw ?_; clear hs; intro a hs) | refine sxc hs ?_ | (refine sxa hs hw ?_; clear hs hw; intro a b W hw hs) | (refine sxs hs hw ?_; clear hs hw; intro W hs hw) | ((with_reducible first | refine st_ptrSome hs (k := ?_) | refine st_ptrNone hs (k := ?_)); clear hs; intro a hs))
          refine Or.inr ⟨(ad, cap), hs, ?_⟩
          show Has 0 w0 _ ((if (Nat.beq 11 10 || D 11) = true then _ else _) :: _)
          rw [h11]
          exact hw
        case c11_10 =>
          intro u LD D a W hcl hi hp hs hw
          have h10 := Go.Sx.done hp 10 (by kernel_rfl)
          simp only [hi, h10, Bool.false_eq_true, if_false, if_true] at hw
          repeat (first | (refine sxv hs hw ?_; clear hs; intro a hs) | refine sxc hs ?_ | (refine sxa hs hw ?_; clear hs hw; intro a b W hw hs) | (refine sxs hs hw ?_; clear hs hw; intro W hs hw) | ((with_reducible first | refine st_ptrSome hs (k := ?_) | refine st_ptrNone hs (k := ?_)); clear hs; intro a hs))
          exact Or.inr ⟨u 10, hs, hw⟩
        case k_10 =>
          clear hs hw
          intro u a W hs hw
          replace hw : Has 0 w0 W (Sx.OwnB 5 (.slice (u 11).1 (acc1 ++ Ph.putI x.2.place ++ Ph.putT (encB x.2.b)).length (u 11).2) (acc1 ++ Ph.putI x.2.place ++ Ph.putT (encB x.2.b)) :: Sx.OwnB 5 (.slice (u 8).1 (encB x.2.b).length (u 8).2) (encB x.2.b) :: Cells b5 (.int .i64 x.1 :: rowCells x.2 (.slice sad x.2.b.l.length scap)) 123 :: Cells p (foldCells f.place pd xs) 126 :: DocAt pd f.d :: Fz H :: R) := hw
          replace hw := hw.drop2
          replace hs : Slots a 54 [(0, .pointer (some ⟨p, 0, none⟩)), (3, (.slice (u 11).1 (acc1 ++ Ph.putI x.2.place ++ Ph.putT (encB x.2.b)).length (u 11).2)), (4, .int .i64 (c : Int)), (5, .pointer (some ⟨b5, 0, none⟩))] := hs.of ⟨rfl, rfl, rfl, rfl, trivial⟩
          generalize (u 11).1 = ad2 at *
          generalize (u 11).2 = cap2 at *
          clear u
          repeat (first | (refine sxv hs hw ?_; clear hs; intro a hs) | refine sxc hs ?_ | (refine sxa hs hw ?_; clear hs hw; intro a b W hw hs) | (refine sxs hs hw ?_; clear hs hw; intro W hs hw) | ((with_reducible first | refine st_ptrSome hs (k := ?_) | refine st_ptrNone hs (k := ?_)); clear hs; intro a hs))
          refine st_call hs (hc := num_Put w0 _ _ (acc1 ++ Ph.putI x.2.place ++ Ph.putT (encB x.2.b)) x.2.err _ hei.1 hei.2 (by simp only [List.length_append]; omega) hw) (k := ?_); rintro e0 W1 ⟨ad3, cap3, rfl, hw1⟩; refine ⟨_, rfl, ?_⟩; clear hs hw; intro a hs; have hw := hw1; clear hw1
          rw [← hnx] at hs hw
          repeat (first | (refine sxv hs hw ?_; clear hs; intro a hs) | refine sxc hs ?_ | (refine sxa hs hw ?_; clear hs hw; intro a b W hw hs) | (refine sxs hs hw ?_; clear hs hw; intro W hs hw) | ((with_reducible first | refine st_ptrSome hs (k := ?_) | refine st_ptrNone hs (k := ?_)); clear hs; intro a hs))
          exact st_again (_, c + 1) hs (hw.drop2) ⟨by show 1 ≤ c + 1; omega, by show c + 1 ≤ 6; omega⟩ (by show 6 - (c + 1) < 6 - c; omega) ⟨rfl, rfl, int_eq (by show IntKind.i64.wrap ((c : Int) + 1) = ((c + 1 : Nat) : Int); rw [IntWalk.i64_in _ (by omega)]; omega), trivial⟩
        all_goals
          intro u LD D a W hcl hi hp hs hw
          repeat (first | (refine sxv hs hw ?_; clear hs; intro a hs) | refine sxc hs ?_ | (refine sxa hs hw ?_; clear hs hw; intro a b W hw hs) | (refine sxs hs hw ?_; clear hs hw; intro W hs hw) | ((with_reducible first | refine st_ptrSome hs (k := ?_) | refine st_ptrNone hs (k := ?_)); clear hs; intro a hs))
          exact Or.inl ⟨hs, hw⟩
    · have hc : c = 6 := by have := of_decide_eq_false hcc; omega
      subst hc
      rw [accF_all hf] at hs hw
      repeat (first | (refine sxv hs hw ?_; clear hs; intro a hs) | refine sxc hs ?_ | (refine sxa hs hw ?_; clear hs hw; intro a b W hw hs) | (refine sxs hs hw ?_; clear hs hw; intro W hs hw) | ((with_reducible first | refine st_ptrSome hs (k := ?_) | refine st_ptrNone hs (k := ?_)); clear hs; intro a hs))
      have hw : Has 0 w0 _ (Cells p (foldCells f.place pd xs) 126 :: DocAt pd f.d :: Sx.OwnB 5 (.slice ad (foldB f).length cap) (foldB f) :: Fz H :: R) := hw.perm (by repeat (first | exact List.Perm.refl _ | refine perm_pick (by repeat (first | exact Pick.hd | apply Pick.tl)) ?_))
      exact rt1 hs rfl rfl ⟨ad, cap, rfl, (foldShut hw ht).swap2⟩
  all_goals
    intro u LD D a W hcl hi hp hs hw
    repeat (first | (refine sxv hs hw ?_; clear hs; intro a hs) | refine sxc hs ?_ | (refine sxa hs hw ?_; clear hs hw; intro a b W hw hs) | (refine sxs hs hw ?_; clear hs hw; intro W hs hw) | ((with_reducible first | refine st_ptrSome hs (k := ?_) | refine st_ptrNone hs (k := ?_)); clear hs; intro a hs))
    exact Or.inl ⟨hs, hw⟩
set_option maxHeartbeats 8000000 in
theorem fold_Eq (w0 W : World) (H : Fh) (p q : Nat) (f g : FoldD) (R : List Res) (hf : FoldFine f) (hg : FoldFine g) (hH : (fr w0).le H) (hT : Tabs w0) (hw : Has 0 w0 W (FoldAt H p f :: FoldAt H q g :: Fz H :: R)) :
    Calls Tryz.prog 33 ⟨[.pointer (some ⟨p, 0, none⟩), .pointer (some ⟨q, 0, none⟩)]⟩ W fun e W' => e = .returned (.bool (foldB f == foldB g)) ∧ Has 0 w0 W' (FoldAt H p f :: FoldAt H q g :: Fz H :: R) := by
  refine enter Tryz.func33 Tryz.ntmps33 rfl rfl fun a hs => ?_
  repeat (first | (refine sxv hs hw ?_; clear hs; intro a hs) | refine sxc hs ?_ | (refine sxa hs hw ?_; clear hs hw; intro a b W hw hs) | (refine sxs hs hw ?_; clear hs hw; intro W hs hw) | ((with_reducible first | refine st_ptrSome hs (k := ?_) | refine st_ptrNone hs (k := ?_)); clear hs; intro a hs))
  have hw : Has 0 w0 _ (FoldAt H p f :: Fz H :: FoldAt H q g :: R) := hw.perm (by repeat (first | exact List.Perm.refl _ | refine perm_pick (by repeat (first | exact Pick.hd | apply Pick.tl)) ?_))
  refine st_call hs (hc := fold_Encode w0 _ H p f _ hf hH hT hw) (k := ?_); rintro e0 W1 ⟨ad, cap, rfl, hw1⟩; refine ⟨_, rfl, ?_⟩; clear hs hw; intro a hs; have hw := hw1; clear hw1
  repeat (first | (refine sxv hs hw ?_; clear hs; intro a hs) | refine sxc hs ?_ | (refine sxa hs hw ?_; clear hs hw; intro a b W hw hs) | (refine sxs hs hw ?_; clear hs hw; intro W hs hw) | ((with_reducible first | refine st_ptrSome hs (k := ?_) | refine st_ptrNone hs (k := ?_)); clear hs; intro a hs))
  replace hw : Has 0 w0 _ (FoldAt H q g :: Fz H :: Sx.OwnB 5 (.slice ad (foldB f).length cap) (foldB f) :: FoldAt H p f :: R) := hw.perm (by repeat (first | exact List.Perm.refl _ | refine perm_pick (by repeat (first | exact Pick.hd | apply Pick.tl)) ?_))
  refine st_call hs (hc := fold_Encode w0 _ H q g _ hg hH hT hw) (k := ?_); rintro e0 W1 ⟨ad2, cap2, rfl, hw1⟩; refine ⟨_, rfl, ?_⟩; clear hs hw; intro a hs; have hw := hw1; clear hw1
  refine st_call hs (hc := bytes_Equal (foldB f) (foldB g) _ _ _ (hw.rd_own (In.tl (In.tl (In.tl In.hd)))) (hw.rd_own In.hd)) (k := ?_); rintro e0 W1 ⟨rfl, hb⟩; refine ⟨_, rfl, ?_⟩; clear hs; intro a hs; replace hw := hw.below hb; clear hb
  repeat (first | (refine sxv hs hw ?_; clear hs; intro a hs) | refine sxc hs ?_ | (refine sxa hs hw ?_; clear hs hw; intro a b W hw hs) | (refine sxs hs hw ?_; clear hs hw; intro W hs hw) | ((with_reducible first | refine st_ptrSome hs (k := ?_) | refine st_ptrNone hs (k := ?_)); clear hs; intro a hs))
  exact rt1 hs rfl rfl ⟨rfl, hw.sel (by repeat (first | exact Sel.nil | exact Sel.refl _ | refine Sel.cons (by repeat (first | exact Pick.hd | apply Pick.tl)) ?_ | refine Sel.skip ?_))⟩
end Go.Proofs.YtmalklakaalaoaaGreatDoor.Sw
