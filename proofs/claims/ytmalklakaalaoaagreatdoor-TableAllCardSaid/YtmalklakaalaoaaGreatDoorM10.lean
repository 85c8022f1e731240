/-
  Texts of the proof, one behind the other (part 10).
-/
import Derived.Test.YtmalklakaalaoaaGreatDoorM9
set_option linter.unusedVariables false
set_option maxRecDepth 10000
namespace Go.Proofs.YtmalklakaalaoaaGreatDoor.Sw
open Go.RowKit Go.Sx
section
variable {P : Program} {ops : Array Oper} {rest : List Oper} {Q : Exit → Act → World → Prop} {a : Act} {n : Nat} {L : List (Nat × Value)} {W : World} {d : Nat} {T S S' : TypeId} {p : String} {e : Array Edge} {x y : Operand}
theorem st_sadd {r s : ByteArray} (hs : Slots a n L) (h : r.size + s.size ≤ 9223372036854775807) (hx : ev L x = some (.string r) := by with_unfolding_all exact rfl) (hy : ev L y = some (.string s) := by with_unfolding_all exact rfl) (hd : Nat.blt d n = true := by with_unfolding_all exact rfl)
    (k : ∀ a', Slots a' n ((d, .string (r ++ s)) :: L) → wpList P ops Q rest a' W) : wpList P ops Q (⟨some d, .binOp .add S x y S', T, p, e, none⟩ :: rest) a W :=
  st_value hs hd (by
    simp only [execOp, hs.ev hx, hs.ev hy]
    simp [eqGuard, binOp, Op.stringOp]
    omega) k
end
theorem ff_cut (x : ByteArray) : ((⟨#[255]⟩ : ByteArray) ++ x).data.toList = 255 :: x.data.toList := by
  rw [ByteArray.data_append]; simp
theorem ff_size (x : ByteArray) : ((⟨#[255]⟩ : ByteArray) ++ x).size = 1 + x.size := by
  rw [ByteArray.size_append]; rfl
set_option maxHeartbeats 64000000 in
theorem walk_TableAll (l : List TopD) (v : Value) (xl : List Bool) (xv : Value) (from_ n : Int) (w : World) (hl : ∀ o ∈ l, TopWf o) (hr : TopsRd w v l) (hx0 : ∀ b ∈ xl, True) (hx : BoolsRd w xv xl) (hfr : (Lit.int .i64 from_).wf = true) (hn : (Lit.int .i64 n).wf = true) (hT : Tabs w) :
    Calls Tryz.prog 4 ⟨[v, xv, .int .i64 from_, .int .i64 n]⟩ w fun e w' => e = .returned (.bool true) ∧ Below w.heap.size w w' := by
  have hw := Has.startF w
  obtain ⟨ts, htr, htc⟩ := hr.h
  obtain ⟨tad, tcap, rfl⟩ := htr.slice
  have htl := htr.len
  obtain ⟨bs, hbr0, hbc⟩ := hx
  have hbr := RdH.of_rd hbr0 (Fh.le.refl _) (by decide)
  clear hbr0 hr hx0
  obtain ⟨xad, xcap, rfl⟩ := hbr.slice
  have hxl := hbr.len
  refine enter Tryz.func4 Tryz.ntmps4 rfl rfl fun a hs => ?_
  repeat (first | (refine sxv hs hw ?_; clear hs; intro a hs) | refine sxc hs ?_ | (refine sxa hs hw ?_; clear hs hw; intro a b W hw hs) | (refine sxs hs hw ?_; clear hs hw; intro W hs hw))
  refine st_call hs (hc := law19_begun _ hT) (k := ?_); rintro e0 W1 ⟨rfl, hb⟩; refine ⟨_, rfl, ?_⟩; clear hs; intro a hs; replace hw := hw.below hb; clear hb
  repeat (first | (refine sxv hs hw ?_; clear hs; intro a hs) | refine sxc hs ?_ | (refine sxa hs hw ?_; clear hs hw; intro a b W hw hs) | (refine sxs hs hw ?_; clear hs hw; intro W hs hw))
  refine st_call hs (hc := table_New w _ (fr w) _ hw) (k := ?_); rintro e0 W1 ⟨p, rfl, hw1⟩; refine ⟨_, rfl, ?_⟩; clear hs hw; intro a hs; have hw := hw1; clear hw1
  repeat (first | (refine sxv hs hw ?_; clear hs; intro a hs) | refine sxc hs ?_ | (refine sxa hs hw ?_; clear hs hw; intro a b W hw hs) | (refine sxs hs hw ?_; clear hs hw; intro W hs hw))
  obtain ⟨b12, q12⟩ := nm1 hw; subst q12
  replace hw : Has 0 w W (Cells b12 zrf 42 :: TabAt (fr w) p emptyT :: Fz (fr w) :: []) := by with_unfolding_all exact hw
  replace hw := hw.nilOwn 39 5
  replace hw : Has 0 w _ (TabAt (fr w) p emptyT :: Cells b12 zrf 42 :: Sx.Own 39 5 (.slice none emptyT.rows.length 0) emptyT.rows.length [] :: Fz (fr w) :: []) := hw.perm (by repeat (first | exact List.Perm.refl _ | refine perm_pick (by repeat (first | exact Pick.hd | apply Pick.tl)) ?_))
  refine st_loop (σ := Nat × TabD × Nat × List Value × Option Addr × Nat × List Value × Fh) (fun u => [(0, .slice tad l.length tcap), (1, .slice xad xl.length xcap), (2, .int .i64 from_), (3, .int .i64 n), (10, .pointer (some ⟨u.2.2.1, 0, none⟩)), (11, .slice u.2.2.2.2.1 u.2.1.rows.length u.2.2.2.2.2.1), (12, .pointer (some ⟨b12, 0, none⟩)), (13, .int .i64 u.2.1.ix), (14, .int .i64 (u.1 : Int))]) (fun u => TabAt u.2.2.2.2.2.2.2 u.2.2.1 u.2.1 :: Cells b12 u.2.2.2.1 42 :: Sx.Own 39 5 (.slice u.2.2.2.2.1 u.2.1.rows.length u.2.2.2.2.2.1) u.2.1.rows.length u.2.2.2.2.2.2.1 :: Fz u.2.2.2.2.2.2.2 :: []) (fun u => u.1 ≤ l.length ∧ u.1 ≤ 40 ∧ TabOk u.2.1 ∧ u.2.1.rows.length ≤ u.1 ∧ u.2.1.ix ≤ u.1 ∧ (fr w).le u.2.2.2.2.2.2.2 ∧ RfIn u.2.2.2.2.2.2.2 u.2.1.f u.2.2.2.1 ∧ Ch (RowIn u.2.2.2.2.2.2.2) u.2.1.rows u.2.2.2.2.2.2.1) (fun u => l.length - u.1) (0, emptyT, p, zrf, none, 0, [], fr w) ⟨Nat.zero_le _, Nat.zero_le _, TabOk.nil, Nat.zero_le _, by show (0 : Int) ≤ ((0 : Nat) : Int); decide, Fh.le.refl _, rf_empty _, rfl⟩ hs ⟨rfl, rfl, rfl, rfl, rfl, rfl, rfl, rfl, rfl, trivial⟩ hw ?_
  clear hs hw
  rintro ⟨i, t, q, rcs, rad, rcap, rxs, H⟩ a W ⟨hi, hi40, hok, hrl, hix, hle, hrf, hrc⟩ hs hw
  simp only at hi hi40 hok hrl hix hle hrf hrc hs hw
  have hfine := hok.fine (by omega)
  have hlen0 := hrf.len
  repeat (first | (refine sxv hs hw ?_; clear hs; intro a hs) | refine sxn hs ?_ | (refine sxa hs hw ?_; clear hs hw; intro a b W hw hs) | (refine sxs hs hw ?_; clear hs hw; intro W hs hw))
  refine sq ?_
  refine sq ?_
  refine merge (M := fun a W => Slots a 205 [(41, .bool (decide ((i : Int) < (l.length : Int)) && decide ((i : Int) < 40))), (0, .slice tad l.length tcap), (1, .slice xad xl.length xcap), (2, .int .i64 from_), (3, .int .i64 n), (10, .pointer (some ⟨q, 0, none⟩)), (11, .slice rad t.rows.length rcap), (12, .pointer (some ⟨b12, 0, none⟩)), (13, .int .i64 t.ix), (14, .int .i64 (i : Int))] ∧ Has 0 w W (TabAt H q t :: Cells b12 rcs 42 :: Sx.Own 39 5 (.slice rad t.rows.length rcap) t.rows.length rxs :: Fz H :: [])) ?_ ?_
  · repeat (first | (refine sxv hs hw ?_; clear hs; intro a hs) | refine sxc hs ?_ | (refine sxa hs hw ?_; clear hs hw; intro a b W hw hs) | (refine sxs hs hw ?_; clear hs hw; intro W hs hw))
    cases c1 : decide ((i : Int) < (l.length : Int)) with
    | false =>
      rw [c1] at hs
      repeat (first | (refine sxv hs hw ?_; clear hs; intro a hs) | refine sxc hs ?_ | (refine sxa hs hw ?_; clear hs hw; intro a b W hw hs) | (refine sxs hs hw ?_; clear hs hw; intro W hs hw))
      exact ⟨hs.of ⟨rfl, rfl, rfl, rfl, rfl, rfl, rfl, rfl, rfl, rfl, trivial⟩, hw⟩
    | true =>
      rw [c1] at hs
      repeat (first | (refine sxv hs hw ?_; clear hs; intro a hs) | refine sxc hs ?_ | (refine sxa hs hw ?_; clear hs hw; intro a b W hw hs) | (refine sxs hs hw ?_; clear hs hw; intro W hs hw))
      exact ⟨hs.of ⟨rfl, rfl, rfl, rfl, rfl, rfl, rfl, rfl, rfl, rfl, trivial⟩, hw⟩
  clear hs hw
  rintro a W ⟨hs, hw⟩
  cases hcc : (decide ((i : Int) < (l.length : Int)) && decide ((i : Int) < 40)) with
  | false =>
    rw [hcc] at hs
    repeat (first | (refine sxv hs hw ?_; clear hs; intro a hs) | refine sxc hs ?_ | (refine sxa hs hw ?_; clear hs hw; intro a b W hw hs) | (refine sxs hs hw ?_; clear hs hw; intro W hs hw))
    replace hw : Has 0 w W (Sx.Own 39 5 (.slice rad t.rows.length rcap) t.rows.length rxs :: Fz H :: TabAt H q t :: Cells b12 rcs 42 :: []) := hw.perm (by repeat (first | exact List.Perm.refl _ | refine perm_pick (by repeat (first | exact Pick.hd | apply Pick.tl)) ?_))
    obtain ⟨H2, hle2, hw, hrw⟩ := hw.freeze_own
    have hrows : Ch (RowIn H2) t.rows rxs := hrc.mono (RowIn.le hle2)
    replace hw : Has 0 w _ (TabAt H2 q t :: Fz H2 :: []) := tabLe (hw.sel (by repeat (first | exact Sel.nil | exact Sel.refl _ | refine Sel.cons (by repeat (first | exact Pick.hd | apply Pick.tl)) ?_ | refine Sel.skip ?_)) : Has 0 w _ (TabAt H q t :: Fz H2 :: [])) hle2
    replace hle := hle.trans hle2
    replace hw := hw.nilOwn 39 5
    have h8 : ∀ r ∈ t.rows, r.b.l.length ≤ 1000 := fun r hr => by have := (may_parts (hok.rows r hr).2).2.2; omega
    obtain ⟨rs, hrs⟩ : ∃ rs, t.rows.drop (from_ - 1).toNat = rs := ⟨_, rfl⟩
    refine st_loop (σ := Nat × Option Addr × Nat × List Value) (fun u => [(2, .int .i64 from_), (3, .int .i64 n), (10, .pointer (some ⟨q, 0, none⟩)), (11, .slice rad t.rows.length rcap), (27, .slice u.2.1 (rs.take u.1).length u.2.2.1), (28, .int .i64 (from_ + (u.1 : Int)))]) (fun u => Sx.Own 39 5 (.slice u.2.1 (rs.take u.1).length u.2.2.1) (rs.take u.1).length u.2.2.2 :: TabAt H2 q t :: Fz H2 :: []) (fun u => u.1 ≤ 10 ∧ (0 < u.1 → 1 ≤ from_ ∧ from_ + (u.1 : Int) - 1 ≤ (t.rows.length : Int) ∧ (u.1 : Int) ≤ n) ∧ Ch (RowIn H2) (rs.take u.1) u.2.2.2) (fun u => 11 - u.1) (0, none, 0, []) ⟨Nat.zero_le _, fun h => absurd h (Nat.lt_irrefl 0), rfl⟩ hs ⟨rfl, rfl, rfl, rfl, rfl, int_eq (by show from_ = from_ + ((0 : Nat) : Int); omega), trivial⟩ hw ?_
    clear hs hw
    rintro ⟨k, ad, cap, ys⟩ a W ⟨hk10, hkp, hyc⟩ hs hw
    simp only at hk10 hkp hyc hs hw
    have hrl2 : rs.length = t.rows.length - (from_ - 1).toNat := by rw [← hrs]; exact List.length_drop
    have hkl : (rs.take k).length = k := by
      rw [List.length_take]
      rcases Nat.eq_zero_or_pos k with h | h
      · omega
      · have := hkp h; omega
    have hn2 : -9223372036854775808 ≤ n ∧ n ≤ 9223372036854775807 := wf_i64 hn
    have hfr2 : -9223372036854775808 ≤ from_ ∧ from_ ≤ 9223372036854775807 := wf_i64 hfr
    rw [hkl] at hs
    refine sq ?_
    refine sq ?_
    refine merge (M := fun a W => ∃ c : Bool, (c = true ↔ (1 ≤ from_ + (k : Int) ∧ from_ + (k : Int) ≤ (t.rows.length : Int) ∧ (k : Int) < n ∧ k < 10)) ∧ Slots a 205 [(188, .bool c), (2, .int .i64 from_), (3, .int .i64 n), (10, .pointer (some ⟨q, 0, none⟩)), (11, .slice rad t.rows.length rcap), (27, .slice ad k cap), (28, .int .i64 (from_ + (k : Int)))] ∧ Has 0 w W (Sx.Own 39 5 (.slice ad (rs.take k).length cap) (rs.take k).length ys :: TabAt H2 q t :: Fz H2 :: [])) ?_ ?_
    · repeat (first | (refine sxv hs hw ?_; clear hs; intro a hs) | refine sxc hs ?_ | (refine sxa hs hw ?_; clear hs hw; intro a b W hw hs) | (refine sxs hs hw ?_; clear hs hw; intro W hs hw))
      cases d1 : decide (from_ + (k : Int) ≥ 1) with
      | false =>
        rw [d1] at hs
        repeat (first | (refine sxv hs hw ?_; clear hs; intro a hs) | refine sxc hs ?_ | (refine sxa hs hw ?_; clear hs hw; intro a b W hw hs) | (refine sxs hs hw ?_; clear hs hw; intro W hs hw))
        exact ⟨false, ⟨fun h => (by cases h), fun h => by have := of_decide_eq_false d1; omega⟩, hs.of ⟨rfl, rfl, rfl, rfl, rfl, rfl, rfl, trivial⟩, hw⟩
      | true =>
      rw [d1] at hs
      have e1 := of_decide_eq_true d1
      repeat (first | (refine sxv hs hw ?_; clear hs; intro a hs) | refine sxc hs ?_ | (refine sxa hs hw ?_; clear hs hw; intro a b W hw hs) | (refine sxs hs hw ?_; clear hs hw; intro W hs hw))
      cases d2 : decide (from_ + (k : Int) ≤ (t.rows.length : Int)) with
      | false =>
        rw [d2] at hs
        repeat (first | (refine sxv hs hw ?_; clear hs; intro a hs) | refine sxc hs ?_ | (refine sxa hs hw ?_; clear hs hw; intro a b W hw hs) | (refine sxs hs hw ?_; clear hs hw; intro W hs hw))
        exact ⟨false, ⟨fun h => (by cases h), fun h => by have := of_decide_eq_false d2; omega⟩, hs.of ⟨rfl, rfl, rfl, rfl, rfl, rfl, rfl, trivial⟩, hw⟩
      | true =>
      rw [d2] at hs
      have e2 := of_decide_eq_true d2
      repeat (first | (refine sxv hs hw ?_; clear hs; intro a hs) | refine sxc hs ?_ | (refine sxa hs hw ?_; clear hs hw; intro a b W hw hs) | (refine sxs hs hw ?_; clear hs hw; intro W hs hw))
      refine st_min hs (k := ?_); clear hs; intro a hs
      repeat (first | (refine sxv hs hw ?_; clear hs; intro a hs) | refine sxc hs ?_ | (refine sxa hs hw ?_; clear hs hw; intro a b W hw hs) | (refine sxs hs hw ?_; clear hs hw; intro W hs hw))
      refine ⟨decide ((k : Int) < (if 10 < n then 10 else n)), ?_, hs.of ⟨rfl, rfl, rfl, rfl, rfl, rfl, rfl, trivial⟩, hw⟩
      rw [decide_eq_true_eq]
      split <;> omega
    clear hs hw
    rintro a W ⟨c, hcc2, hs, hw⟩
    cases c with
    | false =>
      have hend : (t.rows.drop (from_ - 1).toNat).take k = rowsT t from_ n := rowsT_end (fun h => ⟨(hkp h).1, (hkp h).2.1, (hkp h).2.2, hk10⟩) fun h => by have := hcc2.2 h; cases this
      rw [hrs] at hend
      repeat (first | (refine sxv hs hw ?_; clear hs; intro a hs) | refine sxc hs ?_ | (refine sxa hs hw ?_; clear hs hw; intro a b W hw hs) | (refine sxs hs hw ?_; clear hs hw; intro W hs hw))
      replace hw : Has 0 w W (TabAt H2 q t :: Fz H2 :: Sx.Own 39 5 (.slice ad (rs.take k).length cap) (rs.take k).length ys :: []) := hw.perm (by repeat (first | exact List.Perm.refl _ | refine perm_pick (by repeat (first | exact Pick.hd | apply Pick.tl)) ?_))
      refine st_call hs (hc := table_Rows w _ H2 q t from_ n _ (by omega) h8 hw) (k := ?_); rintro e0 W1 ⟨rv, H3, rfl, hle3, ⟨zs, hzr, hzc⟩, hw1⟩; refine ⟨_, rfl, ?_⟩; clear hs hw; intro a hs; have hw := hw1; clear hw1
      obtain ⟨zad, zcap, rfl⟩ := hzr.slice
      repeat (first | (refine sxv hs hw ?_; clear hs; intro a hs) | refine sxc hs ?_ | (refine sxa hs hw ?_; clear hs hw; intro a b W hw hs) | (refine sxs hs hw ?_; clear hs hw; intro W hs hw))
      rw [show (Value.slice ad k cap) = .slice ad (rs.take k).length cap by rw [hkl]] at hs
      refine st_call hs (hc := ref_EqRows (rowsT t from_ n) _ zs (rs.take k) _ ys _ (hw.rdH (by repeat (first | exact In.hd | apply In.tl)) hzr) (rowRd hw (by repeat (first | exact In.hd | apply In.tl)) hzc) (hw.rd_own (by repeat (first | exact In.hd | apply In.tl))) (rowRd hw (by repeat (first | exact In.hd | apply In.tl)) (hyc.mono (RowIn.le hle3)))) (k := ?_); rintro e0 W1 ⟨rfl, hb⟩; refine ⟨_, rfl, ?_⟩; clear hs; intro a hs; replace hw := hw.below hb; clear hb
      rw [eqRows_iff.2 hend.symm] at hs
      repeat (first | (refine sxv hs hw ?_; clear hs; intro a hs) | refine sxc hs ?_ | (refine sxa hs hw ?_; clear hs hw; intro a b W hw hs) | (refine sxs hs hw ?_; clear hs hw; intro W hs hw))
      exact rt1 hs rfl rfl ⟨rfl, hw.endF (by repeat (first | exact In.hd | apply In.tl)) (hle.trans hle3)⟩
    | true =>
      obtain ⟨f1, f2, f3, f4⟩ := hcc2.1 rfl
      obtain ⟨ix, hixe⟩ : ∃ ix : Nat, from_ + (k : Int) - 1 = (ix : Int) := ⟨(from_ + (k : Int) - 1).toNat, by omega⟩
      have hf0 : 1 ≤ from_ := by
        rcases Nat.eq_zero_or_pos k with h | h
        · omega
        · exact (hkp h).1
      obtain ⟨r, hri⟩ : ∃ o, t.rows[ix]? = some o := ⟨t.rows[ix]'(by omega), List.getElem?_eq_getElem _⟩
      have hrk : rs[k]? = some r := by rw [← hrs, List.getElem?_drop, show (from_ - 1).toNat + k = ix by omega]; exact hri
      have hnext : rs.take (k + 1) = rs.take k ++ [r] := take_of hrk
      repeat (first | (refine sxv hs hw ?_; clear hs; intro a hs) | refine sxc hs ?_ | (refine sxa hs hw ?_; clear hs hw; intro a b W hw hs) | (refine sxs hs hw ?_; clear hs hw; intro W hs hw))
      rw [IntWalk.i64_in (from_ + (k : Int) - 1) (by omega), hixe] at hs
      refine st_index_ch hs (r := hw.rdH (by repeat (first | exact In.hd | apply In.tl)) hrw) (hk := RowIn.len) (ch := hrows) (ho := hri) (hlen := rfl) (c := ?_); clear hs; intro a g off c hc hcl hpc hlt hs
      obtain ⟨rv, rfl, hrv⟩ := hc
      obtain ⟨rvad, rvcap, rfl⟩ := hrv.slice
      refine st_load_ats hs (cs := rowCells r (.slice rvad r.b.l.length rvcap)) (hc := hpc) (hl := by rfl) (c := ?_); clear hs; intro a hs
      clear hpc
      repeat (first | (refine sxv hs hw ?_; clear hs; intro a hs) | refine sxc hs ?_ | (refine sxa hs hw ?_; clear hs hw; intro a b W hw hs) | (refine sxs hs hw ?_; clear hs hw; intro W hs hw))
      obtain ⟨bx, qx⟩ := nm1 hw; subst qx
      replace hw : Has 0 w _ (Sx.Own 39 5 (.slice ad (rs.take k).length cap) (rs.take k).length ys :: Cells bx (rowCells r (.slice rvad r.b.l.length rvcap)) 39 :: TabAt H2 q t :: Fz H2 :: []) := hw.perm (by repeat (first | exact List.Perm.refl _ | refine perm_pick (by repeat (first | exact Pick.hd | apply Pick.tl)) ?_))
      rw [show (Value.slice ad k cap) = .slice ad (rs.take k).length cap by rw [hkl]] at hs
      refine st_append1 hs (hw := hw) (hi := In.hd) (ch := hyc) (ha := (⟨_, rfl, hrv⟩ : RowIn H2 r (rowCells r (.slice rvad r.b.l.length rvcap)))) (hl := rfl) (h1 := rfl) (hb := by omega) (h63 := by omega) (k := ?_)
      clear hs hw; intro a ad2 cap2 W hs hw hc2
      rw [← hnext] at hs hw hc2
      repeat (first | (refine sxv hs hw ?_; clear hs; intro a hs) | refine sxc hs ?_ | (refine sxa hs hw ?_; clear hs hw; intro a b W hw hs) | (refine sxs hs hw ?_; clear hs hw; intro W hs hw))
      exact st_again (k + 1, ad2, cap2, ys ++ rowCells r (.slice rvad r.b.l.length rvcap)) hs (hw.sel (by repeat (first | exact Sel.nil | exact Sel.refl _ | refine Sel.cons (by repeat (first | exact Pick.hd | apply Pick.tl)) ?_ | refine Sel.skip ?_))) ⟨by show k + 1 ≤ 10; omega, fun _ => ⟨hf0, by show from_ + ((k + 1 : Nat) : Int) - 1 ≤ _; omega, by show ((k + 1 : Nat) : Int) ≤ n; omega⟩, hc2⟩ (by show 11 - (k + 1) < 11 - k; omega) ⟨rfl, rfl, rfl, rfl, rfl, int_eq (by show IntKind.i64.wrap (from_ + (k : Int) + 1) = from_ + ((k + 1 : Nat) : Int); rw [IntWalk.i64_in _ (by omega)]; omega), trivial⟩
  | true =>
  rw [hcc] at hs
  have hi' : i < l.length ∧ i < 40 := by
    rw [Bool.and_eq_true] at hcc
    have h1 := of_decide_eq_true hcc.1
    have h2 := of_decide_eq_true hcc.2
    omega
  obtain ⟨o, hoi⟩ : ∃ o, l[i]? = some o := ⟨l[i]'(by omega), List.getElem?_eq_getElem _⟩
  have hwf := hl o (List.mem_of_getElem? hoi)
  repeat (first | (refine sxv hs hw ?_; clear hs; intro a hs) | refine sxc hs ?_ | (refine sxa hs hw ?_; clear hs hw; intro a b W hw hs) | (refine sxs hs hw ?_; clear hs hw; intro W hs hw))
  refine st_index_ch hs (r := hw.rdH (by repeat (first | exact In.hd | apply In.tl)) (htr.le hle)) (hk := TopIn.len) (ch := htc.mono (TopIn.le hle)) (ho := hoi) (hlen := rfl) (c := ?_); clear hs; intro a g off c hc hcl hpc hlt hs
  obtain ⟨sv, rfl, hsv⟩ := hc
  obtain ⟨svad, svcap, rfl⟩ := hsv.slice
  refine st_load_ats hs (cs := [.int .i64 o.kind, .int .i64 o.b.c, .int .i64 o.b.q, .slice svad o.b.l.length svcap, .string o.data, .int .i64 o.off]) (hc := hpc) (hl := by rfl) (c := ?_); clear hs; intro a hs
  clear hpc
  repeat (first | (refine sxv hs hw ?_; clear hs; intro a hs) | refine sxc hs ?_ | (refine sxa hs hw ?_; clear hs hw; intro a b W hw hs) | (refine sxs hs hw ?_; clear hs hw; intro W hs hw))
  obtain ⟨bb, qb⟩ := nm1 hw; subst qb
  obtain ⟨b15, q15⟩ := nm2 hw; subst q15
  replace hw : Has 0 w _ (Cells bb (batCells o.b (.slice svad o.b.l.length svcap)) 36 :: Fz H :: TabAt H q t :: Cells b12 rcs 42 :: Sx.Own 39 5 (.slice rad t.rows.length rcap) t.rows.length rxs :: Cells b15 [.int .i64 o.kind, .int .i64 o.b.c, .int .i64 o.b.q, .slice svad o.b.l.length svcap, .string o.data, .int .i64 o.off] 59 :: []) := hw.perm (by repeat (first | exact List.Perm.refl _ | refine perm_pick (by repeat (first | exact Pick.hd | apply Pick.tl)) ?_))
  obtain ⟨H2, hle2, hw, hbt⟩ := hw.freeze_lit (m := 1) (sz := 3) rfl (by decide)
  have hbats : BatsH H2 (.slice (some ⟨bb, 0, none⟩) 1 1) [o.b] := ⟨_, hbt, Ch.unit ⟨_, rfl, hsv.le hle2⟩⟩
  refine st_call hs (hc := law7_Batches w _ H2 [o.b] _ 1 _ (by decide) (fun b h => by rw [List.mem_singleton] at h; subst h; exact hwf.b) hbats hw) (k := ?_); rintro e0 W1 ⟨v', H3, rfl, hle3, ⟨bxs, hbr3, hbc3⟩, hw1⟩; refine ⟨_, rfl, ?_⟩; clear hs hw; intro a hs; have hw := hw1; clear hw1
  replace hbr3 : RdH H3 3 v' 1 bxs := hbr3
  obtain ⟨bad, bcap, rfl⟩ := hbr3.slice
  refine st_index_ch (i := 0) hs (r := hw.rdH (by repeat (first | exact In.hd | apply In.tl)) hbr3) (hk := BatIn.len) (ch := hbc3) (ho := rfl) (hlen := rfl) (c := ?_); clear hs; intro a g2 off2 c hc hcl hpc hlt hs
  have hbk : BatOk (cutB o.b) := cutB_ok hwf.b
  generalize cutB o.b = bt at *
  obtain ⟨nv, rfl, hnv⟩ := hc
  obtain ⟨nad, ncap, rfl⟩ := hnv.slice
  refine st_load_ats hs (cs := batCells bt (.slice nad bt.l.length ncap)) (hc := hpc) (hl := by rfl) (c := ?_); clear hs; intro a hs
  clear hpc
  repeat (first | (refine sxv hs hw ?_; clear hs; intro a hs) | refine sxc hs ?_ | (refine sxa hs hw ?_; clear hs hw; intro a b W hw hs) | (refine sxs hs hw ?_; clear hs hw; intro W hs hw))
  refine st_call hs (hc := ref_EncodeBatch bt.c bt.q bt.l _ _ hbk.c hbk.q hbk.ops (hw.rdH (by repeat (first | exact In.hd | apply In.tl)) hnv)) (k := ?_); rintro e0 W1 ⟨ead, ecap, rfl, hw1⟩; refine ⟨_, rfl, ?_⟩; clear hs; intro a hs; replace hw := hw.call hw1; clear hw1
  obtain ⟨dt, hdt⟩ : ∃ dt, (if mayBatch bt.c bt.q bt.l = true then textB bt.c bt.q bt.l else []) = dt := ⟨_, rfl⟩
  rw [hdt] at hs hw
  have hdl : dt.length ≤ 1200 := by
    rw [← hdt]
    split
    · rename_i h; exact (mayBatch_parts h).2.2.2.2
    · simp
  have hE : ∀ ix, EntOf ⟨ix, 1, 2, ⟨dt.toArray⟩⟩ bt (mayB bt) := fun ix => ⟨fun h => ⟨rfl, h, by show dt = encB bt; rw [← hdt, if_pos (show mayBatch bt.c bt.q bt.l = true from h)]; rfl⟩, fun h => .inr (by show decode dt = none; rw [← hdt, if_neg (by rw [show mayBatch bt.c bt.q bt.l = false from h]; decide)]; exact decode_nil), by show dt.length ≤ _; exact hdl⟩
  repeat (first | (refine sxv hs hw ?_; clear hs; intro a hs) | refine sxc hs ?_ | (refine sxa hs hw ?_; clear hs hw; intro a b W hw hs) | (refine sxs hs hw ?_; clear hs hw; intro W hs hw))
  refine st_string_b hs (r := hw.rd_own In.hd) (k := ?_); clear hs; intro a hs
  replace hw := hw.sub (List.Sublist.cons _ (List.Sublist.refl _))
  repeat (first | (refine sxv hs hw ?_; clear hs; intro a hs) | refine sxc hs ?_ | (refine sxa hs hw ?_; clear hs hw; intro a b W hw hs) | (refine sxs hs hw ?_; clear hs hw; intro W hs hw))
  refine st_call hs (hc := ref_MayBatch bt.c bt.q bt.l _ _ hbk.c hbk.q hbk.ops (hw.rdH (by repeat (first | exact In.hd | apply In.tl)) hnv)) (k := ?_); rintro e0 W1 ⟨rfl, hb⟩; refine ⟨_, rfl, ?_⟩; clear hs; intro a hs; replace hw := hw.below hb; clear hb
  rw [show mayBatch bt.c bt.q bt.l = mayB bt from rfl] at hs
  obtain ⟨b17, q17⟩ := nm1 hw; subst q17
  obtain ⟨b16, q16⟩ := nm2 hw; subst q16
  replace hw : Has 0 w _ (TabAt H q t :: Cells b17 [.int .i64 (IntKind.i64.wrap (t.ix + 1)), .int .i64 1, .int .i64 2, .string ⟨dt.toArray⟩] 64 :: Cells b16 (batCells bt (.slice nad bt.l.length ncap)) 36 :: Cells b15 [.int .i64 o.kind, .int .i64 o.b.c, .int .i64 o.b.q, .slice svad o.b.l.length svcap, .string o.data, .int .i64 o.off] 59 :: Cells b12 rcs 42 :: Sx.Own 39 5 (.slice rad t.rows.length rcap) t.rows.length rxs :: Fz H3 :: []) := (show Has 0 w _ (Cells b17 [.int .i64 (IntKind.i64.wrap (t.ix + 1)), .int .i64 1, .int .i64 2, .string ⟨dt.toArray⟩] 64 :: Cells b16 (batCells bt (.slice nad bt.l.length ncap)) 36 :: _) from hw).perm (by repeat (first | exact List.Perm.refl _ | refine perm_pick (by repeat (first | exact Pick.hd | apply Pick.tl)) ?_))
  have hleA := hle2.trans hle3
  replace hw := tabLe hw hleA
  clear hsv hbats hbt hbr3 hbc3
  repeat (first | (refine sxv hs hw ?_; clear hs; intro a hs) | refine sxn hs ?_ | (refine sxa hs hw ?_; clear hs hw; intro a b W hw hs) | (refine sxs hs hw ?_; clear hs hw; intro W hs hw))
  skip
  refine sq ?_
  refine merge (M := fun a W => ∃ (e : EntD) (good : Bool), EntOf e bt good ∧ Slots a 205 [(16, .pointer (some ⟨b16, 0, none⟩)), (17, .pointer (some ⟨b17, 0, none⟩)), (18, .bool good), (0, .slice tad l.length tcap), (1, .slice xad xl.length xcap), (2, .int .i64 from_), (3, .int .i64 n), (10, .pointer (some ⟨q, 0, none⟩)), (11, .slice rad t.rows.length rcap), (12, .pointer (some ⟨b12, 0, none⟩)), (13, .int .i64 t.ix), (14, .int .i64 (i : Int))] ∧ Has 0 w W (Cells b17 (entCells e) 64 :: TabAt H3 q t :: Cells b16 (batCells bt (.slice nad bt.l.length ncap)) 36 :: Cells b12 rcs 42 :: Sx.Own 39 5 (.slice rad t.rows.length rcap) t.rows.length rxs :: Fz H3 :: [])) ?_ ?_
  · repeat (first | (refine sxv hs hw ?_; clear hs; intro a hs) | refine sxc hs ?_ | (refine sxa hs hw ?_; clear hs hw; intro a b W hw hs) | (refine sxs hs hw ?_; clear hs hw; intro W hs hw))
    cases s1 : (o.kind == 1) with
    | true =>
      rw [s1] at hs
      repeat (first | (refine sxv hs hw ?_; clear hs; intro a hs) | refine sxc hs ?_ | (refine sxa hs hw ?_; clear hs hw; intro a b W hw hs) | (refine sxs hs hw ?_; clear hs hw; intro W hs hw))
      refine st_call hs (hc := law1_Cut o.data 60 _ hwf.data (by decide)) (k := ?_); rintro e0 W1 ⟨rfl, rfl⟩; refine ⟨_, rfl, ?_⟩; clear hs; intro a hs
      have hcs : (cutS o.data 60).size ≤ 60 := cutS_size o.data 60
      rw [show Int.toNat 60 = 60 from rfl] at hs
      refine st_sadd hs (r := ⟨#[255]⟩) (s := cutS o.data 60) (h := by show 1 + (cutS o.data 60).size ≤ _; omega) (k := ?_); clear hs; intro a hs
      repeat (first | (refine sxv hs hw ?_; clear hs; intro a hs) | refine sxc hs ?_ | (refine sxa hs hw ?_; clear hs hw; intro a b W hw hs) | (refine sxs hs hw ?_; clear hs hw; intro W hs hw))
      have hw2 : Has 0 w _ (TabAt H3 q t :: Cells b17 (entCells ⟨IntKind.i64.wrap (t.ix + 1), 1, 2, ⟨#[255]⟩ ++ cutS o.data 60⟩) 64 :: Cells b16 (batCells bt (.slice nad bt.l.length ncap)) 36 :: Cells b15 [.int .i64 o.kind, .int .i64 o.b.c, .int .i64 o.b.q, .slice svad o.b.l.length svcap, .string o.data, .int .i64 o.off] 59 :: Cells b12 rcs 42 :: Sx.Own 39 5 (.slice rad t.rows.length rcap) t.rows.length rxs :: Fz H3 :: []) := hw
      exact ⟨⟨IntKind.i64.wrap (t.ix + 1), 1, 2, ⟨#[255]⟩ ++ cutS o.data 60⟩, false, ⟨fun h => (by cases h), fun _ => .inr (by show decode (_ : List UInt8) = none; rw [ff_cut]; exact decode_ff _), by show ((⟨#[255]⟩ : ByteArray) ++ _).size ≤ _; rw [ff_size]; omega⟩, hs.of ⟨rfl, rfl, rfl, rfl, rfl, rfl, rfl, rfl, rfl, rfl, rfl, rfl, trivial⟩, hw2.sel (by repeat (first | exact Sel.nil | exact Sel.refl _ | refine Sel.cons (by repeat (first | exact Pick.hd | apply Pick.tl)) ?_ | refine Sel.skip ?_))⟩
    | false =>
    rw [s1] at hs
    repeat (first | (refine sxv hs hw ?_; clear hs; intro a hs) | refine sxc hs ?_ | (refine sxa hs hw ?_; clear hs hw; intro a b W hw hs) | (refine sxs hs hw ?_; clear hs hw; intro W hs hw))
    cases s2 : (o.kind == 2) with
    | true =>
      rw [s2] at hs
      repeat (first | (refine sxv hs hw ?_; clear hs; intro a hs) | refine sxc hs ?_ | (refine sxa hs hw ?_; clear hs hw; intro a b W hw hs) | (refine sxs hs hw ?_; clear hs hw; intro W hs hw))
      have hw2 : Has 0 w _ (TabAt H3 q t :: Cells b17 (entCells ⟨IntKind.i64.wrap (t.ix + 1), 1, 3, ⟨dt.toArray⟩⟩) 64 :: Cells b16 (batCells bt (.slice nad bt.l.length ncap)) 36 :: Cells b15 [.int .i64 o.kind, .int .i64 o.b.c, .int .i64 o.b.q, .slice svad o.b.l.length svcap, .string o.data, .int .i64 o.off] 59 :: Cells b12 rcs 42 :: Sx.Own 39 5 (.slice rad t.rows.length rcap) t.rows.length rxs :: Fz H3 :: []) := hw
      exact ⟨⟨IntKind.i64.wrap (t.ix + 1), 1, 3, ⟨dt.toArray⟩⟩, false, ⟨fun h => (by cases h), fun _ => .inl (show ((3 : Int) == 2) = false from by decide), hdl⟩, hs.of ⟨rfl, rfl, rfl, rfl, rfl, rfl, rfl, rfl, rfl, rfl, rfl, rfl, trivial⟩, hw2.sel (by repeat (first | exact Sel.nil | exact Sel.refl _ | refine Sel.cons (by repeat (first | exact Pick.hd | apply Pick.tl)) ?_ | refine Sel.skip ?_))⟩
    | false =>
    rw [s2] at hs
    repeat (first | (refine sxv hs hw ?_; clear hs; intro a hs) | refine sxc hs ?_ | (refine sxa hs hw ?_; clear hs hw; intro a b W hw hs) | (refine sxs hs hw ?_; clear hs hw; intro W hs hw))
    cases s3 : (o.kind == 3) with
    | true =>
      rw [s3] at hs
      repeat (first | (refine sxv hs hw ?_; clear hs; intro a hs) | refine sxc hs ?_ | (refine sxa hs hw ?_; clear hs hw; intro a b W hw hs) | (refine sxs hs hw ?_; clear hs hw; intro W hs hw))
      have hw2 : Has 0 w _ (TabAt H3 q t :: Cells b17 (entCells ⟨IntKind.i64.wrap (IntKind.i64.wrap (t.ix + 1) + o.off), 1, 2, ⟨dt.toArray⟩⟩) 64 :: Cells b16 (batCells bt (.slice nad bt.l.length ncap)) 36 :: Cells b15 [.int .i64 o.kind, .int .i64 o.b.c, .int .i64 o.b.q, .slice svad o.b.l.length svcap, .string o.data, .int .i64 o.off] 59 :: Cells b12 rcs 42 :: Sx.Own 39 5 (.slice rad t.rows.length rcap) t.rows.length rxs :: Fz H3 :: []) := hw
      exact ⟨⟨IntKind.i64.wrap (IntKind.i64.wrap (t.ix + 1) + o.off), 1, 2, ⟨dt.toArray⟩⟩, mayB bt, hE _, hs.of ⟨rfl, rfl, rfl, rfl, rfl, rfl, rfl, rfl, rfl, rfl, rfl, rfl, trivial⟩, hw2.sel (by repeat (first | exact Sel.nil | exact Sel.refl _ | refine Sel.cons (by repeat (first | exact Pick.hd | apply Pick.tl)) ?_ | refine Sel.skip ?_))⟩
    | false =>
    rw [s3] at hs
    repeat (first | (refine sxv hs hw ?_; clear hs; intro a hs) | refine sxc hs ?_ | (refine sxa hs hw ?_; clear hs hw; intro a b W hw hs) | (refine sxs hs hw ?_; clear hs hw; intro W hs hw))
    have hw2 : Has 0 w _ (TabAt H3 q t :: Cells b17 (entCells ⟨IntKind.i64.wrap (t.ix + 1), 1, 2, ⟨dt.toArray⟩⟩) 64 :: Cells b16 (batCells bt (.slice nad bt.l.length ncap)) 36 :: Cells b15 [.int .i64 o.kind, .int .i64 o.b.c, .int .i64 o.b.q, .slice svad o.b.l.length svcap, .string o.data, .int .i64 o.off] 59 :: Cells b12 rcs 42 :: Sx.Own 39 5 (.slice rad t.rows.length rcap) t.rows.length rxs :: Fz H3 :: []) := hw
    exact ⟨⟨IntKind.i64.wrap (t.ix + 1), 1, 2, ⟨dt.toArray⟩⟩, mayB bt, hE _, hs.of ⟨rfl, rfl, rfl, rfl, rfl, rfl, rfl, rfl, rfl, rfl, rfl, rfl, trivial⟩, hw2.sel (by repeat (first | exact Sel.nil | exact Sel.refl _ | refine Sel.cons (by repeat (first | exact Pick.hd | apply Pick.tl)) ?_ | refine Sel.skip ?_))⟩
  clear hs hw
  rintro a W ⟨e, good, hent, hs, hw⟩
  clear hE hdt hdl
  repeat (first | (refine sxv hs hw ?_; clear hs; intro a hs) | refine sxc hs ?_ | (refine sxa hs hw ?_; clear hs hw; intro a b W hw hs) | (refine sxs hs hw ?_; clear hs hw; intro W hs hw))
  replace hw : Has 0 w W (TabAt H3 q t :: Fz H3 :: Cells b16 (batCells bt (.slice nad bt.l.length ncap)) 36 :: Cells b17 (entCells e) 64 :: Cells b12 rcs 42 :: Sx.Own 39 5 (.slice rad t.rows.length rcap) t.rows.length rxs :: []) := hw.perm (by repeat (first | exact List.Perm.refl _ | refine perm_pick (by repeat (first | exact Pick.hd | apply Pick.tl)) ?_))
  have hleB := hle.trans hleA
  have hes := hent.size
  refine st_call hs (hc := table_Apply w _ H3 q t e _ (by omega) (by omega) hleB hT hw) (k := ?_); rintro e0 W1 ⟨sv', H4, rfl, hle4, hsv', hw1⟩; refine ⟨_, rfl, ?_⟩; clear hs hw; intro a hs; have hw := hw1; clear hw1
  obtain ⟨A, hA⟩ : ∃ A, applyT t e = A := ⟨_, rfl⟩
  have hap := applyT_ok (e := e) hok (by omega) (by omega) (by omega)
  rw [hA] at hap hs hw hsv'
  obtain ⟨yad, ycap, rfl⟩ := hsv'.slice
  have hleC := hleA.trans hle4
  repeat (first | (refine sxv hs hw ?_; clear hs; intro a hs) | refine sxn hs ?_ | (refine sxa hs hw ?_; clear hs hw; intro a b W hw hs) | (refine sxs hs hw ?_; clear hs hw; intro W hs hw))
  obtain ⟨b19, q19⟩ := nm1 hw; subst q19
  replace hw : Has 0 w _ (TabAt H4 q A.1 :: Cells b19 (rowCells A.2.1 (.slice yad A.2.1.b.l.length ycap)) 39 :: Cells b16 (batCells bt (.slice nad bt.l.length ncap)) 36 :: Cells b17 (entCells e) 64 :: Cells b12 rcs 42 :: Sx.Own 39 5 (.slice rad t.rows.length rcap) t.rows.length rxs :: Fz H4 :: []) := (show Has 0 w _ (Cells b19 (rowCells A.2.1 (.slice yad A.2.1.b.l.length ycap)) 39 :: _) from hw).perm (by repeat (first | exact List.Perm.refl _ | refine perm_pick (by repeat (first | exact Pick.hd | apply Pick.tl)) ?_))
  skip
  refine sq ?_
  refine merge (M := fun a W => ∃ (rad2 : Option Addr) (rcap2 : Nat) (rxs2 rcs2 : List Value) (H5 : Fh), H4.le H5 ∧ RfIn H5 A.1.f rcs2 ∧ Ch (RowIn H5) A.1.rows rxs2 ∧ (A.2.2 = true → ∃ r0, A.1.rows = r0 ++ [A.2.1]) ∧ (A.2.2 = false → A.2.1 = zeroRow) ∧ Slots a 205 [(19, .pointer (some ⟨b19, 0, none⟩)), (20, .bool A.2.2), (21, .bool A.2.2), (0, .slice tad l.length tcap), (1, .slice xad xl.length xcap), (2, .int .i64 from_), (3, .int .i64 n), (10, .pointer (some ⟨q, 0, none⟩)), (11, .slice rad2 A.1.rows.length rcap2), (12, .pointer (some ⟨b12, 0, none⟩)), (13, .int .i64 A.1.ix), (14, .int .i64 (i : Int))] ∧ Has 0 w W (TabAt H4 q A.1 :: Cells b19 (rowCells A.2.1 (.slice yad A.2.1.b.l.length ycap)) 39 :: Cells b12 rcs2 42 :: Sx.Own 39 5 (.slice rad2 A.1.rows.length rcap2) A.1.rows.length rxs2 :: Fz H5 :: [])) ?_ ?_
  · clear hap
    repeat (first | (refine sxv hs hw ?_; clear hs; intro a hs) | refine sxc hs ?_ | (refine sxa hs hw ?_; clear hs hw; intro a b W hw hs) | (refine sxs hs hw ?_; clear hs hw; intro W hs hw))
    cases hx : (e.ix == IntKind.i64.wrap (t.ix + 1)) with
    | false =>
      rw [hx] at hs
      have hA2 : A = (t, zeroRow, false) := by rw [← hA]; exact apply_far (by simpa using hx)
      subst hA2
      repeat (first | (refine sxv hs hw ?_; clear hs; intro a hs) | refine sxc hs ?_ | (refine sxa hs hw ?_; clear hs hw; intro a b W hw hs) | (refine sxs hs hw ?_; clear hs hw; intro W hs hw))
      exact ⟨rad, rcap, rxs, rcs, H4, Fh.le.refl _, hrf.le hleC, hrc.mono (RowIn.le hleC), fun h => (by cases h), fun _ => rfl, hs.of ⟨rfl, rfl, rfl, rfl, rfl, rfl, rfl, rfl, rfl, rfl, rfl, rfl, trivial⟩, hw.sel (by repeat (first | exact Sel.nil | exact Sel.refl _ | refine Sel.cons (by repeat (first | exact Pick.hd | apply Pick.tl)) ?_ | refine Sel.skip ?_))⟩
    | true =>
    rw [hx] at hs
    have hx2 : e.ix = IntKind.i64.wrap (t.ix + 1) := by simpa using hx
    repeat (first | (refine sxv hs hw ?_; clear hs; intro a hs) | refine sxc hs ?_ | (refine sxa hs hw ?_; clear hs hw; intro a b W hw hs) | (refine sxs hs hw ?_; clear hs hw; intro W hs hw))
    cases good with
    | false =>
      have hA2 : A = (⟨IntKind.i64.wrap (t.ix + 1), t.f, t.rows⟩, zeroRow, false) := by rw [← hA]; exact apply_bad hx2 hent
      subst hA2
      repeat (first | (refine sxv hs hw ?_; clear hs; intro a hs) | refine sxc hs ?_ | (refine sxa hs hw ?_; clear hs hw; intro a b W hw hs) | (refine sxs hs hw ?_; clear hs hw; intro W hs hw))
      exact ⟨rad, rcap, rxs, rcs, H4, Fh.le.refl _, hrf.le hleC, hrc.mono (RowIn.le hleC), fun h => (by cases h), fun _ => rfl, hs.of ⟨rfl, rfl, rfl, rfl, rfl, rfl, rfl, rfl, rfl, rfl, rfl, rfl, trivial⟩, hw.sel (by repeat (first | exact Sel.nil | exact Sel.refl _ | refine Sel.cons (by repeat (first | exact Pick.hd | apply Pick.tl)) ?_ | refine Sel.skip ?_))⟩
    | true =>
    have hA2 := apply_good hx2 hent hbk
    rw [hA] at hA2
    repeat (first | (refine sxv hs hw ?_; clear hs; intro a hs) | refine sxc hs ?_ | (refine sxa hs hw ?_; clear hs hw; intro a b W hw hs) | (refine sxs hs hw ?_; clear hs hw; intro W hs hw))
    refine st_load_agg hs (hw := hw) (hi := (by repeat (first | exact In.hd | apply In.tl))) (hl := by rw [hlen0]; rfl) (k := ?_); clear hs; intro a hs
    have hs2 : Slots a 205 ((97, .agg ⟨cut rcs 0 38⟩) :: _) := hs
    rw [cut_all _ _ hlen0] at hs2
    clear hs; have hs := hs2; clear hs2
    repeat (first | (refine sxv hs hw ?_; clear hs; intro a hs) | refine sxc hs ?_ | (refine sxa hs hw ?_; clear hs hw; intro a b W hw hs) | (refine sxs hs hw ?_; clear hs hw; intro W hs hw))
    replace hw : Has 0 w _ (Fz H4 :: TabAt H4 q A.1 :: Cells b19 (rowCells A.2.1 (.slice yad A.2.1.b.l.length ycap)) 39 :: Cells b12 rcs 42 :: Sx.Own 39 5 (.slice rad t.rows.length rcap) t.rows.length rxs :: []) := hw.sel (by repeat (first | exact Sel.nil | exact Sel.refl _ | refine Sel.cons (by repeat (first | exact Pick.hd | apply Pick.tl)) ?_ | refine Sel.skip ?_))
    obtain ⟨N, hN⟩ : ∃ N, next t.f bt = N := ⟨_, rfl⟩
    refine st_call hs (hc := ref7_Next w _ H4 t.f bt rcs _ _ (hrf.le hleC) hfine.doc.ok hbk (hnv.le hle4) hw) (k := ?_); rw [hN]; rintro e0 W1 ⟨cs', sv', H5, rfl, hle5, hf2, hsv2, hw1⟩; refine ⟨_, rfl, ?_⟩; clear hs hw; intro a hs; have hw := hw1; clear hw1
    have hlen1 := hf2.len
    have hone1 := hf2.one
    obtain ⟨nad2, ncap2, rfl⟩ := hsv2.slice
    have hleD := hleC.trans hle5
    repeat (first | (refine sxv hs hw ?_; clear hs; intro a hs) | refine sxc hs ?_ | (refine sxa hs hw ?_; clear hs hw; intro a b W hw hs) | (refine sxs hs hw ?_; clear hs hw; intro W hs hw))
    obtain ⟨b23, q23⟩ := nm1 hw; subst q23
    obtain ⟨b22, q22⟩ := nm2 hw; subst q22
    replace hw : Has 0 w W (Cells b22 zrf 42 :: Cells b23 zrc 39 :: Fz H5 :: TabAt H4 q A.1 :: Cells b19 (rowCells A.2.1 (.slice yad A.2.1.b.l.length ycap)) 39 :: Cells b12 rcs 42 :: Sx.Own 39 5 (.slice rad t.rows.length rcap) t.rows.length rxs :: []) := (show Has 0 w W (Cells b23 zrc 39 :: Cells b22 zrf 42 :: _) by with_unfolding_all exact hw).swap2
    refine st_store hs (vs := cs') (hw := hw) (hz := by rw [hlen1]; rfl) (h1 := hone1) (hl := by rw [hlen1]; rfl) (k := ?_); clear hs hw; intro W hs hw
    rw [ov_all _ _ (by rw [hlen1]; rfl)] at hw
    repeat (first | (refine sxv hs hw ?_; clear hs; intro a hs) | refine sxc hs ?_ | (refine sxa hs hw ?_; clear hs hw; intro a b W hw hs) | (refine sxs hs hw ?_; clear hs hw; intro W hs hw))
    refine st_load_agg hs (hw := hw) (hi := (by repeat (first | exact In.hd | apply In.tl))) (hl := by rw [hlen1]; rfl) (k := ?_); clear hs; intro a hs
    have hs2 : Slots a 205 ((103, .agg ⟨cut cs' 0 38⟩) :: _) := hs
    rw [cut_all _ _ hlen1] at hs2
    clear hs; have hs := hs2; clear hs2
    refine st_store hs (vs := cs') (hw := hw) (hz := by rw [hlen1]; rfl) (h1 := hone1) (hl := by rw [hlen1, hlen0]; rfl) (k := ?_); clear hs hw; intro W hs hw
    rw [ov_all rcs cs' (by rw [hlen1, hlen0])] at hw
    repeat (first | (refine sxv hs hw ?_; clear hs; intro a hs) | refine sxc hs ?_ | (refine sxa hs hw ?_; clear hs hw; intro a b W hw hs) | (refine sxs hs hw ?_; clear hs hw; intro W hs hw))
    cases hN2 : N.2.2 with
    | false =>
      rw [hN2] at hs
      have hA3 : A = (⟨IntKind.i64.wrap (t.ix + 1), t.f, t.rows⟩, zeroRow, false) := by rw [hA2]; unfold playT; rw [hN, hN2]
      have hN1 : N.1 = t.f := by rw [← hN]; exact next_no (by rw [hN]; exact hN2)
      rw [hN1] at hf2
      clear hA2
      subst hA3
      repeat (first | (refine sxv hs hw ?_; clear hs; intro a hs) | refine sxc hs ?_ | (refine sxa hs hw ?_; clear hs hw; intro a b W hw hs) | (refine sxs hs hw ?_; clear hs hw; intro W hs hw))
      exact ⟨rad, rcap, rxs, cs', H5, hle5, hf2, hrc.mono (RowIn.le hleD), fun h => (by cases h), fun _ => rfl, hs.of ⟨rfl, rfl, rfl, rfl, rfl, rfl, rfl, rfl, rfl, rfl, rfl, rfl, trivial⟩, hw.sel (by repeat (first | exact Sel.nil | exact Sel.refl _ | refine Sel.cons (by repeat (first | exact Pick.hd | apply Pick.tl)) ?_ | refine Sel.skip ?_))⟩
    | true =>
    rw [hN2] at hs
    have hA3 : A = (⟨IntKind.i64.wrap (t.ix + 1), N.1, t.rows ++ [N.2.1]⟩, N.2.1, true) := by rw [hA2]; unfold playT; rw [hN, hN2]
    clear hA2
    subst hA3
    repeat (first | (refine sxv hs hw ?_; clear hs; intro a hs) | refine sxc hs ?_ | (refine sxa hs hw ?_; clear hs hw; intro a b W hw hs) | (refine sxs hs hw ?_; clear hs hw; intro W hs hw))
    obtain ⟨bx, qx⟩ := nm1 hw; subst qx
    have hw2 : Has 0 w _ (Cells bx (rowCells N.2.1 (.slice nad2 N.2.1.b.l.length ncap2)) 39 :: _) := hw
    replace hw : Has 0 w _ (Sx.Own 39 5 (.slice rad t.rows.length rcap) t.rows.length rxs :: Cells bx (rowCells N.2.1 (.slice nad2 N.2.1.b.l.length ncap2)) 39 :: TabAt H4 q ⟨IntKind.i64.wrap (t.ix + 1), N.1, t.rows ++ [N.2.1]⟩ :: Cells b19 (rowCells N.2.1 (.slice yad N.2.1.b.l.length ycap)) 39 :: Cells b12 cs' 42 :: Fz H5 :: []) := hw2.sel (by repeat (first | exact Sel.nil | exact Sel.refl _ | refine Sel.cons (by repeat (first | exact Pick.hd | apply Pick.tl)) ?_ | refine Sel.skip ?_))
    refine st_append1 hs (hw := hw) (hi := In.hd) (ch := hrc.mono (RowIn.le hleD)) (ha := (⟨_, rfl, hsv2⟩ : RowIn H5 N.2.1 (rowCells N.2.1 (.slice nad2 N.2.1.b.l.length ncap2)))) (hl := rfl) (h1 := rfl) (hb := by omega) (h63 := by omega) (k := ?_)
    clear hs hw; intro a ad2 cap2 W hs hw hc2
    repeat (first | (refine sxv hs hw ?_; clear hs; intro a hs) | refine sxc hs ?_ | (refine sxa hs hw ?_; clear hs hw; intro a b W hw hs) | (refine sxs hs hw ?_; clear hs hw; intro W hs hw))
    exact ⟨ad2, cap2, rxs ++ rowCells N.2.1 (.slice nad2 N.2.1.b.l.length ncap2), cs', H5, hle5, hf2, hc2, fun _ => ⟨t.rows, rfl⟩, fun h => (by cases h), hs.of ⟨rfl, rfl, rfl, rfl, rfl, rfl, rfl, rfl, rfl, rfl, rfl, rfl, trivial⟩, hw.sel (by repeat (first | exact Sel.nil | exact Sel.refl _ | refine Sel.cons (by repeat (first | exact Pick.hd | apply Pick.tl)) ?_ | refine Sel.skip ?_))⟩
  clear hs hw
  rintro a W ⟨rad2, rcap2, rxs2, rcs2, H5, hle5, hrf2, hrc2, hyes, hno, hs, hw⟩
  have hleE := hleC.trans hle5
  replace hsv' := hsv'.le hle5
  replace hw := tabLe hw hle5
  have hixe : A.1.ix ≤ ((i + 1 : Nat) : Int) := by rcases hap.2.2.1 with h | h <;> omega
  replace hap : TabOk A.1 ∧ A.1.rows.length ≤ i + 1 := ⟨hap.1, by have := hap.2.1; omega⟩
  clear hA hent hrf hrc hlen0 hfine hnv
  obtain ⟨t2, x2, okb⟩ := A
  simp only at hap hsv' hrf2 hrc2 hyes hno hs hw hixe
  have hlen2 := hrf2.len
  obtain ⟨hok2, hrl2⟩ := hap
  have hfine2 := hok2.fine (by omega)
  skip
  refine sq ?_
  refine merge (M := fun a W => Slots a 205 [(0, .slice tad l.length tcap), (1, .slice xad xl.length xcap), (2, .int .i64 from_), (3, .int .i64 n), (10, .pointer (some ⟨q, 0, none⟩)), (11, .slice rad2 t2.rows.length rcap2), (12, .pointer (some ⟨b12, 0, none⟩)), (13, .int .i64 t2.ix), (14, .int .i64 (i : Int))] ∧ Has 0 w W (TabAt H5 q t2 :: Cells b12 rcs2 42 :: Sx.Own 39 5 (.slice rad2 t2.rows.length rcap2) t2.rows.length rxs2 :: Fz H5 :: [])) ?_ ?_
  · cases okb with
    | false =>
      have hx0 := hno rfl
      subst hx0
      repeat (first | (refine sxv hs hw ?_; clear hs; intro a hs) | refine sxc hs ?_ | (refine sxa hs hw ?_; clear hs hw; intro a b W hw hs) | (refine sxs hs hw ?_; clear hs hw; intro W hs hw))
      refine rg_draw (V := [.bool false, .bool false, .bool false, .bool false, .bool false, .bool false, undef, undef, undef, undef, undef, undef, undef, undef, undef, .bool false, .bool false, .bool false, .bool false, .bool true, .bool true, .pointer (some ⟨b19, 0 + 0, none⟩), .int .i64 0, .bool false, .bool false, .bool false])
        (Rs := fun D => TabAt H5 q t2 :: Cells b19 (rowCells zeroRow (.slice yad zeroRow.b.l.length ycap)) 39 :: Cells b12 rcs2 42 :: Sx.Own 39 5 (.slice rad2 t2.rows.length rcap2) t2.rows.length rxs2 :: Fz H5 :: []) hs hw (ho := ⟨?_, ?_, ?_, ?_, ?_, ?_, ?_, ?_, ?_, ?_, ?_, ?_, ?_, ?_, ?_, ?_, ?_, ?_, ?_, ?_, ?_, ?_, ?_, ?_, ?_, ?_, trivial⟩) (k := ?k_f)
      case k_f =>
        clear hs hw
        intro a W hs hw
        repeat (first | (refine sxv hs hw ?_; clear hs; intro a hs) | refine sxc hs ?_ | (refine sxa hs hw ?_; clear hs hw; intro a b W hw hs) | (refine sxs hs hw ?_; clear hs hw; intro W hs hw))
        exact ⟨hs.of ⟨rfl, rfl, rfl, rfl, rfl, rfl, rfl, rfl, rfl, trivial⟩, hw.sel (by repeat (first | exact Sel.nil | exact Sel.refl _ | refine Sel.cons (by repeat (first | exact Pick.hd | apply Pick.tl)) ?_ | refine Sel.skip ?_))⟩
      all_goals
        intro LD D a W hcl hi hp hs hw
        repeat (first | (refine sxv hs hw ?_; clear hs; intro a hs) | refine sxc hs ?_ | (refine sxa hs hw ?_; clear hs hw; intro a b W hw hs) | (refine sxs hs hw ?_; clear hs hw; intro W hs hw))
        exact ⟨hs, hw⟩
    | true =>
      obtain ⟨r0, hr0⟩ := hyes rfl
      obtain ⟨j, hj⟩ : ∃ j : Nat, t2.rows.length = j + 1 := ⟨r0.length, by rw [hr0, List.length_append, List.length_singleton]⟩
      have hrj : t2.rows[j]? = some x2 := by
        have : r0.length = j := by rw [hr0, List.length_append, List.length_singleton] at hj; omega
        rw [hr0, ← this, List.getElem?_append_right (Nat.le_refl _), Nat.sub_self]; rfl
      replace hw : Has 0 w W (Sx.Own 39 5 (.slice rad2 t2.rows.length rcap2) t2.rows.length rxs2 :: TabAt H5 q t2 :: Cells b19 (rowCells x2 (.slice yad x2.b.l.length ycap)) 39 :: Cells b12 rcs2 42 :: Fz H5 :: []) := hw.perm (by repeat (first | exact List.Perm.refl _ | refine perm_pick (by repeat (first | exact Pick.hd | apply Pick.tl)) ?_))
      obtain ⟨g, cur, rfl, hcur, hcl0, hkc, hcm, hw⟩ := hw.open_own (by omega)
      obtain ⟨c0, ⟨ov0, rfl, hov⟩, hcut⟩ := hrc2.mem RowIn.len hrj
      obtain ⟨lad, lcap, rfl⟩ := hov.slice
      repeat (first | (refine sxv hs hw ?_; clear hs; intro a hs) | refine sxc hs ?_ | (refine sxa hs hw ?_; clear hs hw; intro a b W hw hs) | (refine sxs hs hw ?_; clear hs hw; intro W hs hw))
      refine rg_draw (V := [.bool true, .bool true, .bool false, .bool false, .bool true, .bool true, .agg ⟨rowCells x2 (.slice yad x2.b.l.length ycap)⟩, (.slice (some ⟨g, 0, none⟩) t2.rows.length rcap2), (.slice (some ⟨g, 0, none⟩) t2.rows.length rcap2), .int .i64 (t2.rows.length : Int), .int .i64 (j : Int), .pointer (some ⟨g, 0 + j * 5, none⟩), .agg ⟨rowCells x2 (.slice lad x2.b.l.length lcap)⟩, .bool true, .bool false, .bool false, .bool false, .bool false, .bool true, .bool false, .bool false, undef, undef, undef, .bool false, .bool false])
        (Rs := fun D => Cells g cur 39 :: TabAt H5 q t2 :: Cells b19 (rowCells x2 (.slice yad x2.b.l.length ycap)) 39 :: Cells b12 rcs2 42 :: Fz H5 :: []) hs hw (ho := ⟨?_, ?_, ?_, ?_, ?_, ?_, ?_, ?_, ?_, ?_, ?c10_g, ?c11_g, ?c12_g, ?c13_g, ?_, ?_, ?_, ?_, ?_, ?_, ?_, ?_, ?_, ?_, ?_, ?_, trivial⟩) (k := ?k_g)
      case c10_g =>
        intro LD D a W hcl hi hp hs hw
        repeat (first | (refine sxv hs hw ?_; clear hs; intro a hs) | refine sxc hs ?_ | (refine sxa hs hw ?_; clear hs hw; intro a b W hw hs) | (refine sxs hs hw ?_; clear hs hw; intro W hs hw))
        rw [show IntKind.i64.wrap ((t2.rows.length : Int) - 1) = (j : Int) by rw [IntWalk.i64_in _ (by omega)]; omega] at hs
        exact ⟨hs, hw⟩
      case c11_g =>
        intro LD D a W hcl hi hp hs hw
        repeat (first | (refine sxv hs hw ?_; clear hs; intro a hs) | refine sxc hs ?_ | (refine sxa hs hw ?_; clear hs hw; intro a b W hw hs) | (refine sxs hs hw ?_; clear hs hw; intro W hs hw))
        refine st_index_at hs (z := zrc) (h0 := by omega) (h1 := by omega) (c := ?_); clear hs; intro a hs
        repeat (first | (refine sxv hs hw ?_; clear hs; intro a hs) | refine sxc hs ?_ | (refine sxa hs hw ?_; clear hs hw; intro a b W hw hs) | (refine sxs hs hw ?_; clear hs hw; intro W hs hw))
        exact ⟨hs, hw⟩
      case c12_g =>
        intro LD D a W hcl hi hp hs hw
        repeat (first | (refine sxv hs hw ?_; clear hs; intro a hs) | refine sxc hs ?_ | (refine sxa hs hw ?_; clear hs hw; intro a b W hw hs) | (refine sxs hs hw ?_; clear hs hw; intro W hs hw))
        refine st_load_ats hs (z := zrc) (cs := rowCells x2 (.slice lad x2.b.l.length lcap)) (hc := fun m u h => by
          rw [cell_block (hw.block In.hd).1]
          have := Ch.at_cur (R := RowIn H5) (l := t2.rows) (a := x2) (j := m) hcut hcur h
          rw [← this]
          congr 1
          show 0 + j * 5 + m = j * 5 + m
          omega) (hl := by rfl) (c := ?_); clear hs; intro a hs
        repeat (first | (refine sxv hs hw ?_; clear hs; intro a hs) | refine sxc hs ?_ | (refine sxa hs hw ?_; clear hs hw; intro a b W hw hs) | (refine sxs hs hw ?_; clear hs hw; intro W hs hw))
        exact ⟨hs, hw⟩
      case c13_g =>
        intro LD D a W hcl hi hp hs hw
        repeat (first | (refine sxv hs hw ?_; clear hs; intro a hs) | refine sxc hs ?_ | (refine sxa hs hw ?_; clear hs hw; intro a b W hw hs) | (refine sxs hs hw ?_; clear hs hw; intro W hs hw))
        refine st_call hs (hc := ref_EqRow x2 x2 _ _ _ (hw.rdH (by repeat (first | exact In.hd | apply In.tl)) hsv') (hw.rdH (by repeat (first | exact In.hd | apply In.tl)) hov)) (k := ?_); rintro e0 W1 ⟨rfl, hb⟩; refine ⟨_, rfl, ?_⟩; clear hs; intro a hs; replace hw := hw.below hb; clear hb
        rw [eqRow_iff.2 rfl] at hs
        repeat (first | (refine sxv hs hw ?_; clear hs; intro a hs) | refine sxc hs ?_ | (refine sxa hs hw ?_; clear hs hw; intro a b W hw hs) | (refine sxs hs hw ?_; clear hs hw; intro W hs hw))
        exact ⟨hs, hw⟩
      case k_g =>
        clear hs hw
        intro a W hs hw
        replace hw := hw.shut_own (k := t2.rows.length) (size := 5) (cap := rcap2) (xs := rxs2) hcur hcl0 hkc hcm
        repeat (first | (refine sxv hs hw ?_; clear hs; intro a hs) | refine sxc hs ?_ | (refine sxa hs hw ?_; clear hs hw; intro a b W hw hs) | (refine sxs hs hw ?_; clear hs hw; intro W hs hw))
        exact ⟨hs.of ⟨rfl, rfl, rfl, rfl, rfl, rfl, rfl, rfl, rfl, trivial⟩, hw.sel (by repeat (first | exact Sel.nil | exact Sel.refl _ | refine Sel.cons (by repeat (first | exact Pick.hd | apply Pick.tl)) ?_ | refine Sel.skip ?_))⟩
      all_goals
        intro LD D a W hcl hi hp hs hw
        repeat (first | (refine sxv hs hw ?_; clear hs; intro a hs) | refine sxc hs ?_ | (refine sxa hs hw ?_; clear hs hw; intro a b W hw hs) | (refine sxs hs hw ?_; clear hs hw; intro W hs hw))
        exact ⟨hs, hw⟩
  clear hs hw hsv' hyes hno
  rintro a W ⟨hs, hw⟩
  skip
  have hdl2 := dataT_len hok2.rows
  have hleF := hle.trans hleE
  refine sq ?_
  refine merge (M := fun a W => ∃ (q3 : Nat) (H6 : Fh), H5.le H6 ∧ Slots a 205 [(0, .slice tad l.length tcap), (1, .slice xad xl.length xcap), (2, .int .i64 from_), (3, .int .i64 n), (10, .pointer (some ⟨q3, 0, none⟩)), (11, .slice rad2 t2.rows.length rcap2), (12, .pointer (some ⟨b12, 0, none⟩)), (13, .int .i64 t2.ix), (14, .int .i64 (i : Int))] ∧ Has 0 w W (TabAt H6 q3 t2 :: Cells b12 rcs2 42 :: Sx.Own 39 5 (.slice rad2 t2.rows.length rcap2) t2.rows.length rxs2 :: Fz H6 :: [])) ?_ ?_
  · repeat (first | (refine sxv hs hw ?_; clear hs; intro a hs) | refine sxc hs ?_ | (refine sxa hs hw ?_; clear hs hw; intro a b W hw hs) | (refine sxs hs hw ?_; clear hs hw; intro W hs hw))
    cases d1 : decide ((i : Int) < (xl.length : Int)) with
    | false =>
      rw [d1] at hs
      repeat (first | (refine sxv hs hw ?_; clear hs; intro a hs) | refine sxc hs ?_ | (refine sxa hs hw ?_; clear hs hw; intro a b W hw hs) | (refine sxs hs hw ?_; clear hs hw; intro W hs hw))
      exact ⟨q, H5, Fh.le.refl _, hs.of ⟨rfl, rfl, rfl, rfl, rfl, rfl, rfl, rfl, rfl, trivial⟩, hw⟩
    | true =>
    rw [d1] at hs
    have k1 := of_decide_eq_true d1
    obtain ⟨z0, hz0⟩ : ∃ o, xl[i]? = some o := ⟨xl[i]'(by omega), List.getElem?_eq_getElem _⟩
    repeat (first | (refine sxv hs hw ?_; clear hs; intro a hs) | refine sxc hs ?_ | (refine sxa hs hw ?_; clear hs hw; intro a b W hw hs) | (refine sxs hs hw ?_; clear hs hw; intro W hs hw))
    refine st_index_ch hs (r := hw.rdH (by repeat (first | exact In.hd | apply In.tl)) (hbr.le hleF)) (hk := BoolIn.len) (ch := hbc) (ho := hz0) (hlen := rfl) (c := ?_); clear hs; intro a g3 off3 c hc hcl3 hpc hlt3 hs
    have hc : c = [.bool z0] := hc
    subst hc
    repeat (first | (refine sxv hs hw ?_; clear hs; intro a hs) | refine sxc hs ?_ | (refine sxa hs hw ?_; clear hs hw; intro a b W hw hs) | (refine sxs hs hw ?_; clear hs hw; intro W hs hw))
    refine st_load_at hs (hc := hpc 0 _ rfl) (c := ?_); clear hs; intro a hs
    clear hpc
    repeat (first | (refine sxv hs hw ?_; clear hs; intro a hs) | refine sxc hs ?_ | (refine sxa hs hw ?_; clear hs hw; intro a b W hw hs) | (refine sxs hs hw ?_; clear hs hw; intro W hs hw))
    cases z0 with
    | false =>
      repeat (first | (refine sxv hs hw ?_; clear hs; intro a hs) | refine sxc hs ?_ | (refine sxa hs hw ?_; clear hs hw; intro a b W hw hs) | (refine sxs hs hw ?_; clear hs hw; intro W hs hw))
      exact ⟨q, H5, Fh.le.refl _, hs.of ⟨rfl, rfl, rfl, rfl, rfl, rfl, rfl, rfl, rfl, trivial⟩, hw⟩
    | true =>
    repeat (first | (refine sxv hs hw ?_; clear hs; intro a hs) | refine sxc hs ?_ | (refine sxa hs hw ?_; clear hs hw; intro a b W hw hs) | (refine sxs hs hw ?_; clear hs hw; intro W hs hw))
    replace hw : Has 0 w W (TabAt H5 q t2 :: Fz H5 :: Cells b12 rcs2 42 :: Sx.Own 39 5 (.slice rad2 t2.rows.length rcap2) t2.rows.length rxs2 :: []) := hw.perm (by repeat (first | exact List.Perm.refl _ | refine perm_pick (by repeat (first | exact Pick.hd | apply Pick.tl)) ?_))
    refine st_call hs (hc := table_Data w _ H5 q t2 _ (by omega) hok2.i64 hok2.rows hleF hT hw) (k := ?_); rintro e0 W1 ⟨rfl, hw1⟩; refine ⟨_, rfl, ?_⟩; clear hs hw; intro a hs; have hw := hw1; clear hw1
    repeat (first | (refine sxv hs hw ?_; clear hs; intro a hs) | refine sxc hs ?_ | (refine sxa hs hw ?_; clear hs hw; intro a b W hw hs) | (refine sxs hs hw ?_; clear hs hw; intro W hs hw))
    replace hw : Has 0 w _ (Fz H5 :: TabAt H5 q t2 :: Cells b12 rcs2 42 :: Sx.Own 39 5 (.slice rad2 t2.rows.length rcap2) t2.rows.length rxs2 :: []) := hw.perm (by repeat (first | exact List.Perm.refl _ | refine perm_pick (by repeat (first | exact Pick.hd | apply Pick.tl)) ?_))
    refine st_call hs (hc := table_Load w _ H5 ⟨(dataT t2).toArray⟩ _ (by show (dataT t2).length ≤ _; omega) hleF hT hw) (k := ?_); rintro e0 W1 ⟨H6, hle6, hld⟩
    rcases hld with ⟨hno, _⟩ | ⟨t3, q3, hlt, rfl, hw1⟩
    · rw [show (⟨(dataT t2).toArray⟩ : ByteArray).data.toList = dataT t2 from rfl, load_data hok2] at hno; cases hno
    rw [show (⟨(dataT t2).toArray⟩ : ByteArray).data.toList = dataT t2 from rfl, load_data hok2] at hlt
    injection hlt with hlt
    subst hlt
    refine ⟨_, rfl, ?_⟩; clear hs hw; intro a hs; have hw := hw1; clear hw1
    have hleG := hleF.trans hle6
    repeat (first | (refine sxv hs hw ?_; clear hs; intro a hs) | refine sxc hs ?_ | (refine sxa hs hw ?_; clear hs hw; intro a b W hw hs) | (refine sxs hs hw ?_; clear hs hw; intro W hs hw))
    refine st_call hs (hc := table_Data w _ H6 q3 t2 _ (by omega) hok2.i64 hok2.rows hleG hT hw) (k := ?_); rintro e0 W1 ⟨rfl, hw1⟩; refine ⟨_, rfl, ?_⟩; clear hs hw; intro a hs; have hw := hw1; clear hw1
    repeat (first | (refine sxv hs hw ?_; clear hs; intro a hs) | refine sxc hs ?_ | (refine sxa hs hw ?_; clear hs hw; intro a b W hw hs) | (refine sxs hs hw ?_; clear hs hw; intro W hs hw))
    replace hw : Has 0 w _ (TabAt H6 q t2 :: Fz H6 :: TabAt H6 q3 t2 :: Cells b12 rcs2 42 :: Sx.Own 39 5 (.slice rad2 t2.rows.length rcap2) t2.rows.length rxs2 :: []) := tabLe (hw.perm (by repeat (first | exact List.Perm.refl _ | refine perm_pick (by repeat (first | exact Pick.hd | apply Pick.tl)) ?_)) : Has 0 w _ (TabAt H5 q t2 :: Fz H6 :: TabAt H6 q3 t2 :: Cells b12 rcs2 42 :: Sx.Own 39 5 (.slice rad2 t2.rows.length rcap2) t2.rows.length rxs2 :: [])) hle6
    refine st_call hs (hc := table_Data w _ H6 q t2 _ (by omega) hok2.i64 hok2.rows hleG hT hw) (k := ?_); rintro e0 W1 ⟨rfl, hw1⟩; refine ⟨_, rfl, ?_⟩; clear hs hw; intro a hs; have hw := hw1; clear hw1
    repeat (first | (refine sxv hs hw ?_; clear hs; intro a hs) | refine sxc hs ?_ | (refine sxa hs hw ?_; clear hs hw; intro a b W hw hs) | (refine sxs hs hw ?_; clear hs hw; intro W hs hw))
    rw [beq_self_eq_true] at hs
    repeat (first | (refine sxv hs hw ?_; clear hs; intro a hs) | refine sxc hs ?_ | (refine sxa hs hw ?_; clear hs hw; intro a b W hw hs) | (refine sxs hs hw ?_; clear hs hw; intro W hs hw))
    exact ⟨q3, H6, hle6, hs.of ⟨rfl, rfl, rfl, rfl, rfl, rfl, rfl, rfl, rfl, trivial⟩, hw.sel (by repeat (first | exact Sel.nil | exact Sel.refl _ | refine Sel.cons (by repeat (first | exact Pick.hd | apply Pick.tl)) ?_ | refine Sel.skip ?_))⟩
  clear hs hw
  rintro a W ⟨q3, H6, hle6, hs, hw⟩
  have hleG := hleF.trans hle6
  replace hrf2 := hrf2.le hle6
  replace hrc2 := hrc2.mono (RowIn.le hle6)
  have hstep : IntKind.i64.wrap ((i : Int) + 1) = ((i + 1 : Nat) : Int) := by rw [IntWalk.i64_in _ (by omega)]; omega
  repeat (first | (refine sxv hs hw ?_; clear hs; intro a hs) | refine sxc hs ?_ | (refine sxa hs hw ?_; clear hs hw; intro a b W hw hs) | (refine sxs hs hw ?_; clear hs hw; intro W hs hw))
  replace hw : Has 0 w W (Free :: TabAt H6 q3 t2 :: Cells b12 rcs2 42 :: Sx.Own 39 5 (.slice rad2 t2.rows.length rcap2) t2.rows.length rxs2 :: Fz H6 :: []) := hw.free
  refine rg_drawU (σ := Nat) (V := fun u => [.pointer (some ⟨q3, 0, none⟩), .int .i64 t2.ix, .int .i64 t2.ix, .bool false, .bool false, .pointer (some ⟨q3, 0, none⟩), .pointer (some ⟨u 6, 0, none⟩), .agg ⟨rcs2⟩, .bool true, .bool false, .bool false])
    (Rs := fun u D => (if D 6 then FoldAt H6 (u 6) t2.f else Free) :: TabAt H6 q3 t2 :: Cells b12 rcs2 42 :: Sx.Own 39 5 (.slice rad2 t2.rows.length rcap2) t2.rows.length rxs2 :: Fz H6 :: []) (fun _ => 0) hs hw (hVu := ?vu_h) (ho := ⟨?_, ?c1_h, ?_, ?c3_h, ?_, ?_, ?c6_h, ?c7_h, ?c8_h, ?_, ?_, trivial⟩) (k := ?k_h)
  case vu_h =>
    intro u u' j h
    rcases j with _ | _ | _ | _ | _ | _ | _ | _ | _ | _ | _ | j
    all_goals first | rfl | simp [h]
  case c1_h =>
    intro u LD D a W hcl hi hp hs hw
    have h6 := Go.Sx.not_done hcl (Go.Sx.not_done hcl hi 4 (by kernel_rfl)) 6 (by kernel_rfl)
    simp only [h6, Bool.false_eq_true, if_false] at hw
    repeat (first | (refine sxv hs hw ?_; clear hs; intro a hs) | refine sxc hs ?_ | (refine sxa hs hw ?_; clear hs hw; intro a b W hw hs) | (refine sxs hs hw ?_; clear hs hw; intro W hs hw) | ((with_reducible first | refine st_ptrSome hs (k := ?_) | refine st_ptrNone hs (k := ?_)); clear hs; intro a hs))
    replace hw : Has 0 w W (TabAt H6 q3 t2 :: Free :: Cells b12 rcs2 42 :: Sx.Own 39 5 (.slice rad2 t2.rows.length rcap2) t2.rows.length rxs2 :: Fz H6 :: []) := hw.perm (by repeat (first | exact List.Perm.refl _ | refine perm_pick (by repeat (first | exact Pick.hd | apply Pick.tl)) ?_))
    refine st_call hs (hc := table_Index w _ H6 q3 t2 _ hw) (k := ?_); rintro e0 W1 ⟨rfl, hw1⟩; refine ⟨_, rfl, ?_⟩; clear hs hw; intro a hs; have hw := hw1; clear hw1
    repeat (first | (refine sxv hs hw ?_; clear hs; intro a hs) | refine sxc hs ?_ | (refine sxa hs hw ?_; clear hs hw; intro a b W hw hs) | (refine sxs hs hw ?_; clear hs hw; intro W hs hw) | ((with_reducible first | refine st_ptrSome hs (k := ?_) | refine st_ptrNone hs (k := ?_)); clear hs; intro a hs))
    refine Or.inl ⟨hs, ?_⟩
    show Has 0 w _ ((if (Nat.beq 6 1 || D 6) = true then _ else _) :: _)
    rw [h6]
    exact hw.perm (by repeat (first | exact List.Perm.refl _ | refine perm_pick (by repeat (first | exact Pick.hd | apply Pick.tl)) ?_))
  case c3_h =>
    intro u LD D a W hcl hi hp hs hw
    repeat (first | (refine sxv hs hw ?_; clear hs; intro a hs) | refine sxc hs ?_ | (refine sxa hs hw ?_; clear hs hw; intro a b W hw hs) | (refine sxs hs hw ?_; clear hs hw; intro W hs hw) | ((with_reducible first | refine st_ptrSome hs (k := ?_) | refine st_ptrNone hs (k := ?_)); clear hs; intro a hs))
    rw [bne_self_eq_false] at hs
    exact Or.inl ⟨hs, hw⟩
  case c6_h =>
    intro u LD D a W hcl hi hp hs hw
    simp only [hi, Bool.false_eq_true, if_false] at hw
    repeat (first | (refine sxv hs hw ?_; clear hs; intro a hs) | refine sxc hs ?_ | (refine sxa hs hw ?_; clear hs hw; intro a b W hw hs) | (refine sxs hs hw ?_; clear hs hw; intro W hs hw) | ((with_reducible first | refine st_ptrSome hs (k := ?_) | refine st_ptrNone hs (k := ?_)); clear hs; intro a hs))
    replace hw : Has 0 w W (TabAt H6 q3 t2 :: Cells b12 rcs2 42 :: Sx.Own 39 5 (.slice rad2 t2.rows.length rcap2) t2.rows.length rxs2 :: Fz H6 :: []) := hw.sel (by repeat (first | exact Sel.nil | exact Sel.refl _ | refine Sel.cons (by repeat (first | exact Pick.hd | apply Pick.tl)) ?_ | refine Sel.skip ?_))
    refine st_call hs (hc := table_Fold w _ H6 q3 t2 _ hw) (k := ?_); rintro e0 W1 ⟨f1, rfl, hw1⟩; refine ⟨_, rfl, ?_⟩; clear hs hw; intro a hs; have hw := hw1; clear hw1
    repeat (first | (refine sxv hs hw ?_; clear hs; intro a hs) | refine sxc hs ?_ | (refine sxa hs hw ?_; clear hs hw; intro a b W hw hs) | (refine sxs hs hw ?_; clear hs hw; intro W hs hw) | ((with_reducible first | refine st_ptrSome hs (k := ?_) | refine st_ptrNone hs (k := ?_)); clear hs; intro a hs))
    exact Or.inr ⟨f1, hs, hw⟩
  case c7_h =>
    intro u LD D a W hcl hi hp hs hw
    repeat (first | (refine sxv hs hw ?_; clear hs; intro a hs) | refine sxc hs ?_ | (refine sxa hs hw ?_; clear hs hw; intro a b W hw hs) | (refine sxs hs hw ?_; clear hs hw; intro W hs hw) | ((with_reducible first | refine st_ptrSome hs (k := ?_) | refine st_ptrNone hs (k := ?_)); clear hs; intro a hs))
    refine st_load_agg hs (hw := hw) (hi := In.tl (In.tl In.hd)) (hl := by rw [hlen2]; rfl) (k := ?_); clear hs; intro a hs
    have hs2 : Slots a 205 ((169, .agg ⟨cut rcs2 0 38⟩) :: _) := hs
    rw [cut_all _ _ hlen2] at hs2
    repeat (first | (refine sxv hs hw ?_; clear hs; intro a hs) | refine sxc hs ?_ | (refine sxa hs hw ?_; clear hs hw; intro a b W hw hs) | (refine sxs hs hw ?_; clear hs hw; intro W hs hw) | ((with_reducible first | refine st_ptrSome hs (k := ?_) | refine st_ptrNone hs (k := ?_)); clear hs; intro a hs))
    exact Or.inl ⟨hs2, hw⟩
  case c8_h =>
    intro u LD D a W hcl hi hp hs hw
    have h6 := Go.Sx.done hp 6 (by kernel_rfl)
    simp only [h6, if_true] at hw
    repeat (first | (refine sxv hs hw ?_; clear hs; intro a hs) | refine sxc hs ?_ | (refine sxa hs hw ?_; clear hs hw; intro a b W hw hs) | (refine sxs hs hw ?_; clear hs hw; intro W hs hw) | ((with_reducible first | refine st_ptrSome hs (k := ?_) | refine st_ptrNone hs (k := ?_)); clear hs; intro a hs))
    replace hw : Has 0 w W (FoldAt H6 (u 6) t2.f :: Fz H6 :: TabAt H6 q3 t2 :: Cells b12 rcs2 42 :: Sx.Own 39 5 (.slice rad2 t2.rows.length rcap2) t2.rows.length rxs2 :: []) := hw.perm (by repeat (first | exact List.Perm.refl _ | refine perm_pick (by repeat (first | exact Pick.hd | apply Pick.tl)) ?_))
    refine st_call hs (hc := law7_Same w _ H6 (u 6) t2.f rcs2 _ hfine2.ok hrf2 hw) (k := ?_); rintro e0 W1 ⟨rfl, hw1⟩; refine ⟨_, rfl, ?_⟩; clear hs hw; intro a hs; have hw := hw1; clear hw1
    repeat (first | (refine sxv hs hw ?_; clear hs; intro a hs) | refine sxc hs ?_ | (refine sxa hs hw ?_; clear hs hw; intro a b W hw hs) | (refine sxs hs hw ?_; clear hs hw; intro W hs hw) | ((with_reducible first | refine st_ptrSome hs (k := ?_) | refine st_ptrNone hs (k := ?_)); clear hs; intro a hs))
    refine Or.inl ⟨hs, ?_⟩
    show Has 0 w _ ((if (Nat.beq 6 8 || D 6) = true then _ else _) :: _)
    rw [h6]
    exact hw.perm (by repeat (first | exact List.Perm.refl _ | refine perm_pick (by repeat (first | exact Pick.hd | apply Pick.tl)) ?_))
  case k_h =>
    clear hs hw
    intro u a W hs hw
    replace hw : Has 0 w W (FoldAt H6 (u 6) t2.f :: TabAt H6 q3 t2 :: Cells b12 rcs2 42 :: Sx.Own 39 5 (.slice rad2 t2.rows.length rcap2) t2.rows.length rxs2 :: Fz H6 :: []) := hw
    replace hs : Slots a 205 [(172, .bool false), (0, .slice tad l.length tcap), (1, .slice xad xl.length xcap), (2, .int .i64 from_), (3, .int .i64 n), (10, .pointer (some ⟨q3, 0, none⟩)), (11, .slice rad2 t2.rows.length rcap2), (12, .pointer (some ⟨b12, 0, none⟩)), (13, .int .i64 t2.ix), (14, .int .i64 (i : Int))] := hs.of ⟨rfl, rfl, rfl, rfl, rfl, rfl, rfl, rfl, rfl, rfl, trivial⟩
    replace hw : Has 0 w W (TabAt H6 q3 t2 :: Cells b12 rcs2 42 :: Sx.Own 39 5 (.slice rad2 t2.rows.length rcap2) t2.rows.length rxs2 :: Fz H6 :: []) := hw.sel (by repeat (first | exact Sel.nil | exact Sel.refl _ | refine Sel.cons (by repeat (first | exact Pick.hd | apply Pick.tl)) ?_ | refine Sel.skip ?_))
    repeat (first | (refine sxv hs hw ?_; clear hs; intro a hs) | refine sxc hs ?_ | (refine sxa hs hw ?_; clear hs hw; intro a b W hw hs) | (refine sxs hs hw ?_; clear hs hw; intro W hs hw))
    exact st_again (i + 1, t2, q3, rcs2, rad2, rcap2, rxs2, H6) hs hw ⟨by show i + 1 ≤ _; omega, by show i + 1 ≤ _; omega, hok2, hrl2, hixe, hleG, hrf2, hrc2⟩ (by show l.length - (i + 1) < l.length - i; omega) ⟨rfl, rfl, rfl, rfl, rfl, rfl, rfl, rfl, int_eq hstep, trivial⟩
  all_goals
    intro u LD D a W hcl hi hp hs hw
    repeat (first | (refine sxv hs hw ?_; clear hs; intro a hs) | refine sxc hs ?_ | (refine sxa hs hw ?_; clear hs hw; intro a b W hw hs) | (refine sxs hs hw ?_; clear hs hw; intro W hs hw))
    exact Or.inl ⟨hs, hw⟩
end Go.Proofs.YtmalklakaalaoaaGreatDoor.Sw
