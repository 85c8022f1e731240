/-
  Texts of the proof, one behind the other (part 9).
-/
import Derived.Test.YtmalklakaalaoaaGreatDoorM8
set_option linter.unusedVariables false
set_option maxRecDepth 10000
namespace Go.Proofs.YtmalklakaalaoaaGreatDoor.Sw
open Go.RowKit Go.Sx
def rowOf (f : FoldD) (c : Int) : RowD := if 1 ≤ c ∧ c ≤ 5 then ((f.told[c.toNat]?).map (·.2)).getD zeroRow else zeroRow
def toldOf (f : FoldD) (c : Int) : RowD := if lastOf f c = 0 then zeroRow else rowOf f c
structure FoldOk (f : FoldD) : Prop where
  doc : DocFine f.d
  six : f.told.length = 6
  told : ∀ x ∈ f.told, 0 ≤ x.1 ∧ (x.1 = 0 → x.2 = zeroRow) ∧ x.2.b.l.length ≤ 8
theorem FoldOk.at_ {f : FoldD} (h : FoldOk f) {c : Int} (hc : 1 ≤ c ∧ c ≤ 5) : ∃ x, f.told[c.toNat]? = some x ∧ x ∈ f.told ∧ lastOf f c = x.1 ∧ rowOf f c = x.2 := by
  have hlt : c.toNat < f.told.length := by rw [h.six]; omega
  refine ⟨f.told[c.toNat], List.getElem?_eq_getElem hlt, List.getElem_mem hlt, lastOf_at hc.1 hc.2 (List.getElem?_eq_getElem hlt), ?_⟩
  unfold rowOf
  rw [if_pos hc, List.getElem?_eq_getElem hlt]
  rfl
theorem FoldOk.last {f : FoldD} (h : FoldOk f) (c : Int) : 0 ≤ lastOf f c := by
  by_cases hc : 1 ≤ c ∧ c ≤ 5
  · obtain ⟨x, _, hm, h1, _⟩ := h.at_ hc
    rw [h1]; exact (h.told x hm).1
  · unfold lastOf; rw [if_neg hc]; exact Int.le_refl _
theorem FoldOk.toldOf {f : FoldD} (h : FoldOk f) (c : Int) : toldOf f c = rowOf f c := by
  unfold Sw.toldOf
  by_cases hc : 1 ≤ c ∧ c ≤ 5
  · obtain ⟨x, _, hm, h1, h2⟩ := h.at_ hc
    split
    · rename_i h0
      rw [h2, (h.told x hm).2.1 (by rw [← h1]; exact h0)]
    · rfl
  · split
    · unfold rowOf; rw [if_neg hc]
    · rfl
set_option maxHeartbeats 4000000 in
theorem fold_Doc (w0 W : World) (H : Fh) (p : Nat) (f : FoldD) (R : List Res) (hw : Has 0 w0 W (FoldAt H p f :: R)) :
    Calls Tryz.prog 43 ⟨[.pointer (some ⟨p, 0, none⟩)]⟩ W fun e W' => ∃ c, e = .returned (.pointer (some ⟨c, 0, none⟩)) ∧ Has 0 w0 W' (DocAt c f.d :: FoldAt H p f :: R) := by
  obtain ⟨pd, xs, ht, hw⟩ := foldOpen hw
  refine enter Tryz.func43 Tryz.ntmps43 rfl rfl fun a hs => ?_
  repeat (first | (refine sxv hs hw ?_; clear hs; intro a hs) | refine sxc hs ?_ | (refine sxa hs hw ?_; clear hs hw; intro a b W hw hs) | (refine sxs hs hw ?_; clear hs hw; intro W hs hw) | ((with_reducible first | refine st_ptrSome hs (k := ?_) | refine st_ptrNone hs (k := ?_)); clear hs; intro a hs))
  refine st_call hs (hc := doc_Copy w0 _ pd f.d _ hw.swap2) (k := ?_); rintro e0 W1 ⟨c, rfl, hw1⟩; refine ⟨_, rfl, ?_⟩; clear hs hw; intro a hs; have hw := hw1; clear hw1
  repeat (first | (refine sxv hs hw ?_; clear hs; intro a hs) | refine sxc hs ?_ | (refine sxa hs hw ?_; clear hs hw; intro a b W hw hs) | (refine sxs hs hw ?_; clear hs hw; intro W hs hw) | ((with_reducible first | refine st_ptrSome hs (k := ?_) | refine st_ptrNone hs (k := ?_)); clear hs; intro a hs))
  have hw : Has 0 w0 _ (Cells p (foldCells f.place pd xs) 126 :: DocAt pd f.d :: DocAt c f.d :: R) := hw.perm (by repeat (first | exact List.Perm.refl _ | refine perm_pick (by repeat (first | exact Pick.hd | apply Pick.tl)) ?_))
  exact rt1 hs rfl rfl ⟨c, rfl, (foldShut hw ht).swap2⟩
set_option maxHeartbeats 8000000 in
theorem fold_Told (w0 W : World) (H : Fh) (p : Nat) (f : FoldD) (c : Int) (R : List Res) (h8 : ∀ x ∈ f.told, x.2.b.l.length ≤ 8) (hw : Has 0 w0 W (FoldAt H p f :: Fz H :: R)) :
    Calls Tryz.prog 50 ⟨[.pointer (some ⟨p, 0, none⟩), .int .i64 c]⟩ W fun e W' => ∃ sv H', e = .returned (.tuple ⟨[.agg ⟨rowCells (toldOf f c) sv⟩, .bool (!(lastOf f c == 0))]⟩) ∧ H.le H' ∧ OpsH H' sv (toldOf f c).b.l ∧ Has 0 w0 W' (FoldAt H p f :: Fz H' :: R) := by
  refine enter Tryz.func50 Tryz.ntmps50 rfl rfl fun a hs => ?_
  repeat (first | (refine sxv hs hw ?_; clear hs; intro a hs) | refine sxc hs ?_ | (refine sxa hs hw ?_; clear hs hw; intro a b W hw hs) | (refine sxs hs hw ?_; clear hs hw; intro W hs hw) | ((with_reducible first | refine st_ptrSome hs (k := ?_) | refine st_ptrNone hs (k := ?_)); clear hs; intro a hs))
  obtain ⟨b4, q4⟩ := nm1 hw; subst q4
  refine st_call hs (hc := fold_Last w0 _ H p f c _ hw.swap2) (k := ?_); rintro e0 W1 ⟨rfl, hw1⟩; refine ⟨_, rfl, ?_⟩; clear hs hw; intro a hs; have hw := hw1; clear hw1
  repeat (first | (refine sxv hs hw ?_; clear hs; intro a hs) | refine sxc hs ?_ | (refine sxa hs hw ?_; clear hs hw; intro a b W hw hs) | (refine sxs hs hw ?_; clear hs hw; intro W hs hw) | ((with_reducible first | refine st_ptrSome hs (k := ?_) | refine st_ptrNone hs (k := ?_)); clear hs; intro a hs))
  cases h0 : (lastOf f c == 0) with
  | true =>
    rw [h0] at hs
    have hT : toldOf f c = zeroRow := by unfold toldOf; rw [if_pos (by simpa using h0)]
    repeat (first | (refine sxv hs hw ?_; clear hs; intro a hs) | refine sxc hs ?_ | (refine sxa hs hw ?_; clear hs hw; intro a b W hw hs) | (refine sxs hs hw ?_; clear hs hw; intro W hs hw) | ((with_reducible first | refine st_ptrSome hs (k := ?_) | refine st_ptrNone hs (k := ?_)); clear hs; intro a hs))
    refine rc2 hs rfl rfl hw (In.tl In.hd) rfl rfl ?_
    rw [hT]
    exact ⟨.slice none 0 0, H, rfl, Fh.le.refl _, ops_nil H, hw.sub (List.Sublist.cons_cons _ (List.Sublist.cons _ (List.Sublist.refl _)))⟩
  | false =>
    rw [h0] at hs
    have h0' : ¬ lastOf f c = 0 := by simpa using h0
    have hc : 1 ≤ c ∧ c ≤ 5 := by
      by_cases hc : 1 ≤ c ∧ c ≤ 5
      · exact hc
      · exfalso; apply h0'; unfold lastOf; rw [if_neg hc]
    obtain ⟨pd, xs, ht, hw⟩ := foldOpen hw
    obtain ⟨x, hx⟩ : ∃ x, f.told[c.toNat]? = some x := ⟨f.told[c.toNat]'(by rw [ht.1]; omega), List.getElem?_eq_getElem _⟩
    have hT : toldOf f c = x.2 := by unfold toldOf rowOf; rw [if_neg h0', if_pos hc, hx]; rfl
    have hx8 := h8 x (List.mem_of_getElem? hx)
    obtain ⟨sv, hsv, h6⟩ := told_get ht hx
    rw [hT]
    repeat (first | (refine sxv hs hw ?_; clear hs; intro a hs) | refine sxc hs ?_ | (refine sxa hs hw ?_; clear hs hw; intro a b W hw hs) | (refine sxs hs hw ?_; clear hs hw; intro W hs hw) | ((with_reducible first | refine st_ptrSome hs (k := ?_) | refine st_ptrNone hs (k := ?_)); clear hs; intro a hs))
    refine st_index_arr hs (h0 := by omega) (h1 := by omega) (c := ?_); clear hs; intro a hs
    repeat (first | (refine sxv hs hw ?_; clear hs; intro a hs) | refine sxc hs ?_ | (refine sxa hs hw ?_; clear hs hw; intro a b W hw hs) | (refine sxs hs hw ?_; clear hs hw; intro W hs hw) | ((with_reducible first | refine st_ptrSome hs (k := ?_) | refine st_ptrNone hs (k := ?_)); clear hs; intro a hs))
    refine st_load_ats (z := zrc) hs (cs := rowCells x.2 sv) (hc := fun j u hu => ?hcc) (hl := rfl) (c := ?_)
    case hcc =>
      rw [cell_block (hw.block In.hd).1]
      show (foldCells f.place pd xs)[0 + 2 + c.toNat * 6 + 1 + j]? = _
      rw [show 0 + 2 + c.toNat * 6 + 1 + j = c.toNat * 6 + (j + 1) + 1 + 1 by omega]
      have h9 := congrArg (fun t => t[j + 1]?) h6
      simp only [cut_eq, List.getElem?_take, List.getElem?_drop, List.getElem?_cons_succ] at h9
      rw [hu] at h9
      split at h9
      · simpa [foldCells] using h9
      · cases h9
    clear hs; intro a hs
    repeat (first | (refine sxv hs hw ?_; clear hs; intro a hs) | refine sxc hs ?_ | (refine sxa hs hw ?_; clear hs hw; intro a b W hw hs) | (refine sxs hs hw ?_; clear hs hw; intro W hs hw) | ((with_reducible first | refine st_ptrSome hs (k := ?_) | refine st_ptrNone hs (k := ?_)); clear hs; intro a hs))
    have hw : Has 0 w0 _ (Fz H :: Cells p (foldCells f.place pd xs) 126 :: DocAt pd f.d :: Cells b4 zrc 39 :: R) := hw.perm (by repeat (first | exact List.Perm.refl _ | refine perm_pick (by repeat (first | exact Pick.hd | apply Pick.tl)) ?_))
    refine st_call hs (hc := fold_own w0 _ H x.2 sv _ (by omega) hsv hw) (k := ?_); rintro e0 W1 ⟨sv', H', rfl, hle, hsv', hw1⟩; refine ⟨_, rfl, ?_⟩; clear hs hw; intro a hs; have hw := hw1; clear hw1
    obtain ⟨tad, tcap, rfl⟩ := hsv'.slice
    repeat (first | (refine sxv hs hw ?_; clear hs; intro a hs) | refine sxc hs ?_ | (refine sxa hs hw ?_; clear hs hw; intro a b W hw hs) | (refine sxs hs hw ?_; clear hs hw; intro W hs hw) | ((with_reducible first | refine st_ptrSome hs (k := ?_) | refine st_ptrNone hs (k := ?_)); clear hs; intro a hs))
    refine rc2 hs rfl rfl hw (In.tl (In.tl (In.tl In.hd))) rfl rfl ?_
    have hw : Has 0 w0 _ (Cells p (foldCells f.place pd xs) 126 :: DocAt pd f.d :: Cells b4 (rowCells x.2 (.slice tad x.2.b.l.length tcap)) 39 :: Fz H' :: R) := hw.perm (by repeat (first | exact List.Perm.refl _ | refine perm_pick (by repeat (first | exact Pick.hd | apply Pick.tl)) ?_))
    exact ⟨_, H', rfl, hle, hsv', (foldShut hw ht).sub (List.Sublist.cons_cons _ (List.Sublist.cons _ (List.Sublist.refl _)))⟩
end Go.Proofs.YtmalklakaalaoaaGreatDoor.Sw

set_option linter.unusedVariables false
set_option maxRecDepth 10000
namespace Go.Proofs.YtmalklakaalaoaaGreatDoor.Sw
open Go.RowKit Go.Sx
set_option maxHeartbeats 16000000 in
theorem law7_Same (w0 W : World) (H : Fh) (p : Nat) (f : FoldD) (cs : List Value) (R : List Res) (hok : FoldOk f) (hf : RfIn H f cs) (hw : Has 0 w0 W (FoldAt H p f :: Fz H :: R)) :
    Calls Tryz.prog 17 ⟨[.pointer (some ⟨p, 0, none⟩), .agg ⟨cs⟩]⟩ W fun e W' => e = .returned (.bool true) ∧ Has 0 w0 W' (FoldAt H p f :: Fz H :: R) := by
  obtain ⟨dv, ls, ts, rfl, hdv, h6, hls, hts⟩ := hf
  obtain ⟨hll, htl⟩ := rf_len h6 hls hts
  obtain ⟨dad, dcap, rfl⟩ := hdv.slice
  refine enter Tryz.func17 Tryz.ntmps17 rfl rfl fun a hs => ?_
  repeat (first | (refine sxv hs hw ?_; clear hs; intro a hs) | refine sxc hs ?_ | (refine sxa hs hw ?_; clear hs hw; intro a b W hw hs) | (refine sxs hs hw ?_; clear hs hw; intro W hs hw) | ((with_reducible first | refine st_ptrSome hs (k := ?_) | refine st_ptrNone hs (k := ?_)); clear hs; intro a hs))
  obtain ⟨b3, q3⟩ := nm1 hw; subst q3
  have hw : Has 0 w0 _ (Free :: FoldAt H p f :: Cells b3 (rfC f.place (.slice dad f.d.length dcap) ls ts) 42 :: Fz H :: R) := (hw.perm (List.Perm.swap _ _ _)).free
  refine rg_drawU (σ := Nat) (V := fun u => [.pointer (some ⟨p, 0, none⟩), .bool false, .bool false, .pointer (some ⟨p, 0, none⟩), .int .i64 f.place, .pointer (some ⟨b3, 0 + 0, none⟩), .int .i64 f.place, .bool false, .bool false, .bool false, .pointer (some ⟨p, 0, none⟩), .pointer (some ⟨u 11, 0, none⟩), .pointer (some ⟨b3, 0 + 1, none⟩), .agg ⟨[.slice dad f.d.length dcap]⟩, .bool true, .bool false, .bool false])
    (Rs := fun u D => (if D 14 then Free else if D 11 then DocAt (u 11) f.d else Free) :: FoldAt H p f :: Cells b3 (rfC f.place (.slice dad f.d.length dcap) ls ts) 42 :: Fz H :: R) (fun _ => 0) hs hw (hVu := ?vu_c) (ho := ⟨?_, ?_, ?_, ?_, ?c4_c, ?_, ?_, ?c7_c, ?_, ?_, ?_, ?c11_c, ?_, ?c13_c, ?c14_c, ?_, ?_, trivial⟩) (k := ?k_c)
  case vu_c =>
    intro u u' j h
    rcases j with _ | _ | _ | _ | _ | _ | _ | _ | _ | _ | _ | _ | _ | _ | _ | _ | _ | j
    all_goals first | rfl | simp [h]
  case c4_c =>
    intro u LD D a W hcl hi hp hs hw
    repeat (first | (refine sxv hs hw ?_; clear hs; intro a hs) | refine sxc hs ?_ | (refine sxa hs hw ?_; clear hs hw; intro a b W hw hs) | (refine sxs hs hw ?_; clear hs hw; intro W hs hw) | ((with_reducible first | refine st_ptrSome hs (k := ?_) | refine st_ptrNone hs (k := ?_)); clear hs; intro a hs))
    refine st_call hs (hc := fold_Place w0 _ H p f _ hw.swap2) (k := ?_); rintro e0 W1 ⟨rfl, hw1⟩; refine ⟨_, rfl, ?_⟩; clear hs hw; intro a hs; have hw := hw1.swap2; clear hw1
    repeat (first | (refine sxv hs hw ?_; clear hs; intro a hs) | refine sxc hs ?_ | (refine sxa hs hw ?_; clear hs hw; intro a b W hw hs) | (refine sxs hs hw ?_; clear hs hw; intro W hs hw) | ((with_reducible first | refine st_ptrSome hs (k := ?_) | refine st_ptrNone hs (k := ?_)); clear hs; intro a hs))
    exact Or.inl ⟨hs, hw⟩
  case c7_c =>
    intro u LD D a W hcl hi hp hs hw
    repeat (first | (refine sxv hs hw ?_; clear hs; intro a hs) | refine sxc hs ?_ | (refine sxa hs hw ?_; clear hs hw; intro a b W hw hs) | (refine sxs hs hw ?_; clear hs hw; intro W hs hw) | ((with_reducible first | refine st_ptrSome hs (k := ?_) | refine st_ptrNone hs (k := ?_)); clear hs; intro a hs))
    rw [show (f.place != f.place) = false from bne_self_eq_false _] at hs
    repeat (first | (refine sxv hs hw ?_; clear hs; intro a hs) | refine sxc hs ?_ | (refine sxa hs hw ?_; clear hs hw; intro a b W hw hs) | (refine sxs hs hw ?_; clear hs hw; intro W hs hw) | ((with_reducible first | refine st_ptrSome hs (k := ?_) | refine st_ptrNone hs (k := ?_)); clear hs; intro a hs))
    exact Or.inl ⟨hs, hw⟩
  case c11_c =>
    intro u LD D a W hcl hi hp hs hw
    have h14 := Go.Sx.not_done hcl hi 14 (by kernel_rfl)
    simp only [hi, h14, Bool.false_eq_true, if_false] at hw
    repeat (first | (refine sxv hs hw ?_; clear hs; intro a hs) | refine sxc hs ?_ | (refine sxa hs hw ?_; clear hs hw; intro a b W hw hs) | (refine sxs hs hw ?_; clear hs hw; intro W hs hw) | ((with_reducible first | refine st_ptrSome hs (k := ?_) | refine st_ptrNone hs (k := ?_)); clear hs; intro a hs))
    refine st_call hs (hc := fold_Doc w0 _ H p f _ (hw.sub (List.Sublist.cons _ (List.Sublist.refl _)))) (k := ?_); rintro e0 W1 ⟨c, rfl, hw1⟩; refine ⟨_, rfl, ?_⟩; clear hs hw; intro a hs; have hw := hw1; clear hw1
    repeat (first | (refine sxv hs hw ?_; clear hs; intro a hs) | refine sxc hs ?_ | (refine sxa hs hw ?_; clear hs hw; intro a b W hw hs) | (refine sxs hs hw ?_; clear hs hw; intro W hs hw) | ((with_reducible first | refine st_ptrSome hs (k := ?_) | refine st_ptrNone hs (k := ?_)); clear hs; intro a hs))
    refine Or.inr ⟨c, hs, ?_⟩
    show Has 0 w0 _ ((if (Nat.beq 14 11 || D 14) = true then _ else _) :: _)
    rw [h14]
    exact hw
  case c13_c =>
    intro u LD D a W hcl hi hp hs hw
    have hcut : cut (rfC f.place (.slice dad f.d.length dcap) ls ts) (0 + 1) 1 = [.slice dad f.d.length dcap] := by rw [cut_eq]; rfl
    repeat (first | (refine sxv hs hw ?_; clear hs; intro a hs) | refine sxc hs ?_ | (refine sxa hs hw ?_; clear hs hw; intro a b W hw hs) | (refine sxs hs hw ?_; clear hs hw; intro W hs hw) | ((with_reducible first | refine st_ptrSome hs (k := ?_) | refine st_ptrNone hs (k := ?_)); clear hs; intro a hs))
    rw [show cut (rfC f.place (.slice dad f.d.length dcap) ls ts) (0 + 1) [Value.slice none 0 0].length = [.slice dad f.d.length dcap] from hcut] at hs
    exact Or.inl ⟨hs, hw⟩
  case c14_c =>
    intro u LD D a W hcl hi hp hs hw
    have h11 := Go.Sx.done hp 11 (by kernel_rfl)
    simp only [hi, h11, Bool.false_eq_true, if_false, if_true] at hw
    repeat (first | (refine sxv hs hw ?_; clear hs; intro a hs) | refine sxc hs ?_ | (refine sxa hs hw ?_; clear hs hw; intro a b W hw hs) | (refine sxs hs hw ?_; clear hs hw; intro W hs hw) | ((with_reducible first | refine st_ptrSome hs (k := ?_) | refine st_ptrNone hs (k := ?_)); clear hs; intro a hs))
    have hw : Has 0 w0 _ (DocAt (u 11) f.d :: Fz H :: FoldAt H p f :: Cells b3 (rfC f.place (.slice dad f.d.length dcap) ls ts) 42 :: R) := hw.perm (by repeat (first | exact List.Perm.refl _ | refine perm_pick (by repeat (first | exact Pick.hd | apply Pick.tl)) ?_))
    refine st_call hs (hc := law6_Same w0 _ H (u 11) f.d _ _ hok.doc hdv hw) (k := ?_); rintro e0 W1 ⟨rfl, hw1⟩; refine ⟨_, rfl, ?_⟩; clear hs hw; intro a hs
    have hw : Has 0 w0 _ (Free :: FoldAt H p f :: Cells b3 (rfC f.place (.slice dad f.d.length dcap) ls ts) 42 :: Fz H :: R) := ((hw1.sub (List.Sublist.cons _ (List.Sublist.refl _))).perm (by repeat (first | exact List.Perm.refl _ | refine perm_pick (by repeat (first | exact Pick.hd | apply Pick.tl)) ?_))).free
    clear hw1
    repeat (first | (refine sxv hs hw ?_; clear hs; intro a hs) | refine sxc hs ?_ | (refine sxa hs hw ?_; clear hs hw; intro a b W hw hs) | (refine sxs hs hw ?_; clear hs hw; intro W hs hw) | ((with_reducible first | refine st_ptrSome hs (k := ?_) | refine st_ptrNone hs (k := ?_)); clear hs; intro a hs))
    exact Or.inl ⟨hs, hw⟩
  case k_c =>
    clear hs hw
    intro u a W hs hw
    replace hw : Has 0 w0 W (Free :: FoldAt H p f :: Cells b3 (rfC f.place (.slice dad f.d.length dcap) ls ts) 42 :: Fz H :: R) := hw
    replace hw := hw.sub (List.Sublist.cons _ (List.Sublist.refl _))
    replace hs : Slots a 69 [(0, .pointer (some ⟨p, 0, none⟩)), (3, .pointer (some ⟨b3, 0, none⟩)), (26, .bool false)] := hs.of ⟨rfl, rfl, rfl, trivial⟩
    clear u
    repeat (first | (refine sxv hs hw ?_; clear hs; intro a hs) | refine sxc hs ?_ | (refine sxa hs hw ?_; clear hs hw; intro a b W hw hs) | (refine sxs hs hw ?_; clear hs hw; intro W hs hw) | ((with_reducible first | refine st_ptrSome hs (k := ?_) | refine st_ptrNone hs (k := ?_)); clear hs; intro a hs))
    refine st_loop (σ := Nat) (fun i => [(0, .pointer (some ⟨p, 0, none⟩)), (3, .pointer (some ⟨b3, 0, none⟩)), (5, .int .i64 (i : Int))]) (fun _ => FoldAt H p f :: Cells b3 (rfC f.place (.slice dad f.d.length dcap) ls ts) 42 :: Fz H :: R) (fun i => i ≤ 7) (fun i => 7 - i) 0 (Nat.zero_le _) hs ⟨rfl, rfl, rfl, trivial⟩ hw ?_
    clear hs hw
    rintro i a W hi hs hw
    repeat (first | (refine sxv hs hw ?_; clear hs; intro a hs) | refine sxc hs ?_ | (refine sxa hs hw ?_; clear hs hw; intro a b W hw hs) | (refine sxs hs hw ?_; clear hs hw; intro W hs hw) | ((with_reducible first | refine st_ptrSome hs (k := ?_) | refine st_ptrNone hs (k := ?_)); clear hs; intro a hs))
    refine cd_split hs (kt := fun hcc => ?_) (kf := fun hcc => ?_)
    · have hi' : i ≤ 6 := by have : (i : Int) ≤ 6 := by simpa using hcc
                             omega
      repeat (first | (refine sxv hs hw ?_; clear hs; intro a hs) | refine sxn hs ?_ | (refine sxa hs hw ?_; clear hs hw; intro a b W hw hs) | (refine sxs hs hw ?_; clear hs hw; intro W hs hw))
      refine sq ?_
      repeat (first | (refine sxv hs hw ?_; clear hs; intro a hs) | refine sxn hs ?_ | (refine sxa hs hw ?_; clear hs hw; intro a b W hw hs) | (refine sxs hs hw ?_; clear hs hw; intro W hs hw))
      obtain ⟨b7, q7⟩ := nm1 hw; subst q7
      refine sq ?_
      refine merge (M := fun a W => ∃ sv, OpsH H sv (rowOf f i).b.l ∧ Slots a 69 [(0, .pointer (some ⟨p, 0, none⟩)), (3, .pointer (some ⟨b3, 0, none⟩)), (5, .int .i64 (i : Int)), (6, .int .i64 (lastOf f i)), (7, .pointer (some ⟨b7, 0, none⟩))] ∧ Has 0 w0 W (Cells b7 (rowCells (rowOf f i) sv) 39 :: FoldAt H p f :: Cells b3 (rfC f.place (.slice dad f.d.length dcap) ls ts) 42 :: Fz H :: R)) ?_ ?_
      · repeat (first | (refine sxv hs hw ?_; clear hs; intro a hs) | refine sxc hs ?_ | (refine sxa hs hw ?_; clear hs hw; intro a b W hw hs) | (refine sxs hs hw ?_; clear hs hw; intro W hs hw) | ((with_reducible first | refine st_ptrSome hs (k := ?_) | refine st_ptrNone hs (k := ?_)); clear hs; intro a hs))
        by_cases hc : 1 ≤ (i : Int) ∧ (i : Int) ≤ 5
        · rw [show decide ((i : Int) ≥ 1) = true from decide_eq_true hc.1] at hs
          repeat (first | (refine sxv hs hw ?_; clear hs; intro a hs) | refine sxc hs ?_ | (refine sxa hs hw ?_; clear hs hw; intro a b W hw hs) | (refine sxs hs hw ?_; clear hs hw; intro W hs hw) | ((with_reducible first | refine st_ptrSome hs (k := ?_) | refine st_ptrNone hs (k := ?_)); clear hs; intro a hs))
          rw [show decide ((i : Int) ≤ 5) = true from decide_eq_true hc.2] at hs
          obtain ⟨x, hx, hmem, hlx, hrx⟩ := hok.at_ hc
          rw [Int.toNat_natCast] at hx
          obtain ⟨c1, rfl, hc1, hcut1⟩ := hls.get NumIn.len hx
          obtain ⟨c2, ⟨sv, rfl, hsv⟩, hc2, hcut2⟩ := hts.get ToRow.len hx
          have hL : ls[i]? = some (.int .i64 x.1) := by
            have := congrArg (fun t => t[0]?) hcut1
            simpa [cut_eq] using this
          have hT : ∀ j u, (rowCells x.2 sv)[j]? = some u → ts[i * 5 + j]? = some u := by
            intro j u hu
            have := congrArg (fun t => t[j]?) hcut2
            simp only [cut_eq, List.getElem?_take, List.getElem?_drop] at this
            rw [hu] at this
            split at this
            · exact this
            · cases this
          rw [hrx, hlx]
          repeat (first | (refine sxv hs hw ?_; clear hs; intro a hs) | refine sxc hs ?_ | (refine sxa hs hw ?_; clear hs hw; intro a b W hw hs) | (refine sxs hs hw ?_; clear hs hw; intro W hs hw) | ((with_reducible first | refine st_ptrSome hs (k := ?_) | refine st_ptrNone hs (k := ?_)); clear hs; intro a hs))
          have hw : Has 0 w0 _ (Cells b7 zrc 39 :: FoldAt H p f :: Cells b3 (rfC f.place (.slice dad f.d.length dcap) ls ts) 42 :: Fz H :: R) := hw
          refine rg_draw (V := [.int .i64 (i : Int), .pointer (some ⟨b3, 0 + 2, none⟩), .pointer (some ⟨b3, 0 + 2 + i * 1, none⟩), .int .i64 x.1, .int .i64 (i : Int), .pointer (some ⟨b3, 0 + 8, none⟩), .pointer (some ⟨b3, 0 + 8 + i * 5, none⟩), .agg ⟨rowCells x.2 sv⟩, .int .i64 x.1, undef])
            (Rs := fun D => (if D 9 then Cells b7 (rowCells x.2 sv) 39 else Cells b7 zrc 39) :: FoldAt H p f :: Cells b3 (rfC f.place (.slice dad f.d.length dcap) ls ts) 42 :: Fz H :: R) hs hw (ho := ⟨?_, ?_, ?d2_c, ?d3_c, ?_, ?_, ?d6_c, ?d7_c, ?_, ?d9_c, trivial⟩) (k := ?kd_c)
          case d2_c =>
            intro LD D a W hcl hi hp hs hw
            refine st_index_arr hs (h0 := by omega) (h1 := by omega) (c := ?_); clear hs; intro a hs
            repeat (first | (refine sxv hs hw ?_; clear hs; intro a hs) | refine sxc hs ?_ | (refine sxa hs hw ?_; clear hs hw; intro a b W hw hs) | (refine sxs hs hw ?_; clear hs hw; intro W hs hw) | ((with_reducible first | refine st_ptrSome hs (k := ?_) | refine st_ptrNone hs (k := ?_)); clear hs; intro a hs))
            exact ⟨hs, hw⟩
          case d6_c =>
            intro LD D a W hcl hi hp hs hw
            refine st_index_arr hs (h0 := by omega) (h1 := by omega) (c := ?_); clear hs; intro a hs
            repeat (first | (refine sxv hs hw ?_; clear hs; intro a hs) | refine sxc hs ?_ | (refine sxa hs hw ?_; clear hs hw; intro a b W hw hs) | (refine sxs hs hw ?_; clear hs hw; intro W hs hw) | ((with_reducible first | refine st_ptrSome hs (k := ?_) | refine st_ptrNone hs (k := ?_)); clear hs; intro a hs))
            exact ⟨hs, hw⟩
          case d3_c =>
            intro LD D a W hcl hi hp hs hw
            refine st_load_one hs (hw := hw) (hi := In.tl (In.tl In.hd)) (v := .int .i64 x.1) (hv := ?hv) (k := ?_)
            case hv =>
              rw [show 0 + 2 + i * 1 = i + 1 + 1 by omega]
              show (ls ++ ts)[i]? = _
              rw [List.getElem?_append_left (by omega)]
              exact hL
            clear hs; intro a hs
            repeat (first | (refine sxv hs hw ?_; clear hs; intro a hs) | refine sxc hs ?_ | (refine sxa hs hw ?_; clear hs hw; intro a b W hw hs) | (refine sxs hs hw ?_; clear hs hw; intro W hs hw) | ((with_reducible first | refine st_ptrSome hs (k := ?_) | refine st_ptrNone hs (k := ?_)); clear hs; intro a hs))
            exact ⟨hs, hw⟩
          case d7_c =>
            intro LD D a W hcl hi hp hs hw
            refine st_load_ats (z := zrc) hs (cs := rowCells x.2 sv) (hc := fun j u hu => ?hcc) (hl := rfl) (c := ?_)
            case hcc =>
              rw [cell_block (hw.block (In.tl (In.tl In.hd))).1]
              rw [show 0 + 8 + i * 5 + j = (6 + (i * 5 + j)) + 1 + 1 by omega]
              show (ls ++ ts)[6 + (i * 5 + j)]? = _
              rw [List.getElem?_append_right (by omega), show 6 + (i * 5 + j) - ls.length = i * 5 + j by omega]
              exact hT j u hu
            clear hs; intro a hs
            repeat (first | (refine sxv hs hw ?_; clear hs; intro a hs) | refine sxc hs ?_ | (refine sxa hs hw ?_; clear hs hw; intro a b W hw hs) | (refine sxs hs hw ?_; clear hs hw; intro W hs hw) | ((with_reducible first | refine st_ptrSome hs (k := ?_) | refine st_ptrNone hs (k := ?_)); clear hs; intro a hs))
            exact ⟨hs, hw⟩
          case d9_c =>
            intro LD D a W hcl hi hp hs hw
            simp only [hi, Bool.false_eq_true, if_false] at hw
            obtain ⟨svad, svcap, rfl⟩ := hsv.slice
            repeat (first | (refine sxv hs hw ?_; clear hs; intro a hs) | refine sxc hs ?_ | (refine sxa hs hw ?_; clear hs hw; intro a b W hw hs) | (refine sxs hs hw ?_; clear hs hw; intro W hs hw) | ((with_reducible first | refine st_ptrSome hs (k := ?_) | refine st_ptrNone hs (k := ?_)); clear hs; intro a hs))
            exact ⟨hs, hw⟩
          case kd_c =>
            clear hs hw
            intro a W hs hw
            exact ⟨sv, hsv, hs.of ⟨rfl, rfl, rfl, rfl, rfl, trivial⟩, hw⟩
          all_goals
            intro LD D a W hcl hi hp hs hw
            repeat (first | (refine sxv hs hw ?_; clear hs; intro a hs) | refine sxc hs ?_ | (refine sxa hs hw ?_; clear hs hw; intro a b W hw hs) | (refine sxs hs hw ?_; clear hs hw; intro W hs hw) | ((with_reducible first | refine st_ptrSome hs (k := ?_) | refine st_ptrNone hs (k := ?_)); clear hs; intro a hs))
            exact ⟨hs, hw⟩
        · have hlx : lastOf f i = 0 := by unfold lastOf; rw [if_neg hc]
          have hrx : rowOf f i = zeroRow := by unfold rowOf; rw [if_neg hc]
          rw [hlx, hrx]
          by_cases h1 : 1 ≤ (i : Int)
          · rw [show decide ((i : Int) ≥ 1) = true from decide_eq_true h1] at hs
            repeat (first | (refine sxv hs hw ?_; clear hs; intro a hs) | refine sxc hs ?_ | (refine sxa hs hw ?_; clear hs hw; intro a b W hw hs) | (refine sxs hs hw ?_; clear hs hw; intro W hs hw) | ((with_reducible first | refine st_ptrSome hs (k := ?_) | refine st_ptrNone hs (k := ?_)); clear hs; intro a hs))
            rw [show decide ((i : Int) ≤ 5) = false from decide_eq_false (by omega)] at hs
            repeat (first | (refine sxv hs hw ?_; clear hs; intro a hs) | refine sxc hs ?_ | (refine sxa hs hw ?_; clear hs hw; intro a b W hw hs) | (refine sxs hs hw ?_; clear hs hw; intro W hs hw) | ((with_reducible first | refine st_ptrSome hs (k := ?_) | refine st_ptrNone hs (k := ?_)); clear hs; intro a hs))
            exact ⟨_, ops_nil H, hs.of ⟨rfl, rfl, rfl, rfl, rfl, trivial⟩, hw⟩
          · rw [show decide ((i : Int) ≥ 1) = false from decide_eq_false h1] at hs
            repeat (first | (refine sxv hs hw ?_; clear hs; intro a hs) | refine sxc hs ?_ | (refine sxa hs hw ?_; clear hs hw; intro a b W hw hs) | (refine sxs hs hw ?_; clear hs hw; intro W hs hw) | ((with_reducible first | refine st_ptrSome hs (k := ?_) | refine st_ptrNone hs (k := ?_)); clear hs; intro a hs))
            exact ⟨_, ops_nil H, hs.of ⟨rfl, rfl, rfl, rfl, rfl, trivial⟩, hw⟩
      clear hs hw
      rintro a W ⟨sv, hsv, hs, hw⟩
      repeat (first | (refine sxv hs hw ?_; clear hs; intro a hs) | refine sxc hs ?_ | (refine sxa hs hw ?_; clear hs hw; intro a b W hw hs) | (refine sxs hs hw ?_; clear hs hw; intro W hs hw) | ((with_reducible first | refine st_ptrSome hs (k := ?_) | refine st_ptrNone hs (k := ?_)); clear hs; intro a hs))
      have hw : Has 0 w0 _ (FoldAt H p f :: Fz H :: Cells b7 (rowCells (rowOf f i) sv) 39 :: Cells b3 (rfC f.place (.slice dad f.d.length dcap) ls ts) 42 :: R) := hw.perm (by repeat (first | exact List.Perm.refl _ | refine perm_pick (by repeat (first | exact Pick.hd | apply Pick.tl)) ?_))
      refine st_call hs (hc := fold_Told w0 _ H p f i _ (fun x hx => (hok.told x hx).2.2) hw) (k := ?_); rintro e0 W1 ⟨sv2, H2, rfl, hle2, hsv2, hw1⟩; refine ⟨_, rfl, ?_⟩; clear hs hw; intro a hs; have hw := hw1; clear hw1
      rw [hok.toldOf] at hs hsv2
      obtain ⟨uad, ucap, rfl⟩ := hsv2.slice
      repeat (first | (refine sxv hs hw ?_; clear hs; intro a hs) | refine sxc hs ?_ | (refine sxa hs hw ?_; clear hs hw; intro a b W hw hs) | (refine sxs hs hw ?_; clear hs hw; intro W hs hw) | ((with_reducible first | refine st_ptrSome hs (k := ?_) | refine st_ptrNone hs (k := ?_)); clear hs; intro a hs))
      obtain ⟨b8, q8⟩ := nm1 hw; subst q8
      have hw : Has 0 w0 _ (FoldAt H p f :: Fz H2 :: Cells b8 (rowCells (rowOf f i) (.slice uad (rowOf f i).b.l.length ucap)) 39 :: Cells b7 (rowCells (rowOf f i) sv) 39 :: Cells b3 (rfC f.place (.slice dad f.d.length dcap) ls ts) 42 :: R) := hw.perm (by repeat (first | exact List.Perm.refl _ | refine perm_pick (by repeat (first | exact Pick.hd | apply Pick.tl)) ?_))
      refine st_call hs (hc := fold_Last w0 _ H p f i _ hw) (k := ?_); rintro e0 W1 ⟨rfl, hw1⟩; refine ⟨_, rfl, ?_⟩; clear hs hw; intro a hs; have hw := hw1; clear hw1
      repeat (first | (refine sxv hs hw ?_; clear hs; intro a hs) | refine sxc hs ?_ | (refine sxa hs hw ?_; clear hs hw; intro a b W hw hs) | (refine sxs hs hw ?_; clear hs hw; intro W hs hw) | ((with_reducible first | refine st_ptrSome hs (k := ?_) | refine st_ptrNone hs (k := ?_)); clear hs; intro a hs))
      rw [show (lastOf f i != lastOf f i) = false from bne_self_eq_false _] at hs
      repeat (first | (refine sxv hs hw ?_; clear hs; intro a hs) | refine sxc hs ?_ | (refine sxa hs hw ?_; clear hs hw; intro a b W hw hs) | (refine sxs hs hw ?_; clear hs hw; intro W hs hw) | ((with_reducible first | refine st_ptrSome hs (k := ?_) | refine st_ptrNone hs (k := ?_)); clear hs; intro a hs))
      have hlast := hok.last i
      rw [show (!((!(lastOf f i == 0)) == decide (lastOf f i > 0))) = false from by
        by_cases h0 : lastOf f i = 0
        · rw [h0]; rfl
        · rw [show (lastOf f i == 0) = false from by simpa using h0, show decide (lastOf f i > 0) = true from decide_eq_true (by omega)]; rfl] at hs
      repeat (first | (refine sxv hs hw ?_; clear hs; intro a hs) | refine sxc hs ?_ | (refine sxa hs hw ?_; clear hs hw; intro a b W hw hs) | (refine sxs hs hw ?_; clear hs hw; intro W hs hw) | ((with_reducible first | refine st_ptrSome hs (k := ?_) | refine st_ptrNone hs (k := ?_)); clear hs; intro a hs))
      refine st_call hs (hc := ref_EqRow (rowOf f i) (rowOf f i) (.slice uad (rowOf f i).b.l.length ucap) sv _ (hw.rdH (by repeat (first | exact In.hd | apply In.tl)) hsv2) (hw.rdH (by repeat (first | exact In.hd | apply In.tl)) (hsv.le hle2))) (k := ?_); rintro e0 W1 ⟨rfl, hb⟩; refine ⟨_, rfl, ?_⟩; clear hs; intro a hs; replace hw := hw.below hb; clear hb
      rw [show eqRow (rowOf f i) (rowOf f i) = true from eqRow_iff.2 rfl] at hs
      repeat (first | (refine sxv hs hw ?_; clear hs; intro a hs) | refine sxc hs ?_ | (refine sxa hs hw ?_; clear hs hw; intro a b W hw hs) | (refine sxs hs hw ?_; clear hs hw; intro W hs hw) | ((with_reducible first | refine st_ptrSome hs (k := ?_) | refine st_ptrNone hs (k := ?_)); clear hs; intro a hs))
      have hw : Has 0 w0 _ (Fz H2 :: FoldAt H p f :: Cells b3 (rfC f.place (.slice dad f.d.length dcap) ls ts) 42 :: Cells b8 (rowCells (rowOf f i) (.slice uad (rowOf f i).b.l.length ucap)) 39 :: Cells b7 (rowCells (rowOf f i) sv) 39 :: R) := hw.perm (by repeat (first | exact List.Perm.refl _ | refine perm_pick (by repeat (first | exact Pick.hd | apply Pick.tl)) ?_))
      have hw := hw.thaw hle2
      have hw : Has 0 w0 _ (Cells b8 (rowCells (rowOf f i) (.slice uad (rowOf f i).b.l.length ucap)) 39 :: Cells b7 (rowCells (rowOf f i) sv) 39 :: FoldAt H p f :: Cells b3 (rfC f.place (.slice dad f.d.length dcap) ls ts) 42 :: Fz H :: R) := hw.perm (by repeat (first | exact List.Perm.refl _ | refine perm_pick (by repeat (first | exact Pick.hd | apply Pick.tl)) ?_))
      exact st_again (i + 1) hs (hw.sub (List.Sublist.cons _ (List.Sublist.cons _ (List.Sublist.refl _)))) (by show i + 1 ≤ 7; omega) (by show 7 - (i + 1) < 7 - i; omega) ⟨rfl, rfl, int_eq (by show IntKind.i64.wrap ((i : Int) + 1) = ((i + 1 : Nat) : Int); rw [IntWalk.i64_in _ (by omega)]; omega), trivial⟩
    · repeat (first | (refine sxv hs hw ?_; clear hs; intro a hs) | refine sxc hs ?_ | (refine sxa hs hw ?_; clear hs hw; intro a b W hw hs) | (refine sxs hs hw ?_; clear hs hw; intro W hs hw) | ((with_reducible first | refine st_ptrSome hs (k := ?_) | refine st_ptrNone hs (k := ?_)); clear hs; intro a hs))
      exact rt1 hs rfl rfl ⟨rfl, hw.sub (List.Sublist.cons_cons _ (List.Sublist.cons _ (List.Sublist.refl _)))⟩
  all_goals
    intro u LD D a W hcl hi hp hs hw
    repeat (first | (refine sxv hs hw ?_; clear hs; intro a hs) | refine sxc hs ?_ | (refine sxa hs hw ?_; clear hs hw; intro a b W hw hs) | (refine sxs hs hw ?_; clear hs hw; intro W hs hw) | ((with_reducible first | refine st_ptrSome hs (k := ?_) | refine st_ptrNone hs (k := ?_)); clear hs; intro a hs))
    exact Or.inl ⟨hs, hw⟩
end Go.Proofs.YtmalklakaalaoaaGreatDoor.Sw

set_option linter.unusedVariables false
set_option maxRecDepth 10000
namespace Go.Proofs.YtmalklakaalaoaaGreatDoor.Sw
open Go.RowKit Go.Sx
end Go.Proofs.YtmalklakaalaoaaGreatDoor.Sw

set_option linter.unusedVariables false
set_option maxRecDepth 10000
namespace Ph
open Go Go.Lib
end Ph
namespace Go.Proofs.YtmalklakaalaoaaGreatDoor.Sw
open Go.RowKit Go.Sx
def fineE (e : Int) : Bool := e == 0 || e == 6 || e == 7 || e == 8 || e == 4
structure ToldFine (place : Int) (c : Nat) (x : Int × RowD) : Prop where
  seq : x.1 = x.2.b.q
  cli : x.2.b.c = c
  may : mayB x.2.b = true
  ok : BatOk x.2.b
  pl : 1 ≤ x.2.place ∧ x.2.place ≤ place
  err : fineE x.2.err = true
structure FoldFine (f : FoldD) : Prop where
  doc : DocFine f.d
  place : 0 ≤ f.place ∧ f.place ≤ 9223372036854775807
  six : f.told.length = 6
  told : ∀ (c : Nat) (x : Int × RowD), f.told[c]? = some x → x = (0, zeroRow) ∨ (1 ≤ c ∧ ToldFine f.place c x)
  dist : ∀ (c c' : Nat) (x x' : Int × RowD), f.told[c]? = some x → f.told[c']? = some x' → x.1 ≠ 0 → x'.1 ≠ 0 → x.2.place = x'.2.place → c = c'
theorem ToldFine.pos {place : Int} {c : Nat} {x : Int × RowD} (h : ToldFine place c x) : 0 < x.1 := by
  have := (may_parts h.may).2.1.1
  have := h.seq
  omega
theorem FoldFine.ok {f : FoldD} (h : FoldFine f) : FoldOk f := by
  refine ⟨h.doc, h.six, fun x hx => ?_⟩
  obtain ⟨i, hi⟩ := List.mem_iff_getElem?.1 hx
  rcases h.told i x hi with rfl | ⟨_, e⟩
  · exact ⟨by decide, fun _ => rfl, by decide⟩
  · have := e.pos
    exact ⟨by omega, fun h0 => by omega, (may_parts e.may).2.2⟩
theorem FoldFine.empty : FoldFine emptyF := by
  refine ⟨DocFine.nil, ⟨by decide, by decide⟩, rfl, fun c x hx => .inl (List.eq_of_mem_replicate (List.mem_of_getElem? hx)), fun c c' x x' hx _ h0 => ?_⟩
  rw [List.eq_of_mem_replicate (List.mem_of_getElem? hx)] at h0
  exact absurd rfl h0
theorem setRL_fineE (d : Dm) (k : ByteArray) (x : Option DV) : fineE (setRL d k x).1 = true := by
  rcases setRL_err d k x with h | h <;> rw [h] <;> rfl
theorem doL_fineE (d : Dm) (o : OpD) : fineE (doL d o).1 = true := by
  unfold doL
  split
  · split
    · exact setRL_fineE _ _ _
    · exact (rfl : fineE 8 = true)
  · split
    · split
      · exact (rfl : fineE 7 = true)
      · split
        · exact (rfl : fineE 4 = true)
        · exact setRL_fineE _ _ _
    · exact setRL_fineE _ _ _
theorem goL_fineE : ∀ (l : List OpD) (d : Dm), l.all mayD = true → fineE (goL l d).1 = true
  | [], d, _ => (rfl : fineE 0 = true)
  | o :: l, d, h => by
    rw [List.all_cons, Bool.and_eq_true] at h
    unfold goL
    rw [if_neg (by rw [h.1]; simp)]
    split
    · exact goL_fineE l _ h.2
    · exact doL_fineE d o
theorem applyL_fineE {b : BatchD} (h : mayB b = true) (d : Dm) : fineE (applyL d b.l).1 = true := by
  obtain ⟨_, _, h3, h4, _⟩ := mayBatch_parts h
  unfold applyL
  rw [if_neg (by omega)]
  have := goL_fineE b.l d h4
  split
  · exact (rfl : fineE 0 = true)
  · exact this
theorem FoldFine.next {f : FoldD} (h : FoldFine f) {b : BatchD} (hb : BatOk b) (hp : f.place < 1000000) : FoldFine (next f b).1 ∧ (next f b).1.place ≤ f.place + 1 := by
  unfold Sw.next
  cases hn : nextB f b with
  | false => exact ⟨h, by show f.place ≤ f.place + 1; omega⟩
  | true =>
    have hm : mayB b = true := by
      unfold nextB at hn
      rw [Bool.and_eq_true] at hn
      exact hn.1
    obtain ⟨hc, hq, hl⟩ := may_parts hm
    have hp0 := h.place.1
    have hwr : IntKind.i64.wrap (f.place + 1) = f.place + 1 := IntWalk.i64_in _ (by omega)
    have hlt : b.c.toNat < f.told.length := by rw [h.six]; omega
    have hat : ∀ (i : Nat) (y : Int × RowD), (f.told.set b.c.toNat (b.q, nextR f b))[i]? = some y → (i = b.c.toNat ∧ y = (b.q, nextR f b)) ∨ (i ≠ b.c.toNat ∧ f.told[i]? = some y) := by
      intro i y hy
      by_cases e : i = b.c.toNat
      · subst e
        rw [List.getElem?_set_self hlt] at hy
        injection hy with hy
        exact .inl ⟨rfl, hy.symm⟩
      · rw [List.getElem?_set_ne (fun k => e k.symm)] at hy
        exact .inr ⟨e, hy⟩
    have hpl : ∀ (i : Nat) (y : Int × RowD), f.told[i]? = some y → y.1 ≠ 0 → y.2.place ≤ f.place := by
      intro i y hy h0
      rcases h.told i y hy with rfl | ⟨_, e⟩
      · exact absurd rfl h0
      · exact e.pl.2
    refine ⟨⟨applyL_fine h.doc hb.ops, ?_, by show (f.told.set _ _).length = 6; rw [List.length_set]; exact h.six, fun i y hy => ?_, fun i i' y y' hy hy' h0 h0' he => ?_⟩, ?_⟩
    · show 0 ≤ IntKind.i64.wrap (f.place + 1) ∧ IntKind.i64.wrap (f.place + 1) ≤ _
      rw [hwr]; omega
    · rcases hat i y hy with ⟨rfl, rfl⟩ | ⟨_, hy⟩
      · refine .inr ⟨by omega, rfl, by show b.c = _; omega, hm, hb, ?_, applyL_fineE hm f.d⟩
        show 1 ≤ IntKind.i64.wrap (f.place + 1) ∧ IntKind.i64.wrap (f.place + 1) ≤ IntKind.i64.wrap (f.place + 1)
        rw [hwr]; omega
      · refine (h.told i y hy).imp id fun ⟨a, e⟩ => ⟨a, e.seq, e.cli, e.may, e.ok, ⟨e.pl.1, ?_⟩, e.err⟩
        show _ ≤ IntKind.i64.wrap (f.place + 1)
        have := e.pl.2
        rw [hwr]; omega
    · have hnp : (nextR f b).place = f.place + 1 := hwr
      rcases hat i y hy with ⟨rfl, rfl⟩ | ⟨hne, hy⟩
      · rcases hat i' y' hy' with ⟨rfl, rfl⟩ | ⟨hne', hy'⟩
        · rfl
        · have h1 := hpl i' y' hy' h0'
          have h2 : (nextR f b).place = y'.2.place := he
          omega
      · rcases hat i' y' hy' with ⟨rfl, rfl⟩ | ⟨hne', hy'⟩
        · have h1 := hpl i y hy h0
          have h2 : y.2.place = (nextR f b).place := he
          omega
        · exact h.dist i i' y y' hy hy' h0 h0' he
    · show IntKind.i64.wrap (f.place + 1) ≤ f.place + 1
      rw [hwr]; omega
end Go.Proofs.YtmalklakaalaoaaGreatDoor.Sw

set_option linter.unusedVariables false
set_option maxRecDepth 10000
namespace Go.Sx
end Go.Sx

set_option linter.unusedVariables false
set_option maxRecDepth 10000
namespace Go.Sx
theorem done_up {l : List Oper} {D : Nat → Bool} (hcl : ∀ k o', l[k]? = some o' → D k = true → ∀ e ∈ o'.after.toList, Region.binds .any e = true → D e.on = true) (j : Nat) {k : Nat} (hk : D k = true) (h : (match l[k]? with | some o => o.after.toList.any (fun e => Region.binds .any e && Nat.beq e.on j) | none => false) = true) : D j = true := by
  cases hj : D j with
  | true => rfl
  | false => rw [not_done hcl hj k h] at hk; cases hk
end Go.Sx
namespace Go.Proofs.YtmalklakaalaoaaGreatDoor.Sw
open Go.RowKit Go.Sx
theorem mod_at (q : Int) {n : Nat} (h : 0 < n) (h2 : n ≤ 1000000) : ∃ k : Nat, k < n ∧ (IntKind.i64.wrap (q.tmod (n : Int) + (n : Int))).tmod (n : Int) = (k : Int) := by
  have h1 := Int.tmod_lt_of_pos q (show (0 : Int) < (n : Int) by omega)
  have h3 := Int.tmod_lt_of_pos (-q) (show (0 : Int) < (n : Int) by omega)
  rw [Int.neg_tmod] at h3
  have hw : IntKind.i64.wrap (q.tmod (n : Int) + (n : Int)) = q.tmod (n : Int) + (n : Int) := IntWalk.i64_in _ (by omega)
  rw [hw]
  have h4 := Int.tmod_nonneg (n : Int) (show 0 ≤ q.tmod (n : Int) + (n : Int) by omega)
  have h5 := Int.tmod_lt_of_pos (q.tmod (n : Int) + (n : Int)) (show (0 : Int) < (n : Int) by omega)
  exact ⟨((q.tmod (n : Int) + (n : Int)).tmod (n : Int)).toNat, by omega, by omega⟩
structure StrFine (s : StreamD) : Prop where
  fine : FoldFine s.f
  place : s.f.place = s.l.length
  rows : ∀ r ∈ s.l, r.b.l.length ≤ 1000
theorem StrFine.empty : StrFine ⟨emptyF, []⟩ := ⟨FoldFine.empty, rfl, by simp⟩
theorem one_fine {s : StreamD} {r : RowD} (h : StrFine s) (hr : BatOk r.b ∧ r.b.l.length ≤ 1000) (hl : s.l.length ≤ 100000) : StrFine (one s r).1 := by
  refine ⟨?_, one_place h.place (by omega), fun x hx => ?_⟩
  · unfold one
    split
    · exact h.fine
    · split
      · split <;> exact h.fine
      · split
        · exact (h.fine.next hr.1 (by rw [h.place]; omega)).1
        · exact h.fine
  · rcases one_mem hx with hx | rfl
    · exact h.rows x hx
    · exact hr.2
theorem take_fine : ∀ {rows : List RowD} {s : StreamD} {n : Nat}, StrFine s → (∀ r ∈ rows, BatOk r.b ∧ r.b.l.length ≤ 1000) → s.l.length + rows.length ≤ 100000 → StrFine (takeN s n rows).1
  | [], s, n, h, _, _ => h
  | r :: rows, s, n, h, hr, hl => by
    rw [List.length_cons] at hl
    have h1 := one_fine h (hr r (by simp)) (by omega)
    have h2 := one_len s r
    simp only [takeN]
    split
    · exact take_fine h1 (fun x hx => hr x (by simp [hx])) (by omega)
    · exact h1
theorem row_set {rows : List RowD} (h : ∀ r ∈ rows, RowOk r ∧ r.b.l.length ≤ 1000) {k : Nat} {x : RowD} (hx : RowOk x ∧ x.b.l.length ≤ 1000) : ∀ r ∈ rows.set k x, RowOk r ∧ r.b.l.length ≤ 1000 := fun r hr => by
  rcases List.mem_or_eq_of_mem_set hr with hr | rfl
  · exact h r hr
  · exact hx
theorem bat_seq2 {b : BatchD} (h : BatOk b) (n : Int) : BatOk ⟨b.c, IntKind.i64.wrap n, b.l⟩ := ⟨h.c, wrap_i64 n, h.ops⟩
theorem rstreamLe {G : Nat} {w W : World} {R : List Res} {H H' : Fh} {p : Nat} {s : StreamD} (h : Has G w W (RStreamAt H p s :: R)) (hl : H.le H') : Has G w W (RStreamAt H' p s :: R) := by
  obtain ⟨cs, vad, vcap, xs, h1, h2, h3⟩ := rstreamOpen h
  exact rstreamShut h3 (h1.le hl) (h2.mono (RowIn.le hl))
set_option maxHeartbeats 64000000 in
theorem walk_StreamAll (l : List BatchD) (v : Value) (fl : List Int) (fv : Value) (nl : List Int) (nv : Value) (sl : List Int) (sv : Value) (w : World) (hb : ∀ b ∈ l, BatWf b) (hr : BatsRd w v l) (hfi : ∀ k ∈ fl, (Lit.int .i64 k).wf = true) (hfr : IntsRd w fv fl) (hni : ∀ k ∈ nl, (Lit.int .i64 k).wf = true) (hnr : IntsRd w nv nl) (hsi : ∀ k ∈ sl, (Lit.int .i64 k).wf = true) (hsr : IntsRd w sv sl) (hT : Tabs w) :
    Calls Tryz.prog 3 ⟨[v, fv, nv, sv]⟩ w fun e w' => e = .returned (.bool true) ∧ Below w.heap.size w w' := by
  have hw := Has.startF w
  obtain ⟨fxs, hfr, hfc⟩ := hfr
  replace hfr := RdH.of_rd hfr (Fh.le.refl _) (by decide)
  obtain ⟨fad, fcap, rfl⟩ := hfr.slice
  obtain ⟨nxs, hnr, hnc⟩ := hnr
  replace hnr := RdH.of_rd hnr (Fh.le.refl _) (by decide)
  obtain ⟨nad, ncap, rfl⟩ := hnr.slice
  obtain ⟨pxs, hsr, hsc⟩ := hsr
  replace hsr := RdH.of_rd hsr (Fh.le.refl _) (by decide)
  obtain ⟨pad, pcap, rfl⟩ := hsr.slice
  have hf63 := hfr.len
  have hn63 := hnr.len
  have hs63 := hsr.len
  refine enter Tryz.func3 Tryz.ntmps3 rfl rfl fun a hs => ?_
  repeat (first | (refine sxv hs hw ?_; clear hs; intro a hs) | refine sxc hs ?_ | (refine sxa hs hw ?_; clear hs hw; intro a b W hw hs) | (refine sxs hs hw ?_; clear hs hw; intro W hs hw))
  refine st_call hs (hc := law21_begun _ hT) (k := ?_); rintro e0 W1 ⟨rfl, hb⟩; refine ⟨_, rfl, ?_⟩; clear hs; intro a hs; replace hw := hw.below hb; clear hb
  repeat (first | (refine sxv hs hw ?_; clear hs; intro a hs) | refine sxc hs ?_ | (refine sxa hs hw ?_; clear hs hw; intro a b W hw hs) | (refine sxs hs hw ?_; clear hs hw; intro W hs hw))
  refine st_call hs (hc := law21_Rows w _ (fr w) l _ _ hb hr.h hw) (k := ?_); rintro e0 W1 ⟨rv, H1, rfl, hle1, hrows, hw1⟩; refine ⟨_, rfl, ?_⟩; clear hs hw; intro a hs; have hw := hw1; clear hw1
  obtain ⟨rad, rcap, rfl⟩ := hrows.slice
  have hlen40 := (rows_play l).2
  have hok0 := rows_ok hb
  have h8 := rows_8 l
  generalize rowsOf l = rows at *
  have hok : ∀ r ∈ rows, RowOk r ∧ r.b.l.length ≤ 1000 := fun r hr => ⟨hok0 r hr, Nat.le_trans (h8 r hr) (by decide)⟩
  clear hok0 h8
  repeat (first | (refine sxv hs hw ?_; clear hs; intro a hs) | refine sxc hs ?_ | (refine sxa hs hw ?_; clear hs hw; intro a b W hw hs) | (refine sxs hs hw ?_; clear hs hw; intro W hs hw))
  refine st_call hs (hc := stream_New w _ H1 _ hw) (k := ?_); rintro e0 W1 ⟨p, rfl, hw1⟩; refine ⟨_, rfl, ?_⟩; clear hs hw; intro a hs; have hw := hw1; clear hw1
  repeat (first | (refine sxv hs hw ?_; clear hs; intro a hs) | refine sxc hs ?_ | (refine sxa hs hw ?_; clear hs hw; intro a b W hw hs) | (refine sxs hs hw ?_; clear hs hw; intro W hs hw))
  obtain ⟨b12, q12⟩ := nm1 hw; subst q12
  replace hw : Has 0 w W (Cells b12 (zrf ++ [.slice none 0 0]) 44 :: StreamAt H1 p ⟨emptyF, []⟩ :: Fz H1 :: []) := by with_unfolding_all exact hw
  replace hw := hw.nilOwn 39 5
  replace hw := rstreamShut (s := ⟨emptyF, []⟩) (xs := []) hw.swap2 (rf_empty H1) rfl
  replace hw : Has 0 w _ (StreamAt H1 p ⟨emptyF, []⟩ :: RStreamAt H1 b12 ⟨emptyF, []⟩ :: Fz H1 :: []) := hw.swap2
  refine st_loop (σ := Nat × StreamD × Fh) (fun t => [(1, .slice fad fl.length fcap), (2, .slice nad nl.length ncap), (3, .slice pad sl.length pcap), (10, .slice rad rows.length rcap), (11, .pointer (some ⟨p, 0, none⟩)), (12, .pointer (some ⟨b12, 0, none⟩)), (13, .int .i64 (t.1 : Int))]) (fun t => StreamAt t.2.2 p t.2.1 :: RStreamAt t.2.2 b12 t.2.1 :: Fz t.2.2 :: []) (fun t => t.1 ≤ fl.length ∧ t.1 ≤ 20 ∧ StrFine t.2.1 ∧ t.2.1.l.length ≤ 7 * t.1 ∧ H1.le t.2.2) (fun t => fl.length - t.1) (0, ⟨emptyF, []⟩, H1) ⟨Nat.zero_le _, Nat.zero_le _, StrFine.empty, Nat.zero_le _, Fh.le.refl _⟩ hs ⟨rfl, rfl, rfl, rfl, rfl, rfl, rfl, trivial⟩ hw ?_
  clear hs hw
  rintro ⟨i, s, H⟩ a W ⟨hi, hi20, hsf, hsl, hH⟩ hs hw
  simp only at hi hi20 hsf hsl hH hs hw
  have hle := hle1.trans hH
  repeat (first | (refine sxv hs hw ?_; clear hs; intro a hs) | refine sxc hs ?_ | (refine sxa hs hw ?_; clear hs hw; intro a b W hw hs) | (refine sxs hs hw ?_; clear hs hw; intro W hs hw))
  cases c1 : decide ((i : Int) < (fl.length : Int)) with
  | false =>
    rw [c1] at hs
    repeat (first | (refine sxv hs hw ?_; clear hs; intro a hs) | refine sxc hs ?_ | (refine sxa hs hw ?_; clear hs hw; intro a b W hw hs) | (refine sxs hs hw ?_; clear hs hw; intro W hs hw))
    exact rt1 hs rfl rfl ⟨rfl, hw.endF (by repeat (first | exact In.hd | apply In.tl)) hle⟩
  | true =>
  rw [c1] at hs
  have g1 := of_decide_eq_true c1
  repeat (first | (refine sxv hs hw ?_; clear hs; intro a hs) | refine sxc hs ?_ | (refine sxa hs hw ?_; clear hs hw; intro a b W hw hs) | (refine sxs hs hw ?_; clear hs hw; intro W hs hw))
  cases c2 : decide ((i : Int) < (nl.length : Int)) with
  | false =>
    rw [c2] at hs
    repeat (first | (refine sxv hs hw ?_; clear hs; intro a hs) | refine sxc hs ?_ | (refine sxa hs hw ?_; clear hs hw; intro a b W hw hs) | (refine sxs hs hw ?_; clear hs hw; intro W hs hw))
    exact rt1 hs rfl rfl ⟨rfl, hw.endF (by repeat (first | exact In.hd | apply In.tl)) hle⟩
  | true =>
  rw [c2] at hs
  have g2 := of_decide_eq_true c2
  repeat (first | (refine sxv hs hw ?_; clear hs; intro a hs) | refine sxc hs ?_ | (refine sxa hs hw ?_; clear hs hw; intro a b W hw hs) | (refine sxs hs hw ?_; clear hs hw; intro W hs hw))
  cases c3 : decide ((i : Int) < 20) with
  | false =>
    rw [c3] at hs
    repeat (first | (refine sxv hs hw ?_; clear hs; intro a hs) | refine sxc hs ?_ | (refine sxa hs hw ?_; clear hs hw; intro a b W hw hs) | (refine sxs hs hw ?_; clear hs hw; intro W hs hw))
    exact rt1 hs rfl rfl ⟨rfl, hw.endF (by repeat (first | exact In.hd | apply In.tl)) hle⟩
  | true =>
  rw [c3] at hs
  have g3 := of_decide_eq_true c3
  repeat (first | (refine sxv hs hw ?_; clear hs; intro a hs) | refine sxc hs ?_ | (refine sxa hs hw ?_; clear hs hw; intro a b W hw hs) | (refine sxs hs hw ?_; clear hs hw; intro W hs hw))
  cases c4 : ((rows.length : Int) == 0) with
  | true =>
    rw [c4] at hs
    repeat (first | (refine sxv hs hw ?_; clear hs; intro a hs) | refine sxc hs ?_ | (refine sxa hs hw ?_; clear hs hw; intro a b W hw hs) | (refine sxs hs hw ?_; clear hs hw; intro W hs hw))
    exact rt1 hs rfl rfl ⟨rfl, hw.endF (by repeat (first | exact In.hd | apply In.tl)) hle⟩
  | false =>
  rw [c4] at hs
  have hpos : 0 < rows.length := by
    rcases Nat.eq_zero_or_pos rows.length with h | h
    · rw [h] at c4; cases c4
    · exact h
  obtain ⟨x0, hx0⟩ : ∃ o, fl[i]? = some o := ⟨fl[i]'(by omega), List.getElem?_eq_getElem _⟩
  obtain ⟨y0, hy0⟩ : ∃ o, nl[i]? = some o := ⟨nl[i]'(by omega), List.getElem?_eq_getElem _⟩
  repeat (first | (refine sxv hs hw ?_; clear hs; intro a hs) | refine sxc hs ?_ | (refine sxa hs hw ?_; clear hs hw; intro a b W hw hs) | (refine sxs hs hw ?_; clear hs hw; intro W hs hw))
  refine st_index_ch hs (r := hw.rdH (by repeat (first | exact In.hd | apply In.tl)) (hfr.le hle)) (hk := IntIn.len) (ch := hfc) (ho := hx0) (hlen := rfl) (c := ?_); clear hs; intro a g off c hc hcl hpc hlt hs
  have hc : c = [.int .i64 x0] := hc
  subst hc
  refine st_load_at hs (hc := hpc 0 _ rfl) (c := ?_); clear hs; intro a hs
  repeat (first | (refine sxv hs hw ?_; clear hs; intro a hs) | refine sxc hs ?_ | (refine sxa hs hw ?_; clear hs hw; intro a b W hw hs) | (refine sxs hs hw ?_; clear hs hw; intro W hs hw))
  refine st_idiv hs (hne := by rw [beq_eq_false_iff_ne]; omega) (k := ?_); clear hs; intro a hs
  repeat (first | (refine sxv hs hw ?_; clear hs; intro a hs) | refine sxc hs ?_ | (refine sxa hs hw ?_; clear hs hw; intro a b W hw hs) | (refine sxs hs hw ?_; clear hs hw; intro W hs hw))
  refine st_idiv hs (hne := by rw [beq_eq_false_iff_ne]; omega) (k := ?_); clear hs; intro a hs
  obtain ⟨aa, haa, hae⟩ := mod_at x0 hpos (by omega)
  rw [hae] at hs
  repeat (first | (refine sxv hs hw ?_; clear hs; intro a hs) | refine sxc hs ?_ | (refine sxa hs hw ?_; clear hs hw; intro a b W hw hs) | (refine sxs hs hw ?_; clear hs hw; intro W hs hw))
  refine st_index_ch hs (r := hw.rdH (by repeat (first | exact In.hd | apply In.tl)) (hnr.le hle)) (hk := IntIn.len) (ch := hnc) (ho := hy0) (hlen := rfl) (c := ?_); clear hs; intro a g off c hc hcl hpc hlt hs
  have hc : c = [.int .i64 y0] := hc
  subst hc
  refine st_load_at hs (hc := hpc 0 _ rfl) (c := ?_); clear hs; intro a hs
  repeat (first | (refine sxv hs hw ?_; clear hs; intro a hs) | refine sxc hs ?_ | (refine sxa hs hw ?_; clear hs hw; intro a b W hw hs) | (refine sxs hs hw ?_; clear hs hw; intro W hs hw))
  obtain ⟨mm, hmm, hme⟩ := mod_at y0 (n := 8) (by decide) (by decide)
  rw [show (IntKind.i64.wrap (y0.tmod 8 + 8)).tmod 8 = (mm : Int) from hme] at hs
  rw [IntWalk.i64_in ((aa : Int) + (mm : Int)) (by omega)] at hs
  refine st_min hs (k := ?_); clear hs; intro a hs
  obtain ⟨bb, hbe, hab, hbr, hb7⟩ : ∃ bb : Nat, (if (aa : Int) + (mm : Int) < (rows.length : Int) then (aa : Int) + (mm : Int) else (rows.length : Int)) = (bb : Int) ∧ aa ≤ bb ∧ bb ≤ rows.length ∧ bb - aa ≤ 7 := by
    by_cases h : (aa : Int) + (mm : Int) < (rows.length : Int)
    · rw [if_pos h]; exact ⟨aa + mm, by omega, by omega, by omega, by omega⟩
    · rw [if_neg h]; exact ⟨rows.length, rfl, by omega, by omega, by omega⟩
  rw [hbe] at hs
  repeat (first | (refine sxv hs hw ?_; clear hs; intro a hs) | refine sxc hs ?_ | (refine sxa hs hw ?_; clear hs hw; intro a b W hw hs) | (refine sxs hs hw ?_; clear hs hw; intro W hs hw))
  refine st_rows_lh (i := (aa : Int)) (j := (bb : Int)) hs (hrows.le hH) (by omega) (by omega) (by omega) (c := ?_); clear hs; intro a v1 hr1 hs
  rw [Int.toNat_natCast, Int.toNat_natCast] at hr1
  have hx1 : ∀ r ∈ (rows.drop aa).take (bb - aa), RowOk r ∧ r.b.l.length ≤ 1000 := fun r hr => hok r (List.mem_of_mem_drop (List.mem_of_mem_take hr))
  have hxl : ((rows.drop aa).take (bb - aa)).length ≤ 7 := by rw [List.length_take]; omega
  generalize (rows.drop aa).take (bb - aa) = x at *
  obtain ⟨vad, vcap, rfl⟩ := hr1.slice
  obtain ⟨xs, hxr, hxc⟩ := hr1
  replace hw := hw.nilOwn 39 5
  refine st_append hs (hw := hw) (k := 0) (m := x.length) (xs := []) (news := xs) (hsrc := src_rd (hw.rdH (by repeat (first | exact In.hd | apply In.tl)) hxr) (hxc.ones RowIn.ones)) (h63 := by omega) (hb := by omega) (c := ?_)
  clear hs hw; intro a ad2 cap2 W hs hw
  rw [List.nil_append, Nat.zero_add] at hw
  rw [Nat.zero_add] at hs
  repeat (first | (refine sxv hs hw ?_; clear hs; intro a hs) | refine sxn hs ?_ | (refine sxa hs hw ?_; clear hs hw; intro a b W hw hs) | (refine sxs hs hw ?_; clear hs hw; intro W hs hw))
  refine sq ?_
  refine merge (M := fun a W => ∃ (H' : Fh) (x2 : List RowD) (ad : Option Addr) (cap : Nat), H.le H' ∧ RowsH H' (.slice ad x2.length cap) x2 ∧ (∀ r ∈ x2, RowOk r ∧ r.b.l.length ≤ 1000) ∧ x2.length ≤ 7 ∧ Slots a 188 [(1, .slice fad fl.length fcap), (2, .slice nad nl.length ncap), (3, .slice pad sl.length pcap), (10, .slice rad rows.length rcap), (11, .pointer (some ⟨p, 0, none⟩)), (12, .pointer (some ⟨b12, 0, none⟩)), (13, .int .i64 (i : Int)), (16, .slice ad x2.length cap)] ∧ Has 0 w W (StreamAt H p s :: RStreamAt H b12 s :: Fz H' :: [])) ?_ ?_
  · clear hpc hrows hbe hab hbr hb7
    repeat (first | (refine sxv hs hw ?_; clear hs; intro a hs) | refine sxc hs ?_ | (refine sxa hs hw ?_; clear hs hw; intro a b W hw hs) | (refine sxs hs hw ?_; clear hs hw; intro W hs hw))
    cases d1 : decide ((i : Int) < (sl.length : Int)) with
    | false =>
      rw [d1] at hs
      repeat (first | (refine sxv hs hw ?_; clear hs; intro a hs) | refine sxc hs ?_ | (refine sxa hs hw ?_; clear hs hw; intro a b W hw hs) | (refine sxs hs hw ?_; clear hs hw; intro W hs hw))
      obtain ⟨H4, h4, hw2, hr4⟩ := (hw.perm (by repeat (first | exact List.Perm.refl _ | refine perm_pick (by repeat (first | exact Pick.hd | apply Pick.tl)) ?_)) : Has 0 w W (Sx.Own 39 5 (.slice ad2 x.length cap2) x.length xs :: Fz H :: StreamAt H p s :: RStreamAt H b12 s :: [])).freeze_own
      exact ⟨H4, x, ad2, cap2, h4, ⟨_, hr4, hxc.mono (RowIn.le h4)⟩, hx1, hxl, hs.of ⟨rfl, rfl, rfl, rfl, rfl, rfl, rfl, rfl, trivial⟩, hw2.perm (by repeat (first | exact List.Perm.refl _ | refine perm_pick (by repeat (first | exact Pick.hd | apply Pick.tl)) ?_))⟩
    | true =>
    rw [d1] at hs
    have k1 := of_decide_eq_true d1
    repeat (first | (refine sxv hs hw ?_; clear hs; intro a hs) | refine sxc hs ?_ | (refine sxa hs hw ?_; clear hs hw; intro a b W hw hs) | (refine sxs hs hw ?_; clear hs hw; intro W hs hw))
    cases d2 : decide ((x.length : Int) > 0) with
    | false =>
      rw [d2] at hs
      repeat (first | (refine sxv hs hw ?_; clear hs; intro a hs) | refine sxc hs ?_ | (refine sxa hs hw ?_; clear hs hw; intro a b W hw hs) | (refine sxs hs hw ?_; clear hs hw; intro W hs hw))
      obtain ⟨H4, h4, hw2, hr4⟩ := (hw.perm (by repeat (first | exact List.Perm.refl _ | refine perm_pick (by repeat (first | exact Pick.hd | apply Pick.tl)) ?_)) : Has 0 w W (Sx.Own 39 5 (.slice ad2 x.length cap2) x.length xs :: Fz H :: StreamAt H p s :: RStreamAt H b12 s :: [])).freeze_own
      exact ⟨H4, x, ad2, cap2, h4, ⟨_, hr4, hxc.mono (RowIn.le h4)⟩, hx1, hxl, hs.of ⟨rfl, rfl, rfl, rfl, rfl, rfl, rfl, rfl, trivial⟩, hw2.perm (by repeat (first | exact List.Perm.refl _ | refine perm_pick (by repeat (first | exact Pick.hd | apply Pick.tl)) ?_))⟩
    | true =>
    rw [d2] at hs
    have k2 := of_decide_eq_true d2
    obtain ⟨z0, hz0⟩ : ∃ o, sl[i]? = some o := ⟨sl[i]'(by omega), List.getElem?_eq_getElem _⟩
    repeat (first | (refine sxv hs hw ?_; clear hs; intro a hs) | refine sxc hs ?_ | (refine sxa hs hw ?_; clear hs hw; intro a b W hw hs) | (refine sxs hs hw ?_; clear hs hw; intro W hs hw))
    refine st_index_ch hs (r := hw.rdH (by repeat (first | exact In.hd | apply In.tl)) (hsr.le hle)) (hk := IntIn.len) (ch := hsc) (ho := hz0) (hlen := rfl) (c := ?_); clear hs; intro a g3 off3 c hc hcl3 hpc hlt3 hs
    have hc : c = [.int .i64 z0] := hc
    subst hc
    refine st_load_at hs (hc := hpc 0 _ rfl) (c := ?_); clear hs; intro a hs
    repeat (first | (refine sxv hs hw ?_; clear hs; intro a hs) | refine sxc hs ?_ | (refine sxa hs hw ?_; clear hs hw; intro a b W hw hs) | (refine sxs hs hw ?_; clear hs hw; intro W hs hw))
    refine st_idiv hs (hne := by rw [beq_eq_false_iff_ne]; omega) (k := ?_); clear hs; intro a hs
    repeat (first | (refine sxv hs hw ?_; clear hs; intro a hs) | refine sxc hs ?_ | (refine sxa hs hw ?_; clear hs hw; intro a b W hw hs) | (refine sxs hs hw ?_; clear hs hw; intro W hs hw))
    refine st_idiv hs (hne := by rw [beq_eq_false_iff_ne]; omega) (k := ?_); clear hs; intro a hs
    obtain ⟨kk, hkl, hke⟩ := mod_at (IntKind.i64.wrap (z0.tdiv 7)) (show 0 < x.length by omega) (by omega)
    rw [hke] at hs
    repeat (first | (refine sxv hs hw ?_; clear hs; intro a hs) | refine sxc hs ?_ | (refine sxa hs hw ?_; clear hs hw; intro a b W hw hs) | (refine sxs hs hw ?_; clear hs hw; intro W hs hw))
    refine st_index_ch hs (r := hw.rdH (by repeat (first | exact In.hd | apply In.tl)) (hsr.le hle)) (hk := IntIn.len) (ch := hsc) (ho := hz0) (hlen := rfl) (c := ?_); clear hs; intro a g4 off4 c hc hcl4 hpc hlt4 hs
    have hc : c = [.int .i64 z0] := hc
    subst hc
    refine st_load_at hs (hc := hpc 0 _ rfl) (c := ?_); clear hs; intro a hs
    clear hpc
    repeat (first | (refine sxv hs hw ?_; clear hs; intro a hs) | refine sxc hs ?_ | (refine sxa hs hw ?_; clear hs hw; intro a b W hw hs) | (refine sxs hs hw ?_; clear hs hw; intro W hs hw))
    generalize (IntKind.i64.wrap (z0.tmod 7 + 7)).tmod 7 = sp at *
    obtain ⟨g2, cur, rfl, hcur, hcl0, hkc, hcm, hw⟩ := hw.open_own (show 0 < x.length by omega)
    obtain ⟨ro, hri⟩ : ∃ o, x[kk]? = some o := ⟨x[kk], List.getElem?_eq_getElem hkl⟩
    obtain ⟨c0, ⟨ov0, rfl, hov⟩, hcut⟩ := hxc.mem RowIn.len hri
    have hok0 := hx1 ro (List.mem_of_getElem? hri)
    cases s0 : (sp == 0) with
    | true =>
      rw [s0] at hs
      repeat (first | (refine sxv hs hw ?_; clear hs; intro a hs) | refine sxc hs ?_ | (refine sxa hs hw ?_; clear hs hw; intro a b W hw hs) | (refine sxs hs hw ?_; clear hs hw; intro W hs hw))
      have hat : cur[kk * 5 + 0]? = some (.int .i64 ro.place) := Ch.at_cur (R := RowIn H) (l := x) (a := ro) (j := 0) hcut hcur rfl
      refine st_index_at hs (z := zrc) (h0 := by omega) (h1 := by omega) (c := ?_); clear hs; intro a hs
      repeat (first | (refine sxv hs hw ?_; clear hs; intro a hs) | refine sxc hs ?_ | (refine sxa hs hw ?_; clear hs hw; intro a b W hw hs) | (refine sxs hs hw ?_; clear hs hw; intro W hs hw))
      refine st_load_one hs (hw := hw) (hi := In.hd) (hv := by show cur[0 + kk * 5 + 0]? = _; rw [show 0 + kk * 5 + 0 = kk * 5 + 0 by omega]; exact hat) (k := ?_); clear hs; intro a hs
      repeat (first | (refine sxv hs hw ?_; clear hs; intro a hs) | refine sxc hs ?_ | (refine sxa hs hw ?_; clear hs hw; intro a b W hw hs) | (refine sxs hs hw ?_; clear hs hw; intro W hs hw))
      refine st_index_at hs (z := zrc) (h0 := by omega) (h1 := by omega) (c := ?_); clear hs; intro a hs
      repeat (first | (refine sxv hs hw ?_; clear hs; intro a hs) | refine sxc hs ?_ | (refine sxa hs hw ?_; clear hs hw; intro a b W hw hs) | (refine sxs hs hw ?_; clear hs hw; intro W hs hw))
      refine st_store hs (hw := hw) (vs := [.int .i64 (IntKind.i64.wrap (ro.place + 1))]) (hl := by show Nat.ble (0 + kk * 5 + 0 + 1) cur.length = true; rw [hcl0]; apply Nat.ble_eq_true_of_le; omega) (k := ?_); clear hs hw; intro W hs hw
      rw [ov_one] at hw
      repeat (first | (refine sxv hs hw ?_; clear hs; intro a hs) | refine sxc hs ?_ | (refine sxa hs hw ?_; clear hs hw; intro a b W hw hs) | (refine sxs hs hw ?_; clear hs hw; intro W hs hw))
      replace hw : Has 0 w W (Cells g2 (cur.set (kk * 5 + 0) (.int .i64 (IntKind.i64.wrap (ro.place + 1)))) 39 :: StreamAt H p s :: RStreamAt H b12 s :: Fz H :: []) := by
        have e : 0 + kk * 5 + 0 = kk * 5 + 0 := by omega
        have this : Has 0 w W (Cells g2 (cur.set (0 + kk * 5 + 0) (.int .i64 (IntKind.i64.wrap (ro.place + 1)))) 39 :: StreamAt H p s :: RStreamAt H b12 s :: Fz H :: []) := hw
        rw [e] at this
        exact this
      replace hw := hw.shut_own (k := x.length) (size := 5) (cap := cap2) (xs := xs.set (kk * 5 + 0) (.int .i64 (IntKind.i64.wrap (ro.place + 1)))) (by rw [List.take_set, hcur]) (by rw [List.length_set]; exact hcl0) hkc hcm
      have hz2 := hxc.set_in (R' := RowIn H) (m := 0) (x := .int .i64 (IntKind.i64.wrap (ro.place + 1))) (a' := ⟨(IntKind.i64.wrap (ro.place + 1)), ro.b, ro.err⟩) RowIn.len hri (by decide) (by rintro c ⟨sv, rfl, h⟩; exact ⟨sv, rfl, h⟩)
      replace hw : Has 0 w W (Sx.Own 39 5 (.slice (some ⟨g2, 0, none⟩) x.length cap2) x.length (xs.set (kk * 5 + 0) (.int .i64 (IntKind.i64.wrap (ro.place + 1)))) :: Fz H :: StreamAt H p s :: RStreamAt H b12 s :: []) := hw.perm (by repeat (first | exact List.Perm.refl _ | refine perm_pick (by repeat (first | exact Pick.hd | apply Pick.tl)) ?_))
      obtain ⟨H4, h4, hw, hr4⟩ := hw.freeze_own
      refine ⟨H4, x.set kk ⟨(IntKind.i64.wrap (ro.place + 1)), ro.b, ro.err⟩, some ⟨g2, 0, none⟩, cap2, h4, ⟨_, by rw [List.length_set]; exact hr4, hz2.mono (RowIn.le h4)⟩, row_set hx1 ⟨⟨wrap_i64 _, hok0.1.err, hok0.1.b⟩, hok0.2⟩, by rw [List.length_set]; exact hxl, ?_, hw.perm (by repeat (first | exact List.Perm.refl _ | refine perm_pick (by repeat (first | exact Pick.hd | apply Pick.tl)) ?_))⟩
      rw [List.length_set]
      exact hs.of ⟨rfl, rfl, rfl, rfl, rfl, rfl, rfl, rfl, trivial⟩
    | false =>
    rw [s0] at hs
    repeat (first | (refine sxv hs hw ?_; clear hs; intro a hs) | refine sxc hs ?_ | (refine sxa hs hw ?_; clear hs hw; intro a b W hw hs) | (refine sxs hs hw ?_; clear hs hw; intro W hs hw))
    cases s1 : (sp == 1) with
    | true =>
      rw [s1] at hs
      repeat (first | (refine sxv hs hw ?_; clear hs; intro a hs) | refine sxc hs ?_ | (refine sxa hs hw ?_; clear hs hw; intro a b W hw hs) | (refine sxs hs hw ?_; clear hs hw; intro W hs hw))
      refine st_index_at hs (z := zrc) (h0 := by omega) (h1 := by omega) (c := ?_); clear hs; intro a hs
      repeat (first | (refine sxv hs hw ?_; clear hs; intro a hs) | refine sxc hs ?_ | (refine sxa hs hw ?_; clear hs hw; intro a b W hw hs) | (refine sxs hs hw ?_; clear hs hw; intro W hs hw))
      refine st_store hs (hw := hw) (vs := [.int .i64 1]) (hl := by show Nat.ble (0 + kk * 5 + 4 + 1) cur.length = true; rw [hcl0]; apply Nat.ble_eq_true_of_le; omega) (k := ?_); clear hs hw; intro W hs hw
      rw [ov_one] at hw
      repeat (first | (refine sxv hs hw ?_; clear hs; intro a hs) | refine sxc hs ?_ | (refine sxa hs hw ?_; clear hs hw; intro a b W hw hs) | (refine sxs hs hw ?_; clear hs hw; intro W hs hw))
      replace hw : Has 0 w W (Cells g2 (cur.set (kk * 5 + 4) (.int .i64 1)) 39 :: StreamAt H p s :: RStreamAt H b12 s :: Fz H :: []) := by
        have e : 0 + kk * 5 + 4 = kk * 5 + 4 := by omega
        have this : Has 0 w W (Cells g2 (cur.set (0 + kk * 5 + 4) (.int .i64 1)) 39 :: StreamAt H p s :: RStreamAt H b12 s :: Fz H :: []) := hw
        rw [e] at this
        exact this
      replace hw := hw.shut_own (k := x.length) (size := 5) (cap := cap2) (xs := xs.set (kk * 5 + 4) (.int .i64 1)) (by rw [List.take_set, hcur]) (by rw [List.length_set]; exact hcl0) hkc hcm
      have hz2 := hxc.set_in (R' := RowIn H) (m := 4) (x := .int .i64 1) (a' := ⟨ro.place, ro.b, 1⟩) RowIn.len hri (by decide) (by rintro c ⟨sv, rfl, h⟩; exact ⟨sv, rfl, h⟩)
      replace hw : Has 0 w W (Sx.Own 39 5 (.slice (some ⟨g2, 0, none⟩) x.length cap2) x.length (xs.set (kk * 5 + 4) (.int .i64 1)) :: Fz H :: StreamAt H p s :: RStreamAt H b12 s :: []) := hw.perm (by repeat (first | exact List.Perm.refl _ | refine perm_pick (by repeat (first | exact Pick.hd | apply Pick.tl)) ?_))
      obtain ⟨H4, h4, hw, hr4⟩ := hw.freeze_own
      refine ⟨H4, x.set kk ⟨ro.place, ro.b, 1⟩, some ⟨g2, 0, none⟩, cap2, h4, ⟨_, by rw [List.length_set]; exact hr4, hz2.mono (RowIn.le h4)⟩, row_set hx1 ⟨⟨hok0.1.place, (show i64 1 from ⟨by decide, by decide⟩), hok0.1.b⟩, hok0.2⟩, by rw [List.length_set]; exact hxl, ?_, hw.perm (by repeat (first | exact List.Perm.refl _ | refine perm_pick (by repeat (first | exact Pick.hd | apply Pick.tl)) ?_))⟩
      rw [List.length_set]
      exact hs.of ⟨rfl, rfl, rfl, rfl, rfl, rfl, rfl, rfl, trivial⟩
    | false =>
    rw [s1] at hs
    repeat (first | (refine sxv hs hw ?_; clear hs; intro a hs) | refine sxc hs ?_ | (refine sxa hs hw ?_; clear hs hw; intro a b W hw hs) | (refine sxs hs hw ?_; clear hs hw; intro W hs hw))
    cases s2 : (sp == 2) with
    | true =>
      rw [s2] at hs
      repeat (first | (refine sxv hs hw ?_; clear hs; intro a hs) | refine sxc hs ?_ | (refine sxa hs hw ?_; clear hs hw; intro a b W hw hs) | (refine sxs hs hw ?_; clear hs hw; intro W hs hw))
      have hat : cur[kk * 5 + 2]? = some (.int .i64 ro.b.q) := Ch.at_cur (R := RowIn H) (l := x) (a := ro) (j := 2) hcut hcur rfl
      refine st_index_at hs (z := zrc) (h0 := by omega) (h1 := by omega) (c := ?_); clear hs; intro a hs
      repeat (first | (refine sxv hs hw ?_; clear hs; intro a hs) | refine sxc hs ?_ | (refine sxa hs hw ?_; clear hs hw; intro a b W hw hs) | (refine sxs hs hw ?_; clear hs hw; intro W hs hw))
      refine st_load_one hs (hw := hw) (hi := In.hd) (hv := by show cur[0 + kk * 5 + 1 + 1]? = _; rw [show 0 + kk * 5 + 1 + 1 = kk * 5 + 2 by omega]; exact hat) (k := ?_); clear hs; intro a hs
      repeat (first | (refine sxv hs hw ?_; clear hs; intro a hs) | refine sxc hs ?_ | (refine sxa hs hw ?_; clear hs hw; intro a b W hw hs) | (refine sxs hs hw ?_; clear hs hw; intro W hs hw))
      refine st_index_at hs (z := zrc) (h0 := by omega) (h1 := by omega) (c := ?_); clear hs; intro a hs
      repeat (first | (refine sxv hs hw ?_; clear hs; intro a hs) | refine sxc hs ?_ | (refine sxa hs hw ?_; clear hs hw; intro a b W hw hs) | (refine sxs hs hw ?_; clear hs hw; intro W hs hw))
      refine st_store hs (hw := hw) (vs := [.int .i64 (IntKind.i64.wrap (ro.b.q + 1))]) (hl := by show Nat.ble (0 + kk * 5 + 1 + 1 + 1) cur.length = true; rw [hcl0]; apply Nat.ble_eq_true_of_le; omega) (k := ?_); clear hs hw; intro W hs hw
      rw [ov_one] at hw
      repeat (first | (refine sxv hs hw ?_; clear hs; intro a hs) | refine sxc hs ?_ | (refine sxa hs hw ?_; clear hs hw; intro a b W hw hs) | (refine sxs hs hw ?_; clear hs hw; intro W hs hw))
      replace hw : Has 0 w W (Cells g2 (cur.set (kk * 5 + 2) (.int .i64 (IntKind.i64.wrap (ro.b.q + 1)))) 39 :: StreamAt H p s :: RStreamAt H b12 s :: Fz H :: []) := by
        have e : 0 + kk * 5 + 1 + 1 = kk * 5 + 2 := by omega
        have this : Has 0 w W (Cells g2 (cur.set (0 + kk * 5 + 1 + 1) (.int .i64 (IntKind.i64.wrap (ro.b.q + 1)))) 39 :: StreamAt H p s :: RStreamAt H b12 s :: Fz H :: []) := hw
        rw [e] at this
        exact this
      replace hw := hw.shut_own (k := x.length) (size := 5) (cap := cap2) (xs := xs.set (kk * 5 + 2) (.int .i64 (IntKind.i64.wrap (ro.b.q + 1)))) (by rw [List.take_set, hcur]) (by rw [List.length_set]; exact hcl0) hkc hcm
      have hz2 := hxc.set_in (R' := RowIn H) (m := 2) (x := .int .i64 (IntKind.i64.wrap (ro.b.q + 1))) (a' := ⟨ro.place, ⟨ro.b.c, (IntKind.i64.wrap (ro.b.q + 1)), ro.b.l⟩, ro.err⟩) RowIn.len hri (by decide) (by rintro c ⟨sv, rfl, h⟩; exact ⟨sv, rfl, h⟩)
      replace hw : Has 0 w W (Sx.Own 39 5 (.slice (some ⟨g2, 0, none⟩) x.length cap2) x.length (xs.set (kk * 5 + 2) (.int .i64 (IntKind.i64.wrap (ro.b.q + 1)))) :: Fz H :: StreamAt H p s :: RStreamAt H b12 s :: []) := hw.perm (by repeat (first | exact List.Perm.refl _ | refine perm_pick (by repeat (first | exact Pick.hd | apply Pick.tl)) ?_))
      obtain ⟨H4, h4, hw, hr4⟩ := hw.freeze_own
      refine ⟨H4, x.set kk ⟨ro.place, ⟨ro.b.c, (IntKind.i64.wrap (ro.b.q + 1)), ro.b.l⟩, ro.err⟩, some ⟨g2, 0, none⟩, cap2, h4, ⟨_, by rw [List.length_set]; exact hr4, hz2.mono (RowIn.le h4)⟩, row_set hx1 ⟨⟨hok0.1.place, hok0.1.err, bat_seq2 hok0.1.b _⟩, hok0.2⟩, by rw [List.length_set]; exact hxl, ?_, hw.perm (by repeat (first | exact List.Perm.refl _ | refine perm_pick (by repeat (first | exact Pick.hd | apply Pick.tl)) ?_))⟩
      rw [List.length_set]
      exact hs.of ⟨rfl, rfl, rfl, rfl, rfl, rfl, rfl, rfl, trivial⟩
    | false =>
    rw [s2] at hs
    repeat (first | (refine sxv hs hw ?_; clear hs; intro a hs) | refine sxc hs ?_ | (refine sxa hs hw ?_; clear hs hw; intro a b W hw hs) | (refine sxs hs hw ?_; clear hs hw; intro W hs hw))
    replace hw := hw.shut_own (k := x.length) (size := 5) (cap := cap2) (xs := xs) hcur hcl0 hkc hcm
    obtain ⟨H4, h4, hw2, hr4⟩ := (hw.perm (by repeat (first | exact List.Perm.refl _ | refine perm_pick (by repeat (first | exact Pick.hd | apply Pick.tl)) ?_)) : Has 0 w W (Sx.Own 39 5 (.slice (some ⟨g2, 0, none⟩) x.length cap2) x.length xs :: Fz H :: StreamAt H p s :: RStreamAt H b12 s :: [])).freeze_own
    exact ⟨H4, x, some ⟨g2, 0, none⟩, cap2, h4, ⟨_, hr4, hxc.mono (RowIn.le h4)⟩, hx1, hxl, hs.of ⟨rfl, rfl, rfl, rfl, rfl, rfl, rfl, rfl, trivial⟩, hw2.perm (by repeat (first | exact List.Perm.refl _ | refine perm_pick (by repeat (first | exact Pick.hd | apply Pick.tl)) ?_))⟩
  clear hs hw
  rintro a W ⟨H2, x2, vad2, vcap2, hle2, hr2, hx2, hx2l, hs, hw⟩
  obtain ⟨T, hTk⟩ : ∃ T, takeN s 0 x2 = T := ⟨_, rfl⟩
  have hTf := take_fine (n := 0) hsf (fun r hr => ⟨(hx2 r hr).1.b, (hx2 r hr).2⟩) (by omega)
  have hTl := takeN_len (rows := x2) (s := s) (n := 0)
  rw [hTk] at hTf hTl
  have hle3 := hle.trans hle2
  repeat (first | (refine sxv hs hw ?_; clear hs; intro a hs) | refine sxc hs ?_ | (refine sxa hs hw ?_; clear hs hw; intro a b W hw hs) | (refine sxs hs hw ?_; clear hs hw; intro W hs hw))
  replace hw : Has 0 w _ (StreamAt H2 p s :: Fz H2 :: RStreamAt H b12 s :: []) := streamLe (hw.perm (by repeat (first | exact List.Perm.refl _ | refine perm_pick (by repeat (first | exact Pick.hd | apply Pick.tl)) ?_)) : Has 0 w _ (StreamAt H p s :: Fz H2 :: RStreamAt H b12 s :: [])) hle2
  refine st_call hs (hc := stream_Take w _ H2 p s x2 _ _ (by omega) (fun r hr => (hx2 r hr).1) hr2 hle3 hT hw) (k := ?_); rintro e0 W1 ⟨H3, rfl, hle4, hw1⟩; refine ⟨_, rfl, ?_⟩; clear hs hw; intro a hs; have hw := hw1; clear hw1
  rw [hTk] at hs hw
  repeat (first | (refine sxv hs hw ?_; clear hs; intro a hs) | refine sxc hs ?_ | (refine sxa hs hw ?_; clear hs hw; intro a b W hw hs) | (refine sxs hs hw ?_; clear hs hw; intro W hs hw))
  replace hw : Has 0 w _ (RStreamAt H3 b12 s :: Fz H3 :: StreamAt H3 p T.1 :: []) := rstreamLe (hw.perm (by repeat (first | exact List.Perm.refl _ | refine perm_pick (by repeat (first | exact Pick.hd | apply Pick.tl)) ?_)) : Has 0 w _ (RStreamAt H b12 s :: Fz H3 :: StreamAt H3 p T.1 :: [])) (hle2.trans hle4)
  refine st_call hs (hc := ref_Take w _ H3 b12 s x2 _ _ (by omega) (fun r hr => (hx2 r hr).1) (hr2.le hle4) hsf.fine.doc.ok hsf.place hw) (k := ?_); rintro e0 W1 ⟨H4, rfl, hle5, hw1⟩; refine ⟨_, rfl, ?_⟩; clear hs hw; intro a hs; have hw := hw1; clear hw1
  rw [hTk] at hs hw
  have hleA := (hle3.trans hle4).trans hle5
  have hHA := ((hH.trans hle2).trans hle4).trans hle5
  obtain ⟨X, N, E⟩ := T
  simp only at hs hw hTf hTl
  repeat (first | (refine sxv hs hw ?_; clear hs; intro a hs) | refine sxc hs ?_ | (refine sxa hs hw ?_; clear hs hw; intro a b W hw hs) | (refine sxs hs hw ?_; clear hs hw; intro W hs hw))
  obtain ⟨cs, xad, xcap, xs, hf, hxs, hw⟩ := rstreamOpen hw
  have hlenc := hf.len
  have hXl : X.l.length ≤ 1000 := by omega
  replace hw : Has 0 w _ (Fz H4 :: Free :: Free :: StreamAt H4 p X :: Cells b12 (cs ++ [.slice xad X.l.length xcap]) 44 :: Sx.Own 39 5 (.slice xad X.l.length xcap) X.l.length xs :: []) := (streamLe (hw.free.free.perm (by repeat (first | exact List.Perm.refl _ | refine perm_pick (by repeat (first | exact Pick.hd | apply Pick.tl)) ?_)) : Has 0 w _ (StreamAt H3 p X :: Fz H4 :: Free :: Free :: Cells b12 (cs ++ [.slice xad X.l.length xcap]) 44 :: Sx.Own 39 5 (.slice xad X.l.length xcap) X.l.length xs :: [])) hle5).perm (by repeat (first | exact List.Perm.refl _ | refine perm_pick (by repeat (first | exact Pick.hd | apply Pick.tl)) ?_))
  have hnx : IntKind.i64.wrap ((X.l.length : Int) + 1) = (X.l.length : Int) + 1 := IntWalk.i64_in _ (by omega)
  refine rg_drawU (σ := RawU × Nat) (V := fun u => [.int .i64 (N : Int), .int .i64 (N : Int), .bool false, .bool false, .int .i64 E, .int .i64 E, .bool false, .bool false, .bool false, .pointer (some ⟨p, 0, none⟩), .int .i64 ((X.l.length : Int) + 1), .pointer (some ⟨b12, 0, none⟩), .pointer (some ⟨b12, 0, none⟩), .pointer (some ⟨b12, 0 + 38, none⟩), .slice xad X.l.length xcap, .int .i64 (X.l.length : Int), .int .i64 ((X.l.length : Int) + 1), .bool false, .bool false, .bool false, .pointer (some ⟨p, 0, none⟩), .slice (u 21).1.ad X.l.length (u 21).1.cap, .pointer (some ⟨b12, 0, none⟩), .pointer (some ⟨b12, 0, none⟩), .pointer (some ⟨b12, 0 + 38, none⟩), .slice xad X.l.length xcap, .bool true, .bool false, .bool false, .bool false, .pointer (some ⟨p, 0, none⟩), .pointer (some ⟨(u 31).2, 0, none⟩), .pointer (some ⟨b12, 0, none⟩), .pointer (some ⟨b12, 0, none⟩), .pointer (some ⟨b12, 0 + 0, none⟩), .agg ⟨cs⟩, .bool true, .bool false, .bool false])
    (Rs := fun u D => (if D 21 then FzF (u 21).1.H (H4.le (u 21).1.H ∧ Ch (RowIn (u 21).1.H) X.l (u 21).1.ys) else Fz H4) :: (if D 21 then Sx.Own 39 5 (.slice (u 21).1.ad X.l.length (u 21).1.cap) X.l.length (u 21).1.ys else Free) :: (if D 31 then FoldAt (u 21).1.H (u 31).2 X.f else Free) :: (if D 21 then StreamAt (u 21).1.H p X else StreamAt H4 p X) :: Cells b12 (cs ++ [.slice xad X.l.length xcap]) 44 :: Sx.Own 39 5 (.slice xad X.l.length xcap) X.l.length xs :: []) (fun _ => (⟨H4, none, 0, []⟩, 0)) hs hw (hVu := ?vu_7) (ho := ⟨?_, ?_, ?c2_7, ?_, ?_, ?_, ?c6_7, ?_, ?_, ?_, ?c10_7, ?_, ?_, ?_, ?c14_7, ?_, ?c16_7, ?c17_7, ?_, ?_, ?_, ?c21_7, ?_, ?_, ?_, ?c25_7, ?c26_7, ?_, ?_, ?_, ?_, ?c31_7, ?_, ?_, ?_, ?c35_7, ?c36_7, ?_, ?_, trivial⟩) (k := ?k_7)
  case vu_7 =>
    intro u u' j h
    rcases j with _ | _ | _ | _ | _ | _ | _ | _ | _ | _ | _ | _ | _ | _ | _ | _ | _ | _ | _ | _ | _ | _ | _ | _ | _ | _ | _ | _ | _ | _ | _ | _ | _ | _ | _ | _ | _ | _ | _ | j
    all_goals first | rfl | simp [h]
  case c2_7 =>
    intro u LD D a W hcl hi hp hs hw
    repeat (first | (refine sxv hs hw ?_; clear hs; intro a hs) | refine sxc hs ?_ | (refine sxa hs hw ?_; clear hs hw; intro a b W hw hs) | (refine sxs hs hw ?_; clear hs hw; intro W hs hw) | ((with_reducible first | refine st_ptrSome hs (k := ?_) | refine st_ptrNone hs (k := ?_)); clear hs; intro a hs))
    rw [bne_self_eq_false] at hs
    exact Or.inl ⟨hs, hw⟩
  case c6_7 =>
    intro u LD D a W hcl hi hp hs hw
    repeat (first | (refine sxv hs hw ?_; clear hs; intro a hs) | refine sxc hs ?_ | (refine sxa hs hw ?_; clear hs hw; intro a b W hw hs) | (refine sxs hs hw ?_; clear hs hw; intro W hs hw) | ((with_reducible first | refine st_ptrSome hs (k := ?_) | refine st_ptrNone hs (k := ?_)); clear hs; intro a hs))
    rw [bne_self_eq_false] at hs
    exact Or.inl ⟨hs, hw⟩
  case c10_7 =>
    intro u LD D a W hcl hi hp hs hw
    have h21 := Go.Sx.not_done hcl (Go.Sx.not_done hcl hi 19 (by kernel_rfl)) 21 (by kernel_rfl)
    have h31 := Go.Sx.not_done hcl (Go.Sx.not_done hcl (Go.Sx.not_done hcl h21 26 (by kernel_rfl)) 29 (by kernel_rfl)) 31 (by kernel_rfl)
    simp only [h21, h31, Bool.false_eq_true, if_false] at hw
    repeat (first | (refine sxv hs hw ?_; clear hs; intro a hs) | refine sxc hs ?_ | (refine sxa hs hw ?_; clear hs hw; intro a b W hw hs) | (refine sxs hs hw ?_; clear hs hw; intro W hs hw) | ((with_reducible first | refine st_ptrSome hs (k := ?_) | refine st_ptrNone hs (k := ?_)); clear hs; intro a hs))
    replace hw : Has 0 w W (StreamAt H4 p X :: Fz H4 :: Free :: Free :: Cells b12 (cs ++ [.slice xad X.l.length xcap]) 44 :: Sx.Own 39 5 (.slice xad X.l.length xcap) X.l.length xs :: []) := hw.perm (by repeat (first | exact List.Perm.refl _ | refine perm_pick (by repeat (first | exact Pick.hd | apply Pick.tl)) ?_))
    refine st_call hs (hc := stream_Next w _ H4 p X _ (by omega) hw) (k := ?_); rintro e0 W1 ⟨rfl, hw1⟩; refine ⟨_, rfl, ?_⟩; clear hs hw; intro a hs; have hw := hw1; clear hw1
    repeat (first | (refine sxv hs hw ?_; clear hs; intro a hs) | refine sxc hs ?_ | (refine sxa hs hw ?_; clear hs hw; intro a b W hw hs) | (refine sxs hs hw ?_; clear hs hw; intro W hs hw) | ((with_reducible first | refine st_ptrSome hs (k := ?_) | refine st_ptrNone hs (k := ?_)); clear hs; intro a hs))
    refine Or.inl ⟨hs, ?_⟩
    show Has 0 w _ ((if (Nat.beq 21 10 || D 21) = true then _ else _) :: (if (Nat.beq 21 10 || D 21) = true then _ else _) :: (if (Nat.beq 31 10 || D 31) = true then _ else _) :: (if (Nat.beq 21 10 || D 21) = true then _ else _) :: _)
    rw [h21, h31]
    exact hw.perm (by repeat (first | exact List.Perm.refl _ | refine perm_pick (by repeat (first | exact Pick.hd | apply Pick.tl)) ?_))
  case c14_7 =>
    intro u LD D a W hcl hi hp hs hw
    repeat (first | (refine sxv hs hw ?_; clear hs; intro a hs) | refine sxc hs ?_ | (refine sxa hs hw ?_; clear hs hw; intro a b W hw hs) | (refine sxs hs hw ?_; clear hs hw; intro W hs hw) | ((with_reducible first | refine st_ptrSome hs (k := ?_) | refine st_ptrNone hs (k := ?_)); clear hs; intro a hs))
    refine st_load_one hs (hw := hw) (hi := In.tl (In.tl (In.tl (In.tl In.hd)))) (hv := at38 hlenc _) (k := ?_); clear hs; intro a hs
    repeat (first | (refine sxv hs hw ?_; clear hs; intro a hs) | refine sxc hs ?_ | (refine sxa hs hw ?_; clear hs hw; intro a b W hw hs) | (refine sxs hs hw ?_; clear hs hw; intro W hs hw) | ((with_reducible first | refine st_ptrSome hs (k := ?_) | refine st_ptrNone hs (k := ?_)); clear hs; intro a hs))
    exact Or.inl ⟨hs, hw⟩
  case c25_7 =>
    intro u LD D a W hcl hi hp hs hw
    repeat (first | (refine sxv hs hw ?_; clear hs; intro a hs) | refine sxc hs ?_ | (refine sxa hs hw ?_; clear hs hw; intro a b W hw hs) | (refine sxs hs hw ?_; clear hs hw; intro W hs hw) | ((with_reducible first | refine st_ptrSome hs (k := ?_) | refine st_ptrNone hs (k := ?_)); clear hs; intro a hs))
    refine st_load_one hs (hw := hw) (hi := In.tl (In.tl (In.tl (In.tl In.hd)))) (hv := at38 hlenc _) (k := ?_); clear hs; intro a hs
    repeat (first | (refine sxv hs hw ?_; clear hs; intro a hs) | refine sxc hs ?_ | (refine sxa hs hw ?_; clear hs hw; intro a b W hw hs) | (refine sxs hs hw ?_; clear hs hw; intro W hs hw) | ((with_reducible first | refine st_ptrSome hs (k := ?_) | refine st_ptrNone hs (k := ?_)); clear hs; intro a hs))
    exact Or.inl ⟨hs, hw⟩
  case c16_7 =>
    intro u LD D a W hcl hi hp hs hw
    repeat (first | (refine sxv hs hw ?_; clear hs; intro a hs) | refine sxc hs ?_ | (refine sxa hs hw ?_; clear hs hw; intro a b W hw hs) | (refine sxs hs hw ?_; clear hs hw; intro W hs hw) | ((with_reducible first | refine st_ptrSome hs (k := ?_) | refine st_ptrNone hs (k := ?_)); clear hs; intro a hs))
    rw [hnx] at hs
    exact Or.inl ⟨hs, hw⟩
  case c17_7 =>
    intro u LD D a W hcl hi hp hs hw
    repeat (first | (refine sxv hs hw ?_; clear hs; intro a hs) | refine sxc hs ?_ | (refine sxa hs hw ?_; clear hs hw; intro a b W hw hs) | (refine sxs hs hw ?_; clear hs hw; intro W hs hw) | ((with_reducible first | refine st_ptrSome hs (k := ?_) | refine st_ptrNone hs (k := ?_)); clear hs; intro a hs))
    rw [bne_self_eq_false] at hs
    exact Or.inl ⟨hs, hw⟩
  case c21_7 =>
    intro u LD D a W hcl hi hp hs hw
    have h31 := Go.Sx.not_done hcl (Go.Sx.not_done hcl (Go.Sx.not_done hcl hi 26 (by kernel_rfl)) 29 (by kernel_rfl)) 31 (by kernel_rfl)
    simp only [hi, h31, Bool.false_eq_true, if_false] at hw
    repeat (first | (refine sxv hs hw ?_; clear hs; intro a hs) | refine sxc hs ?_ | (refine sxa hs hw ?_; clear hs hw; intro a b W hw hs) | (refine sxs hs hw ?_; clear hs hw; intro W hs hw) | ((with_reducible first | refine st_ptrSome hs (k := ?_) | refine st_ptrNone hs (k := ?_)); clear hs; intro a hs))
    replace hw : Has 0 w W (StreamAt H4 p X :: Fz H4 :: Free :: Free :: Cells b12 (cs ++ [.slice xad X.l.length xcap]) 44 :: Sx.Own 39 5 (.slice xad X.l.length xcap) X.l.length xs :: []) := hw.perm (by repeat (first | exact List.Perm.refl _ | refine perm_pick (by repeat (first | exact Pick.hd | apply Pick.tl)) ?_))
    refine st_call hs (hc := stream_Rows w _ H4 p X _ (by omega) hTf.rows hw) (k := ?_); rintro e0 W1 ⟨ad, cap, ys', H5, rfl, hle6, hc5, hw1⟩; refine ⟨_, rfl, ?_⟩; clear hs hw; intro a hs; have hw := hw1; clear hw1
    repeat (first | (refine sxv hs hw ?_; clear hs; intro a hs) | refine sxc hs ?_ | (refine sxa hs hw ?_; clear hs hw; intro a b W hw hs) | (refine sxs hs hw ?_; clear hs hw; intro W hs hw) | ((with_reducible first | refine st_ptrSome hs (k := ?_) | refine st_ptrNone hs (k := ?_)); clear hs; intro a hs))
    refine Or.inr ⟨(⟨H5, ad, cap, ys'⟩, 0), hs, ?_⟩
    show Has 0 w _ (_ :: _ :: (if (Nat.beq 31 21 || D 31) = true then _ else _) :: _)
    rw [h31]
    replace hw : Has 0 w _ (Fz H5 :: Sx.Own 39 5 (.slice ad X.l.length cap) X.l.length ys' :: Free :: StreamAt H5 p X :: Cells b12 (cs ++ [.slice xad X.l.length xcap]) 44 :: Sx.Own 39 5 (.slice xad X.l.length xcap) X.l.length xs :: []) := (hw.perm (B := Free :: Fz H5 :: Sx.Own 39 5 (.slice ad X.l.length cap) X.l.length ys' :: Free :: StreamAt H5 p X :: Cells b12 (cs ++ [.slice xad X.l.length xcap]) 44 :: Sx.Own 39 5 (.slice xad X.l.length xcap) X.l.length xs :: []) (by repeat (first | exact List.Perm.refl _ | refine perm_pick (by repeat (first | exact Pick.hd | apply Pick.tl)) ?_))).sub (List.Sublist.cons _ (List.Sublist.refl _))
    exact hw.fzf ⟨hle6, hc5⟩
  case c26_7 =>
    intro u LD D a W hcl hi hp hs hw
    have h21 := Go.Sx.done hp 21 (by kernel_rfl)
    simp only [h21, if_true] at hw
    obtain ⟨⟨hle6, hc5⟩, hw⟩ := hw.unfzf
    repeat (first | (refine sxv hs hw ?_; clear hs; intro a hs) | refine sxc hs ?_ | (refine sxa hs hw ?_; clear hs hw; intro a b W hw hs) | (refine sxs hs hw ?_; clear hs hw; intro W hs hw) | ((with_reducible first | refine st_ptrSome hs (k := ?_) | refine st_ptrNone hs (k := ?_)); clear hs; intro a hs))
    refine st_call hs (hc := ref_EqRows X.l _ (u 21).1.ys X.l _ xs _ (hw.rd_own (In.tl In.hd)) (rowRd hw In.hd hc5) (hw.rd_own (In.tl (In.tl (In.tl (In.tl (In.tl In.hd)))))) (rowRd hw In.hd (hxs.mono (RowIn.le hle6)))) (k := ?_); rintro e0 W1 ⟨rfl, hb⟩; refine ⟨_, rfl, ?_⟩; clear hs; intro a hs; replace hw := hw.below hb; clear hb
    rw [eqRows_iff.2 rfl] at hs
    repeat (first | (refine sxv hs hw ?_; clear hs; intro a hs) | refine sxc hs ?_ | (refine sxa hs hw ?_; clear hs hw; intro a b W hw hs) | (refine sxs hs hw ?_; clear hs hw; intro W hs hw) | ((with_reducible first | refine st_ptrSome hs (k := ?_) | refine st_ptrNone hs (k := ?_)); clear hs; intro a hs))
    refine Or.inl ⟨hs, ?_⟩
    replace hw := hw.fzf (q := H4.le (u 21).1.H ∧ Ch (RowIn (u 21).1.H) X.l (u 21).1.ys) ⟨hle6, hc5⟩
    show Has 0 w _ ((if (Nat.beq 21 26 || D 21) = true then _ else _) :: (if (Nat.beq 21 26 || D 21) = true then _ else _) :: (if (Nat.beq 31 26 || D 31) = true then _ else _) :: (if (Nat.beq 21 26 || D 21) = true then _ else _) :: _)
    rw [h21]
    exact hw
  case c31_7 =>
    intro u LD D a W hcl hi hp hs hw
    have h21 := Go.Sx.done_up hcl 21 (Go.Sx.done_up hcl 26 (Go.Sx.done hp 29 (by kernel_rfl)) (by kernel_rfl)) (by kernel_rfl)
    simp only [hi, h21, Bool.false_eq_true, if_false, if_true] at hw
    repeat (first | (refine sxv hs hw ?_; clear hs; intro a hs) | refine sxc hs ?_ | (refine sxa hs hw ?_; clear hs hw; intro a b W hw hs) | (refine sxs hs hw ?_; clear hs hw; intro W hs hw) | ((with_reducible first | refine st_ptrSome hs (k := ?_) | refine st_ptrNone hs (k := ?_)); clear hs; intro a hs))
    replace hw : Has 0 w W (StreamAt (u 21).1.H p X :: Free :: FzF (u 21).1.H (H4.le (u 21).1.H ∧ Ch (RowIn (u 21).1.H) X.l (u 21).1.ys) :: Sx.Own 39 5 (.slice (u 21).1.ad X.l.length (u 21).1.cap) X.l.length (u 21).1.ys :: Cells b12 (cs ++ [.slice xad X.l.length xcap]) 44 :: Sx.Own 39 5 (.slice xad X.l.length xcap) X.l.length xs :: []) := hw.perm (by repeat (first | exact List.Perm.refl _ | refine perm_pick (by repeat (first | exact Pick.hd | apply Pick.tl)) ?_))
    refine st_call hs (hc := stream_Fold w _ (u 21).1.H p X _ hw) (k := ?_); rintro e0 W1 ⟨q, rfl, hw1⟩; refine ⟨_, rfl, ?_⟩; clear hs hw; intro a hs; have hw := hw1; clear hw1
    repeat (first | (refine sxv hs hw ?_; clear hs; intro a hs) | refine sxc hs ?_ | (refine sxa hs hw ?_; clear hs hw; intro a b W hw hs) | (refine sxs hs hw ?_; clear hs hw; intro W hs hw) | ((with_reducible first | refine st_ptrSome hs (k := ?_) | refine st_ptrNone hs (k := ?_)); clear hs; intro a hs))
    refine Or.inr ⟨(⟨H4, none, 0, []⟩, q), hs, ?_⟩
    show Has 0 w _ ((if (Nat.beq 21 31 || D 21) = true then _ else _) :: (if (Nat.beq 21 31 || D 21) = true then _ else _) :: _ :: (if (Nat.beq 21 31 || D 21) = true then _ else _) :: _)
    rw [h21]
    replace hw := hw.fill (Upd.tl Upd.hd)
    exact hw.perm (by repeat (first | exact List.Perm.refl _ | refine perm_pick (by repeat (first | exact Pick.hd | apply Pick.tl)) ?_))
  case c35_7 =>
    intro u LD D a W hcl hi hp hs hw
    repeat (first | (refine sxv hs hw ?_; clear hs; intro a hs) | refine sxc hs ?_ | (refine sxa hs hw ?_; clear hs hw; intro a b W hw hs) | (refine sxs hs hw ?_; clear hs hw; intro W hs hw) | ((with_reducible first | refine st_ptrSome hs (k := ?_) | refine st_ptrNone hs (k := ?_)); clear hs; intro a hs))
    refine st_load_agg hs (hw := hw) (hi := In.tl (In.tl (In.tl (In.tl In.hd)))) (hl := by simp [hlenc]) (k := ?_); clear hs; intro a hs
    have hs2 : Slots a 188 ((184, .agg ⟨cut (cs ++ [.slice xad X.l.length xcap]) (0 + 0) 38⟩) :: _) := hs
    rw [cut38 hlenc] at hs2
    clear hs; have hs := hs2; clear hs2
    repeat (first | (refine sxv hs hw ?_; clear hs; intro a hs) | refine sxc hs ?_ | (refine sxa hs hw ?_; clear hs hw; intro a b W hw hs) | (refine sxs hs hw ?_; clear hs hw; intro W hs hw) | ((with_reducible first | refine st_ptrSome hs (k := ?_) | refine st_ptrNone hs (k := ?_)); clear hs; intro a hs))
    exact Or.inl ⟨hs, hw⟩
  case c36_7 =>
    intro u LD D a W hcl hi hp hs hw
    have h21 := Go.Sx.done_up hcl 21 (Go.Sx.done_up hcl 26 (Go.Sx.done hp 29 (by kernel_rfl)) (by kernel_rfl)) (by kernel_rfl)
    have h31 := Go.Sx.done hp 31 (by kernel_rfl)
    simp only [h21, h31, if_true] at hw
    obtain ⟨⟨hle6, hc5⟩, hw⟩ := hw.unfzf
    repeat (first | (refine sxv hs hw ?_; clear hs; intro a hs) | refine sxc hs ?_ | (refine sxa hs hw ?_; clear hs hw; intro a b W hw hs) | (refine sxs hs hw ?_; clear hs hw; intro W hs hw) | ((with_reducible first | refine st_ptrSome hs (k := ?_) | refine st_ptrNone hs (k := ?_)); clear hs; intro a hs))
    replace hw : Has 0 w W (FoldAt (u 21).1.H (u 31).2 X.f :: Fz (u 21).1.H :: Sx.Own 39 5 (.slice (u 21).1.ad X.l.length (u 21).1.cap) X.l.length (u 21).1.ys :: StreamAt (u 21).1.H p X :: Cells b12 (cs ++ [.slice xad X.l.length xcap]) 44 :: Sx.Own 39 5 (.slice xad X.l.length xcap) X.l.length xs :: []) := hw.perm (by repeat (first | exact List.Perm.refl _ | refine perm_pick (by repeat (first | exact Pick.hd | apply Pick.tl)) ?_))
    refine st_call hs (hc := law7_Same w _ (u 21).1.H (u 31).2 X.f cs _ hTf.fine.ok (hf.le hle6) hw) (k := ?_); rintro e0 W1 ⟨rfl, hw1⟩; refine ⟨_, rfl, ?_⟩; clear hs hw; intro a hs; have hw := hw1; clear hw1
    repeat (first | (refine sxv hs hw ?_; clear hs; intro a hs) | refine sxc hs ?_ | (refine sxa hs hw ?_; clear hs hw; intro a b W hw hs) | (refine sxs hs hw ?_; clear hs hw; intro W hs hw) | ((with_reducible first | refine st_ptrSome hs (k := ?_) | refine st_ptrNone hs (k := ?_)); clear hs; intro a hs))
    refine Or.inl ⟨hs, ?_⟩
    replace hw : Has 0 w _ (Fz (u 21).1.H :: Sx.Own 39 5 (.slice (u 21).1.ad X.l.length (u 21).1.cap) X.l.length (u 21).1.ys :: FoldAt (u 21).1.H (u 31).2 X.f :: StreamAt (u 21).1.H p X :: Cells b12 (cs ++ [.slice xad X.l.length xcap]) 44 :: Sx.Own 39 5 (.slice xad X.l.length xcap) X.l.length xs :: []) := hw.perm (by repeat (first | exact List.Perm.refl _ | refine perm_pick (by repeat (first | exact Pick.hd | apply Pick.tl)) ?_))
    replace hw := hw.fzf (q := H4.le (u 21).1.H ∧ Ch (RowIn (u 21).1.H) X.l (u 21).1.ys) ⟨hle6, hc5⟩
    show Has 0 w _ ((if (Nat.beq 21 36 || D 21) = true then _ else _) :: (if (Nat.beq 21 36 || D 21) = true then _ else _) :: (if (Nat.beq 31 36 || D 31) = true then _ else _) :: (if (Nat.beq 21 36 || D 21) = true then _ else _) :: _)
    rw [h21, h31]
    exact hw
  case k_7 =>
    clear hs hw
    intro u a W hs hw
    replace hw : Has 0 w W (FzF (u 21).1.H (H4.le (u 21).1.H ∧ Ch (RowIn (u 21).1.H) X.l (u 21).1.ys) :: Sx.Own 39 5 (.slice (u 21).1.ad X.l.length (u 21).1.cap) X.l.length (u 21).1.ys :: FoldAt (u 21).1.H (u 31).2 X.f :: StreamAt (u 21).1.H p X :: Cells b12 (cs ++ [.slice xad X.l.length xcap]) 44 :: Sx.Own 39 5 (.slice xad X.l.length xcap) X.l.length xs :: []) := hw
    obtain ⟨⟨hle6, hc5⟩, hw⟩ := hw.unfzf
    replace hs : Slots a 188 [(187, .bool false), (1, .slice fad fl.length fcap), (2, .slice nad nl.length ncap), (3, .slice pad sl.length pcap), (10, .slice rad rows.length rcap), (11, .pointer (some ⟨p, 0, none⟩)), (12, .pointer (some ⟨b12, 0, none⟩)), (13, .int .i64 (i : Int))] := hs.of ⟨rfl, rfl, rfl, rfl, rfl, rfl, rfl, rfl, trivial⟩
    generalize (u 21).1.H = H5 at *
    replace hw : Has 0 w _ (Cells b12 (cs ++ [.slice xad X.l.length xcap]) 44 :: Sx.Own 39 5 (.slice xad X.l.length xcap) X.l.length xs :: StreamAt H5 p X :: Fz H5 :: []) := hw.sel (by repeat (first | exact Sel.nil | exact Sel.refl _ | refine Sel.cons (by repeat (first | exact Pick.hd | apply Pick.tl)) ?_ | refine Sel.skip ?_))
    replace hw := rstreamShut hw (hf.le hle6) (hxs.mono (RowIn.le hle6))
    repeat (first | (refine sxv hs hw ?_; clear hs; intro a hs) | refine sxc hs ?_ | (refine sxa hs hw ?_; clear hs hw; intro a b W hw hs) | (refine sxs hs hw ?_; clear hs hw; intro W hs hw) | ((with_reducible first | refine st_ptrSome hs (k := ?_) | refine st_ptrNone hs (k := ?_)); clear hs; intro a hs))
    exact st_again (i + 1, X, H5) hs hw.swap2 ⟨by show i + 1 ≤ _; omega, by show i + 1 ≤ 20; omega, hTf, by show X.l.length ≤ 7 * (i + 1); omega, hHA.trans hle6⟩ (by show fl.length - (i + 1) < fl.length - i; omega) ⟨rfl, rfl, rfl, rfl, rfl, rfl, int_eq (by show IntKind.i64.wrap ((i : Int) + 1) = ((i + 1 : Nat) : Int); rw [IntWalk.i64_in _ (by omega)]; omega), trivial⟩
  all_goals
    intro u LD D a W hcl hi hp hs hw
    repeat (first | (refine sxv hs hw ?_; clear hs; intro a hs) | refine sxc hs ?_ | (refine sxa hs hw ?_; clear hs hw; intro a b W hw hs) | (refine sxs hs hw ?_; clear hs hw; intro W hs hw) | ((with_reducible first | refine st_ptrSome hs (k := ?_) | refine st_ptrNone hs (k := ?_)); clear hs; intro a hs))
    exact Or.inl ⟨hs, hw⟩
end Go.Proofs.YtmalklakaalaoaaGreatDoor.Sw
