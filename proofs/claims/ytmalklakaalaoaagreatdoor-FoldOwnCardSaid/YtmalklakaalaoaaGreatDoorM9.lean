/-
  Texts of the proof, one behind the other (part 9).
-/
import Derived.Test.YtmalklakaalaoaaGreatDoorM8
set_option linter.unusedVariables false
set_option maxRecDepth 10000
namespace Go.Proofs.YtmalklakaalaoaaGreatDoor.Sw
open Go.RowKit Go.Sx
def accF (f : FoldD) (c : Nat) : List UInt8 := Ph.putI f.place ++ Ph.putT (docB f.d) ++ ((f.told.drop 1).take (c - 1)).flatMap seqB
theorem putT_le2 (l : List UInt8) : (Ph.putT l).length ≤ l.length + 10 := by
  have := Ph.putI_length_le (l.length : Int)
  unfold Ph.putT
  rw [List.length_append]; omega
theorem seqB_len {place : Int} {c : Nat} {x : Int × RowD} (h : x = (0, zeroRow) ∨ (1 ≤ c ∧ ToldFine place c x)) : (seqB x).length ≤ 1300 := by
  have h1 := Ph.putI_length_le x.1
  have h2 := Ph.putI_length_le x.2.place
  have h3 := Ph.putI_length_le x.2.err
  have h4 := putT_le2 (encB x.2.b)
  unfold seqB
  rcases h with rfl | ⟨_, h⟩
  · simp only [List.length_append]
    rw [if_neg (by decide)]
    simp only [List.length_nil]
    have h1 : (Ph.putI 0).length ≤ 10 := h1
    omega
  · have h5 := encB_le h.may
    rw [List.length_append]
    split
    · simp only [List.length_append]; omega
    · simp only [List.length_nil]; omega
theorem accF_len {f : FoldD} (hf : FoldFine f) (c : Nat) : (accF f c).length ≤ 100000 := by
  have h1 := Ph.putI_length_le f.place
  have h2 := putT_le2 (docB f.d)
  have h3 := hf.doc.len
  have h4 : ∀ l : List (Int × RowD), (∀ x ∈ l, (seqB x).length ≤ 1300) → (l.flatMap seqB).length ≤ l.length * 1300 := by
    intro l
    induction l with
    | nil => intro _; simp
    | cons x l ih =>
      intro h
      have a := h x (by simp)
      have b := ih fun y hy => h y (by simp [hy])
      rw [List.flatMap_cons, List.length_append, List.length_cons]; omega
  have h5 := h4 ((f.told.drop 1).take (c - 1)) fun x hx => by
    obtain ⟨i, hi⟩ := List.mem_iff_getElem?.1 (List.mem_of_mem_drop (List.mem_of_mem_take hx))
    exact seqB_len (hf.told i x hi)
  have h6 : ((f.told.drop 1).take (c - 1)).length ≤ 5 := by rw [List.length_take, List.length_drop, hf.six]; omega
  unfold accF
  simp only [List.length_append]
  omega
theorem accF_all {f : FoldD} (hf : FoldFine f) : accF f 6 = foldB f := by
  unfold accF foldB
  rw [List.take_of_length_le (by rw [List.length_drop, hf.six]; decide)]
theorem accF_next {f : FoldD} {c : Nat} (hc : 1 ≤ c) {x : Int × RowD} (hx : f.told[c]? = some x) : accF f (c + 1) = accF f c ++ seqB x := by
  obtain ⟨k, rfl⟩ : ∃ k, c = k + 1 := ⟨c - 1, by omega⟩
  have h : (f.told.drop 1)[k]? = some x := by rw [List.getElem?_drop, Nat.add_comm]; exact hx
  unfold accF
  rw [show k + 1 + 1 - 1 = k + 1 from rfl, show k + 1 - 1 = k from rfl, List.take_add_one, h, List.flatMap_append]
  simp
set_option maxHeartbeats 32000000 in
theorem fold_Encode (w0 W : World) (H : Fh) (p : Nat) (f : FoldD) (R : List Res) (hf : FoldFine f) (hH : (fr w0).le H) (hT : Tabs w0) (hw : Has 0 w0 W (FoldAt H p f :: Fz H :: R)) :
    Calls Tryz.prog 38 ⟨[.pointer (some ⟨p, 0, none⟩)]⟩ W fun e W' => ∃ ad cap, e = .returned (.slice ad (foldB f).length cap) ∧ Has 0 w0 W' (Sx.OwnB 5 (.slice ad (foldB f).length cap) (foldB f) :: FoldAt H p f :: Fz H :: R) := by
  obtain ⟨pd, xs, ht, hw⟩ := foldOpen hw
  have hdl := hf.doc.len
  have hpl := Ph.putI_length_le f.place
  have htl := putT_le2 (docB f.d)
  refine enter Tryz.func38 Tryz.ntmps38 rfl rfl fun a hs => ?_
  repeat (first | (refine sxv hs hw ?_; clear hs; intro a hs) | refine sxc hs ?_ | (refine sxa hs hw ?_; clear hs hw; intro a b W hw hs) | (refine sxs hs hw ?_; clear hs hw; intro W hs hw) | ((with_reducible first | refine st_ptrSome hs (k := ?_) | refine st_ptrNone hs (k := ?_)); clear hs; intro a hs))
  have hw := hw.free.free
  refine rg_drawU (σ := Option Addr × Nat) (V := fun u => [.pointer (some ⟨p, 0, none⟩), .pointer (some ⟨p, 0, none⟩), .pointer (some ⟨p, 0 + 0, none⟩), .int .i64 f.place, (.slice (u 4).1 (Ph.putI f.place).length (u 4).2), .pointer (some ⟨p, 0, none⟩), .pointer (some ⟨p, 0, none⟩), .pointer (some ⟨p, 0 + 1, none⟩), .pointer (some ⟨pd, 0, none⟩), (.slice (u 9).1 (docB f.d).length (u 9).2), .string ⟨(docB f.d).toArray⟩, (.slice (u 11).1 (Ph.putI f.place ++ Ph.putT (docB f.d)).length (u 11).2), (.slice (u 12).1 (Ph.putI f.place ++ Ph.putT (docB f.d)).length (u 12).2)])
    (Rs := fun u D => (if D 12 then Sx.OwnB 5 (.slice (u 12).1 (Ph.putI f.place ++ Ph.putT (docB f.d)).length (u 12).2) (Ph.putI f.place ++ Ph.putT (docB f.d)) else if D 11 then Sx.OwnB 5 (.slice (u 11).1 (Ph.putI f.place ++ Ph.putT (docB f.d)).length (u 11).2) (Ph.putI f.place ++ Ph.putT (docB f.d)) else if D 4 then Sx.OwnB 5 (.slice (u 4).1 (Ph.putI f.place).length (u 4).2) (Ph.putI f.place) else Free) :: (if D 9 then Sx.OwnB 5 (.slice (u 9).1 (docB f.d).length (u 9).2) (docB f.d) else Free) :: Cells p (foldCells f.place pd xs) 126 :: DocAt pd f.d :: Fz H :: R) (fun _ => (none, 0)) hs hw (hVu := ?vu_3) (ho := ⟨?_, ?_, ?_, ?_, ?c4_3, ?_, ?_, ?_, ?_, ?c9_3, ?c10_3, ?c11_3, ?c12_3, trivial⟩) (k := ?k_3)
  case vu_3 =>
    intro u u' j h
    rcases j with _ | _ | _ | _ | _ | _ | _ | _ | _ | _ | _ | _ | _ | j
    all_goals first | rfl | simp [h]
  case c4_3 =>
    intro u LD D a W hcl hi hp hs hw
    have h11 := Go.Sx.not_done hcl hi 11 (by kernel_rfl)
    have h12 := Go.Sx.not_done hcl h11 12 (by kernel_rfl)
    simp only [hi, h11, h12, Bool.false_eq_true, if_false] at hw
    replace hw := hw.nilB 5
    refine st_call hs (hc := num_Put w0 _ _ [] f.place _ (by have := hf.place.1; omega) hf.place.2 (by simp) hw) (k := ?_); rintro e0 W1 ⟨ad, cap, rfl, hw1⟩; refine ⟨_, rfl, ?_⟩; clear hs hw; intro a hs; have hw := hw1; clear hw1
    rw [List.nil_append] at hs hw
    repeat (first | (refine sxv hs hw ?_; clear hs; intro a hs) | refine sxc hs ?_ | (refine sxa hs hw ?_; clear hs hw; intro a b W hw hs) | (refine sxs hs hw ?_; clear hs hw; intro W hs hw) | ((with_reducible first | refine st_ptrSome hs (k := ?_) | refine st_ptrNone hs (k := ?_)); clear hs; intro a hs))
    refine Or.inr ⟨(ad, cap), hs, ?_⟩
    show Has 0 w0 _ ((if (Nat.beq 12 4 || D 12) = true then _ else if (Nat.beq 11 4 || D 11) = true then _ else _) :: _)
    rw [h12, h11]
    exact hw.fill Upd.hd
  case c9_3 =>
    intro u LD D a W hcl hi hp hs hw
    have h11 := Go.Sx.not_done hcl hi 11 (by kernel_rfl)
    have h12 := Go.Sx.not_done hcl h11 12 (by kernel_rfl)
    simp only [hi, h11, h12, Bool.false_eq_true, if_false] at hw
    replace hw : Has 0 w0 W (DocAt pd f.d :: (if D 4 = true then Sx.OwnB 5 (.slice (u 4).1 (Ph.putI f.place).length (u 4).2) (Ph.putI f.place) else Free) :: Free :: Cells p (foldCells f.place pd xs) 126 :: Fz H :: R) := hw.perm (by repeat (first | exact List.Perm.refl _ | refine perm_pick (by repeat (first | exact Pick.hd | apply Pick.tl)) ?_))
    refine st_call hs (hc := doc_Encode w0 _ pd f.d _ hf.doc hw) (k := ?_); rintro e0 W1 ⟨ad, cap, rfl, hw1⟩; refine ⟨_, rfl, ?_⟩; clear hs hw; intro a hs; have hw := hw1; clear hw1
    repeat (first | (refine sxv hs hw ?_; clear hs; intro a hs) | refine sxc hs ?_ | (refine sxa hs hw ?_; clear hs hw; intro a b W hw hs) | (refine sxs hs hw ?_; clear hs hw; intro W hs hw) | ((with_reducible first | refine st_ptrSome hs (k := ?_) | refine st_ptrNone hs (k := ?_)); clear hs; intro a hs))
    refine Or.inr ⟨(ad, cap), hs, ?_⟩
    show Has 0 w0 _ ((if (Nat.beq 12 9 || D 12) = true then _ else if (Nat.beq 11 9 || D 11) = true then _ else _) :: _)
    rw [h12, h11]
    replace hw := hw.fill (Upd.tl (Upd.tl Upd.hd))
    exact hw.perm (by repeat (first | exact List.Perm.refl _ | refine perm_pick (by repeat (first | exact Pick.hd | apply Pick.tl)) ?_))
  case c10_3 =>
    intro u LD D a W hcl hi hp hs hw
    have h9 := Go.Sx.done hp 9 (by kernel_rfl)
    have hw0 := hw
    simp only [h9, if_true] at hw
    refine st_string_b hs (r := hw.rd_own (In.tl In.hd)) (k := ?_); clear hs; intro a hs
    repeat (first | (refine sxv hs hw ?_; clear hs; intro a hs) | refine sxc hs ?_ | (refine sxa hs hw ?_; clear hs hw; intro a b W hw hs) | (refine sxs hs hw ?_; clear hs hw; intro W hs hw) | ((with_reducible first | refine st_ptrSome hs (k := ?_) | refine st_ptrNone hs (k := ?_)); clear hs; intro a hs))
    exact Or.inl ⟨hs, hw0⟩
  case c11_3 =>
    intro u LD D a W hcl hi hp hs hw
    have h4 := Go.Sx.done hp 4 (by kernel_rfl)
    have h12 := Go.Sx.not_done hcl hi 12 (by kernel_rfl)
    simp only [hi, h4, h12, Bool.false_eq_true, if_false, if_true] at hw
    refine st_call hs (hc := num_PutText w0 _ _ (Ph.putI f.place) ⟨(docB f.d).toArray⟩ _ (by show (docB f.d).toArray.size ≤ _; simp; omega) (by omega) hw) (k := ?_); rintro e0 W1 ⟨ad, cap, rfl, hw1⟩; refine ⟨_, rfl, ?_⟩; clear hs hw; intro a hs; have hw := hw1; clear hw1
    repeat (first | (refine sxv hs hw ?_; clear hs; intro a hs) | refine sxc hs ?_ | (refine sxa hs hw ?_; clear hs hw; intro a b W hw hs) | (refine sxs hs hw ?_; clear hs hw; intro W hs hw) | ((with_reducible first | refine st_ptrSome hs (k := ?_) | refine st_ptrNone hs (k := ?_)); clear hs; intro a hs))
    refine Or.inr ⟨(ad, cap), hs, ?_⟩
    show Has 0 w0 _ ((if (Nat.beq 12 11 || D 12) = true then _ else _) :: _)
    rw [h12]
    exact hw
  case c12_3 =>
    intro u LD D a W hcl hi hp hs hw
    have h11 := Go.Sx.done hp 11 (by kernel_rfl)
    simp only [hi, h11, Bool.false_eq_true, if_false, if_true] at hw
    repeat (first | (refine sxv hs hw ?_; clear hs; intro a hs) | refine sxc hs ?_ | (refine sxa hs hw ?_; clear hs hw; intro a b W hw hs) | (refine sxs hs hw ?_; clear hs hw; intro W hs hw) | ((with_reducible first | refine st_ptrSome hs (k := ?_) | refine st_ptrNone hs (k := ?_)); clear hs; intro a hs))
    exact Or.inr ⟨u 11, hs, hw⟩
  case k_3 =>
    clear hs hw
    intro u a W hs hw
    replace hw : Has 0 w0 W (Sx.OwnB 5 (.slice (u 12).1 (Ph.putI f.place ++ Ph.putT (docB f.d)).length (u 12).2) (Ph.putI f.place ++ Ph.putT (docB f.d)) :: Sx.OwnB 5 (.slice (u 9).1 (docB f.d).length (u 9).2) (docB f.d) :: Cells p (foldCells f.place pd xs) 126 :: DocAt pd f.d :: Fz H :: R) := hw
    replace hw := hw.drop2
    replace hs : Slots a 54 [(0, .pointer (some ⟨p, 0, none⟩)), (3, (.slice (u 12).1 (Ph.putI f.place ++ Ph.putT (docB f.d)).length (u 12).2))] := hs.of ⟨rfl, rfl, trivial⟩
    generalize (u 12).1 = ad0 at *
    generalize (u 12).2 = cap0 at *
    clear u
    repeat (first | (refine sxv hs hw ?_; clear hs; intro a hs) | refine sxc hs ?_ | (refine sxa hs hw ?_; clear hs hw; intro a b W hw hs) | (refine sxs hs hw ?_; clear hs hw; intro W hs hw) | ((with_reducible first | refine st_ptrSome hs (k := ?_) | refine st_ptrNone hs (k := ?_)); clear hs; intro a hs))
    refine st_loop (σ := Value × Nat) (fun s => [(0, .pointer (some ⟨p, 0, none⟩)), (3, s.1), (4, .int .i64 (s.2 : Int))]) (fun s => Sx.OwnB 5 s.1 (accF f s.2) :: Cells p (foldCells f.place pd xs) 126 :: DocAt pd f.d :: Fz H :: R) (fun s => 1 ≤ s.2 ∧ s.2 ≤ 6) (fun s => 6 - s.2) (.slice ad0 (Ph.putI f.place ++ Ph.putT (docB f.d)).length cap0, 1) ⟨by show 1 ≤ 1; decide, by show 1 ≤ 6; decide⟩ hs ⟨rfl, rfl, rfl, trivial⟩ (by rw [show accF f 1 = Ph.putI f.place ++ Ph.putT (docB f.d) from by simp [accF]]; exact hw) ?_
    clear hs hw
    rintro ⟨v, c⟩ a W ⟨hc1, hc6⟩ hs hw
    simp only at hc1 hc6 hs hw
    obtain ⟨ad, cap, rfl⟩ := hw.own_slice
    repeat (first | (refine sxv hs hw ?_; clear hs; intro a hs) | refine sxc hs ?_ | (refine sxa hs hw ?_; clear hs hw; intro a b W hw hs) | (refine sxs hs hw ?_; clear hs hw; intro W hs hw) | ((with_reducible first | refine st_ptrSome hs (k := ?_) | refine st_ptrNone hs (k := ?_)); clear hs; intro a hs))
    refine cd_split hs (kt := fun hcc => ?_) (kf := fun hcc => ?_)
    · have hc5 : c ≤ 5 := by have := of_decide_eq_true hcc; omega
      obtain ⟨x, hx⟩ : ∃ x, f.told[c]? = some x := ⟨f.told[c]'(by rw [hf.six]; omega), List.getElem?_eq_getElem _⟩
      have hfx := hf.told c x hx
      have hsl := seqB_len hfx
      have hal := accF_len hf c
      have hnext := accF_next hc1 hx
      generalize accF f c = acc at *
      obtain ⟨sv, hsv, h6⟩ := told_get ht hx
      obtain ⟨sad, scap, rfl⟩ := hsv.slice
      repeat (first | (refine sxv hs hw ?_; clear hs; intro a hs) | refine sxc hs ?_ | (refine sxa hs hw ?_; clear hs hw; intro a b W hw hs) | (refine sxs hs hw ?_; clear hs hw; intro W hs hw) | ((with_reducible first | refine st_ptrSome hs (k := ?_) | refine st_ptrNone hs (k := ?_)); clear hs; intro a hs))
      refine st_index_arr hs (h0 := by omega) (h1 := by omega) (c := ?_); clear hs; intro a hs
      rw [Int.toNat_natCast] at hs
      repeat (first | (refine sxv hs hw ?_; clear hs; intro a hs) | refine sxc hs ?_ | (refine sxa hs hw ?_; clear hs hw; intro a b W hw hs) | (refine sxs hs hw ?_; clear hs hw; intro W hs hw) | ((with_reducible first | refine st_ptrSome hs (k := ?_) | refine st_ptrNone hs (k := ?_)); clear hs; intro a hs))
      refine st_load_ats (z := ztold) hs (cs := .int .i64 x.1 :: rowCells x.2 (.slice sad x.2.b.l.length scap)) (hc := fun j u hu => ?hcc) (hl := rfl) (c := ?_)
      case hcc =>
        rw [cell_block (hw.block (In.tl In.hd)).1]
        show (foldCells f.place pd xs)[0 + 2 + c * 6 + j]? = _
        rw [show 0 + 2 + c * 6 + j = c * 6 + j + 1 + 1 by omega]
        have h9 := congrArg (fun t => t[j]?) h6
        simp only [cut_eq, List.getElem?_take, List.getElem?_drop] at h9
        rw [hu] at h9
        split at h9
        · simpa [foldCells] using h9
        · cases h9
      clear hs; intro a hs
      repeat (first | (refine sxv hs hw ?_; clear hs; intro a hs) | refine sxc hs ?_ | (refine sxa hs hw ?_; clear hs hw; intro a b W hw hs) | (refine sxs hs hw ?_; clear hs hw; intro W hs hw) | ((with_reducible first | refine st_ptrSome hs (k := ?_) | refine st_ptrNone hs (k := ?_)); clear hs; intro a hs))
      obtain ⟨b5, q5⟩ := nm1 hw; subst q5
      replace hw : Has 0 w0 _ (Sx.OwnB 5 (.slice ad acc.length cap) acc :: Cells b5 (.int .i64 x.1 :: rowCells x.2 (.slice sad x.2.b.l.length scap)) 123 :: Cells p (foldCells f.place pd xs) 126 :: DocAt pd f.d :: Fz H :: R) := hw.perm (by repeat (first | exact List.Perm.refl _ | refine perm_pick (by repeat (first | exact Pick.hd | apply Pick.tl)) ?_))
      have hxi : i64 x.1 := by
        rcases hfx with rfl | ⟨_, e⟩
        · exact ⟨by decide, by decide⟩
        · have := e.ok.q; rw [e.seq]; exact this
      refine st_call hs (hc := num_Put w0 _ _ acc x.1 _ hxi.1 hxi.2 (by omega) hw) (k := ?_); rintro e0 W1 ⟨ad1, cap1, rfl, hw1⟩; refine ⟨_, rfl, ?_⟩; clear hs hw; intro a hs; have hw := hw1; clear hw1
      repeat (first | (refine sxv hs hw ?_; clear hs; intro a hs) | refine sxc hs ?_ | (refine sxa hs hw ?_; clear hs hw; intro a b W hw hs) | (refine sxs hs hw ?_; clear hs hw; intro W hs hw) | ((with_reducible first | refine st_ptrSome hs (k := ?_) | refine st_ptrNone hs (k := ?_)); clear hs; intro a hs))
      rcases hfx with rfl | ⟨_, hfine⟩
      · repeat (first | (refine sxv hs hw ?_; clear hs; intro a hs) | refine sxc hs ?_ | (refine sxa hs hw ?_; clear hs hw; intro a b W hw hs) | (refine sxs hs hw ?_; clear hs hw; intro W hs hw) | ((with_reducible first | refine st_ptrSome hs (k := ?_) | refine st_ptrNone hs (k := ?_)); clear hs; intro a hs))
        rw [show acc ++ Ph.putI ((0 : Int), zeroRow).1 = accF f (c + 1) from by rw [hnext]; simp [seqB]] at hs hw
        exact st_again (_, c + 1) hs (hw.drop2) ⟨by show 1 ≤ c + 1; omega, by show c + 1 ≤ 6; omega⟩ (by show 6 - (c + 1) < 6 - c; omega) ⟨rfl, rfl, int_eq (by show IntKind.i64.wrap ((c : Int) + 1) = ((c + 1 : Nat) : Int); rw [IntWalk.i64_in _ (by omega)]; omega), trivial⟩
      · have hpos := hfine.pos
        have hpi : i64 x.2.place := ⟨by have := hfine.pl.1; omega, by have := hfine.pl.2; have := hf.place.2; omega⟩
        have hei := fineE_i64 hfine.err
        have hel := encB_le hfine.may
        have hok := hfine.ok
        have hmay : mayBatch x.2.b.c x.2.b.q x.2.b.l = true := hfine.may
        have h1l := Ph.putI_length_le x.2.place
        have h2l := putT_le2 (encB x.2.b)
        have h0l := Ph.putI_length_le x.1
        have hnx : accF f (c + 1) = acc ++ Ph.putI x.1 ++ Ph.putI x.2.place ++ Ph.putT (encB x.2.b) ++ Ph.putI x.2.err := by
          rw [hnext]; unfold seqB; rw [if_pos hpos]; simp
        have hl1 : (acc ++ Ph.putI x.1).length ≤ 100010 := by rw [List.length_append]; omega
        rw [show decide (x.1 > 0) = true from decide_eq_true hpos] at hs
        generalize acc ++ Ph.putI x.1 = acc1 at *
        repeat (first | (refine sxv hs hw ?_; clear hs; intro a hs) | refine sxc hs ?_ | (refine sxa hs hw ?_; clear hs hw; intro a b W hw hs) | (refine sxs hs hw ?_; clear hs hw; intro W hs hw) | ((with_reducible first | refine st_ptrSome hs (k := ?_) | refine st_ptrNone hs (k := ?_)); clear hs; intro a hs))
        replace hw : Has 0 w0 _ (Sx.OwnB 5 (.slice ad1 acc1.length cap1) (acc1) :: Free :: Cells b5 (.int .i64 x.1 :: rowCells x.2 (.slice sad x.2.b.l.length scap)) 123 :: Cells p (foldCells f.place pd xs) 126 :: DocAt pd f.d :: Fz H :: R) := hw.free.swap2
        refine rg_drawU (σ := Option Addr × Nat) (V := fun u => [(.slice ad1 acc1.length cap1), .pointer (some ⟨b5, 0 + 1, none⟩), .pointer (some ⟨b5, 0 + 1 + 0, none⟩), .int .i64 x.2.place, (.slice (u 4).1 (acc1 ++ Ph.putI x.2.place).length (u 4).2), .pointer (some ⟨b5, 0 + 1, none⟩), .pointer (some ⟨b5, 0 + 1 + 1, none⟩), .agg ⟨batCells x.2.b (.slice sad x.2.b.l.length scap)⟩, (.slice (u 8).1 (encB x.2.b).length (u 8).2), .string ⟨(encB x.2.b).toArray⟩, (.slice (u 10).1 (acc1 ++ Ph.putI x.2.place ++ Ph.putT (encB x.2.b)).length (u 10).2), (.slice (u 11).1 (acc1 ++ Ph.putI x.2.place ++ Ph.putT (encB x.2.b)).length (u 11).2)])
          (Rs := fun u D => (if D 11 then Sx.OwnB 5 (.slice (u 11).1 (acc1 ++ Ph.putI x.2.place ++ Ph.putT (encB x.2.b)).length (u 11).2) (acc1 ++ Ph.putI x.2.place ++ Ph.putT (encB x.2.b)) else if D 10 then Sx.OwnB 5 (.slice (u 10).1 (acc1 ++ Ph.putI x.2.place ++ Ph.putT (encB x.2.b)).length (u 10).2) (acc1 ++ Ph.putI x.2.place ++ Ph.putT (encB x.2.b)) else if D 4 then Sx.OwnB 5 (.slice (u 4).1 (acc1 ++ Ph.putI x.2.place).length (u 4).2) (acc1 ++ Ph.putI x.2.place) else Sx.OwnB 5 (.slice ad1 acc1.length cap1) (acc1)) :: (if D 8 then Sx.OwnB 5 (.slice (u 8).1 (encB x.2.b).length (u 8).2) (encB x.2.b) else Free) :: Cells b5 (.int .i64 x.1 :: rowCells x.2 (.slice sad x.2.b.l.length scap)) 123 :: Cells p (foldCells f.place pd xs) 126 :: DocAt pd f.d :: Fz H :: R) (fun _ => (none, 0)) hs hw (hVu := ?vu_10) (ho := ⟨?_, ?_, ?_, ?_, ?c4_10, ?_, ?_, ?_, ?c8_10, ?c9_10, ?c10_10, ?c11_10, trivial⟩) (k := ?k_10)
        case vu_10 =>
          intro u u' j h
          rcases j with _ | _ | _ | _ | _ | _ | _ | _ | _ | _ | _ | _ | j
          all_goals first | rfl | simp [h]
        case c4_10 =>
          intro u LD D a W hcl hi hp hs hw
          have h10 := Go.Sx.not_done hcl hi 10 (by kernel_rfl)
          have h11 := Go.Sx.not_done hcl h10 11 (by kernel_rfl)
          simp only [hi, h10, h11, Bool.false_eq_true, if_false] at hw
          refine st_call hs (hc := num_Put w0 _ _ acc1 x.2.place _ hpi.1 hpi.2 (by omega) hw) (k := ?_); rintro e0 W1 ⟨ad, cap, rfl, hw1⟩; refine ⟨_, rfl, ?_⟩; clear hs hw; intro a hs; have hw := hw1; clear hw1
          repeat (first | (refine sxv hs hw ?_; clear hs; intro a hs) | refine sxc hs ?_ | (refine sxa hs hw ?_; clear hs hw; intro a b W hw hs) | (refine sxs hs hw ?_; clear hs hw; intro W hs hw) | ((with_reducible first | refine st_ptrSome hs (k := ?_) | refine st_ptrNone hs (k := ?_)); clear hs; intro a hs))
          refine Or.inr ⟨(ad, cap), hs, ?_⟩
          show Has 0 w0 _ ((if (Nat.beq 11 4 || D 11) = true then _ else if (Nat.beq 10 4 || D 10) = true then _ else _) :: _)
          rw [h11, h10]
          exact hw
        case c8_10 =>
          intro u LD D a W hcl hi hp hs hw
          have h10 := Go.Sx.not_done hcl hi 10 (by kernel_rfl)
          have h11 := Go.Sx.not_done hcl h10 11 (by kernel_rfl)
          simp only [hi, h10, h11, Bool.false_eq_true, if_false] at hw
          refine st_call hs (hc := op_Encode x.2.b.c x.2.b.q x.2.b.l _ _ hok.c hok.q hok.ops (hw.rdH (In.tl (In.tl (In.tl (In.tl (In.tl In.hd))))) hsv) (hT.keep (hw.endF (In.tl (In.tl (In.tl (In.tl (In.tl In.hd))))) hH))) (k := ?_); rintro e0 W1 ⟨ad, cap, rfl, hnil, hw1⟩; refine ⟨_, rfl, ?_⟩; clear hs; intro a hs; replace hw := hw.call hw1; clear hw1
          rw [hmay] at hs hw
          simp only [if_true] at hs hw
          repeat (first | (refine sxv hs hw ?_; clear hs; intro a hs) | refine sxc hs ?_ | (refine sxa hs hw ?_; clear hs hw; intro a b W hw hs) | (refine sxs hs hw ?_; clear hs hw; intro W hs hw) | ((with_reducible first | refine st_ptrSome hs (k := ?_) | refine st_ptrNone hs (k := ?_)); clear hs; intro a hs))
          refine Or.inr ⟨(ad, cap), hs, ?_⟩
          show Has 0 w0 _ ((if (Nat.beq 11 8 || D 11) = true then _ else if (Nat.beq 10 8 || D 10) = true then _ else _) :: _)
          rw [h11, h10]
          exact hw.fill (Upd.tl Upd.hd)
        case c9_10 =>
          intro u LD D a W hcl hi hp hs hw
          have h8 := Go.Sx.done hp 8 (by kernel_rfl)
          have hw0 := hw
          simp only [h8, if_true] at hw
          refine st_string_b hs (r := hw.rd_own (In.tl In.hd)) (k := ?_); clear hs; intro a hs
          repeat (first | (refine sxv hs hw ?_; clear hs; intro a hs) | refine sxc hs ?_ | (refine sxa hs hw ?_; clear hs hw; intro a b W hw hs) | (refine sxs hs hw ?_; clear hs hw; intro W hs hw) | ((with_reducible first | refine st_ptrSome hs (k := ?_) | refine st_ptrNone hs (k := ?_)); clear hs; intro a hs))
          exact Or.inl ⟨hs, hw0⟩
        case c10_10 =>
          intro u LD D a W hcl hi hp hs hw
          have h4 := Go.Sx.done hp 4 (by kernel_rfl)
          have h11 := Go.Sx.not_done hcl hi 11 (by kernel_rfl)
          simp only [hi, h4, h11, Bool.false_eq_true, if_false, if_true] at hw
          refine st_call hs (hc := num_PutText w0 _ _ (acc1 ++ Ph.putI x.2.place) ⟨(encB x.2.b).toArray⟩ _ (by show (encB x.2.b).toArray.size ≤ _; simp; omega) (by rw [List.length_append]; omega) hw) (k := ?_); rintro e0 W1 ⟨ad, cap, rfl, hw1⟩; refine ⟨_, rfl, ?_⟩; clear hs hw; intro a hs; have hw := hw1; clear hw1
          repeat (first | (refine sxv hs hw ?_; clear hs; intro a hs) | refine sxc hs ?_ | (refine sxa hs hw ?_; clear hs hw; intro a b W hw hs) | (refine sxs hs hw ?_; clear hs hw; intro W hs hw) | ((with_reducible first | refine st_ptrSome hs (k := ?_) | refine st_ptrNone hs (k := ?_)); clear hs; intro a hs))
          refine Or.inr ⟨(ad, cap), hs, ?_⟩
          show Has 0 w0 _ ((if (Nat.beq 11 10 || D 11) = true then _ else _) :: _)
          rw [h11]
          exact hw
        case c11_10 =>
          intro u LD D a W hcl hi hp hs hw
          have h10 := Go.Sx.done hp 10 (by kernel_rfl)
          simp only [hi, h10, Bool.false_eq_true, if_false, if_true] at hw
          repeat (first | (refine sxv hs hw ?_; clear hs; intro a hs) | refine sxc hs ?_ | (refine sxa hs hw ?_; clear hs hw; intro a b W hw hs) | (refine sxs hs hw ?_; clear hs hw; intro W hs hw) | ((with_reducible first | refine st_ptrSome hs (k := ?_) | refine st_ptrNone hs (k := ?_)); clear hs; intro a hs))
          exact Or.inr ⟨u 10, hs, hw⟩
        case k_10 =>
          clear hs hw
          intro u a W hs hw
          replace hw : Has 0 w0 W (Sx.OwnB 5 (.slice (u 11).1 (acc1 ++ Ph.putI x.2.place ++ Ph.putT (encB x.2.b)).length (u 11).2) (acc1 ++ Ph.putI x.2.place ++ Ph.putT (encB x.2.b)) :: Sx.OwnB 5 (.slice (u 8).1 (encB x.2.b).length (u 8).2) (encB x.2.b) :: Cells b5 (.int .i64 x.1 :: rowCells x.2 (.slice sad x.2.b.l.length scap)) 123 :: Cells p (foldCells f.place pd xs) 126 :: DocAt pd f.d :: Fz H :: R) := hw
          replace hw := hw.drop2
          replace hs : Slots a 54 [(0, .pointer (some ⟨p, 0, none⟩)), (3, (.slice (u 11).1 (acc1 ++ Ph.putI x.2.place ++ Ph.putT (encB x.2.b)).length (u 11).2)), (4, .int .i64 (c : Int)), (5, .pointer (some ⟨b5, 0, none⟩))] := hs.of ⟨rfl, rfl, rfl, rfl, trivial⟩
          generalize (u 11).1 = ad2 at *
          generalize (u 11).2 = cap2 at *
          clear u
          repeat (first | (refine sxv hs hw ?_; clear hs; intro a hs) | refine sxc hs ?_ | (refine sxa hs hw ?_; clear hs hw; intro a b W hw hs) | (refine sxs hs hw ?_; clear hs hw; intro W hs hw) | ((with_reducible first | refine st_ptrSome hs (k := ?_) | refine st_ptrNone hs (k := ?_)); clear hs; intro a hs))
          refine st_call hs (hc := num_Put w0 _ _ (acc1 ++ Ph.putI x.2.place ++ Ph.putT (encB x.2.b)) x.2.err _ hei.1 hei.2 (by simp only [List.length_append]; omega) hw) (k := ?_); rintro e0 W1 ⟨ad3, cap3, rfl, hw1⟩; refine ⟨_, rfl, ?_⟩; clear hs hw; intro a hs; have hw := hw1; clear hw1
          rw [← hnx] at hs hw
          repeat (first | (refine sxv hs hw ?_; clear hs; intro a hs) | refine sxc hs ?_ | (refine sxa hs hw ?_; clear hs hw; intro a b W hw hs) | (refine sxs hs hw ?_; clear hs hw; intro W hs hw) | ((with_reducible first | refine st_ptrSome hs (k := ?_) | refine st_ptrNone hs (k := ?_)); clear hs; intro a hs))
          exact st_again (_, c + 1) hs (hw.drop2) ⟨by show 1 ≤ c + 1; omega, by show c + 1 ≤ 6; omega⟩ (by show 6 - (c + 1) < 6 - c; omega) ⟨rfl, rfl, int_eq (by show IntKind.i64.wrap ((c : Int) + 1) = ((c + 1 : Nat) : Int); rw [IntWalk.i64_in _ (by omega)]; omega), trivial⟩
        all_goals
          intro u LD D a W hcl hi hp hs hw
          repeat (first | (refine sxv hs hw ?_; clear hs; intro a hs) | refine sxc hs ?_ | (refine sxa hs hw ?_; clear hs hw; intro a b W hw hs) | (refine sxs hs hw ?_; clear hs hw; intro W hs hw) | ((with_reducible first | refine st_ptrSome hs (k := ?_) | refine st_ptrNone hs (k := ?_)); clear hs; intro a hs))
          exact Or.inl ⟨hs, hw⟩
    · have hc : c = 6 := by have := of_decide_eq_false hcc; omega
      subst hc
      rw [accF_all hf] at hs hw
      repeat (first | (refine sxv hs hw ?_; clear hs; intro a hs) | refine sxc hs ?_ | (refine sxa hs hw ?_; clear hs hw; intro a b W hw hs) | (refine sxs hs hw ?_; clear hs hw; intro W hs hw) | ((with_reducible first | refine st_ptrSome hs (k := ?_) | refine st_ptrNone hs (k := ?_)); clear hs; intro a hs))
      have hw : Has 0 w0 _ (Cells p (foldCells f.place pd xs) 126 :: DocAt pd f.d :: Sx.OwnB 5 (.slice ad (foldB f).length cap) (foldB f) :: Fz H :: R) := hw.perm (by repeat (first | exact List.Perm.refl _ | refine perm_pick (by repeat (first | exact Pick.hd | apply Pick.tl)) ?_))
      exact rt1 hs rfl rfl ⟨ad, cap, rfl, (foldShut hw ht).swap2⟩
  all_goals
    intro u LD D a W hcl hi hp hs hw
    repeat (first | (refine sxv hs hw ?_; clear hs; intro a hs) | refine sxc hs ?_ | (refine sxa hs hw ?_; clear hs hw; intro a b W hw hs) | (refine sxs hs hw ?_; clear hs hw; intro W hs hw) | ((with_reducible first | refine st_ptrSome hs (k := ?_) | refine st_ptrNone hs (k := ?_)); clear hs; intro a hs))
    exact Or.inl ⟨hs, hw⟩
set_option maxHeartbeats 8000000 in
theorem fold_Eq (w0 W : World) (H : Fh) (p q : Nat) (f g : FoldD) (R : List Res) (hf : FoldFine f) (hg : FoldFine g) (hH : (fr w0).le H) (hT : Tabs w0) (hw : Has 0 w0 W (FoldAt H p f :: FoldAt H q g :: Fz H :: R)) :
    Calls Tryz.prog 33 ⟨[.pointer (some ⟨p, 0, none⟩), .pointer (some ⟨q, 0, none⟩)]⟩ W fun e W' => e = .returned (.bool (foldB f == foldB g)) ∧ Has 0 w0 W' (FoldAt H p f :: FoldAt H q g :: Fz H :: R) := by
  refine enter Tryz.func33 Tryz.ntmps33 rfl rfl fun a hs => ?_
  repeat (first | (refine sxv hs hw ?_; clear hs; intro a hs) | refine sxc hs ?_ | (refine sxa hs hw ?_; clear hs hw; intro a b W hw hs) | (refine sxs hs hw ?_; clear hs hw; intro W hs hw) | ((with_reducible first | refine st_ptrSome hs (k := ?_) | refine st_ptrNone hs (k := ?_)); clear hs; intro a hs))
  have hw : Has 0 w0 _ (FoldAt H p f :: Fz H :: FoldAt H q g :: R) := hw.perm (by repeat (first | exact List.Perm.refl _ | refine perm_pick (by repeat (first | exact Pick.hd | apply Pick.tl)) ?_))
  refine st_call hs (hc := fold_Encode w0 _ H p f _ hf hH hT hw) (k := ?_); rintro e0 W1 ⟨ad, cap, rfl, hw1⟩; refine ⟨_, rfl, ?_⟩; clear hs hw; intro a hs; have hw := hw1; clear hw1
  repeat (first | (refine sxv hs hw ?_; clear hs; intro a hs) | refine sxc hs ?_ | (refine sxa hs hw ?_; clear hs hw; intro a b W hw hs) | (refine sxs hs hw ?_; clear hs hw; intro W hs hw) | ((with_reducible first | refine st_ptrSome hs (k := ?_) | refine st_ptrNone hs (k := ?_)); clear hs; intro a hs))
  replace hw : Has 0 w0 _ (FoldAt H q g :: Fz H :: Sx.OwnB 5 (.slice ad (foldB f).length cap) (foldB f) :: FoldAt H p f :: R) := hw.perm (by repeat (first | exact List.Perm.refl _ | refine perm_pick (by repeat (first | exact Pick.hd | apply Pick.tl)) ?_))
  refine st_call hs (hc := fold_Encode w0 _ H q g _ hg hH hT hw) (k := ?_); rintro e0 W1 ⟨ad2, cap2, rfl, hw1⟩; refine ⟨_, rfl, ?_⟩; clear hs hw; intro a hs; have hw := hw1; clear hw1
  refine st_call hs (hc := bytes_Equal (foldB f) (foldB g) _ _ _ (hw.rd_own (In.tl (In.tl (In.tl In.hd)))) (hw.rd_own In.hd)) (k := ?_); rintro e0 W1 ⟨rfl, hb⟩; refine ⟨_, rfl, ?_⟩; clear hs; intro a hs; replace hw := hw.below hb; clear hb
  repeat (first | (refine sxv hs hw ?_; clear hs; intro a hs) | refine sxc hs ?_ | (refine sxa hs hw ?_; clear hs hw; intro a b W hw hs) | (refine sxs hs hw ?_; clear hs hw; intro W hs hw) | ((with_reducible first | refine st_ptrSome hs (k := ?_) | refine st_ptrNone hs (k := ?_)); clear hs; intro a hs))
  exact rt1 hs rfl rfl ⟨rfl, hw.sel (by repeat (first | exact Sel.nil | exact Sel.refl _ | refine Sel.cons (by repeat (first | exact Pick.hd | apply Pick.tl)) ?_ | refine Sel.skip ?_))⟩
end Go.Proofs.YtmalklakaalaoaaGreatDoor.Sw

set_option linter.unusedVariables false
set_option maxRecDepth 10000
namespace Go.Proofs.YtmalklakaalaoaaGreatDoor.Sw
open Go.RowKit Go.Sx
-- pieces
abbrev kindV (v : DV) : Int := kindOf (some v)
def ddRes (H : Fh) (w0 : World) (R : List Res) (l : List UInt8) (e : Ending) (W' : World) : Prop :=
  (decDoc l = none ∧ e = .returned (.tuple ⟨[.pointer none, .int .i64 1]⟩) ∧ Has 0 w0 W' R) ∨ ∃ d p, decDoc l = some d ∧ e = .returned (.tuple ⟨[.pointer (some ⟨p, 0, none⟩), .int .i64 0]⟩) ∧ Has 0 w0 W' (DocAt p d :: R)
set_option maxHeartbeats 16000000 in
theorem doc_Decode (w0 W : World) (H : Fh) (l : List UInt8) (v : Value) (R : List Res) (hl : l.length ≤ 1000000) (r : RdH H 1 v l.length (bys l)) (i : In (Fz H) R) (hH : (fr w0).le H) (hT : Tabs w0) (hw : Has 0 w0 W R) :
    Calls Tryz.prog 70 ⟨[v]⟩ W (ddRes H w0 R l) := by
  obtain ⟨sad, scap, rfl⟩ := r.slice
  have hgl := Ph.getI_le l
  have hgr := getI_range l
  refine enter Tryz.func70 Tryz.ntmps70 rfl rfl fun a hs => ?_
  repeat (first | (refine sxv hs hw ?_; clear hs; intro a hs) | refine sxc hs ?_ | (refine sxa hs hw ?_; clear hs hw; intro a b W hw hs) | (refine sxs hs hw ?_; clear hs hw; intro W hs hw))
  refine st_call hs (hc := doc_New w0 _ _ hw) (k := ?_); rintro e0 W1 ⟨p, rfl, hw1⟩; refine ⟨_, rfl, ?_⟩; clear hs hw; intro a hs; have hw := hw1; clear hw1
  repeat (first | (refine sxv hs hw ?_; clear hs; intro a hs) | refine sxc hs ?_ | (refine sxa hs hw ?_; clear hs hw; intro a b W hw hs) | (refine sxs hs hw ?_; clear hs hw; intro W hs hw))
  refine st_call hs (hc := num_Get _ _ l (hw.rdH (In.tl i) r)) (k := ?_); rintro e0 W1 ⟨rfl, rfl⟩; refine ⟨_, rfl, ?_⟩; clear hs; intro a hs
  have hdec : decDoc l = if (Ph.getI l).2.2 = 0 ∧ 0 ≤ (Ph.getI l).1 ∧ (Ph.getI l).1 ≤ 50 then (match rdPairs (Ph.getI l).1.toNat [] (l.drop (Ph.getI l).2.1) with | none => none | some d => if docB d = l then some d else none) else none := rfl
  generalize Ph.getI l = g at *
  obtain ⟨n, at_, er⟩ := g
  simp only at hgl hgr hdec hs
  by_cases he : er = 0
  · subst he
    repeat (first | (refine sxv hs hw ?_; clear hs; intro a hs) | refine sxc hs ?_ | (refine sxa hs hw ?_; clear hs hw; intro a b W hw hs) | (refine sxs hs hw ?_; clear hs hw; intro W hs hw))
    cases c1 : decide (n < 0) with
    | true =>
      rw [c1] at hs
      have g1 := of_decide_eq_true c1
      repeat (first | (refine sxv hs hw ?_; clear hs; intro a hs) | refine sxc hs ?_ | (refine sxa hs hw ?_; clear hs hw; intro a b W hw hs) | (refine sxs hs hw ?_; clear hs hw; intro W hs hw))
      exact rt2 hs rfl rfl rfl (.inl ⟨by rw [hdec, if_neg (by omega)], rfl, hw.sub (List.Sublist.cons _ (List.Sublist.refl _))⟩)
    | false =>
    rw [c1] at hs
    have g1 := of_decide_eq_false c1
    repeat (first | (refine sxv hs hw ?_; clear hs; intro a hs) | refine sxc hs ?_ | (refine sxa hs hw ?_; clear hs hw; intro a b W hw hs) | (refine sxs hs hw ?_; clear hs hw; intro W hs hw))
    cases c2 : decide (n > 50) with
    | true =>
      rw [c2] at hs
      have g2 := of_decide_eq_true c2
      repeat (first | (refine sxv hs hw ?_; clear hs; intro a hs) | refine sxc hs ?_ | (refine sxa hs hw ?_; clear hs hw; intro a b W hw hs) | (refine sxs hs hw ?_; clear hs hw; intro W hs hw))
      exact rt2 hs rfl rfl rfl (.inl ⟨by rw [hdec, if_neg (by omega)], rfl, hw.sub (List.Sublist.cons _ (List.Sublist.refl _))⟩)
    | false =>
    rw [c2] at hs
    have g2 := of_decide_eq_false c2
    rw [if_pos (by omega)] at hdec
    obtain ⟨nn, rfl⟩ : ∃ nn : Nat, n = (nn : Int) := ⟨n.toNat, by omega⟩
    rw [Int.toNat_natCast] at hdec
    repeat (first | (refine sxv hs hw ?_; clear hs; intro a hs) | refine sxc hs ?_ | (refine sxa hs hw ?_; clear hs hw; intro a b W hw hs) | (refine sxs hs hw ?_; clear hs hw; intro W hs hw))
    generalize hR : rdPairs nn [] (l.drop at_) = RR at hdec
    have none_ : ∀ {W : World}, RR = none → Has 0 w0 W R → ddRes H w0 R l (.returned (.tuple ⟨[.pointer none, .int .i64 1]⟩)) W := fun h hw => .inl ⟨by rw [hdec, h], rfl, hw⟩
    refine st_loop (σ := Nat × Dm × Nat) (fun t => [(0, .slice sad l.length scap), (4, .pointer (some ⟨p, 0, none⟩)), (6, .int .i64 (t.2.2 : Int)), (32, .int .i64 (nn : Int)), (33, .int .i64 (t.1 : Int))]) (fun t => DocAt p t.2.1 :: R) (fun t => t.1 ≤ nn ∧ t.2.2 ≤ l.length ∧ rdPairs (nn - t.1) t.2.1 (l.drop t.2.2) = RR) (fun t => nn - t.1) (0, [], at_) ⟨Nat.zero_le _, hgl, hR⟩ hs ⟨rfl, rfl, rfl, rfl, rfl, trivial⟩ hw ?_
    clear hs hw
    rintro ⟨j, d, at2⟩ a W ⟨hj, hat, hrd⟩ hs hw
    simp only at hj hat hrd hs hw
    have hkd := docKeys hw
    repeat (first | (refine sxv hs hw ?_; clear hs; intro a hs) | refine sxc hs ?_ | (refine sxa hs hw ?_; clear hs hw; intro a b W hw hs) | (refine sxs hs hw ?_; clear hs hw; intro W hs hw))
    refine cd_split hs (kt := fun hcc => ?_) (kf := fun hcc => ?_)
    · have hj' : j < nn := by simpa using hcc
      rw [show nn - j = (nn - (j + 1)) + 1 from by omega] at hrd
      simp only [rdPairs] at hrd
      repeat (first | (refine sxv hs hw ?_; clear hs; intro a hs) | refine sxc hs ?_ | (refine sxa hs hw ?_; clear hs hw; intro a b W hw hs) | (refine sxs hs hw ?_; clear hs hw; intro W hs hw))
      refine st_sliceH_lo hs (i := (at2 : Int)) (z := [.int .u8 0]) r (by omega) (by omega) (c := ?_); clear hs; intro a v1 r1 hs
      rw [Int.toNat_natCast, bys_drop, ← List.length_drop] at r1
      have hsl : (l.drop at2).length = l.length - at2 := List.length_drop
      have hsd : ∀ k, (l.drop at2).drop k = l.drop (at2 + k) := fun k => List.drop_drop
      rw [hsd, hsd] at hrd
      generalize l.drop at2 = s at *
      have hkle := getT_le s
      have hksz := getT_size s
      repeat (first | (refine sxv hs hw ?_; clear hs; intro a hs) | refine sxc hs ?_ | (refine sxa hs hw ?_; clear hs hw; intro a b W hw hs) | (refine sxs hs hw ?_; clear hs hw; intro W hs hw))
      refine st_call hs (hc := num_GetText _ _ s (hw.rdH (In.tl i) r1)) (k := ?_); rintro e0 W1 ⟨rfl, rfl⟩; refine ⟨_, rfl, ?_⟩; clear hs; intro a hs
      generalize Ph.getT s = G at *
      obtain ⟨kt, kk, ke⟩ := G
      simp only at hkle hksz hrd hs
      by_cases ke0 : ke = 0
      · subst ke0
        repeat (first | (refine sxv hs hw ?_; clear hs; intro a hs) | refine sxc hs ?_ | (refine sxa hs hw ?_; clear hs hw; intro a b W hw hs) | (refine sxs hs hw ?_; clear hs hw; intro W hs hw))
        refine st_call hs (hc := runes_Key ⟨kt.toArray⟩ _ (by omega) (hT.keep (hw.endF (In.tl i) hH))) (k := ?_); rintro e0 W1 ⟨rfl, hb⟩; refine ⟨_, rfl, ?_⟩; clear hs; intro a hs; replace hw := hw.below hb; clear hb
        have ek : Ph.keyB (⟨kt.toArray⟩ : ByteArray).data.toList = Ph.keyB kt := rfl
        rw [ek] at hs
        cases hK : Ph.keyB kt with
        | false =>
          rw [hK] at hs hrd
          simp only [Bool.and_false] at hrd
          repeat (first | (refine sxv hs hw ?_; clear hs; intro a hs) | refine sxc hs ?_ | (refine sxa hs hw ?_; clear hs hw; intro a b W hw hs) | (refine sxs hs hw ?_; clear hs hw; intro W hs hw))
          exact rt2 hs rfl rfl rfl (none_ hrd.symm (hw.sel (by repeat (first | exact Sel.refl _ | refine Sel.skip ?_))))
        | true =>
        rw [hK] at hs hrd
        simp only [Bool.and_true] at hrd
        repeat (first | (refine sxv hs hw ?_; clear hs; intro a hs) | refine sxc hs ?_ | (refine sxa hs hw ?_; clear hs hw; intro a b W hw hs) | (refine sxs hs hw ?_; clear hs hw; intro W hs hw))
        rw [show IntKind.i64.wrap ((at2 : Int) + (kk : Int)) = ((at2 + kk : Nat) : Int) from by rw [IntWalk.i64_in _ (by omega)]; omega] at hs
        refine st_sliceH_lo hs (i := ((at2 + kk : Nat) : Int)) (z := [.int .u8 0]) r (by omega) (by omega) (c := ?_); clear hs; intro a v2 r2 hs
        rw [Int.toNat_natCast, bys_drop, ← List.length_drop] at r2
        have hgle := getR_le (l.drop (at2 + kk))
        have hgrr := getR_range (l.drop (at2 + kk))
        have hsl2 : (l.drop (at2 + kk)).length = l.length - (at2 + kk) := List.length_drop
        have hsd2 : ∀ k, (l.drop (at2 + kk)).drop k = l.drop (at2 + kk + k) := fun k => List.drop_drop
        have e3 : ∀ m, l.drop (at2 + (kk + m)) = l.drop (at2 + kk + m) := fun m => by rw [Nat.add_assoc]
        rw [e3] at hrd
        generalize l.drop (at2 + kk) = s2 at *
        repeat (first | (refine sxv hs hw ?_; clear hs; intro a hs) | refine sxc hs ?_ | (refine sxa hs hw ?_; clear hs hw; intro a b W hw hs) | (refine sxs hs hw ?_; clear hs hw; intro W hs hw))
        refine st_call hs (hc := value_Get _ _ s2 (hw.rdH (In.tl i) r2) (hT.keep (hw.endF (In.tl i) hH))) (k := ?_); rintro e0 W1 ⟨rfl, hb⟩; refine ⟨_, rfl, ?_⟩; clear hs; intro a hs; replace hw := hw.below hb; clear hb
        generalize getR s2 = G2 at *
        obtain ⟨⟨rk, rn, rs⟩, rm, re⟩ := G2
        simp only at hgle hgrr hrd hs
        by_cases re0 : re = 0
        · subst re0
          repeat (first | (refine sxv hs hw ?_; clear hs; intro a hs) | refine sxc hs ?_ | (refine sxa hs hw ?_; clear hs hw; intro a b W hw hs) | (refine sxs hs hw ?_; clear hs hw; intro W hs hw))
          have hns : rs.size ≤ 9223372036854775807 := by omega
          refine st_call hs (hc := value_Of rk rn rs _ hns (hT.keep (hw.endF (In.tl (In.tl i)) hH))) (k := ?_); rintro e0 W1 ⟨rfl, hb⟩; refine ⟨_, rfl, ?_⟩; clear hs; intro a hs; replace hw := hw.below hb; clear hb
          generalize hof : (ofRaw rk rn rs).1 = x at *
          repeat (first | (refine sxv hs hw ?_; clear hs; intro a hs) | refine sxc hs ?_ | (refine sxa hs hw ?_; clear hs hw; intro a b W hw hs) | (refine sxs hs hw ?_; clear hs hw; intro W hs hw))
          obtain ⟨b11, q11⟩ := nm2 hw; subst q11
          obtain ⟨b13, q13⟩ := nm1 hw; subst q13
          refine st_store hs (hw := hw) (vs := [vCell x]) (h1 := by rcases x with _ | n | s <;> rfl) (k := ?_); clear hs hw; intro W hs hw
          repeat (first | (refine sxv hs hw ?_; clear hs; intro a hs) | refine sxc hs ?_ | (refine sxa hs hw ?_; clear hs hw; intro a b W hw hs) | (refine sxs hs hw ?_; clear hs hw; intro W hs hw))
          refine st_call hs (hc := Kind_any x _) (k := ?_); rintro e0 W1 ⟨rfl, hb⟩; refine ⟨_, rfl, ?_⟩; clear hs; intro a hs; replace hw := hw.below hb; clear hb
          cases x with
          | none =>
            repeat (first | (refine sxv hs hw ?_; clear hs; intro a hs) | refine sxc hs ?_ | (refine sxa hs hw ?_; clear hs hw; intro a b W hw hs) | (refine sxs hs hw ?_; clear hs hw; intro W hs hw))
            exact rt2 hs rfl rfl rfl (none_ hrd.symm (hw.sel (by repeat (first | exact Sel.refl _ | refine Sel.skip ?_))))
          | some v =>
            rw [show kindOf (some v) = kindV v from rfl] at hs
            have hk0 : (kindV v == 0) = false := by rcases v with n | s <;> rfl
            repeat (first | (refine sxv hs hw ?_; clear hs; intro a hs) | refine sxc hs ?_ | (refine sxa hs hw ?_; clear hs hw; intro a b W hw hs) | (refine sxs hs hw ?_; clear hs hw; intro W hs hw))
            rw [hk0] at hs
            have hw : Has 0 w0 _ (DocAt p d :: Cells b13 [vCell (some v)] 165 :: R) := hw.sel (by repeat (first | exact Sel.nil | exact Sel.refl _ | refine Sel.cons (by repeat (first | exact Pick.hd | apply Pick.tl)) ?_ | refine Sel.skip ?_))
            obtain ⟨m, d2, hp, hk, hw⟩ := docOpen hw
            obtain ⟨d3, h3, h4⟩ := dset_kv (⟨kt.toArray⟩ : ByteArray) v ((dKeys_perm hp).2 hk)
            repeat (first | (refine sxv hs hw ?_; clear hs; intro a hs) | refine sxc hs ?_ | (refine sxa hs hw ?_; clear hs hw; intro a b W hw hs) | (refine sxs hs hw ?_; clear hs hw; intro W hs hw))
            refine rg_draw (V := [.pointer (some ⟨p, 0, none⟩), .pointer (some ⟨p, 0, none⟩), .pointer (some ⟨p, 0 + 0, none⟩), .map (some m), .string ⟨kt.toArray⟩, .agg ⟨[vCell (some v)]⟩, .bool true])
              (Rs := fun D => Cells p [.map (some m)] 141 :: (if D 6 then MapOf m (kvOf d3) else MapOf m (kvOf d2)) :: Cells b13 [vCell (some v)] 165 :: R) hs hw (ho := ⟨?_, ?_, ?_, ?_, ?_, ?_, ?c6_1, trivial⟩) (k := ?k_1)
            case c6_1 =>
              intro LD D a W hcl hi hp hs hw
              simp only [hi, Bool.false_eq_true, if_false] at hw
              refine st_update hs (hw := hw) (v := vOf v) (c := ?_); clear hs hw; intro W hs hw
              rw [h3] at hw
              repeat (first | (refine sxv hs hw ?_; clear hs; intro a hs) | refine sxc hs ?_ | (refine sxa hs hw ?_; clear hs hw; intro a b W hw hs) | (refine sxs hs hw ?_; clear hs hw; intro W hs hw))
              exact ⟨hs, hw⟩
            case k_1 =>
              clear hs hw
              intro a W hs hw
              replace hw : Has 0 w0 W (Cells p [.map (some m)] 141 :: MapOf m (kvOf d3) :: Cells b13 [vCell (some v)] 165 :: R) := hw
              have hw := docShut (hw.sub (List.Sublist.cons_cons _ (List.Sublist.cons_cons _ (List.Sublist.cons _ (List.Sublist.refl _))))) (h4.trans (setD_perm hp ⟨kt.toArray⟩ v)) (setD_keys hk ⟨kt.toArray⟩ v)
              have hw := docLike hw (setL_perm d ⟨kt.toArray⟩ v).symm
              repeat (first | (refine sxv hs hw ?_; clear hs; intro a hs) | refine sxc hs ?_ | (refine sxa hs hw ?_; clear hs hw; intro a b W hw hs) | (refine sxs hs hw ?_; clear hs hw; intro W hs hw))
              refine st_again (j + 1, setL d ⟨kt.toArray⟩ v, at2 + kk + rm) hs hw ⟨hj', by show at2 + kk + rm ≤ l.length; omega, hrd⟩ (by show nn - (j + 1) < nn - j; omega) ⟨rfl, rfl, int_eq ?_, rfl, int_eq ?_, trivial⟩
              · show IntKind.i64.wrap ((at2 : Int) + IntKind.i64.wrap ((kk : Int) + (rm : Int))) = ((at2 + kk + rm : Nat) : Int)
                rw [IntWalk.i64_in ((kk : Int) + (rm : Int)) (by omega), IntWalk.i64_in _ (by omega)]; omega
              · show IntKind.i64.wrap ((j : Int) + 1) = ((j + 1 : Nat) : Int)
                rw [IntWalk.i64_in _ (by omega)]; omega
            all_goals
              intro LD D a W hcl hi hp hs hw
              repeat (first | (refine sxv hs hw ?_; clear hs; intro a hs) | refine sxc hs ?_ | (refine sxa hs hw ?_; clear hs hw; intro a b W hw hs) | (refine sxs hs hw ?_; clear hs hw; intro W hs hw))
              exact ⟨hs, hw⟩
        · have e1 : (re != 0) = true := by simpa using re0
          have e2 : (re == 0) = false := by simpa using re0
          rw [e2] at hrd
          repeat (first | (refine sxv hs hw ?_; clear hs; intro a hs) | refine sxc hs ?_ | (refine sxa hs hw ?_; clear hs hw; intro a b W hw hs) | (refine sxs hs hw ?_; clear hs hw; intro W hs hw))
          rw [e1] at hs
          repeat (first | (refine sxv hs hw ?_; clear hs; intro a hs) | refine sxc hs ?_ | (refine sxa hs hw ?_; clear hs hw; intro a b W hw hs) | (refine sxs hs hw ?_; clear hs hw; intro W hs hw))
          exact rt2 hs rfl rfl rfl (none_ hrd.symm (hw.sel (by repeat (first | exact Sel.refl _ | refine Sel.skip ?_))))
      · have e1 : (ke != 0) = true := by simpa using ke0
        have e2 : (ke == 0) = false := by simpa using ke0
        rw [e2] at hrd
        simp only [Bool.false_and] at hrd
        repeat (first | (refine sxv hs hw ?_; clear hs; intro a hs) | refine sxc hs ?_ | (refine sxa hs hw ?_; clear hs hw; intro a b W hw hs) | (refine sxs hs hw ?_; clear hs hw; intro W hs hw))
        rw [e1] at hs
        repeat (first | (refine sxv hs hw ?_; clear hs; intro a hs) | refine sxc hs ?_ | (refine sxa hs hw ?_; clear hs hw; intro a b W hw hs) | (refine sxs hs hw ?_; clear hs hw; intro W hs hw))
        exact rt2 hs rfl rfl rfl (none_ hrd.symm (hw.sel (by repeat (first | exact Sel.refl _ | refine Sel.skip ?_))))
    · have hj' : j = nn := by have : ¬ j < nn := by simpa using hcc
                              omega
      subst hj'
      rw [Nat.sub_self] at hrd
      simp only [rdPairs] at hrd
      subst hrd
      have hfd := rdPairs_some j [] _ d hR (by rw [List.length_drop]; omega) (by simp; omega) DocFine.nil
      repeat (first | (refine sxv hs hw ?_; clear hs; intro a hs) | refine sxc hs ?_ | (refine sxa hs hw ?_; clear hs hw; intro a b W hw hs) | (refine sxs hs hw ?_; clear hs hw; intro W hs hw))
      refine st_call hs (hc := doc_Encode w0 _ p d _ hfd hw) (k := ?_); rintro e0 W1 ⟨ad, cap, rfl, hw1⟩; refine ⟨_, rfl, ?_⟩; clear hs hw; intro a hs; have hw := hw1; clear hw1
      repeat (first | (refine sxv hs hw ?_; clear hs; intro a hs) | refine sxc hs ?_ | (refine sxa hs hw ?_; clear hs hw; intro a b W hw hs) | (refine sxs hs hw ?_; clear hs hw; intro W hs hw))
      refine st_call hs (hc := bytes_Equal (docB d) l _ _ _ (hw.rd_own In.hd) (hw.rdH (In.tl (In.tl i)) r)) (k := ?_); rintro e0 W1 ⟨rfl, hb⟩; refine ⟨_, rfl, ?_⟩; clear hs; intro a hs; replace hw := hw.below hb; clear hb
      simp only at hdec
      by_cases heq : docB d = l
      · rw [if_pos heq] at hdec
        rw [show (docB d == l) = true from by simpa using heq] at hs
        repeat (first | (refine sxv hs hw ?_; clear hs; intro a hs) | refine sxc hs ?_ | (refine sxa hs hw ?_; clear hs hw; intro a b W hw hs) | (refine sxs hs hw ?_; clear hs hw; intro W hs hw))
        exact rt2 hs rfl rfl rfl (.inr ⟨d, p, hdec, rfl, hw.sub (List.Sublist.cons _ (List.Sublist.refl _))⟩)
      · rw [if_neg heq] at hdec
        rw [show (docB d == l) = false from by simpa using heq] at hs
        repeat (first | (refine sxv hs hw ?_; clear hs; intro a hs) | refine sxc hs ?_ | (refine sxa hs hw ?_; clear hs hw; intro a b W hw hs) | (refine sxs hs hw ?_; clear hs hw; intro W hs hw))
        exact rt2 hs rfl rfl rfl (.inl ⟨hdec, rfl, hw.sub (List.Sublist.cons _ (List.Sublist.cons _ (List.Sublist.refl _)))⟩)
  · have e1 : (er != 0) = true := by simpa using he
    repeat (first | (refine sxv hs hw ?_; clear hs; intro a hs) | refine sxc hs ?_ | (refine sxa hs hw ?_; clear hs hw; intro a b W hw hs) | (refine sxs hs hw ?_; clear hs hw; intro W hs hw))
    rw [e1] at hs
    repeat (first | (refine sxv hs hw ?_; clear hs; intro a hs) | refine sxc hs ?_ | (refine sxa hs hw ?_; clear hs hw; intro a b W hw hs) | (refine sxs hs hw ?_; clear hs hw; intro W hs hw))
    exact rt2 hs rfl rfl rfl (.inl ⟨by rw [hdec, if_neg (by omega)], rfl, hw.sub (List.Sublist.cons _ (List.Sublist.refl _))⟩)
set_option maxHeartbeats 16000000 in
theorem ref_DocEncode (w0 W : World) (H : Fh) (d : Dm) (dv : Value) (R : List Res) (hd : DocFine d) (r : DocH H dv d) (i : In (Fz H) R) (hw : Has 0 w0 W R) :
    Calls Tryz.prog 76 ⟨[.agg ⟨[dv]⟩]⟩ W fun e W' => ∃ ad cap, e = .returned (.slice ad (docB d).length cap) ∧ Has 0 w0 W' (Sx.OwnB 5 (.slice ad (docB d).length cap) (docB d) :: R) := by
  obtain ⟨dad, dcap, rfl⟩ := r.slice
  have hl := hd.ok.len
  refine enter Tryz.func76 Tryz.ntmps76 rfl rfl fun a hs => ?_
  repeat (first | (refine sxv hs hw ?_; clear hs; intro a hs) | refine sxc hs ?_ | (refine sxa hs hw ?_; clear hs hw; intro a b W hw hs) | (refine sxs hs hw ?_; clear hs hw; intro W hs hw))
  obtain ⟨b1, q1⟩ := nm1 hw; subst q1
  refine st_call hs (hc := ref_Put w0 _ (d.length : Int) _ (by omega) (by omega) hw) (k := ?_); rintro e0 W1 ⟨ad, cap, rfl, hw1⟩; refine ⟨_, rfl, ?_⟩; clear hs hw; intro a hs; have hw := hw1; clear hw1
  repeat (first | (refine sxv hs hw ?_; clear hs; intro a hs) | refine sxc hs ?_ | (refine sxa hs hw ?_; clear hs hw; intro a b W hw hs) | (refine sxs hs hw ?_; clear hs hw; intro W hs hw))
  refine st_loop (σ := Value × Nat) (fun s => [(1, .pointer (some ⟨b1, 0, none⟩)), (3, s.1), (4, .int .i64 (s.2 : Int))]) (fun s => Sx.OwnB 5 s.1 (docA d s.2) :: Cells b1 [.slice dad d.length dcap] 32 :: R) (fun s => s.2 ≤ d.length) (fun s => d.length - s.2) (.slice ad (Ph.putI (d.length : Int)).length cap, 0) (Nat.zero_le _) hs ⟨rfl, rfl, rfl, trivial⟩ (by rw [show docA d 0 = Ph.putI (d.length : Int) from by simp [docA]]; exact hw) ?_
  clear hs hw
  rintro ⟨v, j⟩ a W hj hs hw
  simp only at hj hs hw
  repeat (first | (refine sxv hs hw ?_; clear hs; intro a hs) | refine sxc hs ?_ | (refine sxa hs hw ?_; clear hs hw; intro a b W hw hs) | (refine sxs hs hw ?_; clear hs hw; intro W hs hw))
  refine cd_split hs (kt := fun hcc => ?_) (kf := fun hcc => ?_)
  · have hj' : j < d.length := by simpa using hcc
    obtain ⟨o, hoi⟩ : ∃ o, d[j]? = some o := ⟨d[j], List.getElem?_eq_getElem hj'⟩
    have hpo := hd.ok.all o (List.mem_of_getElem? hoi)
    have hacc := docA_len hd.ok j
    have hnext := docA_next hoi
    generalize docA d j = acc at *
    obtain ⟨vad, vcap, rfl⟩ := hw.own_slice
    have hp2 := putT_le o.1
    have hp3 := putR_le (kindOf (some o.2)) (intIn (some o.2)) (textIn (some o.2))
    have hkey := hpo.key
    have hki := kind_i64 o.2
    have hrr := raw_range (k := o.1) (v := o.2) hpo
    obtain ⟨g, f, c, rfl, rfl, hc1⟩ := chH_at pair_len r (chFlat pairCells d) rfl hoi
    repeat (first | (refine sxv hs hw ?_; clear hs; intro a hs) | refine sxc hs ?_ | (refine sxa hs hw ?_; clear hs hw; intro a b W hw hs) | (refine sxs hs hw ?_; clear hs hw; intro W hs hw))
    have hw : Has 0 w0 W (Sx.OwnB 5 (.slice vad acc.length vcap) (acc) :: Free :: Free :: Cells b1 [.slice (some ⟨g, f, none⟩) d.length dcap] 32 :: R) := hw.free.free.perm (by repeat (first | exact List.Perm.refl _ | refine perm_pick (by repeat (first | exact Pick.hd | apply Pick.tl)) ?_))
    refine rg_drawU (σ := Option Addr × Nat) (V := fun u => [(.slice vad acc.length vcap), .pointer (some ⟨b1, 0 + 0, none⟩), .slice (some ⟨g, f, none⟩) d.length dcap, .int .i64 (j : Int), .pointer (some ⟨g, f + j * 4, none⟩), .pointer (some ⟨g, f + j * 4 + 0, none⟩), .string o.1, (.slice (u 7).1 (Ph.putT o.1.data.toList).length (u 7).2), (.slice (u 8).1 (acc ++ Ph.putT o.1.data.toList).length (u 8).2), .pointer (some ⟨b1, 0 + 0, none⟩), .slice (some ⟨g, f, none⟩) d.length dcap, .int .i64 (j : Int), .pointer (some ⟨g, f + j * 4, none⟩), .pointer (some ⟨g, f + j * 4 + 1, none⟩), .agg ⟨rawCells (some o.2)⟩, (.slice (u 15).1 (putR (kindOf (some o.2)) (intIn (some o.2)) (textIn (some o.2))).length (u 15).2), (.slice (u 16).1 (acc ++ Ph.putT o.1.data.toList ++ putR (kindOf (some o.2)) (intIn (some o.2)) (textIn (some o.2))).length (u 16).2), (.slice (u 17).1 (acc ++ Ph.putT o.1.data.toList ++ putR (kindOf (some o.2)) (intIn (some o.2)) (textIn (some o.2))).length (u 17).2)])
      (Rs := fun u D => (if D 17 then Sx.OwnB 5 (.slice (u 17).1 (acc ++ Ph.putT o.1.data.toList ++ putR (kindOf (some o.2)) (intIn (some o.2)) (textIn (some o.2))).length (u 17).2) (acc ++ Ph.putT o.1.data.toList ++ putR (kindOf (some o.2)) (intIn (some o.2)) (textIn (some o.2))) else if D 16 then Sx.OwnB 5 (.slice (u 16).1 (acc ++ Ph.putT o.1.data.toList ++ putR (kindOf (some o.2)) (intIn (some o.2)) (textIn (some o.2))).length (u 16).2) (acc ++ Ph.putT o.1.data.toList ++ putR (kindOf (some o.2)) (intIn (some o.2)) (textIn (some o.2))) else if D 8 then Sx.OwnB 5 (.slice (u 8).1 (acc ++ Ph.putT o.1.data.toList).length (u 8).2) (acc ++ Ph.putT o.1.data.toList) else Sx.OwnB 5 (.slice vad acc.length vcap) (acc)) :: (if D 7 then Sx.OwnB 5 (.slice (u 7).1 (Ph.putT o.1.data.toList).length (u 7).2) (Ph.putT o.1.data.toList) else Free) :: (if D 15 then Sx.OwnB 5 (.slice (u 15).1 (putR (kindOf (some o.2)) (intIn (some o.2)) (textIn (some o.2))).length (u 15).2) (putR (kindOf (some o.2)) (intIn (some o.2)) (textIn (some o.2))) else Free) :: Cells b1 [.slice (some ⟨g, f, none⟩) d.length dcap] 32 :: R) (fun _ => (none, 0)) hs hw (hVu := ?vu_c) (ho := ⟨?_, ?_, ?_, ?_, ?c4_c, ?_, ?c6_c, ?c7_c, ?c8_c, ?_, ?_, ?_, ?c12_c, ?_, ?c14_c, ?c15_c, ?c16_c, ?c17_c, trivial⟩) (k := ?k_c)
    case vu_c =>
      intro u u' j h
      rcases j with _ | _ | _ | _ | _ | _ | _ | _ | _ | _ | _ | _ | _ | _ | _ | _ | _ | _ | j
      all_goals first | rfl | simp [h]
    case c4_c =>
      intro u LD D a W hcl hi hp hs hw
      refine st_index_at hs (z := [.string ⟨#[]⟩, .int .i64 0, .int .i64 0, .string ⟨#[]⟩]) (h0 := by omega) (h1 := by omega) (c := ?_); clear hs; intro a hs
      repeat (first | (refine sxv hs hw ?_; clear hs; intro a hs) | refine sxc hs ?_ | (refine sxa hs hw ?_; clear hs hw; intro a b W hw hs) | (refine sxs hs hw ?_; clear hs hw; intro W hs hw))
      exact Or.inl ⟨hs, hw⟩
    case c6_c =>
      intro u LD D a W hcl hi hp hs hw
      refine st_load_at hs (hc := hc1 hw (In.tl (In.tl (In.tl (In.tl i)))) 0 _ rfl) (c := ?_); clear hs; intro a hs
      repeat (first | (refine sxv hs hw ?_; clear hs; intro a hs) | refine sxc hs ?_ | (refine sxa hs hw ?_; clear hs hw; intro a b W hw hs) | (refine sxs hs hw ?_; clear hs hw; intro W hs hw))
      exact Or.inl ⟨hs, hw⟩
    case c12_c =>
      intro u LD D a W hcl hi hp hs hw
      refine st_index_at hs (z := [.string ⟨#[]⟩, .int .i64 0, .int .i64 0, .string ⟨#[]⟩]) (h0 := by omega) (h1 := by omega) (c := ?_); clear hs; intro a hs
      repeat (first | (refine sxv hs hw ?_; clear hs; intro a hs) | refine sxc hs ?_ | (refine sxa hs hw ?_; clear hs hw; intro a b W hw hs) | (refine sxs hs hw ?_; clear hs hw; intro W hs hw))
      exact Or.inl ⟨hs, hw⟩
    case c14_c =>
      intro u LD D a W hcl hi hp hs hw
      refine st_load_ats hs (cs := rawCells (some o.2)) (hc := fun k x h => by rw [Nat.add_assoc _ 1 k, Nat.add_comm 1 k]; exact hc1 hw (In.tl (In.tl (In.tl (In.tl i)))) (k + 1) x h) (hl := by rfl) (c := ?_); clear hs; intro a hs
      repeat (first | (refine sxv hs hw ?_; clear hs; intro a hs) | refine sxc hs ?_ | (refine sxa hs hw ?_; clear hs hw; intro a b W hw hs) | (refine sxs hs hw ?_; clear hs hw; intro W hs hw))
      exact Or.inl ⟨hs, hw⟩
    case c7_c =>
      intro u LD D a W hcl hi hp hs hw
      have h8 := Go.Sx.not_done hcl hi 8 (by kernel_rfl)
      have h16 := Go.Sx.not_done hcl h8 16 (by kernel_rfl)
      have h17 := Go.Sx.not_done hcl h16 17 (by kernel_rfl)
      simp only [hi, h8, h16, h17, Bool.false_eq_true, if_false] at hw
      refine st_call hs (hc := ref_PutText w0 _ o.1 _ (by omega) hw) (k := ?_); rintro e0 W1 ⟨ad, cap, rfl, hw1⟩; refine ⟨_, rfl, ?_⟩; clear hs hw; intro a hs; have hw := hw1; clear hw1
      repeat (first | (refine sxv hs hw ?_; clear hs; intro a hs) | refine sxc hs ?_ | (refine sxa hs hw ?_; clear hs hw; intro a b W hw hs) | (refine sxs hs hw ?_; clear hs hw; intro W hs hw))
      refine Or.inr ⟨(ad, cap), hs, ?_⟩
      show Has 0 w0 _ ((if (Nat.beq 17 7 || D 17) = true then _ else if (Nat.beq 16 7 || D 16) = true then _ else if (Nat.beq 8 7 || D 8) = true then _ else _) :: _)
      rw [h17, h16, h8]
      exact hw.fill (Upd.tl Upd.hd)
    case c8_c =>
      intro u LD D a W hcl hi hp hs hw
      have h7 := Go.Sx.done hp 7 (by kernel_rfl)
      have h16 := Go.Sx.not_done hcl hi 16 (by kernel_rfl)
      have h17 := Go.Sx.not_done hcl h16 17 (by kernel_rfl)
      simp only [hi, h7, h16, h17, Bool.false_eq_true, if_false, if_true] at hw
      refine st_append_b hs hw (l := acc) (m := Ph.putT o.1.data.toList) (hr := src_rd (hw.rd_own (In.tl In.hd)) (bys_one _)) (hb := by omega) (c := ?_); clear hs hw; intro a ad cap W hs hw
      repeat (first | (refine sxv hs hw ?_; clear hs; intro a hs) | refine sxc hs ?_ | (refine sxa hs hw ?_; clear hs hw; intro a b W hw hs) | (refine sxs hs hw ?_; clear hs hw; intro W hs hw))
      refine Or.inr ⟨(ad, cap), hs, ?_⟩
      show Has 0 w0 _ ((if (Nat.beq 17 8 || D 17) = true then _ else if (Nat.beq 16 8 || D 16) = true then _ else _) :: (if (Nat.beq 7 8 || D 7) = true then _ else _) :: _)
      rw [h17, h16, h7]
      exact hw
    case c15_c =>
      intro u LD D a W hcl hi hp hs hw
      have h16 := Go.Sx.not_done hcl hi 16 (by kernel_rfl)
      have h17 := Go.Sx.not_done hcl h16 17 (by kernel_rfl)
      simp only [hi, h16, h17, Bool.false_eq_true, if_false] at hw
      refine st_call hs (hc := ref_PutRaw w0 _ (kindOf (some o.2)) (intIn (some o.2)) (textIn (some o.2)) _ hki.1 hki.2 hrr.1.1 hrr.1.2 (by omega) hw) (k := ?_); rintro e0 W1 ⟨ad, cap, rfl, hw1⟩; refine ⟨_, rfl, ?_⟩; clear hs hw; intro a hs; have hw := hw1; clear hw1
      repeat (first | (refine sxv hs hw ?_; clear hs; intro a hs) | refine sxc hs ?_ | (refine sxa hs hw ?_; clear hs hw; intro a b W hw hs) | (refine sxs hs hw ?_; clear hs hw; intro W hs hw))
      refine Or.inr ⟨(ad, cap), hs, ?_⟩
      show Has 0 w0 _ ((if (Nat.beq 17 15 || D 17) = true then _ else if (Nat.beq 16 15 || D 16) = true then _ else _) :: _)
      rw [h17, h16]
      exact hw.fill (Upd.tl (Upd.tl Upd.hd))
    case c16_c =>
      intro u LD D a W hcl hi hp hs hw
      have h8 := Go.Sx.done hp 8 (by kernel_rfl)
      have h15 := Go.Sx.done hp 15 (by kernel_rfl)
      have h17 := Go.Sx.not_done hcl hi 17 (by kernel_rfl)
      simp only [hi, h8, h15, h17, Bool.false_eq_true, if_false, if_true] at hw
      refine st_append_b hs hw (l := acc ++ Ph.putT o.1.data.toList) (m := putR (kindOf (some o.2)) (intIn (some o.2)) (textIn (some o.2))) (hr := src_rd (hw.rd_own (In.tl (In.tl In.hd))) (bys_one _)) (hb := by first | omega | (simp only [List.length_append]; omega)) (c := ?_); clear hs hw; intro a ad cap W hs hw
      repeat (first | (refine sxv hs hw ?_; clear hs; intro a hs) | refine sxc hs ?_ | (refine sxa hs hw ?_; clear hs hw; intro a b W hw hs) | (refine sxs hs hw ?_; clear hs hw; intro W hs hw))
      refine Or.inr ⟨(ad, cap), hs, ?_⟩
      show Has 0 w0 _ ((if (Nat.beq 17 16 || D 17) = true then _ else _) :: _ :: (if (Nat.beq 15 16 || D 15) = true then _ else _) :: _)
      rw [h17, h15]
      exact hw
    case c17_c =>
      intro u LD D a W hcl hi hp hs hw
      have h16 := Go.Sx.done hp 16 (by kernel_rfl)
      simp only [hi, h16, Bool.false_eq_true, if_false, if_true] at hw
      repeat (first | (refine sxv hs hw ?_; clear hs; intro a hs) | refine sxc hs ?_ | (refine sxa hs hw ?_; clear hs hw; intro a b W hw hs) | (refine sxs hs hw ?_; clear hs hw; intro W hs hw))
      exact Or.inr ⟨u 16, hs, hw⟩
    case k_c =>
      clear hs hw
      intro u a W hs hw
      replace hw : Has 0 w0 W (Sx.OwnB 5 (.slice (u 17).1 (acc ++ Ph.putT o.1.data.toList ++ putR (kindOf (some o.2)) (intIn (some o.2)) (textIn (some o.2))).length (u 17).2) (acc ++ Ph.putT o.1.data.toList ++ putR (kindOf (some o.2)) (intIn (some o.2)) (textIn (some o.2))) :: Sx.OwnB 5 (.slice (u 7).1 (Ph.putT o.1.data.toList).length (u 7).2) (Ph.putT o.1.data.toList) :: Sx.OwnB 5 (.slice (u 15).1 (putR (kindOf (some o.2)) (intIn (some o.2)) (textIn (some o.2))).length (u 15).2) (putR (kindOf (some o.2)) (intIn (some o.2)) (textIn (some o.2))) :: Cells b1 [.slice (some ⟨g, f, none⟩) d.length dcap] 32 :: R) := hw
      replace hw := hw.drop2.drop2
      replace hs : Slots a 34 [(1, .pointer (some ⟨b1, 0, none⟩)), (3, (.slice (u 17).1 (acc ++ Ph.putT o.1.data.toList ++ putR (kindOf (some o.2)) (intIn (some o.2)) (textIn (some o.2))).length (u 17).2)), (4, .int .i64 (j : Int))] := hs.of ⟨rfl, rfl, rfl, trivial⟩
      generalize (u 17).1 = ad1 at *
      generalize (u 17).2 = cap1 at *
      clear u
      rw [← hnext] at hs hw
      repeat (first | (refine sxv hs hw ?_; clear hs; intro a hs) | refine sxc hs ?_ | (refine sxa hs hw ?_; clear hs hw; intro a b W hw hs) | (refine sxs hs hw ?_; clear hs hw; intro W hs hw))
      exact st_again (_, j + 1) hs hw hj' (by show d.length - (j + 1) < d.length - j; omega) ⟨rfl, rfl, int_eq (by show IntKind.i64.wrap ((j : Int) + 1) = ((j + 1 : Nat) : Int); rw [IntWalk.i64_in _ (by omega)]; omega), trivial⟩
    all_goals
      intro u LD D a W hcl hi hp hs hw
      repeat (first | (refine sxv hs hw ?_; clear hs; intro a hs) | refine sxc hs ?_ | (refine sxa hs hw ?_; clear hs hw; intro a b W hw hs) | (refine sxs hs hw ?_; clear hs hw; intro W hs hw))
      exact Or.inl ⟨hs, hw⟩
  · have hj' : j = d.length := by have h9 : ¬ j < d.length := by simpa using hcc
                                  omega
    subst hj'
    rw [docA_all] at hw
    repeat (first | (refine sxv hs hw ?_; clear hs; intro a hs) | refine sxc hs ?_ | (refine sxa hs hw ?_; clear hs hw; intro a b W hw hs) | (refine sxs hs hw ?_; clear hs hw; intro W hs hw))
    obtain ⟨ad, cap, rfl⟩ := hw.own_slice
    exact rt1 hs rfl rfl ⟨ad, cap, rfl, hw.drop2⟩
end Go.Proofs.YtmalklakaalaoaaGreatDoor.Sw

namespace Go
def Code.regionIn (id : Nat) : Code → Option Code
  | .region i ops b => if Nat.beq i id then some (.region i ops b) else none
  | .seq x y => match Code.regionIn id x with | some r => some r | none => Code.regionIn id y
  | .cond _ x y => match Code.regionIn id x with | some r => some r | none => Code.regionIn id y
  | .block _ x => Code.regionIn id x
  | .loop x => Code.regionIn id x
  | _ => none
def Code.regionOf (id : Nat) (b : Option Code) : Code := match b with | some c => (Code.regionIn id c).getD .skip | none => .skip
end Go

set_option linter.unusedVariables false
set_option maxRecDepth 10000
namespace Go.Proofs.YtmalklakaalaoaaGreatDoor.Sw
open Go.RowKit Go.Sx
set_option maxHeartbeats 64000000 in
theorem fd_way0 {Q : Exit → Act → World → Prop} {a : Act} {w0 W : World} {H3 : Fh} {R : List Res} {bad0 pad dad : Option Addr} {nb bcap0 pcap dcap b4 p5 pd b11 b12 c : Nat} {place pl seq er err xc xq : Int} {xl : List OpD} {d : Dm} {sv4 : Value} {s4 : List UInt8 × Bool} {xs : List Value} {pls : List Int} (hpll : pls.length ≤ 1000) (k1 : (err != 0) = false) (k2 : (xc != (c : Int)) = false) (k3 : (xq != seq) = false) (k4 : decide (pl < 1) = false) (k5 : decide (pl > place) = false) (kf6 : fineE er = true) (k7 : decide (pl ∈ pls) = false)
    (hs : Slots a 129 [(0, .slice bad0 nb bcap0), (4, .pointer (some ⟨b4, 0, none⟩)), (5, .pointer (some ⟨p5, 0, none⟩)), (8, .slice pad pls.length pcap), (9, .int .i64 (c : Int)), (10, .int .i64 seq), (11, .pointer (some ⟨b11, 0, none⟩)), (12, .pointer (some ⟨b12, 0, none⟩)), (13, .int .i64 err)]) (hw : Has 0 w0 W (Cells b11 (rowCells ⟨pl, ⟨xc, xq, xl⟩, er⟩ (.slice dad xl.length dcap)) 39 :: Cells b12 (batCells ⟨xc, xq, xl⟩ (.slice dad xl.length dcap)) 36 :: Cells b4 [sv4, .bool s4.2] 129 :: Cells p5 (foldCells place pd xs) 126 :: DocAt pd d :: Sx.Own 2 1 (.slice pad pls.length pcap) pls.length (pls.map (Value.int .i64)) :: Fz H3 :: R))
    (hk : ∀ a W, Slots a 129 [(103, .bool false), (0, .slice bad0 nb bcap0), (4, .pointer (some ⟨b4, 0, none⟩)), (5, .pointer (some ⟨p5, 0, none⟩)), (8, .slice pad pls.length pcap), (9, .int .i64 (c : Int)), (10, .int .i64 seq), (11, .pointer (some ⟨b11, 0, none⟩))] → Has 0 w0 W (Cells b11 (rowCells ⟨pl, ⟨xc, xq, xl⟩, er⟩ (.slice dad xl.length dcap)) 39 :: Cells b12 (batCells ⟨xc, xq, xl⟩ (.slice dad xl.length dcap)) 36 :: Cells b4 [sv4, .bool s4.2] 129 :: Cells p5 (foldCells place pd xs) 126 :: DocAt pd d :: Sx.Own 2 1 (.slice pad pls.length pcap) pls.length (pls.map (Value.int .i64)) :: Fz H3 :: R) → Q .normal a W) : (Code.regionOf 16 Tryz.f39.body).wp Tryz.prog Q a W := by
  change Code.wp Tryz.prog (Code.region 16 _ true) Q a W
  refine rg_draw (V := [.int .i64 err, .bool false, .bool false, .pointer (some ⟨b12, 0 + 0, none⟩), .int .i64 xc, .int .i64 (c : Int), .bool false, .bool false, .bool false, .pointer (some ⟨b12, 0 + 1, none⟩), .int .i64 xq, .int .i64 seq, .bool false, .bool false, .bool false, .pointer (some ⟨b11, 0 + 0, none⟩), .int .i64 pl, .bool false, .bool false, .bool false, .pointer (some ⟨b11, 0 + 0, none⟩), .int .i64 pl, .pointer (some ⟨p5, 0, none⟩), .pointer (some ⟨p5, 0, none⟩), .pointer (some ⟨p5, 0 + 0, none⟩), .int .i64 place, .bool false, .bool false, .bool false, .pointer (some ⟨b11, 0 + 4, none⟩), .int .i64 er, .bool true, .bool false, .bool false, .bool false, .slice pad pls.length pcap, .pointer (some ⟨b11, 0 + 0, none⟩), .int .i64 pl, .bool false, .bool false])
    (Rs := fun D => Cells b11 (rowCells ⟨pl, ⟨xc, xq, xl⟩, er⟩ (.slice dad xl.length dcap)) 39 :: Cells b12 (batCells ⟨xc, xq, xl⟩ (.slice dad xl.length dcap)) 36 :: Cells b4 [sv4, .bool s4.2] 129 :: Cells p5 (foldCells place pd xs) 126 :: DocAt pd d :: Sx.Own 2 1 (.slice pad pls.length pcap) pls.length (pls.map (Value.int .i64)) :: Fz H3 :: R) hs hw (ho := ⟨?_, ?c1_0, ?_, ?_, ?_, ?_, ?c6_0, ?_, ?_, ?_, ?_, ?_, ?c12_0, ?_, ?_, ?_, ?_, ?c17_0, ?_, ?_, ?_, ?_, ?_, ?_, ?_, ?_, ?c26_0, ?_, ?_, ?_, ?_, ?c31_0, ?_, ?_, ?_, ?_, ?_, ?_, ?c38_0, ?_, trivial⟩) (k := ?k_0)
  case c1_0 =>
    intro LD D a W hcl hi hp hs hw
    repeat (first | (refine sxv hs hw ?_; clear hs; intro a hs) | refine sxc hs ?_ | (refine sxa hs hw ?_; clear hs hw; intro a b W hw hs) | (refine sxs hs hw ?_; clear hs hw; intro W hs hw) | ((with_reducible first | refine st_ptrSome hs (k := ?_) | refine st_ptrNone hs (k := ?_)); clear hs; intro a hs))
    rw [k1] at hs
    exact ⟨hs, hw⟩
  case c6_0 =>
    intro LD D a W hcl hi hp hs hw
    repeat (first | (refine sxv hs hw ?_; clear hs; intro a hs) | refine sxc hs ?_ | (refine sxa hs hw ?_; clear hs hw; intro a b W hw hs) | (refine sxs hs hw ?_; clear hs hw; intro W hs hw) | ((with_reducible first | refine st_ptrSome hs (k := ?_) | refine st_ptrNone hs (k := ?_)); clear hs; intro a hs))
    rw [k2] at hs
    exact ⟨hs, hw⟩
  case c12_0 =>
    intro LD D a W hcl hi hp hs hw
    repeat (first | (refine sxv hs hw ?_; clear hs; intro a hs) | refine sxc hs ?_ | (refine sxa hs hw ?_; clear hs hw; intro a b W hw hs) | (refine sxs hs hw ?_; clear hs hw; intro W hs hw) | ((with_reducible first | refine st_ptrSome hs (k := ?_) | refine st_ptrNone hs (k := ?_)); clear hs; intro a hs))
    rw [k3] at hs
    exact ⟨hs, hw⟩
  case c17_0 =>
    intro LD D a W hcl hi hp hs hw
    repeat (first | (refine sxv hs hw ?_; clear hs; intro a hs) | refine sxc hs ?_ | (refine sxa hs hw ?_; clear hs hw; intro a b W hw hs) | (refine sxs hs hw ?_; clear hs hw; intro W hs hw) | ((with_reducible first | refine st_ptrSome hs (k := ?_) | refine st_ptrNone hs (k := ?_)); clear hs; intro a hs))
    rw [k4] at hs
    exact ⟨hs, hw⟩
  case c26_0 =>
    intro LD D a W hcl hi hp hs hw
    repeat (first | (refine sxv hs hw ?_; clear hs; intro a hs) | refine sxc hs ?_ | (refine sxa hs hw ?_; clear hs hw; intro a b W hw hs) | (refine sxs hs hw ?_; clear hs hw; intro W hs hw) | ((with_reducible first | refine st_ptrSome hs (k := ?_) | refine st_ptrNone hs (k := ?_)); clear hs; intro a hs))
    rw [k5] at hs
    exact ⟨hs, hw⟩
  case c31_0 =>
    intro LD D a W hcl hi hp hs hw
    repeat (first | (refine sxv hs hw ?_; clear hs; intro a hs) | refine sxc hs ?_ | (refine sxa hs hw ?_; clear hs hw; intro a b W hw hs) | (refine sxs hs hw ?_; clear hs hw; intro W hs hw) | ((with_reducible first | refine st_ptrSome hs (k := ?_) | refine st_ptrNone hs (k := ?_)); clear hs; intro a hs))
    refine st_call hs (hc := fold_fine er _) (k := ?_); rintro e0 W1 ⟨rfl, hb⟩; refine ⟨_, rfl, ?_⟩; clear hs; intro a hs; replace hw := hw.below hb; clear hb
    rw [kf6] at hs
    repeat (first | (refine sxv hs hw ?_; clear hs; intro a hs) | refine sxc hs ?_ | (refine sxa hs hw ?_; clear hs hw; intro a b W hw hs) | (refine sxs hs hw ?_; clear hs hw; intro W hs hw) | ((with_reducible first | refine st_ptrSome hs (k := ?_) | refine st_ptrNone hs (k := ?_)); clear hs; intro a hs))
    exact ⟨hs, hw⟩
  case c38_0 =>
    intro LD D a W hcl hi hp hs hw
    repeat (first | (refine sxv hs hw ?_; clear hs; intro a hs) | refine sxc hs ?_ | (refine sxa hs hw ?_; clear hs hw; intro a b W hw hs) | (refine sxs hs hw ?_; clear hs hw; intro W hs hw) | ((with_reducible first | refine st_ptrSome hs (k := ?_) | refine st_ptrNone hs (k := ?_)); clear hs; intro a hs))
    refine st_call hs (hc := sl_Contains pls _ pl _ hpll (hw.rd_own (In.tl (In.tl (In.tl (In.tl (In.tl In.hd))))))) (k := ?_); rintro e0 W1 ⟨rfl, hb⟩; refine ⟨_, rfl, ?_⟩; clear hs; intro a hs; replace hw := hw.below hb; clear hb
    rw [k7] at hs
    repeat (first | (refine sxv hs hw ?_; clear hs; intro a hs) | refine sxc hs ?_ | (refine sxa hs hw ?_; clear hs hw; intro a b W hw hs) | (refine sxs hs hw ?_; clear hs hw; intro W hs hw) | ((with_reducible first | refine st_ptrSome hs (k := ?_) | refine st_ptrNone hs (k := ?_)); clear hs; intro a hs))
    exact ⟨hs, hw⟩
  case k_0 =>
    clear hs hw
    intro a W hs hw
    replace hw : Has 0 w0 W (Cells b11 (rowCells ⟨pl, ⟨xc, xq, xl⟩, er⟩ (.slice dad xl.length dcap)) 39 :: Cells b12 (batCells ⟨xc, xq, xl⟩ (.slice dad xl.length dcap)) 36 :: Cells b4 [sv4, .bool s4.2] 129 :: Cells p5 (foldCells place pd xs) 126 :: DocAt pd d :: Sx.Own 2 1 (.slice pad pls.length pcap) pls.length (pls.map (Value.int .i64)) :: Fz H3 :: R) := hw
    refine hk a W (hs.of ?_) hw
    exact ⟨rfl, rfl, rfl, rfl, rfl, rfl, rfl, rfl, trivial⟩
  all_goals
    intro LD D a W hcl hi hp hs hw
    repeat (first | (refine sxv hs hw ?_; clear hs; intro a hs) | refine sxc hs ?_ | (refine sxa hs hw ?_; clear hs hw; intro a b W hw hs) | (refine sxs hs hw ?_; clear hs hw; intro W hs hw) | ((with_reducible first | refine st_ptrSome hs (k := ?_) | refine st_ptrNone hs (k := ?_)); clear hs; intro a hs))
    exact ⟨hs, hw⟩
set_option maxHeartbeats 64000000 in
theorem fd_way7 {Q : Exit → Act → World → Prop} {a : Act} {w0 W : World} {H3 : Fh} {R : List Res} {bad0 pad dad : Option Addr} {nb bcap0 pcap dcap b4 p5 pd b11 b12 c : Nat} {place pl seq er err xc xq : Int} {xl : List OpD} {d : Dm} {sv4 : Value} {s4 : List UInt8 × Bool} {xs : List Value} {pls : List Int} (hpll : pls.length ≤ 1000) (k1 : (err != 0) = false) (k2 : (xc != (c : Int)) = false) (k3 : (xq != seq) = false) (k4 : decide (pl < 1) = false) (k5 : decide (pl > place) = false) (kf6 : fineE er = true) (k7 : decide (pl ∈ pls) = true)
    (hs : Slots a 129 [(0, .slice bad0 nb bcap0), (4, .pointer (some ⟨b4, 0, none⟩)), (5, .pointer (some ⟨p5, 0, none⟩)), (8, .slice pad pls.length pcap), (9, .int .i64 (c : Int)), (10, .int .i64 seq), (11, .pointer (some ⟨b11, 0, none⟩)), (12, .pointer (some ⟨b12, 0, none⟩)), (13, .int .i64 err)]) (hw : Has 0 w0 W (Cells b11 (rowCells ⟨pl, ⟨xc, xq, xl⟩, er⟩ (.slice dad xl.length dcap)) 39 :: Cells b12 (batCells ⟨xc, xq, xl⟩ (.slice dad xl.length dcap)) 36 :: Cells b4 [sv4, .bool s4.2] 129 :: Cells p5 (foldCells place pd xs) 126 :: DocAt pd d :: Sx.Own 2 1 (.slice pad pls.length pcap) pls.length (pls.map (Value.int .i64)) :: Fz H3 :: R))
    (hk : ∀ a W, Slots a 129 [(103, .bool true)] → Has 0 w0 W (Cells b11 (rowCells ⟨pl, ⟨xc, xq, xl⟩, er⟩ (.slice dad xl.length dcap)) 39 :: Cells b12 (batCells ⟨xc, xq, xl⟩ (.slice dad xl.length dcap)) 36 :: Cells b4 [sv4, .bool s4.2] 129 :: Cells p5 (foldCells place pd xs) 126 :: DocAt pd d :: Sx.Own 2 1 (.slice pad pls.length pcap) pls.length (pls.map (Value.int .i64)) :: Fz H3 :: R) → Q .normal a W) : (Code.regionOf 16 Tryz.f39.body).wp Tryz.prog Q a W := by
  change Code.wp Tryz.prog (Code.region 16 _ true) Q a W
  refine rg_draw (V := [.int .i64 err, .bool false, .bool false, .pointer (some ⟨b12, 0 + 0, none⟩), .int .i64 xc, .int .i64 (c : Int), .bool false, .bool false, .bool false, .pointer (some ⟨b12, 0 + 1, none⟩), .int .i64 xq, .int .i64 seq, .bool false, .bool false, .bool false, .pointer (some ⟨b11, 0 + 0, none⟩), .int .i64 pl, .bool false, .bool false, .bool false, .pointer (some ⟨b11, 0 + 0, none⟩), .int .i64 pl, .pointer (some ⟨p5, 0, none⟩), .pointer (some ⟨p5, 0, none⟩), .pointer (some ⟨p5, 0 + 0, none⟩), .int .i64 place, .bool false, .bool false, .bool false, .pointer (some ⟨b11, 0 + 4, none⟩), .int .i64 er, .bool true, .bool false, .bool false, .bool false, .slice pad pls.length pcap, .pointer (some ⟨b11, 0 + 0, none⟩), .int .i64 pl, .bool true, .bool true])
    (Rs := fun D => Cells b11 (rowCells ⟨pl, ⟨xc, xq, xl⟩, er⟩ (.slice dad xl.length dcap)) 39 :: Cells b12 (batCells ⟨xc, xq, xl⟩ (.slice dad xl.length dcap)) 36 :: Cells b4 [sv4, .bool s4.2] 129 :: Cells p5 (foldCells place pd xs) 126 :: DocAt pd d :: Sx.Own 2 1 (.slice pad pls.length pcap) pls.length (pls.map (Value.int .i64)) :: Fz H3 :: R) hs hw (ho := ⟨?_, ?c1_7, ?_, ?_, ?_, ?_, ?c6_7, ?_, ?_, ?_, ?_, ?_, ?c12_7, ?_, ?_, ?_, ?_, ?c17_7, ?_, ?_, ?_, ?_, ?_, ?_, ?_, ?_, ?c26_7, ?_, ?_, ?_, ?_, ?c31_7, ?_, ?_, ?_, ?_, ?_, ?_, ?c38_7, ?_, trivial⟩) (k := ?k_7)
  case c1_7 =>
    intro LD D a W hcl hi hp hs hw
    repeat (first | (refine sxv hs hw ?_; clear hs; intro a hs) | refine sxc hs ?_ | (refine sxa hs hw ?_; clear hs hw; intro a b W hw hs) | (refine sxs hs hw ?_; clear hs hw; intro W hs hw) | ((with_reducible first | refine st_ptrSome hs (k := ?_) | refine st_ptrNone hs (k := ?_)); clear hs; intro a hs))
    rw [k1] at hs
    exact ⟨hs, hw⟩
  case c6_7 =>
    intro LD D a W hcl hi hp hs hw
    repeat (first | (refine sxv hs hw ?_; clear hs; intro a hs) | refine sxc hs ?_ | (refine sxa hs hw ?_; clear hs hw; intro a b W hw hs) | (refine sxs hs hw ?_; clear hs hw; intro W hs hw) | ((with_reducible first | refine st_ptrSome hs (k := ?_) | refine st_ptrNone hs (k := ?_)); clear hs; intro a hs))
    rw [k2] at hs
    exact ⟨hs, hw⟩
  case c12_7 =>
    intro LD D a W hcl hi hp hs hw
    repeat (first | (refine sxv hs hw ?_; clear hs; intro a hs) | refine sxc hs ?_ | (refine sxa hs hw ?_; clear hs hw; intro a b W hw hs) | (refine sxs hs hw ?_; clear hs hw; intro W hs hw) | ((with_reducible first | refine st_ptrSome hs (k := ?_) | refine st_ptrNone hs (k := ?_)); clear hs; intro a hs))
    rw [k3] at hs
    exact ⟨hs, hw⟩
  case c17_7 =>
    intro LD D a W hcl hi hp hs hw
    repeat (first | (refine sxv hs hw ?_; clear hs; intro a hs) | refine sxc hs ?_ | (refine sxa hs hw ?_; clear hs hw; intro a b W hw hs) | (refine sxs hs hw ?_; clear hs hw; intro W hs hw) | ((with_reducible first | refine st_ptrSome hs (k := ?_) | refine st_ptrNone hs (k := ?_)); clear hs; intro a hs))
    rw [k4] at hs
    exact ⟨hs, hw⟩
  case c26_7 =>
    intro LD D a W hcl hi hp hs hw
    repeat (first | (refine sxv hs hw ?_; clear hs; intro a hs) | refine sxc hs ?_ | (refine sxa hs hw ?_; clear hs hw; intro a b W hw hs) | (refine sxs hs hw ?_; clear hs hw; intro W hs hw) | ((with_reducible first | refine st_ptrSome hs (k := ?_) | refine st_ptrNone hs (k := ?_)); clear hs; intro a hs))
    rw [k5] at hs
    exact ⟨hs, hw⟩
  case c31_7 =>
    intro LD D a W hcl hi hp hs hw
    repeat (first | (refine sxv hs hw ?_; clear hs; intro a hs) | refine sxc hs ?_ | (refine sxa hs hw ?_; clear hs hw; intro a b W hw hs) | (refine sxs hs hw ?_; clear hs hw; intro W hs hw) | ((with_reducible first | refine st_ptrSome hs (k := ?_) | refine st_ptrNone hs (k := ?_)); clear hs; intro a hs))
    refine st_call hs (hc := fold_fine er _) (k := ?_); rintro e0 W1 ⟨rfl, hb⟩; refine ⟨_, rfl, ?_⟩; clear hs; intro a hs; replace hw := hw.below hb; clear hb
    rw [kf6] at hs
    repeat (first | (refine sxv hs hw ?_; clear hs; intro a hs) | refine sxc hs ?_ | (refine sxa hs hw ?_; clear hs hw; intro a b W hw hs) | (refine sxs hs hw ?_; clear hs hw; intro W hs hw) | ((with_reducible first | refine st_ptrSome hs (k := ?_) | refine st_ptrNone hs (k := ?_)); clear hs; intro a hs))
    exact ⟨hs, hw⟩
  case c38_7 =>
    intro LD D a W hcl hi hp hs hw
    repeat (first | (refine sxv hs hw ?_; clear hs; intro a hs) | refine sxc hs ?_ | (refine sxa hs hw ?_; clear hs hw; intro a b W hw hs) | (refine sxs hs hw ?_; clear hs hw; intro W hs hw) | ((with_reducible first | refine st_ptrSome hs (k := ?_) | refine st_ptrNone hs (k := ?_)); clear hs; intro a hs))
    refine st_call hs (hc := sl_Contains pls _ pl _ hpll (hw.rd_own (In.tl (In.tl (In.tl (In.tl (In.tl In.hd))))))) (k := ?_); rintro e0 W1 ⟨rfl, hb⟩; refine ⟨_, rfl, ?_⟩; clear hs; intro a hs; replace hw := hw.below hb; clear hb
    rw [k7] at hs
    repeat (first | (refine sxv hs hw ?_; clear hs; intro a hs) | refine sxc hs ?_ | (refine sxa hs hw ?_; clear hs hw; intro a b W hw hs) | (refine sxs hs hw ?_; clear hs hw; intro W hs hw) | ((with_reducible first | refine st_ptrSome hs (k := ?_) | refine st_ptrNone hs (k := ?_)); clear hs; intro a hs))
    exact ⟨hs, hw⟩
  case k_7 =>
    clear hs hw
    intro a W hs hw
    replace hw : Has 0 w0 W (Cells b11 (rowCells ⟨pl, ⟨xc, xq, xl⟩, er⟩ (.slice dad xl.length dcap)) 39 :: Cells b12 (batCells ⟨xc, xq, xl⟩ (.slice dad xl.length dcap)) 36 :: Cells b4 [sv4, .bool s4.2] 129 :: Cells p5 (foldCells place pd xs) 126 :: DocAt pd d :: Sx.Own 2 1 (.slice pad pls.length pcap) pls.length (pls.map (Value.int .i64)) :: Fz H3 :: R) := hw
    refine hk a W (hs.of ?_) hw
    exact ⟨rfl, trivial⟩
  all_goals
    intro LD D a W hcl hi hp hs hw
    repeat (first | (refine sxv hs hw ?_; clear hs; intro a hs) | refine sxc hs ?_ | (refine sxa hs hw ?_; clear hs hw; intro a b W hw hs) | (refine sxs hs hw ?_; clear hs hw; intro W hs hw) | ((with_reducible first | refine st_ptrSome hs (k := ?_) | refine st_ptrNone hs (k := ?_)); clear hs; intro a hs))
    exact ⟨hs, hw⟩
end Go.Proofs.YtmalklakaalaoaaGreatDoor.Sw

set_option linter.unusedVariables false
set_option maxRecDepth 10000
namespace Go.Proofs.YtmalklakaalaoaaGreatDoor.Sw
open Go.RowKit Go.Sx
set_option maxHeartbeats 64000000 in
theorem fd_way6 {Q : Exit → Act → World → Prop} {a : Act} {w0 W : World} {H3 : Fh} {R : List Res} {bad0 pad dad : Option Addr} {nb bcap0 pcap dcap b4 p5 pd b11 b12 c : Nat} {place pl seq er err xc xq : Int} {xl : List OpD} {d : Dm} {sv4 : Value} {s4 : List UInt8 × Bool} {xs : List Value} {pls : List Int} (hpll : pls.length ≤ 1000) (k1 : (err != 0) = false) (k2 : (xc != (c : Int)) = false) (k3 : (xq != seq) = false) (k4 : decide (pl < 1) = false) (k5 : decide (pl > place) = false) (kf6 : fineE er = false)
    (hs : Slots a 129 [(0, .slice bad0 nb bcap0), (4, .pointer (some ⟨b4, 0, none⟩)), (5, .pointer (some ⟨p5, 0, none⟩)), (8, .slice pad pls.length pcap), (9, .int .i64 (c : Int)), (10, .int .i64 seq), (11, .pointer (some ⟨b11, 0, none⟩)), (12, .pointer (some ⟨b12, 0, none⟩)), (13, .int .i64 err)]) (hw : Has 0 w0 W (Cells b11 (rowCells ⟨pl, ⟨xc, xq, xl⟩, er⟩ (.slice dad xl.length dcap)) 39 :: Cells b12 (batCells ⟨xc, xq, xl⟩ (.slice dad xl.length dcap)) 36 :: Cells b4 [sv4, .bool s4.2] 129 :: Cells p5 (foldCells place pd xs) 126 :: DocAt pd d :: Sx.Own 2 1 (.slice pad pls.length pcap) pls.length (pls.map (Value.int .i64)) :: Fz H3 :: R))
    (hk : ∀ a W, Slots a 129 [(103, .bool true)] → Has 0 w0 W (Cells b11 (rowCells ⟨pl, ⟨xc, xq, xl⟩, er⟩ (.slice dad xl.length dcap)) 39 :: Cells b12 (batCells ⟨xc, xq, xl⟩ (.slice dad xl.length dcap)) 36 :: Cells b4 [sv4, .bool s4.2] 129 :: Cells p5 (foldCells place pd xs) 126 :: DocAt pd d :: Sx.Own 2 1 (.slice pad pls.length pcap) pls.length (pls.map (Value.int .i64)) :: Fz H3 :: R) → Q .normal a W) : (Code.regionOf 16 Tryz.f39.body).wp Tryz.prog Q a W := by
  change Code.wp Tryz.prog (Code.region 16 _ true) Q a W
  refine rg_draw (V := [.int .i64 err, .bool false, .bool false, .pointer (some ⟨b12, 0 + 0, none⟩), .int .i64 xc, .int .i64 (c : Int), .bool false, .bool false, .bool false, .pointer (some ⟨b12, 0 + 1, none⟩), .int .i64 xq, .int .i64 seq, .bool false, .bool false, .bool false, .pointer (some ⟨b11, 0 + 0, none⟩), .int .i64 pl, .bool false, .bool false, .bool false, .pointer (some ⟨b11, 0 + 0, none⟩), .int .i64 pl, .pointer (some ⟨p5, 0, none⟩), .pointer (some ⟨p5, 0, none⟩), .pointer (some ⟨p5, 0 + 0, none⟩), .int .i64 place, .bool false, .bool false, .bool false, .pointer (some ⟨b11, 0 + 4, none⟩), .int .i64 er, .bool false, .bool true, .bool true, .bool true, undef, undef, undef, undef, .bool true])
    (Rs := fun D => Cells b11 (rowCells ⟨pl, ⟨xc, xq, xl⟩, er⟩ (.slice dad xl.length dcap)) 39 :: Cells b12 (batCells ⟨xc, xq, xl⟩ (.slice dad xl.length dcap)) 36 :: Cells b4 [sv4, .bool s4.2] 129 :: Cells p5 (foldCells place pd xs) 126 :: DocAt pd d :: Sx.Own 2 1 (.slice pad pls.length pcap) pls.length (pls.map (Value.int .i64)) :: Fz H3 :: R) hs hw (ho := ⟨?_, ?c1_6, ?_, ?_, ?_, ?_, ?c6_6, ?_, ?_, ?_, ?_, ?_, ?c12_6, ?_, ?_, ?_, ?_, ?c17_6, ?_, ?_, ?_, ?_, ?_, ?_, ?_, ?_, ?c26_6, ?_, ?_, ?_, ?_, ?c31_6, ?_, ?_, ?_, ?_, ?_, ?_, ?_, ?_, trivial⟩) (k := ?k_6)
  case c1_6 =>
    intro LD D a W hcl hi hp hs hw
    repeat (first | (refine sxv hs hw ?_; clear hs; intro a hs) | refine sxc hs ?_ | (refine sxa hs hw ?_; clear hs hw; intro a b W hw hs) | (refine sxs hs hw ?_; clear hs hw; intro W hs hw) | ((with_reducible first | refine st_ptrSome hs (k := ?_) | refine st_ptrNone hs (k := ?_)); clear hs; intro a hs))
    rw [k1] at hs
    exact ⟨hs, hw⟩
  case c6_6 =>
    intro LD D a W hcl hi hp hs hw
    repeat (first | (refine sxv hs hw ?_; clear hs; intro a hs) | refine sxc hs ?_ | (refine sxa hs hw ?_; clear hs hw; intro a b W hw hs) | (refine sxs hs hw ?_; clear hs hw; intro W hs hw) | ((with_reducible first | refine st_ptrSome hs (k := ?_) | refine st_ptrNone hs (k := ?_)); clear hs; intro a hs))
    rw [k2] at hs
    exact ⟨hs, hw⟩
  case c12_6 =>
    intro LD D a W hcl hi hp hs hw
    repeat (first | (refine sxv hs hw ?_; clear hs; intro a hs) | refine sxc hs ?_ | (refine sxa hs hw ?_; clear hs hw; intro a b W hw hs) | (refine sxs hs hw ?_; clear hs hw; intro W hs hw) | ((with_reducible first | refine st_ptrSome hs (k := ?_) | refine st_ptrNone hs (k := ?_)); clear hs; intro a hs))
    rw [k3] at hs
    exact ⟨hs, hw⟩
  case c17_6 =>
    intro LD D a W hcl hi hp hs hw
    repeat (first | (refine sxv hs hw ?_; clear hs; intro a hs) | refine sxc hs ?_ | (refine sxa hs hw ?_; clear hs hw; intro a b W hw hs) | (refine sxs hs hw ?_; clear hs hw; intro W hs hw) | ((with_reducible first | refine st_ptrSome hs (k := ?_) | refine st_ptrNone hs (k := ?_)); clear hs; intro a hs))
    rw [k4] at hs
    exact ⟨hs, hw⟩
  case c26_6 =>
    intro LD D a W hcl hi hp hs hw
    repeat (first | (refine sxv hs hw ?_; clear hs; intro a hs) | refine sxc hs ?_ | (refine sxa hs hw ?_; clear hs hw; intro a b W hw hs) | (refine sxs hs hw ?_; clear hs hw; intro W hs hw) | ((with_reducible first | refine st_ptrSome hs (k := ?_) | refine st_ptrNone hs (k := ?_)); clear hs; intro a hs))
    rw [k5] at hs
    exact ⟨hs, hw⟩
  case c31_6 =>
    intro LD D a W hcl hi hp hs hw
    repeat (first | (refine sxv hs hw ?_; clear hs; intro a hs) | refine sxc hs ?_ | (refine sxa hs hw ?_; clear hs hw; intro a b W hw hs) | (refine sxs hs hw ?_; clear hs hw; intro W hs hw) | ((with_reducible first | refine st_ptrSome hs (k := ?_) | refine st_ptrNone hs (k := ?_)); clear hs; intro a hs))
    refine st_call hs (hc := fold_fine er _) (k := ?_); rintro e0 W1 ⟨rfl, hb⟩; refine ⟨_, rfl, ?_⟩; clear hs; intro a hs; replace hw := hw.below hb; clear hb
    rw [kf6] at hs
    repeat (first | (refine sxv hs hw ?_; clear hs; intro a hs) | refine sxc hs ?_ | (refine sxa hs hw ?_; clear hs hw; intro a b W hw hs) | (refine sxs hs hw ?_; clear hs hw; intro W hs hw) | ((with_reducible first | refine st_ptrSome hs (k := ?_) | refine st_ptrNone hs (k := ?_)); clear hs; intro a hs))
    exact ⟨hs, hw⟩
  case k_6 =>
    clear hs hw
    intro a W hs hw
    replace hw : Has 0 w0 W (Cells b11 (rowCells ⟨pl, ⟨xc, xq, xl⟩, er⟩ (.slice dad xl.length dcap)) 39 :: Cells b12 (batCells ⟨xc, xq, xl⟩ (.slice dad xl.length dcap)) 36 :: Cells b4 [sv4, .bool s4.2] 129 :: Cells p5 (foldCells place pd xs) 126 :: DocAt pd d :: Sx.Own 2 1 (.slice pad pls.length pcap) pls.length (pls.map (Value.int .i64)) :: Fz H3 :: R) := hw
    refine hk a W (hs.of ?_) hw
    exact ⟨rfl, trivial⟩
  all_goals
    intro LD D a W hcl hi hp hs hw
    repeat (first | (refine sxv hs hw ?_; clear hs; intro a hs) | refine sxc hs ?_ | (refine sxa hs hw ?_; clear hs hw; intro a b W hw hs) | (refine sxs hs hw ?_; clear hs hw; intro W hs hw) | ((with_reducible first | refine st_ptrSome hs (k := ?_) | refine st_ptrNone hs (k := ?_)); clear hs; intro a hs))
    exact ⟨hs, hw⟩
set_option maxHeartbeats 64000000 in
theorem fd_way5 {Q : Exit → Act → World → Prop} {a : Act} {w0 W : World} {H3 : Fh} {R : List Res} {bad0 pad dad : Option Addr} {nb bcap0 pcap dcap b4 p5 pd b11 b12 c : Nat} {place pl seq er err xc xq : Int} {xl : List OpD} {d : Dm} {sv4 : Value} {s4 : List UInt8 × Bool} {xs : List Value} {pls : List Int} (hpll : pls.length ≤ 1000) (k1 : (err != 0) = false) (k2 : (xc != (c : Int)) = false) (k3 : (xq != seq) = false) (k4 : decide (pl < 1) = false) (k5 : decide (pl > place) = true)
    (hs : Slots a 129 [(0, .slice bad0 nb bcap0), (4, .pointer (some ⟨b4, 0, none⟩)), (5, .pointer (some ⟨p5, 0, none⟩)), (8, .slice pad pls.length pcap), (9, .int .i64 (c : Int)), (10, .int .i64 seq), (11, .pointer (some ⟨b11, 0, none⟩)), (12, .pointer (some ⟨b12, 0, none⟩)), (13, .int .i64 err)]) (hw : Has 0 w0 W (Cells b11 (rowCells ⟨pl, ⟨xc, xq, xl⟩, er⟩ (.slice dad xl.length dcap)) 39 :: Cells b12 (batCells ⟨xc, xq, xl⟩ (.slice dad xl.length dcap)) 36 :: Cells b4 [sv4, .bool s4.2] 129 :: Cells p5 (foldCells place pd xs) 126 :: DocAt pd d :: Sx.Own 2 1 (.slice pad pls.length pcap) pls.length (pls.map (Value.int .i64)) :: Fz H3 :: R))
    (hk : ∀ a W, Slots a 129 [(103, .bool true)] → Has 0 w0 W (Cells b11 (rowCells ⟨pl, ⟨xc, xq, xl⟩, er⟩ (.slice dad xl.length dcap)) 39 :: Cells b12 (batCells ⟨xc, xq, xl⟩ (.slice dad xl.length dcap)) 36 :: Cells b4 [sv4, .bool s4.2] 129 :: Cells p5 (foldCells place pd xs) 126 :: DocAt pd d :: Sx.Own 2 1 (.slice pad pls.length pcap) pls.length (pls.map (Value.int .i64)) :: Fz H3 :: R) → Q .normal a W) : (Code.regionOf 16 Tryz.f39.body).wp Tryz.prog Q a W := by
  change Code.wp Tryz.prog (Code.region 16 _ true) Q a W
  refine rg_draw (V := [.int .i64 err, .bool false, .bool false, .pointer (some ⟨b12, 0 + 0, none⟩), .int .i64 xc, .int .i64 (c : Int), .bool false, .bool false, .bool false, .pointer (some ⟨b12, 0 + 1, none⟩), .int .i64 xq, .int .i64 seq, .bool false, .bool false, .bool false, .pointer (some ⟨b11, 0 + 0, none⟩), .int .i64 pl, .bool false, .bool false, .bool false, .pointer (some ⟨b11, 0 + 0, none⟩), .int .i64 pl, .pointer (some ⟨p5, 0, none⟩), .pointer (some ⟨p5, 0, none⟩), .pointer (some ⟨p5, 0 + 0, none⟩), .int .i64 place, .bool true, .bool true, .bool true, undef, undef, undef, undef, .bool true, .bool true, undef, undef, undef, undef, .bool true])
    (Rs := fun D => Cells b11 (rowCells ⟨pl, ⟨xc, xq, xl⟩, er⟩ (.slice dad xl.length dcap)) 39 :: Cells b12 (batCells ⟨xc, xq, xl⟩ (.slice dad xl.length dcap)) 36 :: Cells b4 [sv4, .bool s4.2] 129 :: Cells p5 (foldCells place pd xs) 126 :: DocAt pd d :: Sx.Own 2 1 (.slice pad pls.length pcap) pls.length (pls.map (Value.int .i64)) :: Fz H3 :: R) hs hw (ho := ⟨?_, ?c1_5, ?_, ?_, ?_, ?_, ?c6_5, ?_, ?_, ?_, ?_, ?_, ?c12_5, ?_, ?_, ?_, ?_, ?c17_5, ?_, ?_, ?_, ?_, ?_, ?_, ?_, ?_, ?c26_5, ?_, ?_, ?_, ?_, ?_, ?_, ?_, ?_, ?_, ?_, ?_, ?_, ?_, trivial⟩) (k := ?k_5)
  case c1_5 =>
    intro LD D a W hcl hi hp hs hw
    repeat (first | (refine sxv hs hw ?_; clear hs; intro a hs) | refine sxc hs ?_ | (refine sxa hs hw ?_; clear hs hw; intro a b W hw hs) | (refine sxs hs hw ?_; clear hs hw; intro W hs hw) | ((with_reducible first | refine st_ptrSome hs (k := ?_) | refine st_ptrNone hs (k := ?_)); clear hs; intro a hs))
    rw [k1] at hs
    exact ⟨hs, hw⟩
  case c6_5 =>
    intro LD D a W hcl hi hp hs hw
    repeat (first | (refine sxv hs hw ?_; clear hs; intro a hs) | refine sxc hs ?_ | (refine sxa hs hw ?_; clear hs hw; intro a b W hw hs) | (refine sxs hs hw ?_; clear hs hw; intro W hs hw) | ((with_reducible first | refine st_ptrSome hs (k := ?_) | refine st_ptrNone hs (k := ?_)); clear hs; intro a hs))
    rw [k2] at hs
    exact ⟨hs, hw⟩
  case c12_5 =>
    intro LD D a W hcl hi hp hs hw
    repeat (first | (refine sxv hs hw ?_; clear hs; intro a hs) | refine sxc hs ?_ | (refine sxa hs hw ?_; clear hs hw; intro a b W hw hs) | (refine sxs hs hw ?_; clear hs hw; intro W hs hw) | ((with_reducible first | refine st_ptrSome hs (k := ?_) | refine st_ptrNone hs (k := ?_)); clear hs; intro a hs))
    rw [k3] at hs
    exact ⟨hs, hw⟩
  case c17_5 =>
    intro LD D a W hcl hi hp hs hw
    repeat (first | (refine sxv hs hw ?_; clear hs; intro a hs) | refine sxc hs ?_ | (refine sxa hs hw ?_; clear hs hw; intro a b W hw hs) | (refine sxs hs hw ?_; clear hs hw; intro W hs hw) | ((with_reducible first | refine st_ptrSome hs (k := ?_) | refine st_ptrNone hs (k := ?_)); clear hs; intro a hs))
    rw [k4] at hs
    exact ⟨hs, hw⟩
  case c26_5 =>
    intro LD D a W hcl hi hp hs hw
    repeat (first | (refine sxv hs hw ?_; clear hs; intro a hs) | refine sxc hs ?_ | (refine sxa hs hw ?_; clear hs hw; intro a b W hw hs) | (refine sxs hs hw ?_; clear hs hw; intro W hs hw) | ((with_reducible first | refine st_ptrSome hs (k := ?_) | refine st_ptrNone hs (k := ?_)); clear hs; intro a hs))
    rw [k5] at hs
    exact ⟨hs, hw⟩
  case k_5 =>
    clear hs hw
    intro a W hs hw
    replace hw : Has 0 w0 W (Cells b11 (rowCells ⟨pl, ⟨xc, xq, xl⟩, er⟩ (.slice dad xl.length dcap)) 39 :: Cells b12 (batCells ⟨xc, xq, xl⟩ (.slice dad xl.length dcap)) 36 :: Cells b4 [sv4, .bool s4.2] 129 :: Cells p5 (foldCells place pd xs) 126 :: DocAt pd d :: Sx.Own 2 1 (.slice pad pls.length pcap) pls.length (pls.map (Value.int .i64)) :: Fz H3 :: R) := hw
    refine hk a W (hs.of ?_) hw
    exact ⟨rfl, trivial⟩
  all_goals
    intro LD D a W hcl hi hp hs hw
    repeat (first | (refine sxv hs hw ?_; clear hs; intro a hs) | refine sxc hs ?_ | (refine sxa hs hw ?_; clear hs hw; intro a b W hw hs) | (refine sxs hs hw ?_; clear hs hw; intro W hs hw) | ((with_reducible first | refine st_ptrSome hs (k := ?_) | refine st_ptrNone hs (k := ?_)); clear hs; intro a hs))
    exact ⟨hs, hw⟩
end Go.Proofs.YtmalklakaalaoaaGreatDoor.Sw

set_option linter.unusedVariables false
set_option maxRecDepth 10000
namespace Go.Proofs.YtmalklakaalaoaaGreatDoor.Sw
open Go.RowKit Go.Sx
set_option maxHeartbeats 64000000 in
theorem fd_way4 {Q : Exit → Act → World → Prop} {a : Act} {w0 W : World} {H3 : Fh} {R : List Res} {bad0 pad dad : Option Addr} {nb bcap0 pcap dcap b4 p5 pd b11 b12 c : Nat} {place pl seq er err xc xq : Int} {xl : List OpD} {d : Dm} {sv4 : Value} {s4 : List UInt8 × Bool} {xs : List Value} {pls : List Int} (hpll : pls.length ≤ 1000) (k1 : (err != 0) = false) (k2 : (xc != (c : Int)) = false) (k3 : (xq != seq) = false) (k4 : decide (pl < 1) = true)
    (hs : Slots a 129 [(0, .slice bad0 nb bcap0), (4, .pointer (some ⟨b4, 0, none⟩)), (5, .pointer (some ⟨p5, 0, none⟩)), (8, .slice pad pls.length pcap), (9, .int .i64 (c : Int)), (10, .int .i64 seq), (11, .pointer (some ⟨b11, 0, none⟩)), (12, .pointer (some ⟨b12, 0, none⟩)), (13, .int .i64 err)]) (hw : Has 0 w0 W (Cells b11 (rowCells ⟨pl, ⟨xc, xq, xl⟩, er⟩ (.slice dad xl.length dcap)) 39 :: Cells b12 (batCells ⟨xc, xq, xl⟩ (.slice dad xl.length dcap)) 36 :: Cells b4 [sv4, .bool s4.2] 129 :: Cells p5 (foldCells place pd xs) 126 :: DocAt pd d :: Sx.Own 2 1 (.slice pad pls.length pcap) pls.length (pls.map (Value.int .i64)) :: Fz H3 :: R))
    (hk : ∀ a W, Slots a 129 [(103, .bool true)] → Has 0 w0 W (Cells b11 (rowCells ⟨pl, ⟨xc, xq, xl⟩, er⟩ (.slice dad xl.length dcap)) 39 :: Cells b12 (batCells ⟨xc, xq, xl⟩ (.slice dad xl.length dcap)) 36 :: Cells b4 [sv4, .bool s4.2] 129 :: Cells p5 (foldCells place pd xs) 126 :: DocAt pd d :: Sx.Own 2 1 (.slice pad pls.length pcap) pls.length (pls.map (Value.int .i64)) :: Fz H3 :: R) → Q .normal a W) : (Code.regionOf 16 Tryz.f39.body).wp Tryz.prog Q a W := by
  change Code.wp Tryz.prog (Code.region 16 _ true) Q a W
  refine rg_draw (V := [.int .i64 err, .bool false, .bool false, .pointer (some ⟨b12, 0 + 0, none⟩), .int .i64 xc, .int .i64 (c : Int), .bool false, .bool false, .bool false, .pointer (some ⟨b12, 0 + 1, none⟩), .int .i64 xq, .int .i64 seq, .bool false, .bool false, .bool false, .pointer (some ⟨b11, 0 + 0, none⟩), .int .i64 pl, .bool true, .bool true, .bool true, undef, undef, undef, undef, undef, undef, undef, .bool true, .bool true, undef, undef, undef, undef, .bool true, .bool true, undef, undef, undef, undef, .bool true])
    (Rs := fun D => Cells b11 (rowCells ⟨pl, ⟨xc, xq, xl⟩, er⟩ (.slice dad xl.length dcap)) 39 :: Cells b12 (batCells ⟨xc, xq, xl⟩ (.slice dad xl.length dcap)) 36 :: Cells b4 [sv4, .bool s4.2] 129 :: Cells p5 (foldCells place pd xs) 126 :: DocAt pd d :: Sx.Own 2 1 (.slice pad pls.length pcap) pls.length (pls.map (Value.int .i64)) :: Fz H3 :: R) hs hw (ho := ⟨?_, ?c1_4, ?_, ?_, ?_, ?_, ?c6_4, ?_, ?_, ?_, ?_, ?_, ?c12_4, ?_, ?_, ?_, ?_, ?c17_4, ?_, ?_, ?_, ?_, ?_, ?_, ?_, ?_, ?_, ?_, ?_, ?_, ?_, ?_, ?_, ?_, ?_, ?_, ?_, ?_, ?_, ?_, trivial⟩) (k := ?k_4)
  case c1_4 =>
    intro LD D a W hcl hi hp hs hw
    repeat (first | (refine sxv hs hw ?_; clear hs; intro a hs) | refine sxc hs ?_ | (refine sxa hs hw ?_; clear hs hw; intro a b W hw hs) | (refine sxs hs hw ?_; clear hs hw; intro W hs hw) | ((with_reducible first | refine st_ptrSome hs (k := ?_) | refine st_ptrNone hs (k := ?_)); clear hs; intro a hs))
    rw [k1] at hs
    exact ⟨hs, hw⟩
  case c6_4 =>
    intro LD D a W hcl hi hp hs hw
    repeat (first | (refine sxv hs hw ?_; clear hs; intro a hs) | refine sxc hs ?_ | (refine sxa hs hw ?_; clear hs hw; intro a b W hw hs) | (refine sxs hs hw ?_; clear hs hw; intro W hs hw) | ((with_reducible first | refine st_ptrSome hs (k := ?_) | refine st_ptrNone hs (k := ?_)); clear hs; intro a hs))
    rw [k2] at hs
    exact ⟨hs, hw⟩
  case c12_4 =>
    intro LD D a W hcl hi hp hs hw
    repeat (first | (refine sxv hs hw ?_; clear hs; intro a hs) | refine sxc hs ?_ | (refine sxa hs hw ?_; clear hs hw; intro a b W hw hs) | (refine sxs hs hw ?_; clear hs hw; intro W hs hw) | ((with_reducible first | refine st_ptrSome hs (k := ?_) | refine st_ptrNone hs (k := ?_)); clear hs; intro a hs))
    rw [k3] at hs
    exact ⟨hs, hw⟩
  case c17_4 =>
    intro LD D a W hcl hi hp hs hw
    repeat (first | (refine sxv hs hw ?_; clear hs; intro a hs) | refine sxc hs ?_ | (refine sxa hs hw ?_; clear hs hw; intro a b W hw hs) | (refine sxs hs hw ?_; clear hs hw; intro W hs hw) | ((with_reducible first | refine st_ptrSome hs (k := ?_) | refine st_ptrNone hs (k := ?_)); clear hs; intro a hs))
    rw [k4] at hs
    exact ⟨hs, hw⟩
  case k_4 =>
    clear hs hw
    intro a W hs hw
    replace hw : Has 0 w0 W (Cells b11 (rowCells ⟨pl, ⟨xc, xq, xl⟩, er⟩ (.slice dad xl.length dcap)) 39 :: Cells b12 (batCells ⟨xc, xq, xl⟩ (.slice dad xl.length dcap)) 36 :: Cells b4 [sv4, .bool s4.2] 129 :: Cells p5 (foldCells place pd xs) 126 :: DocAt pd d :: Sx.Own 2 1 (.slice pad pls.length pcap) pls.length (pls.map (Value.int .i64)) :: Fz H3 :: R) := hw
    refine hk a W (hs.of ?_) hw
    exact ⟨rfl, trivial⟩
  all_goals
    intro LD D a W hcl hi hp hs hw
    repeat (first | (refine sxv hs hw ?_; clear hs; intro a hs) | refine sxc hs ?_ | (refine sxa hs hw ?_; clear hs hw; intro a b W hw hs) | (refine sxs hs hw ?_; clear hs hw; intro W hs hw) | ((with_reducible first | refine st_ptrSome hs (k := ?_) | refine st_ptrNone hs (k := ?_)); clear hs; intro a hs))
    exact ⟨hs, hw⟩
set_option maxHeartbeats 64000000 in
theorem fd_way3 {Q : Exit → Act → World → Prop} {a : Act} {w0 W : World} {H3 : Fh} {R : List Res} {bad0 pad dad : Option Addr} {nb bcap0 pcap dcap b4 p5 pd b11 b12 c : Nat} {place pl seq er err xc xq : Int} {xl : List OpD} {d : Dm} {sv4 : Value} {s4 : List UInt8 × Bool} {xs : List Value} {pls : List Int} (hpll : pls.length ≤ 1000) (k1 : (err != 0) = false) (k2 : (xc != (c : Int)) = false) (k3 : (xq != seq) = true)
    (hs : Slots a 129 [(0, .slice bad0 nb bcap0), (4, .pointer (some ⟨b4, 0, none⟩)), (5, .pointer (some ⟨p5, 0, none⟩)), (8, .slice pad pls.length pcap), (9, .int .i64 (c : Int)), (10, .int .i64 seq), (11, .pointer (some ⟨b11, 0, none⟩)), (12, .pointer (some ⟨b12, 0, none⟩)), (13, .int .i64 err)]) (hw : Has 0 w0 W (Cells b11 (rowCells ⟨pl, ⟨xc, xq, xl⟩, er⟩ (.slice dad xl.length dcap)) 39 :: Cells b12 (batCells ⟨xc, xq, xl⟩ (.slice dad xl.length dcap)) 36 :: Cells b4 [sv4, .bool s4.2] 129 :: Cells p5 (foldCells place pd xs) 126 :: DocAt pd d :: Sx.Own 2 1 (.slice pad pls.length pcap) pls.length (pls.map (Value.int .i64)) :: Fz H3 :: R))
    (hk : ∀ a W, Slots a 129 [(103, .bool true)] → Has 0 w0 W (Cells b11 (rowCells ⟨pl, ⟨xc, xq, xl⟩, er⟩ (.slice dad xl.length dcap)) 39 :: Cells b12 (batCells ⟨xc, xq, xl⟩ (.slice dad xl.length dcap)) 36 :: Cells b4 [sv4, .bool s4.2] 129 :: Cells p5 (foldCells place pd xs) 126 :: DocAt pd d :: Sx.Own 2 1 (.slice pad pls.length pcap) pls.length (pls.map (Value.int .i64)) :: Fz H3 :: R) → Q .normal a W) : (Code.regionOf 16 Tryz.f39.body).wp Tryz.prog Q a W := by
  change Code.wp Tryz.prog (Code.region 16 _ true) Q a W
  refine rg_draw (V := [.int .i64 err, .bool false, .bool false, .pointer (some ⟨b12, 0 + 0, none⟩), .int .i64 xc, .int .i64 (c : Int), .bool false, .bool false, .bool false, .pointer (some ⟨b12, 0 + 1, none⟩), .int .i64 xq, .int .i64 seq, .bool true, .bool true, .bool true, undef, undef, undef, .bool true, .bool true, undef, undef, undef, undef, undef, undef, undef, .bool true, .bool true, undef, undef, undef, undef, .bool true, .bool true, undef, undef, undef, undef, .bool true])
    (Rs := fun D => Cells b11 (rowCells ⟨pl, ⟨xc, xq, xl⟩, er⟩ (.slice dad xl.length dcap)) 39 :: Cells b12 (batCells ⟨xc, xq, xl⟩ (.slice dad xl.length dcap)) 36 :: Cells b4 [sv4, .bool s4.2] 129 :: Cells p5 (foldCells place pd xs) 126 :: DocAt pd d :: Sx.Own 2 1 (.slice pad pls.length pcap) pls.length (pls.map (Value.int .i64)) :: Fz H3 :: R) hs hw (ho := ⟨?_, ?c1_3, ?_, ?_, ?_, ?_, ?c6_3, ?_, ?_, ?_, ?_, ?_, ?c12_3, ?_, ?_, ?_, ?_, ?_, ?_, ?_, ?_, ?_, ?_, ?_, ?_, ?_, ?_, ?_, ?_, ?_, ?_, ?_, ?_, ?_, ?_, ?_, ?_, ?_, ?_, ?_, trivial⟩) (k := ?k_3)
  case c1_3 =>
    intro LD D a W hcl hi hp hs hw
    repeat (first | (refine sxv hs hw ?_; clear hs; intro a hs) | refine sxc hs ?_ | (refine sxa hs hw ?_; clear hs hw; intro a b W hw hs) | (refine sxs hs hw ?_; clear hs hw; intro W hs hw) | ((with_reducible first | refine st_ptrSome hs (k := ?_) | refine st_ptrNone hs (k := ?_)); clear hs; intro a hs))
    rw [k1] at hs
    exact ⟨hs, hw⟩
  case c6_3 =>
    intro LD D a W hcl hi hp hs hw
    repeat (first | (refine sxv hs hw ?_; clear hs; intro a hs) | refine sxc hs ?_ | (refine sxa hs hw ?_; clear hs hw; intro a b W hw hs) | (refine sxs hs hw ?_; clear hs hw; intro W hs hw) | ((with_reducible first | refine st_ptrSome hs (k := ?_) | refine st_ptrNone hs (k := ?_)); clear hs; intro a hs))
    rw [k2] at hs
    exact ⟨hs, hw⟩
  case c12_3 =>
    intro LD D a W hcl hi hp hs hw
    repeat (first | (refine sxv hs hw ?_; clear hs; intro a hs) | refine sxc hs ?_ | (refine sxa hs hw ?_; clear hs hw; intro a b W hw hs) | (refine sxs hs hw ?_; clear hs hw; intro W hs hw) | ((with_reducible first | refine st_ptrSome hs (k := ?_) | refine st_ptrNone hs (k := ?_)); clear hs; intro a hs))
    rw [k3] at hs
    exact ⟨hs, hw⟩
  case k_3 =>
    clear hs hw
    intro a W hs hw
    replace hw : Has 0 w0 W (Cells b11 (rowCells ⟨pl, ⟨xc, xq, xl⟩, er⟩ (.slice dad xl.length dcap)) 39 :: Cells b12 (batCells ⟨xc, xq, xl⟩ (.slice dad xl.length dcap)) 36 :: Cells b4 [sv4, .bool s4.2] 129 :: Cells p5 (foldCells place pd xs) 126 :: DocAt pd d :: Sx.Own 2 1 (.slice pad pls.length pcap) pls.length (pls.map (Value.int .i64)) :: Fz H3 :: R) := hw
    refine hk a W (hs.of ?_) hw
    exact ⟨rfl, trivial⟩
  all_goals
    intro LD D a W hcl hi hp hs hw
    repeat (first | (refine sxv hs hw ?_; clear hs; intro a hs) | refine sxc hs ?_ | (refine sxa hs hw ?_; clear hs hw; intro a b W hw hs) | (refine sxs hs hw ?_; clear hs hw; intro W hs hw) | ((with_reducible first | refine st_ptrSome hs (k := ?_) | refine st_ptrNone hs (k := ?_)); clear hs; intro a hs))
    exact ⟨hs, hw⟩
set_option maxHeartbeats 64000000 in
theorem fd_way2 {Q : Exit → Act → World → Prop} {a : Act} {w0 W : World} {H3 : Fh} {R : List Res} {bad0 pad dad : Option Addr} {nb bcap0 pcap dcap b4 p5 pd b11 b12 c : Nat} {place pl seq er err xc xq : Int} {xl : List OpD} {d : Dm} {sv4 : Value} {s4 : List UInt8 × Bool} {xs : List Value} {pls : List Int} (hpll : pls.length ≤ 1000) (k1 : (err != 0) = false) (k2 : (xc != (c : Int)) = true)
    (hs : Slots a 129 [(0, .slice bad0 nb bcap0), (4, .pointer (some ⟨b4, 0, none⟩)), (5, .pointer (some ⟨p5, 0, none⟩)), (8, .slice pad pls.length pcap), (9, .int .i64 (c : Int)), (10, .int .i64 seq), (11, .pointer (some ⟨b11, 0, none⟩)), (12, .pointer (some ⟨b12, 0, none⟩)), (13, .int .i64 err)]) (hw : Has 0 w0 W (Cells b11 (rowCells ⟨pl, ⟨xc, xq, xl⟩, er⟩ (.slice dad xl.length dcap)) 39 :: Cells b12 (batCells ⟨xc, xq, xl⟩ (.slice dad xl.length dcap)) 36 :: Cells b4 [sv4, .bool s4.2] 129 :: Cells p5 (foldCells place pd xs) 126 :: DocAt pd d :: Sx.Own 2 1 (.slice pad pls.length pcap) pls.length (pls.map (Value.int .i64)) :: Fz H3 :: R))
    (hk : ∀ a W, Slots a 129 [(103, .bool true)] → Has 0 w0 W (Cells b11 (rowCells ⟨pl, ⟨xc, xq, xl⟩, er⟩ (.slice dad xl.length dcap)) 39 :: Cells b12 (batCells ⟨xc, xq, xl⟩ (.slice dad xl.length dcap)) 36 :: Cells b4 [sv4, .bool s4.2] 129 :: Cells p5 (foldCells place pd xs) 126 :: DocAt pd d :: Sx.Own 2 1 (.slice pad pls.length pcap) pls.length (pls.map (Value.int .i64)) :: Fz H3 :: R) → Q .normal a W) : (Code.regionOf 16 Tryz.f39.body).wp Tryz.prog Q a W := by
  change Code.wp Tryz.prog (Code.region 16 _ true) Q a W
  refine rg_draw (V := [.int .i64 err, .bool false, .bool false, .pointer (some ⟨b12, 0 + 0, none⟩), .int .i64 xc, .int .i64 (c : Int), .bool true, .bool true, .bool true, undef, undef, undef, undef, .bool true, .bool true, undef, undef, undef, .bool true, .bool true, undef, undef, undef, undef, undef, undef, undef, .bool true, .bool true, undef, undef, undef, undef, .bool true, .bool true, undef, undef, undef, undef, .bool true])
    (Rs := fun D => Cells b11 (rowCells ⟨pl, ⟨xc, xq, xl⟩, er⟩ (.slice dad xl.length dcap)) 39 :: Cells b12 (batCells ⟨xc, xq, xl⟩ (.slice dad xl.length dcap)) 36 :: Cells b4 [sv4, .bool s4.2] 129 :: Cells p5 (foldCells place pd xs) 126 :: DocAt pd d :: Sx.Own 2 1 (.slice pad pls.length pcap) pls.length (pls.map (Value.int .i64)) :: Fz H3 :: R) hs hw (ho := ⟨?_, ?c1_2, ?_, ?_, ?_, ?_, ?c6_2, ?_, ?_, ?_, ?_, ?_, ?_, ?_, ?_, ?_, ?_, ?_, ?_, ?_, ?_, ?_, ?_, ?_, ?_, ?_, ?_, ?_, ?_, ?_, ?_, ?_, ?_, ?_, ?_, ?_, ?_, ?_, ?_, ?_, trivial⟩) (k := ?k_2)
  case c1_2 =>
    intro LD D a W hcl hi hp hs hw
    repeat (first | (refine sxv hs hw ?_; clear hs; intro a hs) | refine sxc hs ?_ | (refine sxa hs hw ?_; clear hs hw; intro a b W hw hs) | (refine sxs hs hw ?_; clear hs hw; intro W hs hw) | ((with_reducible first | refine st_ptrSome hs (k := ?_) | refine st_ptrNone hs (k := ?_)); clear hs; intro a hs))
    rw [k1] at hs
    exact ⟨hs, hw⟩
  case c6_2 =>
    intro LD D a W hcl hi hp hs hw
    repeat (first | (refine sxv hs hw ?_; clear hs; intro a hs) | refine sxc hs ?_ | (refine sxa hs hw ?_; clear hs hw; intro a b W hw hs) | (refine sxs hs hw ?_; clear hs hw; intro W hs hw) | ((with_reducible first | refine st_ptrSome hs (k := ?_) | refine st_ptrNone hs (k := ?_)); clear hs; intro a hs))
    rw [k2] at hs
    exact ⟨hs, hw⟩
  case k_2 =>
    clear hs hw
    intro a W hs hw
    replace hw : Has 0 w0 W (Cells b11 (rowCells ⟨pl, ⟨xc, xq, xl⟩, er⟩ (.slice dad xl.length dcap)) 39 :: Cells b12 (batCells ⟨xc, xq, xl⟩ (.slice dad xl.length dcap)) 36 :: Cells b4 [sv4, .bool s4.2] 129 :: Cells p5 (foldCells place pd xs) 126 :: DocAt pd d :: Sx.Own 2 1 (.slice pad pls.length pcap) pls.length (pls.map (Value.int .i64)) :: Fz H3 :: R) := hw
    refine hk a W (hs.of ?_) hw
    exact ⟨rfl, trivial⟩
  all_goals
    intro LD D a W hcl hi hp hs hw
    repeat (first | (refine sxv hs hw ?_; clear hs; intro a hs) | refine sxc hs ?_ | (refine sxa hs hw ?_; clear hs hw; intro a b W hw hs) | (refine sxs hs hw ?_; clear hs hw; intro W hs hw) | ((with_reducible first | refine st_ptrSome hs (k := ?_) | refine st_ptrNone hs (k := ?_)); clear hs; intro a hs))
    exact ⟨hs, hw⟩
set_option maxHeartbeats 64000000 in
theorem fd_way1 {Q : Exit → Act → World → Prop} {a : Act} {w0 W : World} {H3 : Fh} {R : List Res} {bad0 pad dad : Option Addr} {nb bcap0 pcap dcap b4 p5 pd b11 b12 c : Nat} {place pl seq er err xc xq : Int} {xl : List OpD} {d : Dm} {sv4 : Value} {s4 : List UInt8 × Bool} {xs : List Value} {pls : List Int} (hpll : pls.length ≤ 1000) (k1 : (err != 0) = true)
    (hs : Slots a 129 [(0, .slice bad0 nb bcap0), (4, .pointer (some ⟨b4, 0, none⟩)), (5, .pointer (some ⟨p5, 0, none⟩)), (8, .slice pad pls.length pcap), (9, .int .i64 (c : Int)), (10, .int .i64 seq), (11, .pointer (some ⟨b11, 0, none⟩)), (12, .pointer (some ⟨b12, 0, none⟩)), (13, .int .i64 err)]) (hw : Has 0 w0 W (Cells b11 (rowCells ⟨pl, ⟨xc, xq, xl⟩, er⟩ (.slice dad xl.length dcap)) 39 :: Cells b12 (batCells ⟨xc, xq, xl⟩ (.slice dad xl.length dcap)) 36 :: Cells b4 [sv4, .bool s4.2] 129 :: Cells p5 (foldCells place pd xs) 126 :: DocAt pd d :: Sx.Own 2 1 (.slice pad pls.length pcap) pls.length (pls.map (Value.int .i64)) :: Fz H3 :: R))
    (hk : ∀ a W, Slots a 129 [(103, .bool true)] → Has 0 w0 W (Cells b11 (rowCells ⟨pl, ⟨xc, xq, xl⟩, er⟩ (.slice dad xl.length dcap)) 39 :: Cells b12 (batCells ⟨xc, xq, xl⟩ (.slice dad xl.length dcap)) 36 :: Cells b4 [sv4, .bool s4.2] 129 :: Cells p5 (foldCells place pd xs) 126 :: DocAt pd d :: Sx.Own 2 1 (.slice pad pls.length pcap) pls.length (pls.map (Value.int .i64)) :: Fz H3 :: R) → Q .normal a W) : (Code.regionOf 16 Tryz.f39.body).wp Tryz.prog Q a W := by
  change Code.wp Tryz.prog (Code.region 16 _ true) Q a W
  refine rg_draw (V := [.int .i64 err, .bool true, .bool true, undef, undef, undef, undef, .bool true, .bool true, undef, undef, undef, undef, .bool true, .bool true, undef, undef, undef, .bool true, .bool true, undef, undef, undef, undef, undef, undef, undef, .bool true, .bool true, undef, undef, undef, undef, .bool true, .bool true, undef, undef, undef, undef, .bool true])
    (Rs := fun D => Cells b11 (rowCells ⟨pl, ⟨xc, xq, xl⟩, er⟩ (.slice dad xl.length dcap)) 39 :: Cells b12 (batCells ⟨xc, xq, xl⟩ (.slice dad xl.length dcap)) 36 :: Cells b4 [sv4, .bool s4.2] 129 :: Cells p5 (foldCells place pd xs) 126 :: DocAt pd d :: Sx.Own 2 1 (.slice pad pls.length pcap) pls.length (pls.map (Value.int .i64)) :: Fz H3 :: R) hs hw (ho := ⟨?_, ?c1_1, ?_, ?_, ?_, ?_, ?_, ?_, ?_, ?_, ?_, ?_, ?_, ?_, ?_, ?_, ?_, ?_, ?_, ?_, ?_, ?_, ?_, ?_, ?_, ?_, ?_, ?_, ?_, ?_, ?_, ?_, ?_, ?_, ?_, ?_, ?_, ?_, ?_, ?_, trivial⟩) (k := ?k_1)
  case c1_1 =>
    intro LD D a W hcl hi hp hs hw
    repeat (first | (refine sxv hs hw ?_; clear hs; intro a hs) | refine sxc hs ?_ | (refine sxa hs hw ?_; clear hs hw; intro a b W hw hs) | (refine sxs hs hw ?_; clear hs hw; intro W hs hw) | ((with_reducible first | refine st_ptrSome hs (k := ?_) | refine st_ptrNone hs (k := ?_)); clear hs; intro a hs))
    rw [k1] at hs
    exact ⟨hs, hw⟩
  case k_1 =>
    clear hs hw
    intro a W hs hw
    replace hw : Has 0 w0 W (Cells b11 (rowCells ⟨pl, ⟨xc, xq, xl⟩, er⟩ (.slice dad xl.length dcap)) 39 :: Cells b12 (batCells ⟨xc, xq, xl⟩ (.slice dad xl.length dcap)) 36 :: Cells b4 [sv4, .bool s4.2] 129 :: Cells p5 (foldCells place pd xs) 126 :: DocAt pd d :: Sx.Own 2 1 (.slice pad pls.length pcap) pls.length (pls.map (Value.int .i64)) :: Fz H3 :: R) := hw
    refine hk a W (hs.of ?_) hw
    exact ⟨rfl, trivial⟩
  all_goals
    intro LD D a W hcl hi hp hs hw
    repeat (first | (refine sxv hs hw ?_; clear hs; intro a hs) | refine sxc hs ?_ | (refine sxa hs hw ?_; clear hs hw; intro a b W hw hs) | (refine sxs hs hw ?_; clear hs hw; intro W hs hw) | ((with_reducible first | refine st_ptrSome hs (k := ?_) | refine st_ptrNone hs (k := ?_)); clear hs; intro a hs))
    exact ⟨hs, hw⟩
end Go.Proofs.YtmalklakaalaoaaGreatDoor.Sw

set_option linter.unusedVariables false
set_option maxRecDepth 10000
namespace Go.Proofs.YtmalklakaalaoaaGreatDoor.Sw
open Go.RowKit Go.Sx
def decR (b : List UInt8) : (Int × Int × List OpD) × Int := match decode b with | none => ((0, 0, []), 1) | some p => (p, 0)
theorem rdOps_go {n : Int} {l : List OpD} {s : List UInt8 × Bool} (h0 : 0 < n) (h1 : s.2 = false) (h2 : l.length ≤ 8) : rdOps (10 - l.length) n l s = rdOps (10 - (l.length + 1)) (n - 1) (l ++ [(rdOp s).1]) (rdOp s).2 := by
  rw [show 10 - l.length = (10 - (l.length + 1)) + 1 by omega, rdOps, if_pos ⟨h0, h1, h2⟩]
theorem rdOps_stop {n : Int} {l : List OpD} {s : List UInt8 × Bool} (h : (decide (n > 0) && !s.2 && decide ((l.length : Int) ≤ 8)) = false) (f : Nat) : rdOps f n l s = (l, s) := by
  cases f with
  | zero => rfl
  | succ f =>
    rw [rdOps, if_neg]
    rintro ⟨h0, h1, h2⟩
    rw [h1] at h
    simp at h
    omega
structure DecS where
  n : Int
  v : Value
  l : List OpD
  sv : Value
  s : List UInt8 × Bool
set_option maxRecDepth 10000 in
set_option maxHeartbeats 16000000 in
theorem op_Decode (b : List UInt8) (sv : Value) (w : World) (hb : b.length ≤ 1000000) (r : RdB w sv b) (hT : Tabs w) :
    Calls Tryz.prog 54 ⟨[sv]⟩ w fun e w' => ∃ ad cap, e = .returned (.tuple #[.agg ⟨[.int .i64 (decR b).1.1, .int .i64 (decR b).1.2.1, .slice ad (decR b).1.2.2.length cap]⟩, .int .i64 (decR b).2]) ∧ Has 0 w w' (Sx.Own 95 9 (.slice ad (decR b).1.2.2.length cap) (decR b).1.2.2.length ((decR b).1.2.2.flatMap opCells) :: Old w 0 :: []) := by
  have hw := Has.start (G := 0) (w := w) (Nat.zero_le _)
  have hok := parse_ok b hb
  obtain ⟨sad, scap, rfl⟩ : ∃ ad cap, sv = .slice ad b.length cap := by obtain ⟨_, ad, cap, e, _⟩ := r; exact ⟨ad, cap, e⟩
  refine enter Tryz.func54 Tryz.ntmps54 rfl rfl fun a hs => ?_
  repeat (first | (refine sxv hs hw ?_; clear hs; intro a hs) | refine sxc hs ?_ | (refine sxa hs hw ?_; clear hs hw; intro a b W hw hs) | (refine sxs hs hw ?_; clear hs hw; intro W hs hw))
  obtain ⟨bp, q1⟩ := nm1 hw; subst q1
  obtain ⟨b0, q2⟩ := nm2 hw; subst q2
  have hw : Has 0 w _ (Cells bp [.slice sad b.length scap, .bool (b, false).2] 152 :: Cells b0 [.int .i64 0, .int .i64 0, .slice none 0 0] 36 :: Old w 0 :: []) := hw
  refine st_call hs (hc := op_num w _ bp _ (b, false) _ (In.tl In.hd) r hw) (k := ?_); rintro e0 W1 ⟨rfl, sv1, r1, hw'⟩; refine ⟨_, rfl, ?_⟩; clear hs hw; intro a hs
  have hw := hw'; clear hw'
  rw [show tk (b, false) (Ph.getI (b, false).1).2.1 (Ph.getI (b, false).1).2.2 = rdNum (b, false) from rfl] at hw r1
  repeat (first | (refine sxv hs hw ?_; clear hs; intro a hs) | refine sxc hs ?_ | (refine sxa hs hw ?_; clear hs hw; intro a b W hw hs) | (refine sxs hs hw ?_; clear hs hw; intro W hs hw))
  obtain ⟨bx, q3⟩ := nm1 hw; subst q3
  have hw := hw.swap2
  refine st_call hs (hc := op_num w _ bp sv1 (rdNum (b, false)) _ (In.tl (In.tl In.hd)) r1 hw) (k := ?_); rintro e0 W1 ⟨rfl, sv2, r2, hw'⟩; refine ⟨_, rfl, ?_⟩; clear hs hw; intro a hs
  have hw := hw'; clear hw'
  rw [show tk (rdNum (b, false)) (Ph.getI (rdNum (b, false)).1).2.1 (Ph.getI (rdNum (b, false)).1).2.2 = rdNum (rdNum (b, false)) from rfl] at hw r2
  repeat (first | (refine sxv hs hw ?_; clear hs; intro a hs) | refine sxc hs ?_ | (refine sxa hs hw ?_; clear hs hw; intro a b W hw hs) | (refine sxs hs hw ?_; clear hs hw; intro W hs hw))
  refine st_call hs (hc := op_num w _ bp sv2 (rdNum (rdNum (b, false))) _ (In.tl (In.tl In.hd)) r2 hw) (k := ?_); rintro e0 W1 ⟨rfl, sv3, r3, hw'⟩; refine ⟨_, rfl, ?_⟩; clear hs hw; intro a hs
  have hw := hw'; clear hw'
  rw [show tk (rdNum (rdNum (b, false))) (Ph.getI (rdNum (rdNum (b, false))).1).2.1 (Ph.getI (rdNum (rdNum (b, false))).1).2.2 = rdNum (rdNum (rdNum (b, false))) from rfl] at hw r3
  repeat (first | (refine sxv hs hw ?_; clear hs; intro a hs) | refine sxc hs ?_ | (refine sxa hs hw ?_; clear hs hw; intro a b W hw hs) | (refine sxs hs hw ?_; clear hs hw; intro W hs hw))
  have hN := getI_range (rdNum (rdNum (b, false))).1
  have hdec : parse b = (((Ph.getI (b, false).1).1, (Ph.getI (rdNum (b, false)).1).1, (rdOps 10 (Ph.getI (rdNum (rdNum (b, false))).1).1 [] (rdNum (rdNum (rdNum (b, false))))).1), (rdOps 10 (Ph.getI (rdNum (rdNum (b, false))).1).1 [] (rdNum (rdNum (rdNum (b, false))))).2) := rfl
  clear r1 r2
  generalize (Ph.getI (rdNum (rdNum (b, false))).1).1 = N at *
  generalize rdNum (rdNum (rdNum (b, false))) = s3 at *
  generalize (Ph.getI (rdNum (b, false)).1).1 = q at *
  generalize (Ph.getI (b, false).1).1 = c at *
  replace hw := (hw.nilOwn 95 9).swap2
  have hw : Has 0 w W1 (Cells bp [sv3, .bool s3.2] 152 :: Sx.Own 95 9 (.slice none 0 0) ([] : List OpD).length (([] : List OpD).flatMap opCells) :: Cells bx [.int .i64 c, .int .i64 q, .slice none 0 0] 36 :: Cells b0 [.int .i64 0, .int .i64 0, .slice none 0 0] 36 :: Old w 0 :: []) := hw
  refine st_loop (σ := DecS) (fun t => [(0, .slice sad b.length scap), (2, .pointer (some ⟨b0, 0, none⟩)), (4, .pointer (some ⟨bp, 0, none⟩)), (5, .pointer (some ⟨bx, 0, none⟩)), (6, .int .i64 t.n)])
    (fun t => Cells bp [t.sv, .bool t.s.2] 152 :: Sx.Own 95 9 t.v t.l.length (t.l.flatMap opCells) :: Cells bx [.int .i64 c, .int .i64 q, t.v] 36 :: Cells b0 [.int .i64 0, .int .i64 0, .slice none 0 0] 36 :: Old w 0 :: [])
    (fun t => RdB w t.sv t.s.1 ∧ i64 t.n ∧ t.l.length ≤ 9 ∧ rdOps (10 - t.l.length) t.n t.l t.s = rdOps 10 N [] s3) (fun t => 10 - t.l.length) ⟨N, .slice none 0 0, [], sv3, s3⟩ ⟨r3, hN, by simp, rfl⟩ hs ⟨rfl, rfl, rfl, rfl, rfl, trivial⟩ hw ?_
  clear hs hw r3 hN
  rintro ⟨n, v, l, sv, s⟩ a W ⟨hr, hn, hl, hrd⟩ hs hw
  simp only at hr hn hl hrd hs hw
  obtain ⟨vad, vcap, rfl⟩ : ∃ ad cap, v = .slice ad l.length cap := by
    obtain ⟨_, ad, cap, e, _⟩ := hw.rd_own (In.tl In.hd); exact ⟨ad, cap, e⟩
  refine sq ?_
  refine sq ?_
  refine merge (M := fun a W => Slots a 61 [(0, .slice sad b.length scap), (2, .pointer (some ⟨b0, 0, none⟩)), (4, .pointer (some ⟨bp, 0, none⟩)), (5, .pointer (some ⟨bx, 0, none⟩)), (6, .int .i64 n), (33, .bool (decide (n > 0) && !s.2 && decide ((l.length : Int) ≤ 8)))] ∧ Has 0 w W (Cells bp [sv, .bool s.2] 152 :: Sx.Own 95 9 (.slice vad l.length vcap) l.length (l.flatMap opCells) :: Cells bx [.int .i64 c, .int .i64 q, .slice vad l.length vcap] 36 :: Cells b0 [.int .i64 0, .int .i64 0, .slice none 0 0] 36 :: Old w 0 :: [])) ?_ ?_
  · repeat (first | (refine sxv hs hw ?_; clear hs; intro a hs) | refine sxc hs ?_ | (refine sxa hs hw ?_; clear hs hw; intro a b W hw hs) | (refine sxs hs hw ?_; clear hs hw; intro W hs hw))
    cases k0 : decide (n > 0) with
    | false =>
      rw [k0] at hs
      repeat (first | (refine sxv hs hw ?_; clear hs; intro a hs) | refine sxc hs ?_ | (refine sxa hs hw ?_; clear hs hw; intro a b W hw hs) | (refine sxs hs hw ?_; clear hs hw; intro W hs hw))
      exact ⟨hs.of ⟨rfl, rfl, rfl, rfl, rfl, rfl, trivial⟩, hw⟩
    | true =>
    rw [k0] at hs
    repeat (first | (refine sxv hs hw ?_; clear hs; intro a hs) | refine sxc hs ?_ | (refine sxa hs hw ?_; clear hs hw; intro a b W hw hs) | (refine sxs hs hw ?_; clear hs hw; intro W hs hw))
    cases k1 : s.2 with
    | true =>
      rw [k1] at hs hw
      repeat (first | (refine sxv hs hw ?_; clear hs; intro a hs) | refine sxc hs ?_ | (refine sxa hs hw ?_; clear hs hw; intro a b W hw hs) | (refine sxs hs hw ?_; clear hs hw; intro W hs hw))
      exact ⟨hs.of ⟨rfl, rfl, rfl, rfl, rfl, rfl, trivial⟩, hw⟩
    | false =>
    rw [k1] at hs hw
    repeat (first | (refine sxv hs hw ?_; clear hs; intro a hs) | refine sxc hs ?_ | (refine sxa hs hw ?_; clear hs hw; intro a b W hw hs) | (refine sxs hs hw ?_; clear hs hw; intro W hs hw))
    exact ⟨hs.of ⟨rfl, rfl, rfl, rfl, rfl, bool_eq (by simp), trivial⟩, hw⟩
  clear hs hw
  rintro a W ⟨hs, hw⟩
  refine cd_split hs (kt := fun hcc => ?_) (kf := fun hcc => ?_)
  · obtain ⟨h0, h1, h2⟩ : 0 < n ∧ s.2 = false ∧ l.length ≤ 8 := by
      simp only [Bool.and_eq_true, decide_eq_true_eq, Bool.not_eq_true'] at hcc
      exact ⟨by omega, hcc.1.2, by omega⟩
    rw [rdOps_go h0 h1 h2] at hrd
    replace hs : Slots a 61 [(0, .slice sad b.length scap), (2, .pointer (some ⟨b0, 0, none⟩)), (4, .pointer (some ⟨bp, 0, none⟩)), (5, .pointer (some ⟨bx, 0, none⟩)), (6, .int .i64 n)] := hs.of ⟨rfl, rfl, rfl, rfl, rfl, trivial⟩
    repeat (first | (refine sxv hs hw ?_; clear hs; intro a hs) | refine sxc hs ?_ | (refine sxa hs hw ?_; clear hs hw; intro a b W hw hs) | (refine sxs hs hw ?_; clear hs hw; intro W hs hw))
    have hw : Has 0 w W (Cells bp [sv, .bool s.2] 152 :: Sx.Own 95 9 (.slice vad l.length vcap) l.length (l.flatMap opCells) :: Free :: Free :: Cells bx [.int .i64 c, .int .i64 q, .slice vad l.length vcap] 36 :: Cells b0 [.int .i64 0, .int .i64 0, .slice none 0 0] 36 :: Old w 0 :: []) := hw.free.free.perm (((List.Perm.cons _ (List.Perm.swap _ _ _)).trans (List.Perm.swap _ _ _)).trans (List.Perm.cons _ ((List.Perm.cons _ (List.Perm.swap _ _ _)).trans (List.Perm.swap _ _ _))))
    refine rg_drawU (σ := Value × Option Addr × Nat) (V := fun u => [.pointer (some ⟨bx, 0 + 2, none⟩), .slice vad l.length vcap, .pointer (some ⟨bp, 0, none⟩), .agg ⟨opCells (rdOp s).1⟩, .slice (some ⟨(u 4).2.2, 0, none⟩) 1 1, .slice (u 5).2.1 (l.length + 1) (u 5).2.2, .pointer (some ⟨bx, 0 + 2, none⟩), .bool true])
      (Rs := fun u D => (if D 3 then Cells bp [(u 3).1, .bool (rdOp s).2.2] 152 else Cells bp [sv, .bool s.2] 152) :: (if D 5 then Sx.Own 95 9 (.slice (u 5).2.1 (l.length + 1) (u 5).2.2) (l.length + 1) (l.flatMap opCells ++ opCells (rdOp s).1) else Sx.Own 95 9 (.slice vad l.length vcap) l.length (l.flatMap opCells)) :: (if D 4 then Cells (u 4).2.2 (opCells (rdOp s).1) 95 else Free) :: (if D 3 then Fact (RdB w (u 3).1 (rdOp s).2.1) else Free) :: (if D 7 then Cells bx [.int .i64 c, .int .i64 q, .slice (u 5).2.1 (l.length + 1) (u 5).2.2] 36 else Cells bx [.int .i64 c, .int .i64 q, .slice vad l.length vcap] 36) :: Cells b0 [.int .i64 0, .int .i64 0, .slice none 0 0] 36 :: Old w 0 :: []) (fun _ => (.bool true, none, 0)) hs hw (hVu := ?vu_c) (ho := ⟨?_, ?c1_c, ?_, ?c3_c, ?c4_c, ?c5_c, ?_, ?c7_c, trivial⟩) (k := ?k_c)
    case vu_c =>
      intro u u' j h
      rcases j with _ | _ | _ | _ | _ | _ | j
      all_goals first | rfl | simp [h]
    case c1_c =>
      intro u LD D a W hcl hi hp hs hw
      have h5 := Go.Sx.not_done hcl hi 5 (by kernel_rfl)
      have h7 := Go.Sx.not_done hcl h5 7 (by kernel_rfl)
      have hw0 := hw
      simp only [h7, Bool.false_eq_true, if_false] at hw
      repeat (first | (refine sxv hs hw ?_; clear hs; intro a hs) | refine sxc hs ?_ | (refine sxa hs hw ?_; clear hs hw; intro a b W hw hs) | (refine sxs hs hw ?_; clear hs hw; intro W hs hw))
      exact Or.inl ⟨hs, hw0⟩
    case c3_c =>
      intro u LD D a W hcl hi hp hs hw
      have h4 := Go.Sx.not_done hcl hi 4 (by kernel_rfl)
      have h5 := Go.Sx.not_done hcl h4 5 (by kernel_rfl)
      have h7 := Go.Sx.not_done hcl h5 7 (by kernel_rfl)
      simp only [hi, h4, h5, h7, Bool.false_eq_true, if_false] at hw
      refine st_call hs (hc := op_op w _ bp sv s _ (by repeat (first | exact In.hd | apply In.tl)) hr hT hw) (k := ?_); rintro e0 W1 ⟨rfl, sv2, r2, hw'⟩; refine ⟨_, rfl, ?_⟩; clear hs hw; intro a hs
      repeat (first | (refine sxv hs hw ?_; clear hs; intro a hs) | refine sxc hs ?_ | (refine sxa hs hw ?_; clear hs hw; intro a b W hw hs) | (refine sxs hs hw ?_; clear hs hw; intro W hs hw))
      refine Or.inr ⟨(sv2, none, 0), hs, ?_⟩
      show Has 0 w _ (_ :: (if (Nat.beq 5 3 || D 5) = true then _ else _) :: (if (Nat.beq 4 3 || D 4) = true then _ else _) :: _ :: (if (Nat.beq 7 3 || D 7) = true then _ else _) :: _)
      rw [h4, h5, h7]
      exact (hw'.fact r2).fill (Upd.tl (Upd.tl (Upd.tl Upd.hd)))
    case c4_c =>
      intro u LD D a W hcl hi hp hs hw
      have h3 := Go.Sx.done hp 3 (by kernel_rfl)
      have h5 := Go.Sx.not_done hcl hi 5 (by kernel_rfl)
      have h7 := Go.Sx.not_done hcl h5 7 (by kernel_rfl)
      simp only [hi, h3, h5, h7, Bool.false_eq_true, if_false, if_true] at hw
      repeat (first | (refine sxv hs hw ?_; clear hs; intro a hs) | refine sxc hs ?_ | (refine sxa hs hw ?_; clear hs hw; intro a b W hw hs) | (refine sxs hs hw ?_; clear hs hw; intro W hs hw))
      refine Or.inr ⟨(.bool true, none, _), hs, ?_⟩
      show Has 0 w _ ((if (Nat.beq 3 4 || D 3) = true then _ else _) :: (if (Nat.beq 5 4 || D 5) = true then _ else _) :: _ :: (if (Nat.beq 3 4 || D 3) = true then _ else _) :: (if (Nat.beq 7 4 || D 7) = true then _ else _) :: _)
      rw [h3, h5, h7]
      exact hw.fill (Upd.tl (Upd.tl Upd.hd))
    case c5_c =>
      intro u LD D a W hcl hi hp hs hw
      have h4 := Go.Sx.done hp 4 (by kernel_rfl)
      have h7 := Go.Sx.not_done hcl hi 7 (by kernel_rfl)
      simp only [hi, h4, h7, Bool.false_eq_true, if_false, if_true] at hw
      refine st_append_lit hs hw (k := l.length) (h63 := by omega) (hb := by omega) (c := ?_)
      clear hs hw; intro a ad cap W hs hw
      repeat (first | (refine sxv hs hw ?_; clear hs; intro a hs) | refine sxc hs ?_ | (refine sxa hs hw ?_; clear hs hw; intro a b W hw hs) | (refine sxs hs hw ?_; clear hs hw; intro W hs hw))
      refine Or.inr ⟨(.bool true, ad, cap), hs, ?_⟩
      show Has 0 w _ (_ :: _ :: (if (Nat.beq 4 5 || D 4) = true then _ else _) :: _ :: (if (Nat.beq 7 5 || D 7) = true then _ else _) :: _)
      rw [h4, h7]
      exact hw
    case c7_c =>
      intro u LD D a W hcl hi hp hs hw
      have h5 := Go.Sx.done hp 5 (by kernel_rfl)
      simp only [hi, h5, Bool.false_eq_true, if_false, if_true] at hw
      repeat (first | (refine sxv hs hw ?_; clear hs; intro a hs) | refine sxc hs ?_ | (refine sxa hs hw ?_; clear hs hw; intro a b W hw hs) | (refine sxs hs hw ?_; clear hs hw; intro W hs hw))
      refine Or.inl ⟨hs, ?_⟩
      show Has 0 w _ (_ :: (if (Nat.beq 5 7 || D 5) = true then _ else _) :: _ :: _ :: _ :: _)
      rw [h5]
      exact hw
    case k_c =>
      clear hs hw
      intro u a W hs hw
      replace hw : Has 0 w W (Cells bp [(u 3).1, .bool (rdOp s).2.2] 152 :: Sx.Own 95 9 (.slice (u 5).2.1 (l.length + 1) (u 5).2.2) (l.length + 1) (l.flatMap opCells ++ opCells (rdOp s).1) :: Cells (u 4).2.2 (opCells (rdOp s).1) 95 :: Fact (RdB w (u 3).1 (rdOp s).2.1) :: Cells bx [.int .i64 c, .int .i64 q, .slice (u 5).2.1 (l.length + 1) (u 5).2.2] 36 :: Cells b0 [.int .i64 0, .int .i64 0, .slice none 0 0] 36 :: Old w 0 :: []) := hw
      have hr' := hw.told (In.tl (In.tl (In.tl In.hd)))
      replace hw := hw.sub (L' := Cells bp [(u 3).1, .bool (rdOp s).2.2] 152 :: Sx.Own 95 9 (.slice (u 5).2.1 (l.length + 1) (u 5).2.2) (l.length + 1) (l.flatMap opCells ++ opCells (rdOp s).1) :: Cells bx [.int .i64 c, .int .i64 q, .slice (u 5).2.1 (l.length + 1) (u 5).2.2] 36 :: Cells b0 [.int .i64 0, .int .i64 0, .slice none 0 0] 36 :: Old w 0 :: []) (List.Sublist.cons_cons _ (List.Sublist.cons_cons _ (List.Sublist.cons _ (List.Sublist.cons _ (List.Sublist.refl _)))))
      replace hs : Slots a 61 [(0, .slice sad b.length scap), (2, .pointer (some ⟨b0, 0, none⟩)), (4, .pointer (some ⟨bp, 0, none⟩)), (5, .pointer (some ⟨bx, 0, none⟩)), (6, .int .i64 n)] := hs.of ⟨rfl, rfl, rfl, rfl, rfl, trivial⟩
      generalize (u 3).1 = sv2 at *
      generalize (u 5).2.1 = ad2 at *
      generalize (u 5).2.2 = cap2 at *
      clear u
      repeat (first | (refine sxv hs hw ?_; clear hs; intro a hs) | refine sxc hs ?_ | (refine sxa hs hw ?_; clear hs hw; intro a b W hw hs) | (refine sxs hs hw ?_; clear hs hw; intro W hs hw))
      have e1 : IntKind.i64.wrap (n - 1) = n - 1 := i64s (by have := hn.1; omega) (by have := hn.2; omega)
      rw [e1] at hs
      have e2 : l.length + 1 = (l ++ [(rdOp s).1]).length := by simp
      have e3 : l.flatMap opCells ++ opCells (rdOp s).1 = (l ++ [(rdOp s).1]).flatMap opCells := by simp
      rw [e2, e3] at hw
      rw [e2] at hrd
      exact st_again ⟨n - 1, _, l ++ [(rdOp s).1], sv2, (rdOp s).2⟩ hs hw ⟨hr', ⟨by have := hn.1; show _ ≤ n - 1; omega, by have := hn.2; show n - 1 ≤ _; omega⟩, by simp; omega, hrd⟩ (by simp only [List.length_append, List.length_singleton]; omega) ⟨rfl, rfl, rfl, rfl, rfl, trivial⟩
    all_goals
      intro u LD D a W hcl hi hp hs hw
      repeat (first | (refine sxv hs hw ?_; clear hs; intro a hs) | refine sxc hs ?_ | (refine sxa hs hw ?_; clear hs hw; intro a b W hw hs) | (refine sxs hs hw ?_; clear hs hw; intro W hs hw))
      exact Or.inl ⟨hs, hw⟩
  · rw [rdOps_stop hcc] at hrd
    rw [← hrd] at hdec
    clear hrd
    rw [hdec] at hok
    obtain ⟨hc, hq, -, ho⟩ := hok
    simp only at hc hq ho
    have hD : ∀ p : Prop, (s.2 = false ∧ mayBatch c q l = true ∧ textB c q l = b ↔ p) → ((p → decR b = ((c, q, l), 0)) ∧ (¬ p → decR b = ((0, 0, []), 1))) := fun p hp => by
      constructor
      · intro h
        have : decode b = some (c, q, l) := by unfold decode; simp only [hdec]; rw [if_pos (hp.2 h)]
        unfold decR; rw [this]
      · intro h
        have : decode b = none := by unfold decode; simp only [hdec]; rw [if_neg fun k => h (hp.1 k)]
        unfold decR; rw [this]
    have hZ := (hD _ Iff.rfl).2
    have hY := (hD _ Iff.rfl).1
    clear hD hdec
    repeat (first | (refine sxv hs hw ?_; clear hs; intro a hs) | refine sxc hs ?_ | (refine sxa hs hw ?_; clear hs hw; intro a b W hw hs) | (refine sxs hs hw ?_; clear hs hw; intro W hs hw))
    refine st_call hs (hc := op_Encode c q l _ _ hc hq ho (hw.rd_own (In.tl In.hd)) (hT.keep (hw.end (by repeat (first | exact In.hd | apply In.tl))))) (k := ?_); rintro e0 W1 ⟨ad, cap, rfl, hnil, hw1⟩; refine ⟨_, rfl, ?_⟩; clear hs; intro a hs; replace hw := hw.call hw1; clear hw1
    repeat (first | (refine sxv hs hw ?_; clear hs; intro a hs) | refine sxc hs ?_ | (refine sxa hs hw ?_; clear hs hw; intro a b W hw hs) | (refine sxs hs hw ?_; clear hs hw; intro W hs hw))
    cases k1 : s.2 with
    | true =>
      rw [k1] at hs hw
      repeat (first | (refine sxv hs hw ?_; clear hs; intro a hs) | refine sxc hs ?_ | (refine sxa hs hw ?_; clear hs hw; intro a b W hw hs) | (refine sxs hs hw ?_; clear hs hw; intro W hs hw))
      refine rc2 hs rfl rfl hw (In.tl (In.tl (In.tl (In.tl In.hd)))) rfl rfl ?_
      rw [hZ (by rw [k1]; simp)]
      exact ⟨none, 0, rfl, (hw.nilOwn 95 9).sub (List.Sublist.cons_cons _ (List.Sublist.cons _ (List.Sublist.cons _ (List.Sublist.cons _ (List.Sublist.cons _ (List.Sublist.cons _ (List.Sublist.refl _)))))))⟩
    | false =>
    rw [k1] at hs hw
    repeat (first | (refine sxv hs hw ?_; clear hs; intro a hs) | refine sxc hs ?_ | (refine sxa hs hw ?_; clear hs hw; intro a b W hw hs) | (refine sxs hs hw ?_; clear hs hw; intro W hs hw))
    cases hm : mayBatch c q l with
    | false =>
      obtain ⟨rfl, rfl⟩ := hnil hm
      refine st_eqnil hs (c := ?_); clear hs; intro a hs
      repeat (first | (refine sxv hs hw ?_; clear hs; intro a hs) | refine sxc hs ?_ | (refine sxa hs hw ?_; clear hs hw; intro a b W hw hs) | (refine sxs hs hw ?_; clear hs hw; intro W hs hw))
      refine rc2 hs rfl rfl hw (In.tl (In.tl (In.tl (In.tl In.hd)))) rfl rfl ?_
      rw [hZ (by rw [hm]; simp)]
      exact ⟨none, 0, rfl, (hw.nilOwn 95 9).sub (List.Sublist.cons_cons _ (List.Sublist.cons _ (List.Sublist.cons _ (List.Sublist.cons _ (List.Sublist.cons _ (List.Sublist.cons _ (List.Sublist.refl _)))))))⟩
    | true =>
    rw [hm] at hs hw
    simp only [if_true] at hs hw
    obtain ⟨A, rfl⟩ : ∃ A, ad = some A := by
      obtain ⟨_, ad', cap', e, _, _, h | ⟨g, o, h, _⟩⟩ := hw.rd_own In.hd
      · have := textB_pos c q l; omega
      · injection e with e1 _ _; exact ⟨_, e1.trans h⟩
    refine st_eqnil hs (c := ?_); clear hs; intro a hs
    rw [show (some A).isNone = false from rfl] at hs
    repeat (first | (refine sxv hs hw ?_; clear hs; intro a hs) | refine sxc hs ?_ | (refine sxa hs hw ?_; clear hs hw; intro a b W hw hs) | (refine sxs hs hw ?_; clear hs hw; intro W hs hw))
    refine st_call hs (hc := bytes_Equal (textB c q l) b _ _ _ (hw.rd_own In.hd) (hw.rd (by repeat (first | exact In.hd | apply In.tl)) hw.ext.size r)) (k := ?_); rintro e0 W1 ⟨rfl, hb⟩; refine ⟨_, rfl, ?_⟩; clear hs; intro a hs; replace hw := hw.below hb; clear hb
    cases he : (textB c q l == b) with
    | false =>
      rw [he] at hs
      repeat (first | (refine sxv hs hw ?_; clear hs; intro a hs) | refine sxc hs ?_ | (refine sxa hs hw ?_; clear hs hw; intro a b W hw hs) | (refine sxs hs hw ?_; clear hs hw; intro W hs hw))
      refine rc2 hs rfl rfl hw (In.tl (In.tl (In.tl (In.tl In.hd)))) rfl rfl ?_
      rw [hZ (by rw [beq_eq_false_iff_ne] at he; exact fun h => he h.2.2)]
      exact ⟨none, 0, rfl, (hw.nilOwn 95 9).sub (List.Sublist.cons_cons _ (List.Sublist.cons _ (List.Sublist.cons _ (List.Sublist.cons _ (List.Sublist.cons _ (List.Sublist.cons _ (List.Sublist.refl _)))))))⟩
    | true =>
      rw [he] at hs
      repeat (first | (refine sxv hs hw ?_; clear hs; intro a hs) | refine sxc hs ?_ | (refine sxa hs hw ?_; clear hs hw; intro a b W hw hs) | (refine sxs hs hw ?_; clear hs hw; intro W hs hw))
      refine rc2 hs rfl rfl hw (In.tl (In.tl (In.tl (In.tl In.hd)))) rfl rfl ?_
      rw [hY ⟨k1, hm, by simpa using he⟩]
      exact ⟨_, _, rfl, hw.sub (List.Sublist.cons _ (List.Sublist.cons _ (List.Sublist.cons_cons _ (List.Sublist.cons _ (List.Sublist.cons _ (List.Sublist.refl _))))))⟩
end Go.Proofs.YtmalklakaalaoaaGreatDoor.Sw

set_option linter.unusedVariables false
set_option maxRecDepth 10000
namespace Go.Sx
end Go.Sx

set_option linter.unusedVariables false
set_option maxRecDepth 10000
namespace Go.Proofs.YtmalklakaalaoaaGreatDoor.Sw
open Go.RowKit Go.Sx
-- pieces
theorem op_DecodeR (b : List UInt8) (c q : Int) (l : List OpD) (err : Int) (h : decR b = ((c, q, l), err)) (sv : Value) (w : World) (hb : b.length ≤ 1000000) (r : RdB w sv b) (hT : Tabs w) :
    Calls Tryz.prog 54 ⟨[sv]⟩ w fun e w' => ∃ ad cap, e = .returned (.tuple #[.agg ⟨[.int .i64 c, .int .i64 q, .slice ad l.length cap]⟩, .int .i64 err]) ∧ Has 0 w w' (Sx.Own 95 9 (.slice ad l.length cap) l.length (l.flatMap opCells) :: Old w 0 :: []) := by
  have := op_Decode b sv w hb r hT
  rw [h] at this
  exact this
end Go.Proofs.YtmalklakaalaoaaGreatDoor.Sw
