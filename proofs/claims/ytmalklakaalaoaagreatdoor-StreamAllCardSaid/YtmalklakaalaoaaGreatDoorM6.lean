/-
  Texts of the proof, one behind the other (part 6).
-/
import Derived.Test.YtmalklakaalaoaaGreatDoorM5
set_option linter.unusedVariables false
set_option maxRecDepth 10000
namespace Go.Proofs.YtmalklakaalaoaaGreatDoor.Sw
open Go.RowKit Go.Sx
-- pieces
def nextB (f : FoldD) (bt : BatchD) : Bool := mayB bt && (bt.q == IntKind.i64.wrap (lastOf f bt.c + 1))
def nextR (f : FoldD) (bt : BatchD) : RowD := ⟨IntKind.i64.wrap (f.place + 1), bt, (applyL f.d bt.l).1⟩
def nextF (f : FoldD) (bt : BatchD) : FoldD := ⟨IntKind.i64.wrap (f.place + 1), (applyL f.d bt.l).2, f.told.set bt.c.toNat (bt.q, nextR f bt)⟩
def next (f : FoldD) (bt : BatchD) : FoldD × RowD × Bool := match nextB f bt with | true => (nextF f bt, nextR f bt, true) | false => (f, zeroRow, false)
theorem may_parts {bt : BatchD} (h : mayB bt = true) : (1 ≤ bt.c ∧ bt.c ≤ 5) ∧ (1 ≤ bt.q ∧ bt.q ≤ 1099511627776) ∧ bt.l.length ≤ 8 := by
  obtain ⟨h1, h2, h3, _⟩ := mayBatch_parts h
  exact ⟨h1, h2, h3.2⟩
set_option maxHeartbeats 16000000 in
theorem fold_Next (w0 W : World) (H : Fh) (p : Nat) (f : FoldD) (bt : BatchD) (sv : Value) (R : List Res) (hb : BatOk bt) (hr : OpsH H sv bt.l) (hH : (fr w0).le H) (hT : Tabs w0) (hw : Has 0 w0 W (FoldAt H p f :: Fz H :: R)) :
    Calls Tryz.prog 36 ⟨[.pointer (some ⟨p, 0, none⟩), .agg ⟨batCells bt sv⟩]⟩ W fun e W' => ∃ sv' H', e = .returned (.tuple ⟨[.agg ⟨rowCells (next f bt).2.1 sv'⟩, .bool (next f bt).2.2]⟩) ∧ H.le H' ∧ OpsH H' sv' (next f bt).2.1.b.l ∧ Has 0 w0 W' (FoldAt H' p (next f bt).1 :: Fz H' :: R) := by
  obtain ⟨sad, scap, rfl⟩ := hr.slice
  refine enter Tryz.func36 Tryz.ntmps36 rfl rfl fun a hs => ?_
  repeat (first | (refine sxv hs hw ?_; clear hs; intro a hs) | refine sxc hs ?_ | (refine sxa hs hw ?_; clear hs hw; intro a b W hw hs) | (refine sxs hs hw ?_; clear hs hw; intro W hs hw))
  obtain ⟨b4, q4⟩ := nm1 hw; subst q4
  obtain ⟨b3, q3⟩ := nm2 hw; subst q3
  have hw : Has 0 w0 _ (FoldAt H p f :: Cells b4 zrc 39 :: Cells b3 (batCells bt (.slice sad bt.l.length scap)) 36 :: Fz H :: R) := hw.perm (by repeat (first | exact List.Perm.refl _ | refine perm_pick (by repeat (first | exact Pick.hd | apply Pick.tl)) ?_))
  cases hm : mayB bt with
  | false =>
    have hN : next f bt = (f, zeroRow, false) := by unfold next nextB; rw [hm]; rfl
    rw [hN]
    refine rg_draw (V := [.pointer (some ⟨p, 0, none⟩), .bool false, .bool false, .agg ⟨batCells bt (.slice sad bt.l.length scap)⟩, .bool false, .bool true, .bool true, .bool true, undef, undef, undef, undef, undef, undef, undef, undef, .bool true])
      (Rs := fun D => FoldAt H p f :: Cells b4 zrc 39 :: Cells b3 (batCells bt (.slice sad bt.l.length scap)) 36 :: Fz H :: R) hs hw (ho := ⟨?_, ?_, ?_, ?_, ?c4_1, ?_, ?_, ?_, ?_, ?_, ?_, ?_, ?_, ?_, ?_, ?_, ?_, trivial⟩) (k := ?k_1)
    case c4_1 =>
      intro LD D a W hcl hi hp hs hw
      repeat (first | (refine sxv hs hw ?_; clear hs; intro a hs) | refine sxc hs ?_ | (refine sxa hs hw ?_; clear hs hw; intro a b W hw hs) | (refine sxs hs hw ?_; clear hs hw; intro W hs hw))
      refine st_call hs (hc := op_MayBatch bt.c bt.q bt.l _ _ hb.c hb.q hb.ops (hw.rdH (by repeat (first | exact In.hd | apply In.tl)) hr) (hT.keep (hw.endF (by repeat (first | exact In.hd | apply In.tl)) hH))) (k := ?_); rintro e0 W1 ⟨rfl, hb⟩; refine ⟨_, rfl, ?_⟩; clear hs; intro a hs; replace hw := hw.below hb; clear hb
      rw [show mayBatch bt.c bt.q bt.l = mayB bt from rfl, hm] at hs
      repeat (first | (refine sxv hs hw ?_; clear hs; intro a hs) | refine sxc hs ?_ | (refine sxa hs hw ?_; clear hs hw; intro a b W hw hs) | (refine sxs hs hw ?_; clear hs hw; intro W hs hw))
      exact ⟨hs, hw⟩
    case k_1 =>
      clear hs hw
      intro a W hs hw
      repeat (first | (refine sxv hs hw ?_; clear hs; intro a hs) | refine sxc hs ?_ | (refine sxa hs hw ?_; clear hs hw; intro a b W hw hs) | (refine sxs hs hw ?_; clear hs hw; intro W hs hw))
      refine rc2 hs rfl rfl hw (In.tl In.hd) rfl rfl ?_
      exact ⟨.slice none 0 0, H, rfl, Fh.le.refl _, ops_nil H, hw.sub (List.Sublist.cons_cons _ (List.Sublist.cons _ (List.Sublist.cons _ (List.Sublist.refl _))))⟩
    all_goals
      intro LD D a W hcl hi hp hs hw
      repeat (first | (refine sxv hs hw ?_; clear hs; intro a hs) | refine sxc hs ?_ | (refine sxa hs hw ?_; clear hs hw; intro a b W hw hs) | (refine sxs hs hw ?_; clear hs hw; intro W hs hw) | ((with_reducible first | refine st_ptrSome hs (k := ?_) | refine st_ptrNone hs (k := ?_)); clear hs; intro a hs))
      exact ⟨hs, hw⟩
  | true =>
  obtain ⟨⟨hc1, hc5⟩, ⟨hq1, hq2⟩, hl8⟩ := may_parts hm
  refine rg_draw (V := [.pointer (some ⟨p, 0, none⟩), .bool false, .bool false, .agg ⟨batCells bt (.slice sad bt.l.length scap)⟩, .bool true, .bool false, .bool false, .bool false, .pointer (some ⟨b3, 0 + 1, none⟩), .int .i64 bt.q, .pointer (some ⟨p, 0, none⟩), .pointer (some ⟨b3, 0 + 0, none⟩), .int .i64 bt.c, .int .i64 (lastOf f bt.c), .int .i64 (IntKind.i64.wrap (lastOf f bt.c + 1)), .bool (bt.q != IntKind.i64.wrap (lastOf f bt.c + 1)), .bool (bt.q != IntKind.i64.wrap (lastOf f bt.c + 1))])
    (Rs := fun D => FoldAt H p f :: Cells b4 zrc 39 :: Cells b3 (batCells bt (.slice sad bt.l.length scap)) 36 :: Fz H :: R) hs hw (ho := ⟨?_, ?_, ?_, ?_, ?c4_2, ?_, ?_, ?_, ?_, ?_, ?_, ?_, ?_, ?c13_2, ?_, ?_, ?_, trivial⟩) (k := ?k_2)
  case c4_2 =>
    intro LD D a W hcl hi hp hs hw
    repeat (first | (refine sxv hs hw ?_; clear hs; intro a hs) | refine sxc hs ?_ | (refine sxa hs hw ?_; clear hs hw; intro a b W hw hs) | (refine sxs hs hw ?_; clear hs hw; intro W hs hw))
    refine st_call hs (hc := op_MayBatch bt.c bt.q bt.l _ _ hb.c hb.q hb.ops (hw.rdH (by repeat (first | exact In.hd | apply In.tl)) hr) (hT.keep (hw.endF (by repeat (first | exact In.hd | apply In.tl)) hH))) (k := ?_); rintro e0 W1 ⟨rfl, hb⟩; refine ⟨_, rfl, ?_⟩; clear hs; intro a hs; replace hw := hw.below hb; clear hb
    rw [show mayBatch bt.c bt.q bt.l = mayB bt from rfl, hm] at hs
    repeat (first | (refine sxv hs hw ?_; clear hs; intro a hs) | refine sxc hs ?_ | (refine sxa hs hw ?_; clear hs hw; intro a b W hw hs) | (refine sxs hs hw ?_; clear hs hw; intro W hs hw))
    exact ⟨hs, hw⟩
  case c13_2 =>
    intro LD D a W hcl hi hp hs hw
    repeat (first | (refine sxv hs hw ?_; clear hs; intro a hs) | refine sxc hs ?_ | (refine sxa hs hw ?_; clear hs hw; intro a b W hw hs) | (refine sxs hs hw ?_; clear hs hw; intro W hs hw))
    refine st_call hs (hc := fold_Last w0 _ H p f bt.c _ hw) (k := ?_); rintro e0 W1 ⟨rfl, hw1⟩; refine ⟨_, rfl, ?_⟩; clear hs hw; intro a hs; have hw := hw1; clear hw1
    repeat (first | (refine sxv hs hw ?_; clear hs; intro a hs) | refine sxc hs ?_ | (refine sxa hs hw ?_; clear hs hw; intro a b W hw hs) | (refine sxs hs hw ?_; clear hs hw; intro W hs hw))
    exact ⟨hs, hw⟩
  case k_2 =>
    clear hs hw
    intro a W hs hw
    replace hw : Has 0 w0 W (FoldAt H p f :: Cells b4 zrc 39 :: Cells b3 (batCells bt (.slice sad bt.l.length scap)) 36 :: Fz H :: R) := hw
    replace hs : Slots a 58 [(0, .pointer (some ⟨p, 0, none⟩)), (3, .pointer (some ⟨b3, 0, none⟩)), (4, .pointer (some ⟨b4, 0, none⟩)), (5, .bool false), (23, .bool (bt.q != IntKind.i64.wrap (lastOf f bt.c + 1)))] := hs.of ⟨rfl, rfl, rfl, rfl, rfl, trivial⟩
    repeat (first | (refine sxv hs hw ?_; clear hs; intro a hs) | refine sxc hs ?_ | (refine sxa hs hw ?_; clear hs hw; intro a b W hw hs) | (refine sxs hs hw ?_; clear hs hw; intro W hs hw))
    cases hq : (bt.q != IntKind.i64.wrap (lastOf f bt.c + 1)) with
    | true =>
      have hN : next f bt = (f, zeroRow, false) := by
        unfold next nextB
        have : (bt.q == IntKind.i64.wrap (lastOf f bt.c + 1)) = false := by simpa using hq
        rw [hm, this]; rfl
      rw [hN]
      rw [hq] at hs
      repeat (first | (refine sxv hs hw ?_; clear hs; intro a hs) | refine sxc hs ?_ | (refine sxa hs hw ?_; clear hs hw; intro a b W hw hs) | (refine sxs hs hw ?_; clear hs hw; intro W hs hw))
      refine rc2 hs rfl rfl hw (In.tl In.hd) rfl rfl ?_
      exact ⟨.slice none 0 0, H, rfl, Fh.le.refl _, ops_nil H, hw.sub (List.Sublist.cons_cons _ (List.Sublist.cons _ (List.Sublist.cons _ (List.Sublist.refl _))))⟩
    | false =>
    have hN : next f bt = (nextF f bt, nextR f bt, true) := by
      unfold next nextB
      have : (bt.q == IntKind.i64.wrap (lastOf f bt.c + 1)) = true := by simpa using hq
      rw [hm, this]; rfl
    rw [hN]
    rw [hq] at hs
    obtain ⟨pd, xs, ht, hw⟩ := foldOpen hw
    repeat (first | (refine sxv hs hw ?_; clear hs; intro a hs) | refine sxc hs ?_ | (refine sxa hs hw ?_; clear hs hw; intro a b W hw hs) | (refine sxs hs hw ?_; clear hs hw; intro W hs hw))
    have hw : Has 0 w0 W (Cells p (foldCells (IntKind.i64.wrap (f.place + 1)) pd xs) 126 :: DocAt pd f.d :: Fz H :: Free :: Cells b4 zrc 39 :: Cells b3 (batCells bt (.slice sad bt.l.length scap)) 36 :: R) := hw.free.perm (by repeat (first | exact List.Perm.refl _ | refine perm_pick (by repeat (first | exact Pick.hd | apply Pick.tl)) ?_))
    refine rg_drawU (σ := Value × Fh × Nat) (V := fun u => [.pointer (some ⟨p, 0, none⟩), .pointer (some ⟨p, 0, none⟩), .pointer (some ⟨p, 0 + 0, none⟩), .int .i64 (IntKind.i64.wrap (f.place + 1)), .agg ⟨batCells bt (.slice sad bt.l.length scap)⟩, .pointer (some ⟨p, 0, none⟩), .pointer (some ⟨p, 0, none⟩), .pointer (some ⟨p, 0 + 1, none⟩), .pointer (some ⟨pd, 0, none⟩), .pointer (some ⟨b3, 0 + 2, none⟩), .slice sad bt.l.length scap, .int .i64 (applyL f.d bt.l).1, .agg ⟨rowCells (nextR f bt) (.slice sad bt.l.length scap)⟩, .agg ⟨rowCells (nextR f bt) (u 13).1⟩, .pointer (some ⟨(u 14).2.2, 0, none⟩), .bool true])
      (Rs := fun u D => Cells p (foldCells (IntKind.i64.wrap (f.place + 1)) pd xs) 126 :: (if D 11 then DocAt pd (applyL f.d bt.l).2 else DocAt pd f.d) :: (if D 13 then FzF (u 13).2.1 (H.le (u 13).2.1 ∧ OpsH (u 13).2.1 (u 13).1 bt.l) else Fz H) :: (if D 14 then Cells (u 14).2.2 (if D 15 then rowCells (nextR f bt) (u 13).1 else zrc) 39 else Free) :: Cells b4 zrc 39 :: Cells b3 (batCells bt (.slice sad bt.l.length scap)) 36 :: R) (fun _ => (.nilIface, H, 0)) hs hw (hVu := ?vu_3) (ho := ⟨?_, ?_, ?_, ?_, ?_, ?_, ?_, ?_, ?_, ?_, ?_, ?c11_3, ?_, ?c13_3, ?c14_3, ?c15_3, trivial⟩) (k := ?k_3)
    case vu_3 =>
      intro u u' j h
      rcases j with _ | _ | _ | _ | _ | _ | _ | _ | _ | _ | _ | _ | _ | _ | _ | j
      all_goals first | rfl | simp [h]
    case c11_3 =>
      intro u LD D a W hcl hi hp hs hw
      have h12 := Go.Sx.not_done hcl hi 12 (by kernel_rfl)
      have h13 := Go.Sx.not_done hcl h12 13 (by kernel_rfl)
      simp only [hi, h13, Bool.false_eq_true, if_false] at hw
      repeat (first | (refine sxv hs hw ?_; clear hs; intro a hs) | refine sxc hs ?_ | (refine sxa hs hw ?_; clear hs hw; intro a b W hw hs) | (refine sxs hs hw ?_; clear hs hw; intro W hs hw))
      have hw : Has 0 w0 W (DocAt pd f.d :: Cells p (foldCells (IntKind.i64.wrap (f.place + 1)) pd xs) 126 :: Fz H :: (if D 14 then Cells (u 14).2.2 (if D 15 then rowCells (nextR f bt) (u 13).1 else zrc) 39 else Free) :: Cells b4 zrc 39 :: Cells b3 (batCells bt (.slice sad bt.l.length scap)) 36 :: R) := hw.perm (by repeat (first | exact List.Perm.refl _ | refine perm_pick (by repeat (first | exact Pick.hd | apply Pick.tl)) ?_))
      refine st_call hs (hc := doc_ApplyL w0 _ H pd f.d bt.l _ _ hb.ops hr (by repeat (first | exact In.hd | apply In.tl)) hH hT hw) (k := ?_); rintro e0 W1 ⟨rfl, hw1⟩; refine ⟨_, rfl, ?_⟩; clear hs hw; intro a hs; have hw := hw1; clear hw1
      repeat (first | (refine sxv hs hw ?_; clear hs; intro a hs) | refine sxc hs ?_ | (refine sxa hs hw ?_; clear hs hw; intro a b W hw hs) | (refine sxs hs hw ?_; clear hs hw; intro W hs hw))
      refine Or.inl ⟨hs, ?_⟩
      show Has 0 w0 _ (Cells p (foldCells (IntKind.i64.wrap (f.place + 1)) pd xs) 126 :: DocAt pd (applyL f.d bt.l).2 :: (if (Nat.beq 13 11 || D 13) = true then _ else _) :: (if D 14 then Cells (u 14).2.2 (if D 15 then rowCells (nextR f bt) (u 13).1 else zrc) 39 else Free) :: Cells b4 zrc 39 :: Cells b3 (batCells bt (.slice sad bt.l.length scap)) 36 :: R)
      rw [h13]
      exact hw.swap2
    case c13_3 =>
      intro u LD D a W hcl hi hp hs hw
      have h15 := Go.Sx.not_done hcl hi 15 (by kernel_rfl)
      simp only [hi, h15, Bool.false_eq_true, if_false] at hw
      repeat (first | (refine sxv hs hw ?_; clear hs; intro a hs) | refine sxc hs ?_ | (refine sxa hs hw ?_; clear hs hw; intro a b W hw hs) | (refine sxs hs hw ?_; clear hs hw; intro W hs hw))
      have hw : Has 0 w0 W (Fz H :: Cells p (foldCells (IntKind.i64.wrap (f.place + 1)) pd xs) 126 :: (if D 11 then DocAt pd (applyL f.d bt.l).2 else DocAt pd f.d) :: (if D 14 then Cells (u 14).2.2 zrc 39 else Free) :: Cells b4 zrc 39 :: Cells b3 (batCells bt (.slice sad bt.l.length scap)) 36 :: R) := hw.perm (by repeat (first | exact List.Perm.refl _ | refine perm_pick (by repeat (first | exact Pick.hd | apply Pick.tl)) ?_))
      refine st_call hs (hc := fold_own w0 _ H (nextR f bt) _ _ (show (nextR f bt).b.l.length ≤ 1000 from Nat.le_trans hl8 (by decide)) hr hw) (k := ?_); rintro e0 W1 ⟨sv', H', rfl, h1, h2, hw1⟩; refine ⟨_, rfl, ?_⟩; clear hs hw; intro a hs; have hw := hw1; clear hw1
      repeat (first | (refine sxv hs hw ?_; clear hs; intro a hs) | refine sxc hs ?_ | (refine sxa hs hw ?_; clear hs hw; intro a b W hw hs) | (refine sxs hs hw ?_; clear hs hw; intro W hs hw))
      refine Or.inr ⟨(sv', H', 0), hs, ?_⟩
      have hw := hw.fzf (q := H.le H' ∧ OpsH H' sv' bt.l) ⟨h1, h2⟩
      show Has 0 w0 _ (Cells p (foldCells (IntKind.i64.wrap (f.place + 1)) pd xs) 126 :: (if D 11 then DocAt pd (applyL f.d bt.l).2 else DocAt pd f.d) :: FzF H' (H.le H' ∧ OpsH H' sv' bt.l) :: (if D 14 then Cells (u 14).2.2 (if (Nat.beq 15 13 || D 15) = true then _ else _) 39 else Free) :: Cells b4 zrc 39 :: Cells b3 (batCells bt (.slice sad bt.l.length scap)) 36 :: R)
      rw [h15]
      exact hw.perm (by repeat (first | exact List.Perm.refl _ | refine perm_pick (by repeat (first | exact Pick.hd | apply Pick.tl)) ?_))
    case c14_3 =>
      intro u LD D a W hcl hi hp hs hw
      have h15 := Go.Sx.not_done hcl hi 15 (by kernel_rfl)
      simp only [hi, Bool.false_eq_true, if_false] at hw
      repeat (first | (refine sxv hs hw ?_; clear hs; intro a hs) | refine sxc hs ?_ | (refine sxa hs hw ?_; clear hs hw; intro a b W hw hs) | (refine sxs hs hw ?_; clear hs hw; intro W hs hw))
      refine Or.inr ⟨(.nilIface, H, _), hs, ?_⟩
      show Has 0 w0 _ (Cells p (foldCells (IntKind.i64.wrap (f.place + 1)) pd xs) 126 :: (if D 11 then DocAt pd (applyL f.d bt.l).2 else DocAt pd f.d) :: (if D 13 then FzF (u 13).2.1 (H.le (u 13).2.1 ∧ OpsH (u 13).2.1 (u 13).1 bt.l) else Fz H) :: Cells _ (if (Nat.beq 15 14 || D 15) = true then _ else _) 39 :: Cells b4 zrc 39 :: Cells b3 (batCells bt (.slice sad bt.l.length scap)) 36 :: R)
      rw [h15]
      exact hw.fill (Upd.tl (Upd.tl (Upd.tl Upd.hd)))
    case c15_3 =>
      intro u LD D a W hcl hi hp hs hw
      have h13 := Go.Sx.done hp 13 (by kernel_rfl)
      have h14 := Go.Sx.done hp 14 (by kernel_rfl)
      simp only [hi, h13, h14, Bool.false_eq_true, if_false, if_true] at hw
      have hv : OpsH (u 13).2.1 (u 13).1 bt.l := by
        have hw2 := hw.perm (B := FzF (u 13).2.1 (H.le (u 13).2.1 ∧ OpsH (u 13).2.1 (u 13).1 bt.l) :: Cells p (foldCells (IntKind.i64.wrap (f.place + 1)) pd xs) 126 :: (if D 11 then DocAt pd (applyL f.d bt.l).2 else DocAt pd f.d) :: Cells (u 14).2.2 zrc 39 :: Cells b4 zrc 39 :: Cells b3 (batCells bt (.slice sad bt.l.length scap)) 36 :: R) (by repeat (first | exact List.Perm.refl _ | refine perm_pick (by repeat (first | exact Pick.hd | apply Pick.tl)) ?_))
        exact hw2.unfzf.1.2
      obtain ⟨tad, tcap, e13⟩ := hv.slice
      refine st_store hs (hw := hw) (vs := rowCells (nextR f bt) (u 13).1) (h1 := by rw [e13]; rfl) (k := ?_); clear hs hw; intro W hs hw
      repeat (first | (refine sxv hs hw ?_; clear hs; intro a hs) | refine sxc hs ?_ | (refine sxa hs hw ?_; clear hs hw; intro a b W hw hs) | (refine sxs hs hw ?_; clear hs hw; intro W hs hw))
      refine Or.inl ⟨hs, ?_⟩
      show Has 0 w0 _ (Cells p (foldCells (IntKind.i64.wrap (f.place + 1)) pd xs) 126 :: (if D 11 then DocAt pd (applyL f.d bt.l).2 else DocAt pd f.d) :: (if (Nat.beq 13 15 || D 13) = true then _ else _) :: (if (Nat.beq 14 15 || D 14) = true then _ else _) :: Cells b4 zrc 39 :: Cells b3 (batCells bt (.slice sad bt.l.length scap)) 36 :: R)
      rw [h13, h14]
      exact hw
    case k_3 =>
      clear hs hw
      intro u a W hs hw
      replace hw : Has 0 w0 W (Cells p (foldCells (IntKind.i64.wrap (f.place + 1)) pd xs) 126 :: DocAt pd (applyL f.d bt.l).2 :: FzF (u 13).2.1 (H.le (u 13).2.1 ∧ OpsH (u 13).2.1 (u 13).1 bt.l) :: Cells (u 14).2.2 (rowCells (nextR f bt) (u 13).1) 39 :: Cells b4 zrc 39 :: Cells b3 (batCells bt (.slice sad bt.l.length scap)) 36 :: R) := hw
      replace hs : Slots a 58 [(0, .pointer (some ⟨p, 0, none⟩)), (3, .pointer (some ⟨b3, 0, none⟩)), (4, .pointer (some ⟨b4, 0, none⟩)), (5, .bool false), (6, .pointer (some ⟨(u 14).2.2, 0, none⟩))] := hs.of ⟨rfl, rfl, rfl, rfl, rfl, trivial⟩
      generalize (u 14).2.2 = b6 at *
      generalize (u 13).2.1 = H1 at *
      generalize (u 13).1 = v1 at *
      clear u
      have hw : Has 0 w0 W (FzF H1 (H.le H1 ∧ OpsH H1 v1 bt.l) :: Cells p (foldCells (IntKind.i64.wrap (f.place + 1)) pd xs) 126 :: DocAt pd (applyL f.d bt.l).2 :: Cells b6 (rowCells (nextR f bt) v1) 39 :: Cells b4 zrc 39 :: Cells b3 (batCells bt (.slice sad bt.l.length scap)) 36 :: R) := hw.perm (by repeat (first | exact List.Perm.refl _ | refine perm_pick (by repeat (first | exact Pick.hd | apply Pick.tl)) ?_))
      obtain ⟨⟨hle1, hv1⟩, hw⟩ := hw.unfzf
      obtain ⟨vad, vcap, rfl⟩ := hv1.slice
      have ht1 : ToldOk H1 f.told xs := ⟨ht.1, ht.2.mono (TolIn.le hle1)⟩
      have hlen := fold_len (IntKind.i64.wrap (f.place + 1)) pd ht
      have hset := told_set ht1 (c := bt.c.toNat) (by omega) (x := (bt.q, nextR f bt)) (sv := .slice vad bt.l.length vcap) hv1
      repeat (first | (refine sxv hs hw ?_; clear hs; intro a hs) | refine sxc hs ?_ | (refine sxa hs hw ?_; clear hs hw; intro a b W hw hs) | (refine sxs hs hw ?_; clear hs hw; intro W hs hw))
      have hw : Has 0 w0 W (Cells p (foldCells (IntKind.i64.wrap (f.place + 1)) pd xs) 126 :: Fz H1 :: DocAt pd (applyL f.d bt.l).2 :: Cells b6 (rowCells (nextR f bt) (.slice vad bt.l.length vcap)) 39 :: Cells b4 zrc 39 :: Cells b3 (batCells bt (.slice sad bt.l.length scap)) 36 :: R) := hw.perm (by repeat (first | exact List.Perm.refl _ | refine perm_pick (by repeat (first | exact Pick.hd | apply Pick.tl)) ?_))
      refine rg_draw (V := [.pointer (some ⟨p, 0, none⟩), .pointer (some ⟨b3, 0 + 0, none⟩), .int .i64 bt.c, .pointer (some ⟨b3, 0 + 1, none⟩), .int .i64 bt.q, .agg ⟨rowCells (nextR f bt) (.slice vad bt.l.length vcap)⟩, .agg ⟨.int .i64 bt.q :: rowCells (nextR f bt) (.slice vad bt.l.length vcap)⟩, .pointer (some ⟨p, 0, none⟩), .pointer (some ⟨p, 0 + 2, none⟩), .pointer (some ⟨p, 0 + 2 + bt.c.toNat * 6, none⟩), .bool true])
        (Rs := fun D => (if D 10 then Cells p (foldCells (IntKind.i64.wrap (f.place + 1)) pd (ov xs (bt.c.toNat * 6) (.int .i64 bt.q :: rowCells (nextR f bt) (.slice vad bt.l.length vcap)))) 126 else Cells p (foldCells (IntKind.i64.wrap (f.place + 1)) pd xs) 126) :: Fz H1 :: DocAt pd (applyL f.d bt.l).2 :: Cells b6 (rowCells (nextR f bt) (.slice vad bt.l.length vcap)) 39 :: Cells b4 zrc 39 :: Cells b3 (batCells bt (.slice sad bt.l.length scap)) 36 :: R) hs hw (ho := ⟨?_, ?_, ?_, ?_, ?_, ?_, ?_, ?_, ?_, ?c9_4, ?c10_4, trivial⟩) (k := ?k_4)
      case c9_4 =>
        intro LD D a W hcl hi hp hs hw
        refine st_index_arr hs (h0 := by omega) (h1 := by omega) (c := ?_); clear hs; intro a hs
        repeat (first | (refine sxv hs hw ?_; clear hs; intro a hs) | refine sxc hs ?_ | (refine sxa hs hw ?_; clear hs hw; intro a b W hw hs) | (refine sxs hs hw ?_; clear hs hw; intro W hs hw))
        exact ⟨hs, hw⟩
      case c10_4 =>
        intro LD D a W hcl hi hp hs hw
        simp only [hi, Bool.false_eq_true, if_false] at hw
        refine st_store hs (hw := hw) (vs := .int .i64 bt.q :: rowCells (nextR f bt) (.slice vad bt.l.length vcap)) (hl := by rw [hlen, Nat.ble_eq]; show 0 + 2 + bt.c.toNat * 6 + 6 ≤ 38; omega) (k := ?_); clear hs hw; intro W hs hw
        repeat (first | (refine sxv hs hw ?_; clear hs; intro a hs) | refine sxc hs ?_ | (refine sxa hs hw ?_; clear hs hw; intro a b W hw hs) | (refine sxs hs hw ?_; clear hs hw; intro W hs hw))
        refine ⟨hs, ?_⟩
        have e : ov (foldCells (IntKind.i64.wrap (f.place + 1)) pd xs) (0 + 2 + bt.c.toNat * 6) (.int .i64 bt.q :: rowCells (nextR f bt) (.slice vad bt.l.length vcap)) = foldCells (IntKind.i64.wrap (f.place + 1)) pd (ov xs (bt.c.toNat * 6) (.int .i64 bt.q :: rowCells (nextR f bt) (.slice vad bt.l.length vcap))) := by
          rw [show 0 + 2 + bt.c.toNat * 6 = bt.c.toNat * 6 + 1 + 1 by omega]
          rfl
        rw [e] at hw
        exact hw
      case k_4 =>
        clear hs hw
        intro a W hs hw
        replace hw : Has 0 w0 W (Cells p (foldCells (IntKind.i64.wrap (f.place + 1)) pd (ov xs (bt.c.toNat * 6) (.int .i64 bt.q :: rowCells (nextR f bt) (.slice vad bt.l.length vcap)))) 126 :: Fz H1 :: DocAt pd (applyL f.d bt.l).2 :: Cells b6 (rowCells (nextR f bt) (.slice vad bt.l.length vcap)) 39 :: Cells b4 zrc 39 :: Cells b3 (batCells bt (.slice sad bt.l.length scap)) 36 :: R) := hw
        replace hs : Slots a 58 [(0, .pointer (some ⟨p, 0, none⟩)), (4, .pointer (some ⟨b4, 0, none⟩)), (5, .bool false), (6, .pointer (some ⟨b6, 0, none⟩))] := hs.of ⟨rfl, rfl, rfl, rfl, trivial⟩
        have hw : Has 0 w0 W (Cells p (foldCells (IntKind.i64.wrap (f.place + 1)) pd (ov xs (bt.c.toNat * 6) (.int .i64 bt.q :: rowCells (nextR f bt) (.slice vad bt.l.length vcap)))) 126 :: DocAt pd (applyL f.d bt.l).2 :: Fz H1 :: Cells b6 (rowCells (nextR f bt) (.slice vad bt.l.length vcap)) 39 :: Cells b4 zrc 39 :: Cells b3 (batCells bt (.slice sad bt.l.length scap)) 36 :: R) := hw.perm (by repeat (first | exact List.Perm.refl _ | refine perm_pick (by repeat (first | exact Pick.hd | apply Pick.tl)) ?_))
        have hw := foldShut (f := nextF f bt) hw hset
        repeat (first | (refine sxv hs hw ?_; clear hs; intro a hs) | refine sxc hs ?_ | (refine sxa hs hw ?_; clear hs hw; intro a b W hw hs) | (refine sxs hs hw ?_; clear hs hw; intro W hs hw))
        have hw : Has 0 w0 W (Fz H1 :: FoldAt H1 p (nextF f bt) :: Cells b6 (rowCells (nextR f bt) (.slice vad bt.l.length vcap)) 39 :: Cells b4 zrc 39 :: Cells b3 (batCells bt (.slice sad bt.l.length scap)) 36 :: R) := hw.swap2
        refine st_call hs (hc := fold_own w0 _ H1 (nextR f bt) _ _ (show (nextR f bt).b.l.length ≤ 1000 from Nat.le_trans hl8 (by decide)) hv1 hw) (k := ?_); rintro e0 W1 ⟨sv', H2, rfl, h1, h2, hw1⟩; refine ⟨_, rfl, ?_⟩; clear hs hw; intro a hs; have hw := hw1; clear hw1
        obtain ⟨uad, ucap, rfl⟩ := h2.slice
        repeat (first | (refine sxv hs hw ?_; clear hs; intro a hs) | refine sxc hs ?_ | (refine sxa hs hw ?_; clear hs hw; intro a b W hw hs) | (refine sxs hs hw ?_; clear hs hw; intro W hs hw))
        have hw : Has 0 w0 _ (Cells b4 (rowCells (nextR f bt) (.slice uad bt.l.length ucap)) 39 :: FoldAt H1 p (nextF f bt) :: Fz H2 :: Cells b6 (rowCells (nextR f bt) (.slice vad bt.l.length vcap)) 39 :: Cells b3 (batCells bt (.slice sad bt.l.length scap)) 36 :: R) := hw.perm (by repeat (first | exact List.Perm.refl _ | refine perm_pick (by repeat (first | exact Pick.hd | apply Pick.tl)) ?_))
        refine rc2 hs rfl rfl hw In.hd rfl rfl ?_
        have hw := foldLe (hw.sub (List.Sublist.cons _ (List.Sublist.refl _))) h1
        exact ⟨_, H2, rfl, hle1.trans h1, h2, hw.sub (List.Sublist.cons_cons _ (List.Sublist.cons_cons _ (List.Sublist.cons _ (List.Sublist.cons _ (List.Sublist.refl _)))))⟩
      all_goals
        intro LD D a W hcl hi hp hs hw
        repeat (first | (refine sxv hs hw ?_; clear hs; intro a hs) | refine sxc hs ?_ | (refine sxa hs hw ?_; clear hs hw; intro a b W hw hs) | (refine sxs hs hw ?_; clear hs hw; intro W hs hw))
        exact ⟨hs, hw⟩
    all_goals
      intro u LD D a W hcl hi hp hs hw
      repeat (first | (refine sxv hs hw ?_; clear hs; intro a hs) | refine sxc hs ?_ | (refine sxa hs hw ?_; clear hs hw; intro a b W hw hs) | (refine sxs hs hw ?_; clear hs hw; intro W hs hw))
      exact Or.inl ⟨hs, hw⟩
  all_goals
    intro LD D a W hcl hi hp hs hw
    repeat (first | (refine sxv hs hw ?_; clear hs; intro a hs) | refine sxc hs ?_ | (refine sxa hs hw ?_; clear hs hw; intro a b W hw hs) | (refine sxs hs hw ?_; clear hs hw; intro W hs hw) | ((with_reducible first | refine st_ptrSome hs (k := ?_) | refine st_ptrNone hs (k := ?_)); clear hs; intro a hs))
    exact ⟨hs, hw⟩
end Go.Proofs.YtmalklakaalaoaaGreatDoor.Sw

set_option linter.unusedVariables false
set_option maxRecDepth 10000
namespace Go.Sx
open Go.RowKit
theorem run_eqFields_agg {P : Program} {d : Nat} {xs ys : List Value} {f : Field} {fs : List Field} {W : World} {b : Bool} {z cx cy : List Value} (u : Ty P f.type true z) (hn : (f.name != "_") = true) (hx : cut xs f.offset z.length = cx) (hy : cut ys f.offset z.length = cy) (he : (Op.equalIn d f.type (.agg ⟨cx⟩) (.agg ⟨cy⟩)).run P W = .ok b W) :
    (Op.eqFields d ⟨xs⟩ ⟨ys⟩ (f :: fs)).run P W = if b then (Op.eqFields d ⟨xs⟩ ⟨ys⟩ fs).run P W else .ok false W := by
  have hn' : f.name ≠ "_" := by simpa using hn
  subst hx hy
  rw [cut_eq, cut_eq] at he
  simp only [Op.eqFields, if_pos hn', Sem.run_bind, part, u.isAgg, Result.andThen_ok, if_true, u.sizeOf, Sem.run_pure]
  simp only [List.extract_toArray, List.extract_eq_take_drop]
  rw [show f.offset + z.length - f.offset = z.length by omega, he]
  cases b <;> simp
theorem run_eq3d {P : Program} (d : Nat) {T TI TN TS : TypeId} {zi zn zs : List Value} [IntTy P TI .i64] [IntTy P TN .i64] [StrTy P TS] [ui : Ty P TI false zi] [un : Ty P TN false zn] [us : Ty P TS false zs] (ht : P.underlying T = some (.struct (P.fieldsOf T))) (hp : P.stoodInHeld T = false)
    (hF : (P.fieldsOf T).toList.map (fun f => (f.name != "_", f.offset, f.type)) = [(true, 0, TI), (true, 1, TN), (true, 2, TS)]) (k n : Int) (s : ByteArray) (k' n' : Int) (s' : ByteArray) (W : World) :
    (Op.equalIn (d + 2) T (.agg ⟨[.int .i64 k, .int .i64 n, .string s]⟩) (.agg ⟨[.int .i64 k', .int .i64 n', .string s']⟩)).run P W = .ok ((k == k') && (n == n') && (s.toList == s'.toList)) W := by
  rw [run_equalIn_agg W (d + 1) T _ _ ht hp]
  obtain ⟨f0, r0, e0, m0, hr0⟩ := List.map_eq_cons_iff.1 hF
  obtain ⟨f1, r1, e1, m1, hr1⟩ := List.map_eq_cons_iff.1 hr0
  obtain ⟨f2, r2, e2, m2, hr2⟩ := List.map_eq_cons_iff.1 hr1
  have hr3 := List.map_eq_nil_iff.1 hr2
  subst hr3 e2 e1
  rw [e0]
  simp only [Prod.mk.injEq] at m0 m1 m2
  obtain ⟨a0, b0, c0⟩ := m0
  obtain ⟨a1, b1, c1⟩ := m1
  obtain ⟨a2, b2, c2⟩ := m2
  rw [run_eqFields_cons (x := .int .i64 k) (y := .int .i64 k') (b := k == k') (z := zi) (by rw [c0]; exact ui) a0 (by rw [b0]; rfl) (by rw [b0]; rfl) (by rw [c0]; exact run_equalIn_int W d TI .i64 .i64 k k' (IntTy.out))]
  rw [run_eqFields_cons (x := .int .i64 n) (y := .int .i64 n') (b := n == n') (z := zn) (by rw [c1]; exact un) a1 (by rw [b1]; rfl) (by rw [b1]; rfl) (by rw [c1]; exact run_equalIn_int W d TN .i64 .i64 n n' (IntTy.out))]
  rw [run_eqFields_cons (x := .string s) (y := .string s') (b := s.toList == s'.toList) (z := zs) (by rw [c2]; exact us) a2 (by rw [b2]; rfl) (by rw [b2]; rfl) (by rw [c2]; exact run_equalIn_string W d TS s s' (StrTy.out))]
  simp only [Op.eqFields, Sem.run_pure]
  cases k == k' <;> cases n == n' <;> cases s.toList == s'.toList <;> rfl
end Go.Sx
namespace Go.Proofs.YtmalklakaalaoaaGreatDoor.Sw
open Go.RowKit Go.Sx
-- pieces
theorem run_eqOp (o o' : OpD) (W : World) : (Op.equalIn 10000 95 (.agg ⟨opCells o⟩) (.agg ⟨opCells o'⟩)).run Tryz.prog W = .ok (eqOp o o') W := by
  rw [show (10000 : Nat) = 9999 + 1 from rfl, run_equalIn_agg W 9999 95 _ _ Tryz.underlying95 (by kernel_rfl)]
  have hF : (Program.fieldsOf Tryz.prog 95).toList.map (fun f => (f.name != "_", f.offset, f.type)) = [(true, 0, 3), (true, 1, 9), (true, 2, 93), (true, 5, 93), (true, 8, 2)] := by kernel_rfl
  obtain ⟨f0, r0, e0, m0, hr0⟩ := List.map_eq_cons_iff.1 hF
  obtain ⟨f1, r1, e1, m1, hr1⟩ := List.map_eq_cons_iff.1 hr0
  obtain ⟨f2, r2, e2, m2, hr2⟩ := List.map_eq_cons_iff.1 hr1
  obtain ⟨f3, r3, e3, m3, hr3⟩ := List.map_eq_cons_iff.1 hr2
  obtain ⟨f4, r4, e4, m4, hr4⟩ := List.map_eq_cons_iff.1 hr3
  have hr5 := List.map_eq_nil_iff.1 hr4
  subst hr5 e4 e3 e2 e1
  rw [e0]
  clear hF hr0 hr1 hr2 hr3 hr4 e0
  simp only [Prod.mk.injEq] at m0 m1 m2 m3 m4
  obtain ⟨a0, b0, c0⟩ := m0
  obtain ⟨a1, b1, c1⟩ := m1
  obtain ⟨a2, b2, c2⟩ := m2
  obtain ⟨a3, b3, c3⟩ := m3
  obtain ⟨a4, b4, c4⟩ := m4
  rw [run_eqFields_cons (x := .int .i64 o.kind) (y := .int .i64 o'.kind) (b := o.kind == o'.kind) (z := [.int .i64 0]) (by rw [c0]; infer_instance) a0 (by rw [b0]; rfl) (by rw [b0]; rfl) (by rw [c0]; exact run_equalIn_int W 9998 3 .i64 .i64 _ _ (IntTy.out))]
  rw [run_eqFields_cons (x := .string o.key) (y := .string o'.key) (b := o.key.toList == o'.key.toList) (z := [.string ⟨#[]⟩]) (by rw [c1]; infer_instance) a1 (by rw [b1]; rfl) (by rw [b1]; rfl) (by rw [c1]; exact run_equalIn_string W 9998 9 _ _ (StrTy.out))]
  rw [run_eqFields_agg (cx := [.int .i64 o.vk, .int .i64 o.vn, .string o.vs]) (cy := [.int .i64 o'.vk, .int .i64 o'.vn, .string o'.vs]) (b := rawEq o.vk o.vn o.vs o'.vk o'.vn o'.vs) (z := [.int .i64 0, .int .i64 0, .string ⟨#[]⟩]) (by rw [c2]; infer_instance) a2 (by rw [b2]; rfl) (by rw [b2]; rfl) (by rw [c2]; exact run_eq3d 9997 Tryz.underlying93 (by kernel_rfl) (by kernel_rfl : _ = [(true, 0, 3), (true, 1, 2), (true, 2, 9)]) _ _ _ _ _ _ W)]
  rw [run_eqFields_agg (cx := [.int .i64 o.ok, .int .i64 o.on, .string o.os]) (cy := [.int .i64 o'.ok, .int .i64 o'.on, .string o'.os]) (b := rawEq o.ok o.on o.os o'.ok o'.on o'.os) (z := [.int .i64 0, .int .i64 0, .string ⟨#[]⟩]) (by rw [c3]; infer_instance) a3 (by rw [b3]; rfl) (by rw [b3]; rfl) (by rw [c3]; exact run_eq3d 9997 Tryz.underlying93 (by kernel_rfl) (by kernel_rfl : _ = [(true, 0, 3), (true, 1, 2), (true, 2, 9)]) _ _ _ _ _ _ W)]
  rw [run_eqFields_cons (x := .int .i64 o.n) (y := .int .i64 o'.n) (b := o.n == o'.n) (z := [.int .i64 0]) (by rw [c4]; infer_instance) a4 (by rw [b4]; rfl) (by rw [b4]; rfl) (by rw [c4]; exact run_equalIn_int W 9998 2 .i64 .i64 _ _ (IntTy.out))]
  simp only [Op.eqFields, Sem.run_pure]
  unfold eqOp
  cases o.kind == o'.kind <;> cases o.key.toList == o'.key.toList <;> cases rawEq o.vk o.vn o.vs o'.vk o'.vn o'.vs <;> cases rawEq o.ok o.on o.os o'.ok o'.on o'.os <;> cases o.n == o'.n <;> rfl
section
variable {ops : Array Oper} {rest : List Oper} {Q : Exit → Act → World → Prop} {a : Act} {n : Nat} {L : List (Nat × Value)} {W : World} {d : Nat} {T S' : TypeId} {p : String} {e : Array Edge} {x y : Operand} {o o' : OpD}
theorem st_opNeq (hs : Slots a n L) (hx : ev L x = some (.agg ⟨opCells o⟩) := by with_unfolding_all exact rfl) (hy : ev L y = some (.agg ⟨opCells o'⟩) := by with_unfolding_all exact rfl) (hd : Nat.blt d n = true := by with_unfolding_all exact rfl)
    (c : ∀ a', Slots a' n ((d, .bool (!eqOp o o')) :: L) → wpList Tryz.prog ops Q rest a' W) : wpList Tryz.prog ops Q (⟨some d, .binOp .neq 95 x y S', T, p, e, none⟩ :: rest) a W :=
  st_value hs hd (by simp only [execOp, hs.ev hx, hs.ev hy, Sem.run_bind]; rw [run_eqGuard_agg W .neq 95 x y _ _ (by kernel_rfl)]; simp only [Result.andThen_ok]; rw [run_neq_struct, run_eqOp]; rfl) c
end
def eqL (l l' : List OpD) : Bool := (l.length == l'.length) && eqOps l l'
set_option maxHeartbeats 8000000 in
theorem slices_Equal (l : List OpD) (sv : Value) (l' : List OpD) (sv' : Value) (w : World) (r : Rd w 9 sv l.length (l.flatMap opCells)) (r' : Rd w 9 sv' l'.length (l'.flatMap opCells)) :
    Calls Tryz.prog 111 ⟨[sv, sv']⟩ w fun e w' => e = .returned (.bool (eqL l l')) ∧ Below w.heap.size w w' := by
  have hw := Has.start (G := 0) (w := w) (Nat.zero_le _)
  obtain ⟨sad, scap, rfl⟩ : ∃ ad cap, sv = .slice ad l.length cap := by obtain ⟨_, ad, cap, e, _⟩ := r; exact ⟨ad, cap, e⟩
  obtain ⟨tad, tcap, rfl⟩ : ∃ ad cap, sv' = .slice ad l'.length cap := by obtain ⟨_, ad, cap, e, _⟩ := r'; exact ⟨ad, cap, e⟩
  have hlen : l.length ≤ 9223372036854775807 := r.len
  refine enter Tryz.func111 Tryz.ntmps111 rfl rfl fun a hs => ?_
  repeat (first | (refine sxv hs hw ?_; clear hs; intro a hs) | refine sxc hs ?_ | (refine sxa hs hw ?_; clear hs hw; intro a b W hw hs) | (refine sxs hs hw ?_; clear hs hw; intro W hs hw))
  cases h2 : ((l.length : Int) != (l'.length : Int)) with
  | true =>
    rw [h2] at hs
    repeat (first | (refine sxv hs hw ?_; clear hs; intro a hs) | refine sxc hs ?_ | (refine sxa hs hw ?_; clear hs hw; intro a b W hw hs) | (refine sxs hs hw ?_; clear hs hw; intro W hs hw))
    have h3 : ¬ l.length = l'.length := by rw [bne_iff_ne] at h2; omega
    exact rt1 hs rfl rfl ⟨by simp [eqL, h3], hw.end (by repeat (first | exact In.hd | apply In.tl))⟩
  | false =>
  rw [h2] at hs
  repeat (first | (refine sxv hs hw ?_; clear hs; intro a hs) | refine sxc hs ?_ | (refine sxa hs hw ?_; clear hs hw; intro a b W hw hs) | (refine sxs hs hw ?_; clear hs hw; intro W hs hw))
  have hL : l.length = l'.length := by
    have : (l.length : Int) = (l'.length : Int) := by simpa using h2
    omega
  have hmb : eqL l l' = eqOps l l' := by simp [eqL, hL]
  rw [hmb]
  clear hmb h2
  refine st_loop (σ := Nat) (fun i => [(0, .slice sad l.length scap), (1, .slice tad l'.length tcap), (12, .int .i64 (l.length : Int)), (13, .int .i64 (i : Int))]) (fun _ => Old w 0 :: []) (fun i => i ≤ l.length ∧ eqOps (l.take i) (l'.take i) = true) (fun i => l.length - i) 0 ⟨Nat.zero_le _, rfl⟩ hs ⟨rfl, rfl, rfl, rfl, trivial⟩ hw ?_
  clear hs hw
  rintro i a W ⟨hi, ha⟩ hs hw
  repeat (first | (refine sxv hs hw ?_; clear hs; intro a hs) | refine sxc hs ?_ | (refine sxa hs hw ?_; clear hs hw; intro a b W hw hs) | (refine sxs hs hw ?_; clear hs hw; intro W hs hw))
  refine cd_split hs (kt := fun hcc => ?_) (kf := fun hcc => ?_)
  · have hi' : i < l.length := by simpa using hcc
    obtain ⟨o, hoi⟩ : ∃ o, l[i]? = some o := ⟨l[i], List.getElem?_eq_getElem hi'⟩
    obtain ⟨o', hoi'⟩ : ∃ o, l'[i]? = some o := ⟨l'[i], List.getElem?_eq_getElem (by omega)⟩
    have hnext := eqOps_snoc hoi hoi' ha
    have hall := eqOps_no hoi hoi'
    obtain ⟨g1, f1, rfl, hg1, hc1⟩ := op_at r hoi
    obtain ⟨g2, f2, rfl, hg2, hc2⟩ := op_at r' hoi'
    repeat (first | (refine sxv hs hw ?_; clear hs; intro a hs) | refine sxc hs ?_ | (refine sxa hs hw ?_; clear hs hw; intro a b W hw hs) | (refine sxs hs hw ?_; clear hs hw; intro W hs hw))
    refine rg_draw (V := [.slice (some ⟨g1, f1, none⟩) l.length scap, .int .i64 (i : Int), .pointer (some ⟨g1, f1 + i * 9, none⟩), .agg ⟨opCells o⟩, .slice (some ⟨g2, f2, none⟩) l'.length tcap, .int .i64 (i : Int), .pointer (some ⟨g2, f2 + i * 9, none⟩), .agg ⟨opCells o'⟩, .bool (!eqOp o o')])
      (Rs := fun D => Old w 0 :: []) hs hw (ho := ⟨?_, ?_, ?c2_c, ?c3_c, ?_, ?_, ?c6_c, ?c7_c, ?c8_c, trivial⟩) (k := ?k_c)
    case c2_c =>
      intro LD D a W hcl hi hp hs hw
      refine st_index_at hs (z := opCells ⟨0, ⟨#[]⟩, 0, 0, ⟨#[]⟩, 0, 0, ⟨#[]⟩, 0⟩) (h0 := by omega) (h1 := by omega) (c := ?_); clear hs; intro a hs
      repeat (first | (refine sxv hs hw ?_; clear hs; intro a hs) | refine sxc hs ?_ | (refine sxa hs hw ?_; clear hs hw; intro a b W hw hs) | (refine sxs hs hw ?_; clear hs hw; intro W hs hw))
      exact ⟨hs, hw⟩
    case c6_c =>
      intro LD D a W hcl hi hp hs hw
      refine st_index_at hs (z := opCells ⟨0, ⟨#[]⟩, 0, 0, ⟨#[]⟩, 0, 0, ⟨#[]⟩, 0⟩) (h0 := by omega) (h1 := by omega) (c := ?_); clear hs; intro a hs
      repeat (first | (refine sxv hs hw ?_; clear hs; intro a hs) | refine sxc hs ?_ | (refine sxa hs hw ?_; clear hs hw; intro a b W hw hs) | (refine sxs hs hw ?_; clear hs hw; intro W hs hw))
      exact ⟨hs, hw⟩
    case c3_c =>
      intro LD D a W hcl hi hp hs hw
      refine st_load_ats (z := opCells ⟨0, ⟨#[]⟩, 0, 0, ⟨#[]⟩, 0, 0, ⟨#[]⟩, 0⟩) hs (hc := fun j u h => ((hw.end In.hd).cell hg1).trans (hc1 j u h)) (hl := rfl) (c := ?_); clear hs; intro a hs
      repeat (first | (refine sxv hs hw ?_; clear hs; intro a hs) | refine sxc hs ?_ | (refine sxa hs hw ?_; clear hs hw; intro a b W hw hs) | (refine sxs hs hw ?_; clear hs hw; intro W hs hw))
      exact ⟨hs, hw⟩
    case c7_c =>
      intro LD D a W hcl hi hp hs hw
      refine st_load_ats (z := opCells ⟨0, ⟨#[]⟩, 0, 0, ⟨#[]⟩, 0, 0, ⟨#[]⟩, 0⟩) hs (hc := fun j u h => ((hw.end In.hd).cell hg2).trans (hc2 j u h)) (hl := rfl) (c := ?_); clear hs; intro a hs
      repeat (first | (refine sxv hs hw ?_; clear hs; intro a hs) | refine sxc hs ?_ | (refine sxa hs hw ?_; clear hs hw; intro a b W hw hs) | (refine sxs hs hw ?_; clear hs hw; intro W hs hw))
      exact ⟨hs, hw⟩
    case c8_c =>
      intro LD D a W hcl hi hp hs hw
      refine st_opNeq hs (c := ?_); clear hs; intro a hs
      repeat (first | (refine sxv hs hw ?_; clear hs; intro a hs) | refine sxc hs ?_ | (refine sxa hs hw ?_; clear hs hw; intro a b W hw hs) | (refine sxs hs hw ?_; clear hs hw; intro W hs hw))
      exact ⟨hs, hw⟩
    case k_c =>
      clear hs hw
      intro a W hs hw
      replace hs : Slots a 26 [(24, .bool (!eqOp o o')), (0, .slice (some ⟨g1, f1, none⟩) l.length scap), (1, .slice (some ⟨g2, f2, none⟩) l'.length tcap), (12, .int .i64 (l.length : Int)), (13, .int .i64 (i : Int))] := hs.of ⟨rfl, rfl, rfl, rfl, rfl, trivial⟩
      cases he : eqOp o o' with
      | false =>
        rw [he] at hs
        repeat (first | (refine sxv hs hw ?_; clear hs; intro a hs) | refine sxc hs ?_ | (refine sxa hs hw ?_; clear hs hw; intro a b W hw hs) | (refine sxs hs hw ?_; clear hs hw; intro W hs hw))
        exact rt1 hs rfl rfl ⟨by rw [hall he], hw.end (by repeat (first | exact In.hd | apply In.tl))⟩
      | true =>
        rw [he] at hs hnext
        repeat (first | (refine sxv hs hw ?_; clear hs; intro a hs) | refine sxc hs ?_ | (refine sxa hs hw ?_; clear hs hw; intro a b W hw hs) | (refine sxs hs hw ?_; clear hs hw; intro W hs hw))
        exact st_again (i + 1) hs hw ⟨hi', hnext⟩ (by show l.length - (i + 1) < l.length - i; omega) ⟨rfl, rfl, rfl, int_eq (by show IntKind.i64.wrap ((i : Int) + 1) = ((i + 1 : Nat) : Int); rw [IntWalk.i64_in _ (by omega)]; omega), trivial⟩
    all_goals
      intro LD D a W hcl hi hp hs hw
      repeat (first | (refine sxv hs hw ?_; clear hs; intro a hs) | refine sxc hs ?_ | (refine sxa hs hw ?_; clear hs hw; intro a b W hw hs) | (refine sxs hs hw ?_; clear hs hw; intro W hs hw))
      exact ⟨hs, hw⟩
  · have hi' : i = l.length := by have : ¬ i < l.length := by simpa using hcc
                                  omega
    subst hi'
    rw [List.take_length, hL, List.take_length] at ha
    repeat (first | (refine sxv hs hw ?_; clear hs; intro a hs) | refine sxc hs ?_ | (refine sxa hs hw ?_; clear hs hw; intro a b W hw hs) | (refine sxs hs hw ?_; clear hs hw; intro W hs hw))
    exact rt1 hs rfl rfl ⟨by rw [ha], hw.end (by repeat (first | exact In.hd | apply In.tl))⟩
def sameR (a b : RowD) : Bool := (a.place == b.place) && ((a.err == b.err) && ((a.b.c == b.b.c) && ((a.b.q == b.b.q) && eqL a.b.l b.b.l)))
set_option maxHeartbeats 8000000 in
theorem stream_Same (x y : RowD) (sv sv' : Value) (w : World) (r : Rd w 9 sv x.b.l.length (x.b.l.flatMap opCells)) (r' : Rd w 9 sv' y.b.l.length (y.b.l.flatMap opCells)) :
    Calls Tryz.prog 81 ⟨[.agg ⟨rowCells x sv⟩, .agg ⟨rowCells y sv'⟩]⟩ w fun e w' => e = .returned (.bool (sameR x y)) ∧ Below w.heap.size w w' := by
  have hw := Has.start (G := 0) (w := w) (Nat.zero_le _)
  refine enter Tryz.func81 Tryz.ntmps81 rfl rfl fun a hs => ?_
  repeat (first | (refine sxv hs hw ?_; clear hs; intro a hs) | refine sxc hs ?_ | (refine sxa hs hw ?_; clear hs hw; intro a b W hw hs) | (refine sxs hs hw ?_; clear hs hw; intro W hs hw))
  unfold sameR
  cases h1 : (x.place == y.place) with
  | false =>
    rw [h1] at hs
    repeat (first | (refine sxv hs hw ?_; clear hs; intro a hs) | refine sxc hs ?_ | (refine sxa hs hw ?_; clear hs hw; intro a b W hw hs) | (refine sxs hs hw ?_; clear hs hw; intro W hs hw))
    exact rt1 hs rfl rfl ⟨rfl, hw.end (by repeat (first | exact In.hd | apply In.tl))⟩
  | true =>
  rw [h1] at hs
  repeat (first | (refine sxv hs hw ?_; clear hs; intro a hs) | refine sxc hs ?_ | (refine sxa hs hw ?_; clear hs hw; intro a b W hw hs) | (refine sxs hs hw ?_; clear hs hw; intro W hs hw))
  cases h2 : (x.err == y.err) with
  | false =>
    rw [h2] at hs
    repeat (first | (refine sxv hs hw ?_; clear hs; intro a hs) | refine sxc hs ?_ | (refine sxa hs hw ?_; clear hs hw; intro a b W hw hs) | (refine sxs hs hw ?_; clear hs hw; intro W hs hw))
    exact rt1 hs rfl rfl ⟨rfl, hw.end (by repeat (first | exact In.hd | apply In.tl))⟩
  | true =>
  rw [h2] at hs
  repeat (first | (refine sxv hs hw ?_; clear hs; intro a hs) | refine sxc hs ?_ | (refine sxa hs hw ?_; clear hs hw; intro a b W hw hs) | (refine sxs hs hw ?_; clear hs hw; intro W hs hw))
  cases h3 : (x.b.c == y.b.c) with
  | false =>
    rw [h3] at hs
    repeat (first | (refine sxv hs hw ?_; clear hs; intro a hs) | refine sxc hs ?_ | (refine sxa hs hw ?_; clear hs hw; intro a b W hw hs) | (refine sxs hs hw ?_; clear hs hw; intro W hs hw))
    exact rt1 hs rfl rfl ⟨rfl, hw.end (by repeat (first | exact In.hd | apply In.tl))⟩
  | true =>
  rw [h3] at hs
  repeat (first | (refine sxv hs hw ?_; clear hs; intro a hs) | refine sxc hs ?_ | (refine sxa hs hw ?_; clear hs hw; intro a b W hw hs) | (refine sxs hs hw ?_; clear hs hw; intro W hs hw))
  cases h4 : (x.b.q == y.b.q) with
  | false =>
    rw [h4] at hs
    repeat (first | (refine sxv hs hw ?_; clear hs; intro a hs) | refine sxc hs ?_ | (refine sxa hs hw ?_; clear hs hw; intro a b W hw hs) | (refine sxs hs hw ?_; clear hs hw; intro W hs hw))
    exact rt1 hs rfl rfl ⟨rfl, hw.end (by repeat (first | exact In.hd | apply In.tl))⟩
  | true =>
  rw [h4] at hs
  repeat (first | (refine sxv hs hw ?_; clear hs; intro a hs) | refine sxc hs ?_ | (refine sxa hs hw ?_; clear hs hw; intro a b W hw hs) | (refine sxs hs hw ?_; clear hs hw; intro W hs hw))
  refine st_call hs (hc := slices_Equal x.b.l sv y.b.l sv' _ (hw.rd (by repeat (first | exact In.hd | apply In.tl)) hw.ext.size r) (hw.rd (by repeat (first | exact In.hd | apply In.tl)) hw.ext.size r')) (k := ?_); rintro e0 W1 ⟨rfl, hb⟩; refine ⟨_, rfl, ?_⟩; clear hs; intro a hs; replace hw := hw.below hb; clear hb
  repeat (first | (refine sxv hs hw ?_; clear hs; intro a hs) | refine sxc hs ?_ | (refine sxa hs hw ?_; clear hs hw; intro a b W hw hs) | (refine sxs hs hw ?_; clear hs hw; intro W hs hw))
  exact rt1 hs rfl rfl ⟨rfl, hw.end (by repeat (first | exact In.hd | apply In.tl))⟩
end Go.Proofs.YtmalklakaalaoaaGreatDoor.Sw

set_option linter.unusedVariables false
set_option maxRecDepth 10000
namespace Go.Proofs.YtmalklakaalaoaaGreatDoor.Sw
open Go.RowKit Go.Sx
-- pieces
structure StreamD where
  f : FoldD
  l : List RowD
def StreamAt (H : Fh) (p : Nat) (s : StreamD) : Res := Ex fun x : Nat × Value × List Value => Cells p [.pointer (some ⟨x.1, 0, none⟩), x.2.1] 98 :: FoldAt H x.1 s.f :: Sx.Own 39 5 x.2.1 s.l.length x.2.2 :: Fact (Ch (RowIn H) s.l x.2.2) :: []
section
variable {G p pf : Nat} {w W : World} {R : List Res} {s : StreamD} {H H' : Fh} {v : Value} {xs : List Value}
theorem streamShut (h : Has G w W (Cells p [.pointer (some ⟨pf, 0, none⟩), v] 98 :: FoldAt H pf s.f :: Sx.Own 39 5 v s.l.length xs :: R)) (hc : Ch (RowIn H) s.l xs) : Has G w W (StreamAt H p s :: R) :=
  Has.shut (pf, v, xs) ((h.fact hc).perm (by repeat (first | exact List.Perm.refl _ | refine perm_pick (by repeat (first | exact Pick.hd | apply Pick.tl)) ?_)))
theorem streamOpen (h : Has G w W (StreamAt H p s :: R)) : ∃ pf vad vcap xs, Ch (RowIn H) s.l xs ∧ Has G w W (Cells p [.pointer (some ⟨pf, 0, none⟩), .slice vad s.l.length vcap] 98 :: FoldAt H pf s.f :: Sx.Own 39 5 (.slice vad s.l.length vcap) s.l.length xs :: R) := by
  obtain ⟨⟨pf, v, xs⟩, h⟩ := Has.open h
  have h : Has G w W (Cells p [.pointer (some ⟨pf, 0, none⟩), v] 98 :: FoldAt H pf s.f :: Sx.Own 39 5 v s.l.length xs :: Fact (Ch (RowIn H) s.l xs) :: R) := h
  have hf := h.told (In.tl (In.tl (In.tl In.hd)))
  have h : Has G w W (Cells p [.pointer (some ⟨pf, 0, none⟩), v] 98 :: FoldAt H pf s.f :: Sx.Own 39 5 v s.l.length xs :: R) := h.sub (List.Sublist.cons_cons _ (List.Sublist.cons_cons _ (List.Sublist.cons_cons _ (List.Sublist.cons _ (List.Sublist.refl _)))))
  have h2 : Has G w W (Sx.Own 39 5 v s.l.length xs :: Cells p [.pointer (some ⟨pf, 0, none⟩), v] 98 :: FoldAt H pf s.f :: R) := h.perm (by repeat (first | exact List.Perm.refl _ | refine perm_pick (by repeat (first | exact Pick.hd | apply Pick.tl)) ?_))
  obtain ⟨ad, cap, rfl⟩ := h2.own_slice
  exact ⟨pf, ad, cap, xs, hf, h⟩
-- type 98
theorem streamLe (h : Has G w W (StreamAt H p s :: R)) (hl : H.le H') : Has G w W (StreamAt H' p s :: R) := by
  obtain ⟨pf, ad, cap, xs, h1, h2⟩ := streamOpen h
  exact streamShut (foldLe h2.swap2 hl).swap2 (h1.mono (RowIn.le hl))
end
set_option maxHeartbeats 4000000 in
theorem stream_New (w0 W : World) (H : Fh) (R : List Res) (hw : Has 0 w0 W R) :
    Calls Tryz.prog 11 ⟨[]⟩ W fun e W' => ∃ p, e = .returned (.pointer (some ⟨p, 0, none⟩)) ∧ Has 0 w0 W' (StreamAt H p ⟨emptyF, []⟩ :: R) := by
  refine enter Tryz.func11 Tryz.ntmps11 rfl rfl fun a hs => ?_
  repeat (first | (refine sxv hs hw ?_; clear hs; intro a hs) | refine sxc hs ?_ | (refine sxa hs hw ?_; clear hs hw; intro a b W hw hs) | (refine sxs hs hw ?_; clear hs hw; intro W hs hw))
  refine st_call hs (hc := fold_New w0 _ H _ hw) (k := ?_); rintro e0 W1 ⟨c, rfl, hw1⟩; refine ⟨_, rfl, ?_⟩; clear hs hw; intro a hs; have hw := hw1; clear hw1
  repeat (first | (refine sxv hs hw ?_; clear hs; intro a hs) | refine sxc hs ?_ | (refine sxa hs hw ?_; clear hs hw; intro a b W hw hs) | (refine sxs hs hw ?_; clear hs hw; intro W hs hw))
  refine rt1 hs rfl rfl ⟨_, rfl, ?_⟩
  have hw := hw.nilOwn 39 5
  exact streamShut (s := ⟨emptyF, []⟩) (xs := []) (hw.perm (by repeat (first | exact List.Perm.refl _ | refine perm_pick (by repeat (first | exact Pick.hd | apply Pick.tl)) ?_))) rfl
set_option maxHeartbeats 4000000 in
theorem stream_Next (w0 W : World) (H : Fh) (p : Nat) (s : StreamD) (R : List Res) (hl : s.l.length ≤ 1000000) (hw : Has 0 w0 W (StreamAt H p s :: R)) :
    Calls Tryz.prog 14 ⟨[.pointer (some ⟨p, 0, none⟩)]⟩ W fun e W' => e = .returned (.int .i64 ((s.l.length : Int) + 1)) ∧ Has 0 w0 W' (StreamAt H p s :: R) := by
  obtain ⟨pf, ad, cap, xs, hc, hw⟩ := streamOpen hw
  refine enter Tryz.func14 Tryz.ntmps14 rfl rfl fun a hs => ?_
  repeat (first | (refine sxv hs hw ?_; clear hs; intro a hs) | refine sxc hs ?_ | (refine sxa hs hw ?_; clear hs hw; intro a b W hw hs) | (refine sxs hs hw ?_; clear hs hw; intro W hs hw) | ((with_reducible first | refine st_ptrSome hs (k := ?_) | refine st_ptrNone hs (k := ?_)); clear hs; intro a hs))
  refine rt1 hs rfl rfl ⟨?_, streamShut hw hc⟩
  rw [IntWalk.i64_in _ (by omega)]
set_option maxHeartbeats 4000000 in
theorem stream_Fold (w0 W : World) (H : Fh) (p : Nat) (s : StreamD) (R : List Res) (hw : Has 0 w0 W (StreamAt H p s :: R)) :
    Calls Tryz.prog 18 ⟨[.pointer (some ⟨p, 0, none⟩)]⟩ W fun e W' => ∃ q, e = .returned (.pointer (some ⟨q, 0, none⟩)) ∧ Has 0 w0 W' (FoldAt H q s.f :: StreamAt H p s :: R) := by
  obtain ⟨pf, ad, cap, xs, hc, hw⟩ := streamOpen hw
  refine enter Tryz.func18 Tryz.ntmps18 rfl rfl fun a hs => ?_
  repeat (first | (refine sxv hs hw ?_; clear hs; intro a hs) | refine sxc hs ?_ | (refine sxa hs hw ?_; clear hs hw; intro a b W hw hs) | (refine sxs hs hw ?_; clear hs hw; intro W hs hw) | ((with_reducible first | refine st_ptrSome hs (k := ?_) | refine st_ptrNone hs (k := ?_)); clear hs; intro a hs))
  refine st_call hs (hc := fold_Copy w0 _ H pf s.f _ hw.swap2) (k := ?_); rintro e0 W1 ⟨q, rfl, hw1⟩; refine ⟨_, rfl, ?_⟩; clear hs hw; intro a hs; have hw := hw1; clear hw1
  repeat (first | (refine sxv hs hw ?_; clear hs; intro a hs) | refine sxc hs ?_ | (refine sxa hs hw ?_; clear hs hw; intro a b W hw hs) | (refine sxs hs hw ?_; clear hs hw; intro W hs hw))
  have hw : Has 0 w0 _ (Cells p [.pointer (some ⟨pf, 0, none⟩), .slice ad s.l.length cap] 98 :: FoldAt H pf s.f :: Sx.Own 39 5 (.slice ad s.l.length cap) s.l.length xs :: FoldAt H q s.f :: R) := hw.perm (by repeat (first | exact List.Perm.refl _ | refine perm_pick (by repeat (first | exact Pick.hd | apply Pick.tl)) ?_))
  exact rt1 hs rfl rfl ⟨q, rfl, (streamShut hw hc).swap2⟩
def one (s : StreamD) (r : RowD) : StreamD × Bool × Int :=
  if r.place > (s.l.length : Int) + 1 then (s, false, 2)
  else if r.place < (s.l.length : Int) + 1 then
    if r.place < 1 ∨ ¬ (∃ x, s.l[(r.place - 1).toNat]? = some x ∧ sameR r x = true) then (s, false, 1) else (s, false, 0)
  else if (next s.f r.b).2.2 = true ∧ (next s.f r.b).2.1.err = r.err then (⟨(next s.f r.b).1, s.l ++ [r]⟩, true, 0) else (s, false, 1)
set_option maxHeartbeats 16000000 in
theorem stream_one (w0 W : World) (H : Fh) (p : Nat) (s : StreamD) (r : RowD) (sv : Value) (R : List Res) (hl : s.l.length ≤ 1000000) (hi64 : i64 r.place) (hb : BatOk r.b) (hr : OpsH H sv r.b.l) (hH : (fr w0).le H) (hT : Tabs w0) (hw : Has 0 w0 W (StreamAt H p s :: Fz H :: R)) :
    Calls Tryz.prog 47 ⟨[.pointer (some ⟨p, 0, none⟩), .agg ⟨rowCells r sv⟩]⟩ W fun e W' => ∃ H', e = .returned (.tuple ⟨[.bool (one s r).2.1, .int .i64 (one s r).2.2]⟩) ∧ H.le H' ∧ Has 0 w0 W' (StreamAt H' p (one s r).1 :: Fz H' :: R) := by
  obtain ⟨sad, scap, rfl⟩ := hr.slice
  refine enter Tryz.func47 Tryz.ntmps47 rfl rfl fun a hs => ?_
  repeat (first | (refine sxv hs hw ?_; clear hs; intro a hs) | refine sxc hs ?_ | (refine sxa hs hw ?_; clear hs hw; intro a b W hw hs) | (refine sxs hs hw ?_; clear hs hw; intro W hs hw))
  obtain ⟨b3, q3⟩ := nm1 hw; subst q3
  have hw : Has 0 w0 _ (StreamAt H p s :: Cells b3 (rowCells r (.slice sad r.b.l.length scap)) 39 :: Fz H :: R) := hw.perm (by repeat (first | exact List.Perm.refl _ | refine perm_pick (by repeat (first | exact Pick.hd | apply Pick.tl)) ?_))
  refine rg_draw (V := [.pointer (some ⟨b3, 0 + 0, none⟩), .int .i64 r.place, .pointer (some ⟨p, 0, none⟩), .int .i64 ((s.l.length : Int) + 1), .bool (decide (r.place > (s.l.length : Int) + 1)), .bool (decide (r.place > (s.l.length : Int) + 1))])
    (Rs := fun D => StreamAt H p s :: Cells b3 (rowCells r (.slice sad r.b.l.length scap)) 39 :: Fz H :: R) hs hw (ho := ⟨?_, ?_, ?_, ?c3_1, ?_, ?_, trivial⟩) (k := ?k_1)
  case c3_1 =>
    intro LD D a W hcl hi hp hs hw
    refine st_call hs (hc := stream_Next w0 _ H p s _ hl hw) (k := ?_); rintro e0 W1 ⟨rfl, hw1⟩; refine ⟨_, rfl, ?_⟩; clear hs hw; intro a hs; have hw := hw1; clear hw1
    repeat (first | (refine sxv hs hw ?_; clear hs; intro a hs) | refine sxc hs ?_ | (refine sxa hs hw ?_; clear hs hw; intro a b W hw hs) | (refine sxs hs hw ?_; clear hs hw; intro W hs hw))
    exact ⟨hs, hw⟩
  case k_1 =>
    clear hs hw
    intro a W hs hw
    replace hs : Slots a 74 [(0, .pointer (some ⟨p, 0, none⟩)), (3, .pointer (some ⟨b3, 0, none⟩)), (9, .bool (decide (r.place > (s.l.length : Int) + 1)))] := hs.of ⟨rfl, rfl, rfl, trivial⟩
    replace hw : Has 0 w0 W (StreamAt H p s :: Cells b3 (rowCells r (.slice sad r.b.l.length scap)) 39 :: Fz H :: R) := hw
    cases h9 : decide (r.place > (s.l.length : Int) + 1) with
    | true =>
      rw [h9] at hs
      have hX : one s r = (s, false, 2) := by unfold one; rw [if_pos (of_decide_eq_true h9)]
      rw [hX]
      repeat (first | (refine sxv hs hw ?_; clear hs; intro a hs) | refine sxc hs ?_ | (refine sxa hs hw ?_; clear hs hw; intro a b W hw hs) | (refine sxs hs hw ?_; clear hs hw; intro W hs hw))
      exact rt2 hs rfl rfl rfl ⟨H, rfl, Fh.le.refl _, hw.drop2⟩
    | false =>
    rw [h9] at hs
    repeat (first | (refine sxv hs hw ?_; clear hs; intro a hs) | refine sxc hs ?_ | (refine sxa hs hw ?_; clear hs hw; intro a b W hw hs) | (refine sxs hs hw ?_; clear hs hw; intro W hs hw))
    refine rg_draw (V := [.pointer (some ⟨b3, 0 + 0, none⟩), .int .i64 r.place, .pointer (some ⟨p, 0, none⟩), .int .i64 ((s.l.length : Int) + 1), .bool (decide (r.place < (s.l.length : Int) + 1)), .bool (decide (r.place < (s.l.length : Int) + 1))])
      (Rs := fun D => StreamAt H p s :: Cells b3 (rowCells r (.slice sad r.b.l.length scap)) 39 :: Fz H :: R) hs hw (ho := ⟨?_, ?_, ?_, ?c3_2, ?_, ?_, trivial⟩) (k := ?k_2)
    case c3_2 =>
      intro LD D a W hcl hi hp hs hw
      refine st_call hs (hc := stream_Next w0 _ H p s _ hl hw) (k := ?_); rintro e0 W1 ⟨rfl, hw1⟩; refine ⟨_, rfl, ?_⟩; clear hs hw; intro a hs; have hw := hw1; clear hw1
      repeat (first | (refine sxv hs hw ?_; clear hs; intro a hs) | refine sxc hs ?_ | (refine sxa hs hw ?_; clear hs hw; intro a b W hw hs) | (refine sxs hs hw ?_; clear hs hw; intro W hs hw))
      exact ⟨hs, hw⟩
    case k_2 =>
      clear hs hw
      intro a W hs hw
      replace hs : Slots a 74 [(0, .pointer (some ⟨p, 0, none⟩)), (3, .pointer (some ⟨b3, 0, none⟩)), (15, .bool (decide (r.place < (s.l.length : Int) + 1)))] := hs.of ⟨rfl, rfl, rfl, trivial⟩
      replace hw : Has 0 w0 W (StreamAt H p s :: Cells b3 (rowCells r (.slice sad r.b.l.length scap)) 39 :: Fz H :: R) := hw
      have g9 := of_decide_eq_false h9
      cases h15 : decide (r.place < (s.l.length : Int) + 1) with
      | true =>
        rw [h15] at hs
        have g15 := of_decide_eq_true h15
        have hX : one s r = if r.place < 1 ∨ ¬ (∃ x, s.l[(r.place - 1).toNat]? = some x ∧ sameR r x = true) then (s, false, 1) else (s, false, 0) := by unfold one; rw [if_neg g9, if_pos g15]
        obtain ⟨pf, vad, vcap, xs, hch, hw⟩ := streamOpen hw
        have hw : Has 0 w0 W (Cells p [.pointer (some ⟨pf, 0, none⟩), .slice vad s.l.length vcap] 98 :: FoldAt H pf s.f :: Sx.Own 39 5 (.slice vad s.l.length vcap) s.l.length xs :: Cells b3 (rowCells r (.slice sad r.b.l.length scap)) 39 :: Fz H :: R) := hw
        repeat (first | (refine sxv hs hw ?_; clear hs; intro a hs) | refine sxc hs ?_ | (refine sxa hs hw ?_; clear hs hw; intro a b W hw hs) | (refine sxs hs hw ?_; clear hs hw; intro W hs hw))
        cases h1 : decide (r.place < 1) with
        | true =>
          rw [hX, if_pos (.inl (of_decide_eq_true h1))]
          refine rg_draw (V := [.pointer (some ⟨b3, 0 + 0, none⟩), .int .i64 r.place, .bool true, .bool true, undef, undef, undef, undef, undef, undef, undef, undef, undef, undef, undef, undef, .bool true])
            (Rs := fun D => Cells p [.pointer (some ⟨pf, 0, none⟩), .slice vad s.l.length vcap] 98 :: FoldAt H pf s.f :: Sx.Own 39 5 (.slice vad s.l.length vcap) s.l.length xs :: Cells b3 (rowCells r (.slice sad r.b.l.length scap)) 39 :: Fz H :: R) hs hw (ho := ⟨?_, ?_, ?c2_3, ?_, ?_, ?_, ?_, ?_, ?_, ?_, ?_, ?_, ?_, ?_, ?_, ?_, ?_, trivial⟩) (k := ?k_3)
          case c2_3 =>
            intro LD D a W hcl hi hp hs hw
            repeat (first | (refine sxv hs hw ?_; clear hs; intro a hs) | refine sxc hs ?_ | (refine sxa hs hw ?_; clear hs hw; intro a b W hw hs) | (refine sxs hs hw ?_; clear hs hw; intro W hs hw))
            rw [h1] at hs
            exact ⟨hs, hw⟩
          case k_3 =>
            clear hs hw
            intro a W hs hw
            repeat (first | (refine sxv hs hw ?_; clear hs; intro a hs) | refine sxc hs ?_ | (refine sxa hs hw ?_; clear hs hw; intro a b W hw hs) | (refine sxs hs hw ?_; clear hs hw; intro W hs hw))
            exact rt2 hs rfl rfl rfl ⟨H, rfl, Fh.le.refl _, (streamShut hw hch).drop2⟩
          all_goals
            intro LD D a W hcl hi hp hs hw
            repeat (first | (refine sxv hs hw ?_; clear hs; intro a hs) | refine sxc hs ?_ | (refine sxa hs hw ?_; clear hs hw; intro a b W hw hs) | (refine sxs hs hw ?_; clear hs hw; intro W hs hw))
            exact ⟨hs, hw⟩
        | false =>
          have g1 := of_decide_eq_false h1
          obtain ⟨i, hi0⟩ : ∃ i : Nat, r.place - 1 = i := ⟨(r.place - 1).toNat, by omega⟩
          have hi' : i < s.l.length := by omega
          have hwrap : IntKind.i64.wrap (r.place - 1) = (i : Int) := by rw [IntWalk.i64_in _ (by omega)]; omega
          obtain ⟨x, hx⟩ : ∃ x, s.l[i]? = some x := ⟨s.l[i], List.getElem?_eq_getElem hi'⟩
          obtain ⟨cx, ⟨tv, rfl, hxv⟩, hcx, hcut⟩ := hch.get RowIn.len hx
          have hX2 : one s r = if sameR r x = true then (s, false, 0) else (s, false, 1) := by
            rw [hX, hi0, Int.toNat_natCast]
            cases hsm : sameR r x with
            | true => rw [if_neg, if_pos rfl]; rintro (h | h); exact g1 h; exact h ⟨x, hx, hsm⟩
            | false => rw [if_pos, if_neg (by decide)]; exact .inr fun ⟨y, hy, hs⟩ => by rw [hx] at hy; cases hy; rw [hsm] at hs; cases hs
          rw [hX2]
          clear hX hX2
          have hwo : Has 0 w0 W (Sx.Own 39 5 (.slice vad s.l.length vcap) s.l.length xs :: Cells p [.pointer (some ⟨pf, 0, none⟩), .slice vad s.l.length vcap] 98 :: FoldAt H pf s.f :: Cells b3 (rowCells r (.slice sad r.b.l.length scap)) 39 :: Fz H :: R) := hw.perm (by repeat (first | exact List.Perm.refl _ | refine perm_pick (by repeat (first | exact Pick.hd | apply Pick.tl)) ?_))
          obtain ⟨g, cur, hadg, hcur, hcl0, hkc, hcm, hwo⟩ := hwo.open_own (by omega)
          obtain rfl := hadg
          have hcut2 : ∀ j u, (rowCells x tv)[j]? = some u → cur[i * 5 + j]? = some u := by
            intro j u hu
            have h1 := congrArg (fun t => t[j]?) hcut
            simp only [cut_eq, List.getElem?_take, List.getElem?_drop, hu] at h1
            split at h1
            · rw [← hcur, List.getElem?_take] at h1
              split at h1
              · exact h1
              · cases h1
            · cases h1
          have hw : Has 0 w0 W (Cells g cur 39 :: Cells p [.pointer (some ⟨pf, 0, none⟩), .slice (some ⟨g, 0, none⟩) s.l.length vcap] 98 :: FoldAt H pf s.f :: Cells b3 (rowCells r (.slice sad r.b.l.length scap)) 39 :: Fz H :: R) := hwo
          obtain ⟨tad, tcap, rfl⟩ := hxv.slice
          refine rg_draw (V := [.pointer (some ⟨b3, 0 + 0, none⟩), .int .i64 r.place, .bool false, .bool false, .agg ⟨rowCells r (.slice sad r.b.l.length scap)⟩, .pointer (some ⟨p, 0, none⟩), .pointer (some ⟨p, 0, none⟩), .pointer (some ⟨p, 0 + 1, none⟩), .slice (some ⟨g, 0, none⟩) s.l.length vcap, .pointer (some ⟨b3, 0 + 0, none⟩), .int .i64 r.place, .int .i64 (i : Int), .pointer (some ⟨g, 0 + i * 5, none⟩), .agg ⟨rowCells x (.slice tad x.b.l.length tcap)⟩, .bool (sameR r x), .bool (!sameR r x), .bool (!sameR r x)])
            (Rs := fun D => Cells g cur 39 :: Cells p [.pointer (some ⟨pf, 0, none⟩), .slice (some ⟨g, 0, none⟩) s.l.length vcap] 98 :: FoldAt H pf s.f :: Cells b3 (rowCells r (.slice sad r.b.l.length scap)) 39 :: Fz H :: R) hs hw (ho := ⟨?_, ?_, ?c2_4, ?_, ?_, ?_, ?_, ?_, ?_, ?_, ?_, ?c11_4, ?c12_4, ?c13_4, ?c14_4, ?_, ?_, trivial⟩) (k := ?k_4)
          case c2_4 =>
            intro LD D a W hcl hi hp hs hw
            repeat (first | (refine sxv hs hw ?_; clear hs; intro a hs) | refine sxc hs ?_ | (refine sxa hs hw ?_; clear hs hw; intro a b W hw hs) | (refine sxs hs hw ?_; clear hs hw; intro W hs hw))
            rw [h1] at hs
            exact ⟨hs, hw⟩
          case c11_4 =>
            intro LD D a W hcl hi hp hs hw
            repeat (first | (refine sxv hs hw ?_; clear hs; intro a hs) | refine sxc hs ?_ | (refine sxa hs hw ?_; clear hs hw; intro a b W hw hs) | (refine sxs hs hw ?_; clear hs hw; intro W hs hw))
            rw [hwrap] at hs
            exact ⟨hs, hw⟩
          case c12_4 =>
            intro LD D a W hcl hi hp hs hw
            repeat (first | (refine sxv hs hw ?_; clear hs; intro a hs) | refine sxc hs ?_ | (refine sxa hs hw ?_; clear hs hw; intro a b W hw hs) | (refine sxs hs hw ?_; clear hs hw; intro W hs hw))
            refine st_index_at hs (z := zrc) (h0 := by omega) (h1 := by omega) (c := ?_); clear hs; intro a hs
            repeat (first | (refine sxv hs hw ?_; clear hs; intro a hs) | refine sxc hs ?_ | (refine sxa hs hw ?_; clear hs hw; intro a b W hw hs) | (refine sxs hs hw ?_; clear hs hw; intro W hs hw))
            exact ⟨hs, hw⟩
          case c13_4 =>
            intro LD D a W hcl hi hp hs hw
            repeat (first | (refine sxv hs hw ?_; clear hs; intro a hs) | refine sxc hs ?_ | (refine sxa hs hw ?_; clear hs hw; intro a b W hw hs) | (refine sxs hs hw ?_; clear hs hw; intro W hs hw))
            refine st_load_ats (z := zrc) hs (cs := rowCells x (.slice tad x.b.l.length tcap)) (hc := fun j u h => by rw [cell_block (hw.block In.hd).1, Nat.zero_add]; exact hcut2 j u h) (hl := by rfl) (c := ?_); clear hs; intro a hs
            repeat (first | (refine sxv hs hw ?_; clear hs; intro a hs) | refine sxc hs ?_ | (refine sxa hs hw ?_; clear hs hw; intro a b W hw hs) | (refine sxs hs hw ?_; clear hs hw; intro W hs hw))
            exact ⟨hs, hw⟩
          case c14_4 =>
            intro LD D a W hcl hi hp hs hw
            repeat (first | (refine sxv hs hw ?_; clear hs; intro a hs) | refine sxc hs ?_ | (refine sxa hs hw ?_; clear hs hw; intro a b W hw hs) | (refine sxs hs hw ?_; clear hs hw; intro W hs hw))
            refine st_call hs (hc := stream_Same r x _ _ _ (hw.rdH (by repeat (first | exact In.hd | apply In.tl)) hr) (hw.rdH (by repeat (first | exact In.hd | apply In.tl)) hxv)) (k := ?_); rintro e0 W1 ⟨rfl, hb⟩; refine ⟨_, rfl, ?_⟩; clear hs; intro a hs; replace hw := hw.below hb; clear hb
            repeat (first | (refine sxv hs hw ?_; clear hs; intro a hs) | refine sxc hs ?_ | (refine sxa hs hw ?_; clear hs hw; intro a b W hw hs) | (refine sxs hs hw ?_; clear hs hw; intro W hs hw))
            exact ⟨hs, hw⟩
          case k_4 =>
            clear hs hw
            intro a W hs hw
            replace hs : Slots a 74 [(37, .bool (!sameR r x))] := hs.of ⟨rfl, trivial⟩
            replace hw : Has 0 w0 W (Cells g cur 39 :: Cells p [.pointer (some ⟨pf, 0, none⟩), .slice (some ⟨g, 0, none⟩) s.l.length vcap] 98 :: FoldAt H pf s.f :: Cells b3 (rowCells r (.slice sad r.b.l.length scap)) 39 :: Fz H :: R) := hw
            have hw := hw.shut_own (k := s.l.length) (size := 5) hcur hcl0 hkc hcm
            have hw : Has 0 w0 W (Cells p [.pointer (some ⟨pf, 0, none⟩), .slice (some ⟨g, 0, none⟩) s.l.length vcap] 98 :: FoldAt H pf s.f :: Sx.Own 39 5 (.slice (some ⟨g, 0, none⟩) s.l.length vcap) s.l.length xs :: Cells b3 (rowCells r (.slice sad r.b.l.length scap)) 39 :: Fz H :: R) := hw.perm (by repeat (first | exact List.Perm.refl _ | refine perm_pick (by repeat (first | exact Pick.hd | apply Pick.tl)) ?_))
            have hw := streamShut hw hch
            cases hsm : sameR r x with
            | true =>
              rw [hsm] at hs
              repeat (first | (refine sxv hs hw ?_; clear hs; intro a hs) | refine sxc hs ?_ | (refine sxa hs hw ?_; clear hs hw; intro a b W hw hs) | (refine sxs hs hw ?_; clear hs hw; intro W hs hw))
              exact rt2 hs rfl rfl rfl ⟨H, rfl, Fh.le.refl _, hw.drop2⟩
            | false =>
              rw [hsm] at hs
              repeat (first | (refine sxv hs hw ?_; clear hs; intro a hs) | refine sxc hs ?_ | (refine sxa hs hw ?_; clear hs hw; intro a b W hw hs) | (refine sxs hs hw ?_; clear hs hw; intro W hs hw))
              exact rt2 hs rfl rfl rfl ⟨H, rfl, Fh.le.refl _, hw.drop2⟩
          all_goals
            intro LD D a W hcl hi hp hs hw
            repeat (first | (refine sxv hs hw ?_; clear hs; intro a hs) | refine sxc hs ?_ | (refine sxa hs hw ?_; clear hs hw; intro a b W hw hs) | (refine sxs hs hw ?_; clear hs hw; intro W hs hw))
            exact ⟨hs, hw⟩
      | false =>
      rw [h15] at hs
      have g15 := of_decide_eq_false h15
      have hX : one s r = if (next s.f r.b).2.2 = true ∧ (next s.f r.b).2.1.err = r.err then (⟨(next s.f r.b).1, s.l ++ [r]⟩, true, 0) else (s, false, 1) := by unfold one; rw [if_neg g9, if_neg g15]
      obtain ⟨pf, vad, vcap, xs, hch, hw⟩ := streamOpen hw
      repeat (first | (refine sxv hs hw ?_; clear hs; intro a hs) | refine sxc hs ?_ | (refine sxa hs hw ?_; clear hs hw; intro a b W hw hs) | (refine sxs hs hw ?_; clear hs hw; intro W hs hw) | ((with_reducible first | refine st_ptrSome hs (k := ?_) | refine st_ptrNone hs (k := ?_)); clear hs; intro a hs))
      refine st_call hs (hc := fold_Copy w0 _ H pf s.f _ hw.swap2) (k := ?_); rintro e0 W1 ⟨q, rfl, hw1⟩; refine ⟨_, rfl, ?_⟩; clear hs hw; intro a hs; have hw := hw1; clear hw1
      have hw : Has 0 w0 _ (FoldAt H q s.f :: Fz H :: Cells p [.pointer (some ⟨pf, 0, none⟩), .slice vad s.l.length vcap] 98 :: FoldAt H pf s.f :: Sx.Own 39 5 (.slice vad s.l.length vcap) s.l.length xs :: Cells b3 (rowCells r (.slice sad r.b.l.length scap)) 39 :: R) := hw.perm (by repeat (first | exact List.Perm.refl _ | refine perm_pick (by repeat (first | exact Pick.hd | apply Pick.tl)) ?_))
      repeat (first | (refine sxv hs hw ?_; clear hs; intro a hs) | refine sxc hs ?_ | (refine sxa hs hw ?_; clear hs hw; intro a b W hw hs) | (refine sxs hs hw ?_; clear hs hw; intro W hs hw))
      refine st_call hs (hc := fold_Next w0 _ H q s.f r.b _ _ hb hr hH hT hw) (k := ?_); rintro e0 W1 ⟨xv, H1, rfl, hle0, hxv, hw1⟩; refine ⟨_, rfl, ?_⟩; clear hs hw; intro a hs; have hw := hw1; clear hw1
      replace hr := hr.le hle0
      obtain ⟨x, hxe⟩ : ∃ x, (next s.f r.b).2.1 = x := ⟨_, rfl⟩
      obtain ⟨f1, hfe⟩ : ∃ x, (next s.f r.b).1 = x := ⟨_, rfl⟩
      obtain ⟨ok, hoe⟩ : ∃ x, (next s.f r.b).2.2 = x := ⟨_, rfl⟩
      have hr8 : ok = true → r.b.l.length ≤ 1000 := fun h => by
        have : nextB s.f r.b = true := by
          unfold next at hoe
          cases hn : nextB s.f r.b with
          | true => rfl
          | false => rw [hn] at hoe; rw [← hoe] at h; cases h
        unfold nextB at this
        have := (may_parts (Bool.and_eq_true _ _ |>.mp this).1).2.2
        omega
      rw [hxe] at hs hxv hX
      rw [hoe] at hs hX
      rw [hfe] at hX hw
      obtain ⟨xad, xcap, rfl⟩ := hxv.slice
      repeat (first | (refine sxv hs hw ?_; clear hs; intro a hs) | refine sxc hs ?_ | (refine sxa hs hw ?_; clear hs hw; intro a b W hw hs) | (refine sxs hs hw ?_; clear hs hw; intro W hs hw))
      obtain ⟨b7, q7⟩ := nm1 hw; subst q7
      have hw : Has 0 w0 _ (FoldAt H pf s.f :: Cells p [.pointer (some ⟨pf, 0, none⟩), .slice vad s.l.length vcap] 98 :: Sx.Own 39 5 (.slice vad s.l.length vcap) s.l.length xs :: Fz H1 :: FoldAt H1 q f1 :: Cells b7 (rowCells x (.slice xad x.b.l.length xcap)) 39 :: Cells b3 (rowCells r (.slice sad r.b.l.length scap)) 39 :: R) := hw.perm (by repeat (first | exact List.Perm.refl _ | refine perm_pick (by repeat (first | exact Pick.hd | apply Pick.tl)) ?_))
      have hw := (foldLe hw hle0).swap2
      replace hch := hch.mono (RowIn.le hle0)
      have hend : (∃ H', Ending.returned (Value.tuple ⟨[.bool (s, false, (1 : Int)).2.1, .int .i64 (s, false, (1 : Int)).2.2]⟩) = Ending.returned (Value.tuple ⟨[.bool false, .int .i64 1]⟩) ∧ H.le H') := ⟨H, rfl, Fh.le.refl _⟩
      cases ok with
      | false =>
        rw [hX, if_neg (fun h => by cases h.1)]
        repeat (first | (refine sxv hs hw ?_; clear hs; intro a hs) | refine sxc hs ?_ | (refine sxa hs hw ?_; clear hs hw; intro a b W hw hs) | (refine sxs hs hw ?_; clear hs hw; intro W hs hw))
        exact rt2 hs rfl rfl rfl ⟨H1, rfl, hle0, (streamShut hw hch).sub (List.Sublist.cons_cons _ (List.Sublist.cons_cons _ (List.Sublist.cons _ (List.Sublist.cons _ (List.Sublist.cons _ (List.Sublist.refl _))))))⟩
      | true =>
      repeat (first | (refine sxv hs hw ?_; clear hs; intro a hs) | refine sxc hs ?_ | (refine sxa hs hw ?_; clear hs hw; intro a b W hw hs) | (refine sxs hs hw ?_; clear hs hw; intro W hs hw))
      cases he : (x.err != r.err) with
      | true =>
        rw [he] at hs
        rw [hX, if_neg (fun h => by rw [h.2] at he; simp at he)]
        repeat (first | (refine sxv hs hw ?_; clear hs; intro a hs) | refine sxc hs ?_ | (refine sxa hs hw ?_; clear hs hw; intro a b W hw hs) | (refine sxs hs hw ?_; clear hs hw; intro W hs hw))
        exact rt2 hs rfl rfl rfl ⟨H1, rfl, hle0, (streamShut hw hch).sub (List.Sublist.cons_cons _ (List.Sublist.cons_cons _ (List.Sublist.cons _ (List.Sublist.cons _ (List.Sublist.cons _ (List.Sublist.refl _))))))⟩
      | false =>
      rw [he] at hs
      have hone : one s r = (⟨f1, s.l ++ [r]⟩, true, 0) := by rw [hX, if_pos ⟨rfl, by simpa using he⟩]
      clear hX hend
      replace hr8 := hr8 rfl
      repeat (first | (refine sxv hs hw ?_; clear hs; intro a hs) | refine sxc hs ?_ | (refine sxa hs hw ?_; clear hs hw; intro a b W hw hs) | (refine sxs hs hw ?_; clear hs hw; intro W hs hw))
      have hw : Has 0 w0 _ (Cells p [.pointer (some ⟨q, 0, none⟩), .slice vad s.l.length vcap] 98 :: Fz H1 :: Free :: Sx.Own 39 5 (.slice vad s.l.length vcap) s.l.length xs :: FoldAt H1 q f1 :: Cells b7 (rowCells x (.slice xad x.b.l.length xcap)) 39 :: Cells b3 (rowCells r (.slice sad r.b.l.length scap)) 39 :: FoldAt H1 pf s.f :: R) := hw.free.perm (by repeat (first | exact List.Perm.refl _ | refine perm_pick (by repeat (first | exact Pick.hd | apply Pick.tl)) ?_))
      refine rg_drawU (σ := Value × Fh × Nat × Option Addr) (V := fun u => [.pointer (some ⟨p, 0, none⟩), .pointer (some ⟨p, 0, none⟩), .pointer (some ⟨p, 0, none⟩), .pointer (some ⟨p, 0 + 1, none⟩), .slice vad s.l.length vcap, .agg ⟨rowCells r (.slice sad r.b.l.length scap)⟩, .agg ⟨rowCells r (u 6).1⟩, .slice (some ⟨(u 7).2.2.1, 0, none⟩) 1 1, .slice (u 8).2.2.2 (s.l ++ [r]).length (u 8).2.2.1, .pointer (some ⟨p, 0, none⟩), .pointer (some ⟨p, 0 + 1, none⟩), .bool true])
        (Rs := fun u D => Cells p [.pointer (some ⟨q, 0, none⟩), (if D 11 then .slice (u 8).2.2.2 (s.l ++ [r]).length (u 8).2.2.1 else .slice vad s.l.length vcap)] 98 :: (if D 6 then FzF (u 6).2.1 (H1.le (u 6).2.1 ∧ OpsH (u 6).2.1 (u 6).1 r.b.l) else Fz H1) :: (if D 7 then Cells (u 7).2.2.1 (rowCells r (u 6).1) 39 else Free) :: (if D 8 then Sx.Own 39 5 (.slice (u 8).2.2.2 (s.l ++ [r]).length (u 8).2.2.1) (s.l ++ [r]).length (xs ++ rowCells r (u 6).1) else Sx.Own 39 5 (.slice vad s.l.length vcap) s.l.length xs) :: FoldAt H1 q f1 :: Cells b7 (rowCells x (.slice xad x.b.l.length xcap)) 39 :: Cells b3 (rowCells r (.slice sad r.b.l.length scap)) 39 :: FoldAt H1 pf s.f :: R) (fun _ => (.nilIface, H1, 0, none)) hs hw (hVu := ?vu_6) (ho := ⟨?_, ?_, ?_, ?_, ?c4_6, ?_, ?c6_6, ?c7_6, ?c8_6, ?_, ?_, ?c11_6, trivial⟩) (k := ?k_6)
      case vu_6 =>
        intro u u' j h
        rcases j with _ | _ | _ | _ | _ | _ | _ | _ | _ | _ | _ | j
        all_goals first | rfl | simp [h]
      case c4_6 =>
        intro u LD D a W hcl hi hp hs hw
        have h8 := Go.Sx.not_done hcl hi 8 (by kernel_rfl)
        have h11 := Go.Sx.not_done hcl h8 11 (by kernel_rfl)
        have hw0 := hw
        simp only [h11, Bool.false_eq_true, if_false] at hw
        repeat (first | (refine sxv hs hw ?_; clear hs; intro a hs) | refine sxc hs ?_ | (refine sxa hs hw ?_; clear hs hw; intro a b W hw hs) | (refine sxs hs hw ?_; clear hs hw; intro W hs hw))
        exact Or.inl ⟨hs, hw0⟩
      case c6_6 =>
        intro u LD D a W hcl hi hp hs hw
        have h7 := Go.Sx.not_done hcl hi 7 (by kernel_rfl)
        have h8 := Go.Sx.not_done hcl h7 8 (by kernel_rfl)
        have h11 := Go.Sx.not_done hcl h8 11 (by kernel_rfl)
        simp only [hi, h7, h8, h11, Bool.false_eq_true, if_false] at hw
        repeat (first | (refine sxv hs hw ?_; clear hs; intro a hs) | refine sxc hs ?_ | (refine sxa hs hw ?_; clear hs hw; intro a b W hw hs) | (refine sxs hs hw ?_; clear hs hw; intro W hs hw))
        have hw : Has 0 w0 W (Fz H1 :: Cells p [.pointer (some ⟨q, 0, none⟩), .slice vad s.l.length vcap] 98 :: Free :: Sx.Own 39 5 (.slice vad s.l.length vcap) s.l.length xs :: FoldAt H1 q f1 :: Cells b7 (rowCells x (.slice xad x.b.l.length xcap)) 39 :: Cells b3 (rowCells r (.slice sad r.b.l.length scap)) 39 :: FoldAt H1 pf s.f :: R) := hw.perm (by repeat (first | exact List.Perm.refl _ | refine perm_pick (by repeat (first | exact Pick.hd | apply Pick.tl)) ?_))
        refine st_call hs (hc := stream_own w0 _ H1 r _ _ hr8 hr hw) (k := ?_); rintro e0 W1 ⟨sv', H', rfl, h1, h2, hw1⟩; refine ⟨_, rfl, ?_⟩; clear hs hw; intro a hs; have hw := hw1; clear hw1
        repeat (first | (refine sxv hs hw ?_; clear hs; intro a hs) | refine sxc hs ?_ | (refine sxa hs hw ?_; clear hs hw; intro a b W hw hs) | (refine sxs hs hw ?_; clear hs hw; intro W hs hw))
        refine Or.inr ⟨(sv', H', 0, none), hs, ?_⟩
        have hw := hw.fzf (q := H1.le H' ∧ OpsH H' sv' r.b.l) ⟨h1, h2⟩
        show Has 0 w0 _ (Cells p [_, (if (Nat.beq 11 6 || D 11) = true then _ else _)] _ :: _ :: (if (Nat.beq 7 6 || D 7) = true then _ else _) :: (if (Nat.beq 8 6 || D 8) = true then _ else _) :: _)
        rw [h7, h8, h11]
        exact hw.perm (by repeat (first | exact List.Perm.refl _ | refine perm_pick (by repeat (first | exact Pick.hd | apply Pick.tl)) ?_))
      case c7_6 =>
        intro u LD D a W hcl hi hp hs hw
        have h6 := Go.Sx.done hp 6 (by kernel_rfl)
        have h8 := Go.Sx.not_done hcl hi 8 (by kernel_rfl)
        have h11 := Go.Sx.not_done hcl h8 11 (by kernel_rfl)
        simp only [hi, h6, h8, h11, Bool.false_eq_true, if_false, if_true] at hw
        repeat (first | (refine sxv hs hw ?_; clear hs; intro a hs) | refine sxc hs ?_ | (refine sxa hs hw ?_; clear hs hw; intro a b W hw hs) | (refine sxs hs hw ?_; clear hs hw; intro W hs hw))
        refine Or.inr ⟨(.nilIface, H1, _, none), hs, ?_⟩
        show Has 0 w0 _ (Cells p [_, (if (Nat.beq 11 7 || D 11) = true then _ else _)] _ :: (if (Nat.beq 6 7 || D 6) = true then _ else _) :: _ :: (if (Nat.beq 8 7 || D 8) = true then _ else _) :: _)
        rw [h6, h8, h11]
        exact hw.fill (Upd.tl (Upd.tl Upd.hd))
      case c8_6 =>
        intro u LD D a W hcl hi hp hs hw
        have h7 := Go.Sx.done hp 7 (by kernel_rfl)
        have h6 := Go.Sx.done (hcl 7 _ rfl h7) 6 (by kernel_rfl)
        have h11 := Go.Sx.not_done hcl hi 11 (by kernel_rfl)
        simp only [hi, h6, h7, h11, Bool.false_eq_true, if_false, if_true] at hw
        have hw : Has 0 w0 W (FzF (u 6).2.1 (H1.le (u 6).2.1 ∧ OpsH (u 6).2.1 (u 6).1 r.b.l) :: Sx.Own 39 5 (.slice vad s.l.length vcap) s.l.length xs :: Cells p [.pointer (some ⟨q, 0, none⟩), .slice vad s.l.length vcap] 98 :: Cells (u 7).2.2.1 (rowCells r (u 6).1) 39 :: FoldAt H1 q f1 :: Cells b7 (rowCells x (.slice xad x.b.l.length xcap)) 39 :: Cells b3 (rowCells r (.slice sad r.b.l.length scap)) 39 :: FoldAt H1 pf s.f :: R) := hw.perm (by repeat (first | exact List.Perm.refl _ | refine perm_pick (by repeat (first | exact Pick.hd | apply Pick.tl)) ?_))
        obtain ⟨⟨hle, hv⟩, _⟩ := hw.unfzf
        have hw : Has 0 w0 W (Sx.Own 39 5 (.slice vad s.l.length vcap) s.l.length xs :: FzF (u 6).2.1 (H1.le (u 6).2.1 ∧ OpsH (u 6).2.1 (u 6).1 r.b.l) :: Cells p [.pointer (some ⟨q, 0, none⟩), .slice vad s.l.length vcap] 98 :: Cells (u 7).2.2.1 (rowCells r (u 6).1) 39 :: FoldAt H1 q f1 :: Cells b7 (rowCells x (.slice xad x.b.l.length xcap)) 39 :: Cells b3 (rowCells r (.slice sad r.b.l.length scap)) 39 :: FoldAt H1 pf s.f :: R) := hw.swap2
        have hone := RowIn.ones (H := (u 6).2.1) r (rowCells r (u 6).1) ⟨_, rfl, hv⟩
        refine st_append1 hs (hw := hw) (hi := In.tl (In.tl In.hd)) (ch := hch.mono (RowIn.le hle)) (ha := (⟨_, rfl, hv⟩ : RowIn (u 6).2.1 r (rowCells r (u 6).1))) (hl := rfl) (h1 := by rw [List.all_eq_true]; exact hone) (hb := by omega) (h63 := by omega) (k := ?_)
        clear hs hw; intro a ad cap W hs hw hc2
        repeat (first | (refine sxv hs hw ?_; clear hs; intro a hs) | refine sxc hs ?_ | (refine sxa hs hw ?_; clear hs hw; intro a b W hw hs) | (refine sxs hs hw ?_; clear hs hw; intro W hs hw))
        refine Or.inr ⟨(.nilIface, H1, cap, ad), hs, ?_⟩
        show Has 0 w0 _ (Cells p [_, (if (Nat.beq 11 8 || D 11) = true then _ else _)] _ :: (if (Nat.beq 6 8 || D 6) = true then _ else _) :: (if (Nat.beq 7 8 || D 7) = true then _ else _) :: _ :: _)
        rw [h6, h7, h11]
        exact hw.perm (by repeat (first | exact List.Perm.refl _ | refine perm_pick (by repeat (first | exact Pick.hd | apply Pick.tl)) ?_))
      case c11_6 =>
        intro u LD D a W hcl hi hp hs hw
        have h8 := Go.Sx.done hp 8 (by kernel_rfl)
        simp only [hi, h8, Bool.false_eq_true, if_false, if_true] at hw
        repeat (first | (refine sxv hs hw ?_; clear hs; intro a hs) | refine sxc hs ?_ | (refine sxa hs hw ?_; clear hs hw; intro a b W hw hs) | (refine sxs hs hw ?_; clear hs hw; intro W hs hw))
        refine Or.inl ⟨hs, ?_⟩
        show Has 0 w0 _ (_ :: _ :: _ :: (if (Nat.beq 8 11 || D 8) = true then _ else _) :: _)
        rw [h8]
        exact hw
      case k_6 =>
        clear hs hw
        intro u a W hs hw
        replace hw : Has 0 w0 W (Cells p [.pointer (some ⟨q, 0, none⟩), .slice (u 8).2.2.2 (s.l ++ [r]).length (u 8).2.2.1] 98 :: FzF (u 6).2.1 (H1.le (u 6).2.1 ∧ OpsH (u 6).2.1 (u 6).1 r.b.l) :: Cells (u 7).2.2.1 (rowCells r (u 6).1) 39 :: Sx.Own 39 5 (.slice (u 8).2.2.2 (s.l ++ [r]).length (u 8).2.2.1) (s.l ++ [r]).length (xs ++ rowCells r (u 6).1) :: FoldAt H1 q f1 :: Cells b7 (rowCells x (.slice xad x.b.l.length xcap)) 39 :: Cells b3 (rowCells r (.slice sad r.b.l.length scap)) 39 :: FoldAt H1 pf s.f :: R) := hw
        replace hs : Slots a 74 [(0, .pointer (some ⟨p, 0, none⟩))] := hs.of ⟨rfl, trivial⟩
        generalize (u 8).2.2.2 = ad at *
        generalize (u 8).2.2.1 = cap at *
        generalize (u 7).2.2.1 = bx at *
        generalize (u 6).2.1 = H2 at *
        generalize (u 6).1 = v2 at *
        clear u
        have hw : Has 0 w0 W (FzF H2 (H1.le H2 ∧ OpsH H2 v2 r.b.l) :: Cells p [.pointer (some ⟨q, 0, none⟩), .slice ad (s.l ++ [r]).length cap] 98 :: FoldAt H1 q f1 :: Sx.Own 39 5 (.slice ad (s.l ++ [r]).length cap) (s.l ++ [r]).length (xs ++ rowCells r v2) :: Cells bx (rowCells r v2) 39 :: Cells b7 (rowCells x (.slice xad x.b.l.length xcap)) 39 :: Cells b3 (rowCells r (.slice sad r.b.l.length scap)) 39 :: FoldAt H1 pf s.f :: R) := hw.perm (by repeat (first | exact List.Perm.refl _ | refine perm_pick (by repeat (first | exact Pick.hd | apply Pick.tl)) ?_))
        obtain ⟨⟨hle, hv⟩, hw⟩ := hw.unfzf
        have hw : Has 0 w0 W (FoldAt H1 q f1 :: Cells p [.pointer (some ⟨q, 0, none⟩), .slice ad (s.l ++ [r]).length cap] 98 :: Sx.Own 39 5 (.slice ad (s.l ++ [r]).length cap) (s.l ++ [r]).length (xs ++ rowCells r v2) :: Fz H2 :: R) := (hw.perm (B := FoldAt H1 q f1 :: Cells p [.pointer (some ⟨q, 0, none⟩), .slice ad (s.l ++ [r]).length cap] 98 :: Sx.Own 39 5 (.slice ad (s.l ++ [r]).length cap) (s.l ++ [r]).length (xs ++ rowCells r v2) :: Fz H2 :: Cells bx (rowCells r v2) 39 :: Cells b7 (rowCells x (.slice xad x.b.l.length xcap)) 39 :: Cells b3 (rowCells r (.slice sad r.b.l.length scap)) 39 :: FoldAt H1 pf s.f :: R) (by repeat (first | exact List.Perm.refl _ | refine perm_pick (by repeat (first | exact Pick.hd | apply Pick.tl)) ?_))).sub (List.Sublist.cons_cons _ (List.Sublist.cons_cons _ (List.Sublist.cons_cons _ (List.Sublist.cons_cons _ (List.Sublist.cons _ (List.Sublist.cons _ (List.Sublist.cons _ (List.Sublist.cons _ (List.Sublist.refl _)))))))))
        have hw := (foldLe hw hle).swap2
        have hw := streamShut (s := ⟨f1, s.l ++ [r]⟩) hw ((hch.mono (RowIn.le hle)).app (Ch.unit ⟨_, rfl, hv⟩))
        repeat (first | (refine sxv hs hw ?_; clear hs; intro a hs) | refine sxc hs ?_ | (refine sxa hs hw ?_; clear hs hw; intro a b W hw hs) | (refine sxs hs hw ?_; clear hs hw; intro W hs hw))
        rw [hone]
        refine rt2 hs rfl rfl rfl ?_
        exact ⟨H2, rfl, hle0.trans hle, hw⟩
      all_goals
        intro u LD D a W hcl hi hp hs hw
        repeat (first | (refine sxv hs hw ?_; clear hs; intro a hs) | refine sxc hs ?_ | (refine sxa hs hw ?_; clear hs hw; intro a b W hw hs) | (refine sxs hs hw ?_; clear hs hw; intro W hs hw))
        exact Or.inl ⟨hs, hw⟩
    all_goals
      intro LD D a W hcl hi hp hs hw
      repeat (first | (refine sxv hs hw ?_; clear hs; intro a hs) | refine sxc hs ?_ | (refine sxa hs hw ?_; clear hs hw; intro a b W hw hs) | (refine sxs hs hw ?_; clear hs hw; intro W hs hw))
      exact ⟨hs, hw⟩
  all_goals
    intro LD D a W hcl hi hp hs hw
    repeat (first | (refine sxv hs hw ?_; clear hs; intro a hs) | refine sxc hs ?_ | (refine sxa hs hw ?_; clear hs hw; intro a b W hw hs) | (refine sxs hs hw ?_; clear hs hw; intro W hs hw))
    exact ⟨hs, hw⟩
end Go.Proofs.YtmalklakaalaoaaGreatDoor.Sw

set_option linter.unusedVariables false
set_option maxRecDepth 10000
namespace Go.Proofs.YtmalklakaalaoaaGreatDoor.Sw
open Go.RowKit Go.Sx
-- pieces
def RowsH (H : Fh) (v : Value) (rows : List RowD) : Prop := ∃ xs, RdH H 5 v rows.length xs ∧ Ch (RowIn H) rows xs
theorem RowsH.le {H H' : Fh} {v : Value} {rows : List RowD} (h : H.le H') (r : RowsH H v rows) : RowsH H' v rows := by
  obtain ⟨xs, h1, h2⟩ := r
  exact ⟨xs, h1.le h, h2.mono (RowIn.le h)⟩
structure RowOk (r : RowD) : Prop where
  place : i64 r.place
  err : i64 r.err
  b : BatOk r.b
def takeN (s : StreamD) (n : Nat) : List RowD → StreamD × Nat × Int
  | [] => (s, n, 0)
  | r :: rs => if (one s r).2.2 = 0 then takeN (one s r).1 (if (one s r).2.1 = true then n + 1 else n) rs else ((one s r).1, n, (one s r).2.2)
theorem one_len (s : StreamD) (r : RowD) : (one s r).1.l.length ≤ s.l.length + 1 := by
  unfold one
  repeat (first | split | simp)
set_option maxHeartbeats 8000000 in
theorem stream_Take (w0 W : World) (H : Fh) (p : Nat) (s : StreamD) (rows : List RowD) (v : Value) (R : List Res) (hl : s.l.length + rows.length ≤ 1000000) (hb : ∀ r ∈ rows, RowOk r) (hr : RowsH H v rows) (hH : (fr w0).le H) (hT : Tabs w0) (hw : Has 0 w0 W (StreamAt H p s :: Fz H :: R)) :
    Calls Tryz.prog 12 ⟨[.pointer (some ⟨p, 0, none⟩), v]⟩ W fun e W' => ∃ H', e = .returned (.tuple ⟨[.int .i64 ((takeN s 0 rows).2.1 : Nat), .int .i64 (takeN s 0 rows).2.2]⟩) ∧ H.le H' ∧ Has 0 w0 W' (StreamAt H' p (takeN s 0 rows).1 :: Fz H' :: R) := by
  obtain ⟨xs, hr, hch⟩ := hr
  obtain ⟨sad, scap, rfl⟩ := hr.slice
  refine enter Tryz.func12 Tryz.ntmps12 rfl rfl fun a hs => ?_
  repeat (first | (refine sxv hs hw ?_; clear hs; intro a hs) | refine sxc hs ?_ | (refine sxa hs hw ?_; clear hs hw; intro a b W hw hs) | (refine sxs hs hw ?_; clear hs hw; intro W hs hw) | ((with_reducible first | refine st_ptrSome hs (k := ?_) | refine st_ptrNone hs (k := ?_)); clear hs; intro a hs))
  refine st_loop (σ := Nat × Nat × StreamD × Fh) (fun t => [(0, .pointer (some ⟨p, 0, none⟩)), (13, .slice sad rows.length scap), (14, .int .i64 (rows.length : Int)), (15, .int .i64 (t.1 : Int)), (6, .int .i64 (t.2.1 : Int))]) (fun t => StreamAt t.2.2.2 p t.2.2.1 :: Fz t.2.2.2 :: R) (fun t => t.1 ≤ rows.length ∧ t.2.1 ≤ t.1 ∧ t.2.2.1.l.length ≤ s.l.length + t.1 ∧ H.le t.2.2.2 ∧ takeN t.2.2.1 t.2.1 (rows.drop t.1) = takeN s 0 rows) (fun t => rows.length - t.1) (0, 0, s, H) ⟨Nat.zero_le _, Nat.zero_le _, Nat.le_refl _, Fh.le.refl _, rfl⟩ hs ⟨rfl, rfl, rfl, rfl, rfl, trivial⟩ hw ?_
  clear hs hw
  rintro ⟨j, n, s', H'⟩ a W ⟨hj, hn, hsl, hH', hgo⟩ hs hw
  simp only at hj hn hsl hH' hgo hs hw
  repeat (first | (refine sxv hs hw ?_; clear hs; intro a hs) | refine sxc hs ?_ | (refine sxa hs hw ?_; clear hs hw; intro a b W hw hs) | (refine sxs hs hw ?_; clear hs hw; intro W hs hw))
  refine cd_split hs (kt := fun hcc => ?_) (kf := fun hcc => ?_)
  · have hj' : j < rows.length := by simpa using hcc
    obtain ⟨r, hri⟩ : ∃ o, rows[j]? = some o := ⟨rows[j], List.getElem?_eq_getElem hj'⟩
    have hok := hb r (List.mem_of_getElem? hri)
    rw [drop_of hri] at hgo
    simp only [takeN] at hgo
    repeat (first | (refine sxv hs hw ?_; clear hs; intro a hs) | refine sxc hs ?_ | (refine sxa hs hw ?_; clear hs hw; intro a b W hw hs) | (refine sxs hs hw ?_; clear hs hw; intro W hs hw))
    refine st_index_ch hs (r := hw.rdH (by repeat (first | exact In.hd | apply In.tl)) (hr.le hH')) (hk := RowIn.len) (ch := hch.mono (RowIn.le hH')) (ho := hri) (hlen := rfl) (c := ?_); clear hs; intro a g off c hc hcl hpc hlt hs
    obtain ⟨rv, rfl, hrv⟩ := hc
    obtain ⟨rad, rcap, rfl⟩ := hrv.slice
    refine st_load_ats hs (cs := rowCells r (.slice rad r.b.l.length rcap)) (hc := hpc) (hl := by rfl) (c := ?_); clear hs; intro a hs
    clear hpc
    repeat (first | (refine sxv hs hw ?_; clear hs; intro a hs) | refine sxc hs ?_ | (refine sxa hs hw ?_; clear hs hw; intro a b W hw hs) | (refine sxs hs hw ?_; clear hs hw; intro W hs hw))
    obtain ⟨b8, q8⟩ := nm1 hw; subst q8
    have hw : Has 0 w0 _ (StreamAt H' p s' :: Fz H' :: Cells b8 (rowCells r (.slice rad r.b.l.length rcap)) 39 :: R) := hw.perm (by repeat (first | exact List.Perm.refl _ | refine perm_pick (by repeat (first | exact Pick.hd | apply Pick.tl)) ?_))
    refine st_call hs (hc := stream_one w0 _ H' p s' r _ _ (by omega) hok.place hok.b hrv (hH.trans hH') hT hw) (k := ?_); rintro e0 W1 ⟨H2, rfl, hle, hw1⟩; refine ⟨_, rfl, ?_⟩; clear hs hw; intro a hs; have hw := hw1; clear hw1
    have hol := one_len s' r
    repeat (first | (refine sxv hs hw ?_; clear hs; intro a hs) | refine sxc hs ?_ | (refine sxa hs hw ?_; clear hs hw; intro a b W hw hs) | (refine sxs hs hw ?_; clear hs hw; intro W hs hw))
    cases he : ((one s' r).2.2 != 0) with
    | true =>
      rw [he] at hs
      rw [if_neg (by simpa using he)] at hgo
      repeat (first | (refine sxv hs hw ?_; clear hs; intro a hs) | refine sxc hs ?_ | (refine sxa hs hw ?_; clear hs hw; intro a b W hw hs) | (refine sxs hs hw ?_; clear hs hw; intro W hs hw))
      rw [← hgo]
      exact rt2 hs rfl rfl rfl ⟨H2, rfl, hH'.trans hle, hw.sub (List.Sublist.cons_cons _ (List.Sublist.cons_cons _ (List.Sublist.cons _ (List.Sublist.refl _))))⟩
    | false =>
    rw [he] at hs
    rw [if_pos (by simpa using he)] at hgo
    repeat (first | (refine sxv hs hw ?_; clear hs; intro a hs) | refine sxc hs ?_ | (refine sxa hs hw ?_; clear hs hw; intro a b W hw hs) | (refine sxs hs hw ?_; clear hs hw; intro W hs hw))
    have hw := hw.sub (L' := StreamAt H2 p (one s' r).1 :: Fz H2 :: R) (List.Sublist.cons_cons _ (List.Sublist.cons_cons _ (List.Sublist.cons _ (List.Sublist.refl _))))
    cases hf : (one s' r).2.1 with
    | true =>
      rw [hf] at hs
      rw [hf, if_pos rfl] at hgo
      repeat (first | (refine sxv hs hw ?_; clear hs; intro a hs) | refine sxc hs ?_ | (refine sxa hs hw ?_; clear hs hw; intro a b W hw hs) | (refine sxs hs hw ?_; clear hs hw; intro W hs hw))
      exact st_again (j + 1, n + 1, (one s' r).1, H2) hs hw ⟨hj', by show n + 1 ≤ j + 1; omega, by show (one s' r).1.l.length ≤ s.l.length + (j + 1); omega, hH'.trans hle, hgo⟩ (by show rows.length - (j + 1) < rows.length - j; omega) ⟨rfl, rfl, rfl, int_eq (by show IntKind.i64.wrap ((j : Int) + 1) = ((j + 1 : Nat) : Int); rw [IntWalk.i64_in _ (by omega)]; omega), int_eq (by show IntKind.i64.wrap ((n : Int) + 1) = ((n + 1 : Nat) : Int); rw [IntWalk.i64_in _ (by omega)]; omega), trivial⟩
    | false =>
      rw [hf] at hs
      rw [hf, if_neg (by decide)] at hgo
      repeat (first | (refine sxv hs hw ?_; clear hs; intro a hs) | refine sxc hs ?_ | (refine sxa hs hw ?_; clear hs hw; intro a b W hw hs) | (refine sxs hs hw ?_; clear hs hw; intro W hs hw))
      exact st_again (j + 1, n, (one s' r).1, H2) hs hw ⟨hj', by show n ≤ j + 1; omega, by show (one s' r).1.l.length ≤ s.l.length + (j + 1); omega, hH'.trans hle, hgo⟩ (by show rows.length - (j + 1) < rows.length - j; omega) ⟨rfl, rfl, rfl, int_eq (by show IntKind.i64.wrap ((j : Int) + 1) = ((j + 1 : Nat) : Int); rw [IntWalk.i64_in _ (by omega)]; omega), rfl, trivial⟩
  · have hj' : j = rows.length := by have : ¬ j < rows.length := by simpa using hcc
                                     omega
    subst hj'
    rw [List.drop_length] at hgo
    repeat (first | (refine sxv hs hw ?_; clear hs; intro a hs) | refine sxc hs ?_ | (refine sxa hs hw ?_; clear hs hw; intro a b W hw hs) | (refine sxs hs hw ?_; clear hs hw; intro W hs hw))
    rw [← hgo]
    exact rt2 hs rfl rfl rfl ⟨H', rfl, hH', hw⟩
set_option maxHeartbeats 8000000 in
theorem stream_Rows (w0 W : World) (H : Fh) (p : Nat) (s : StreamD) (R : List Res) (hl : s.l.length ≤ 1000000) (h8 : ∀ r ∈ s.l, r.b.l.length ≤ 1000) (hw : Has 0 w0 W (StreamAt H p s :: Fz H :: R)) :
    Calls Tryz.prog 16 ⟨[.pointer (some ⟨p, 0, none⟩)]⟩ W fun e W' => ∃ ad cap xs' H', e = .returned (.slice ad s.l.length cap) ∧ H.le H' ∧ Ch (RowIn H') s.l xs' ∧ Has 0 w0 W' (Sx.Own 39 5 (.slice ad s.l.length cap) s.l.length xs' :: StreamAt H' p s :: Fz H' :: R) := by
  obtain ⟨pf, vad, vcap, xs, hch, hw⟩ := streamOpen hw
  refine enter Tryz.func16 Tryz.ntmps16 rfl rfl fun a hs => ?_
  repeat (first | (refine sxv hs hw ?_; clear hs; intro a hs) | refine sxc hs ?_ | (refine sxa hs hw ?_; clear hs hw; intro a b W hw hs) | (refine sxs hs hw ?_; clear hs hw; intro W hs hw) | ((with_reducible first | refine st_ptrSome hs (k := ?_) | refine st_ptrNone hs (k := ?_)); clear hs; intro a hs))
  have hw := hw.nilOwn 39 5
  refine st_loop (σ := Nat × Option Addr × Nat × List Value × Fh) (fun t => [(11, .slice vad s.l.length vcap), (12, .int .i64 (s.l.length : Int)), (13, .int .i64 (t.1 : Int)), (3, .slice t.2.1 (s.l.take t.1).length t.2.2.1)]) (fun t => Sx.Own 39 5 (.slice t.2.1 (s.l.take t.1).length t.2.2.1) (s.l.take t.1).length t.2.2.2.1 :: Fz t.2.2.2.2 :: Sx.Own 39 5 (.slice vad s.l.length vcap) s.l.length xs :: Cells p [.pointer (some ⟨pf, 0, none⟩), .slice vad s.l.length vcap] 98 :: FoldAt H pf s.f :: R) (fun t => t.1 ≤ s.l.length ∧ H.le t.2.2.2.2 ∧ Ch (RowIn t.2.2.2.2) (s.l.take t.1) t.2.2.2.1) (fun t => s.l.length - t.1) (0, none, 0, [], H) ⟨Nat.zero_le _, Fh.le.refl _, rfl⟩ hs ⟨rfl, rfl, rfl, rfl, trivial⟩ (hw.perm (by repeat (first | exact List.Perm.refl _ | refine perm_pick (by repeat (first | exact Pick.hd | apply Pick.tl)) ?_))) ?_
  clear hs hw
  rintro ⟨j, oad, ocap, ys, H'⟩ a W ⟨hj, hH', hch2⟩ hs hw
  simp only at hj hH' hch2 hs hw
  repeat (first | (refine sxv hs hw ?_; clear hs; intro a hs) | refine sxc hs ?_ | (refine sxa hs hw ?_; clear hs hw; intro a b W hw hs) | (refine sxs hs hw ?_; clear hs hw; intro W hs hw))
  refine cd_split hs (kt := fun hcc => ?_) (kf := fun hcc => ?_)
  · have hj' : j < s.l.length := by simpa using hcc
    obtain ⟨r, hri⟩ : ∃ o, s.l[j]? = some o := ⟨s.l[j], List.getElem?_eq_getElem hj'⟩
    have hok := h8 r (List.mem_of_getElem? hri)
    have htk : (s.l.take j).length ≤ 1000000 := by rw [List.length_take]; omega
    repeat (first | (refine sxv hs hw ?_; clear hs; intro a hs) | refine sxc hs ?_ | (refine sxa hs hw ?_; clear hs hw; intro a b W hw hs) | (refine sxs hs hw ?_; clear hs hw; intro W hs hw))
    refine st_index_ch hs (r := hw.rd_own (In.tl (In.tl In.hd))) (hk := RowIn.len) (ch := hch) (ho := hri) (hlen := rfl) (c := ?_); clear hs; intro a g off c hc hcl hpc hlt hs
    obtain ⟨rv, rfl, hrv⟩ := hc
    obtain ⟨rad, rcap, rfl⟩ := hrv.slice
    refine st_load_ats hs (cs := rowCells r (.slice rad r.b.l.length rcap)) (hc := hpc) (hl := by rfl) (c := ?_); clear hs; intro a hs
    clear hpc
    repeat (first | (refine sxv hs hw ?_; clear hs; intro a hs) | refine sxc hs ?_ | (refine sxa hs hw ?_; clear hs hw; intro a b W hw hs) | (refine sxs hs hw ?_; clear hs hw; intro W hs hw))
    obtain ⟨b5, q5⟩ := nm1 hw; subst q5
    have hw : Has 0 w0 _ (Fz H' :: Sx.Own 39 5 (.slice oad (s.l.take j).length ocap) (s.l.take j).length ys :: Sx.Own 39 5 (.slice vad s.l.length vcap) s.l.length xs :: Cells p [.pointer (some ⟨pf, 0, none⟩), .slice vad s.l.length vcap] 98 :: FoldAt H pf s.f :: Cells b5 (rowCells r (.slice rad r.b.l.length rcap)) 39 :: R) := hw.perm (by repeat (first | exact List.Perm.refl _ | refine perm_pick (by repeat (first | exact Pick.hd | apply Pick.tl)) ?_))
    refine st_call hs (hc := stream_own w0 _ H' r _ _ hok (hrv.le hH') hw) (k := ?_); rintro e0 W1 ⟨nv, H2, rfl, hle, hnv, hw1⟩; refine ⟨_, rfl, ?_⟩; clear hs hw; intro a hs; have hw := hw1; clear hw1
    obtain ⟨nad, ncap, rfl⟩ := hnv.slice
    repeat (first | (refine sxv hs hw ?_; clear hs; intro a hs) | refine sxc hs ?_ | (refine sxa hs hw ?_; clear hs hw; intro a b W hw hs) | (refine sxs hs hw ?_; clear hs hw; intro W hs hw))
    obtain ⟨bx, qx⟩ := nm1 hw; subst qx
    have hw : Has 0 w0 _ (Sx.Own 39 5 (.slice oad (s.l.take j).length ocap) (s.l.take j).length ys :: Cells bx (rowCells r (.slice nad r.b.l.length ncap)) 39 :: Fz H2 :: Sx.Own 39 5 (.slice vad s.l.length vcap) s.l.length xs :: Cells p [.pointer (some ⟨pf, 0, none⟩), .slice vad s.l.length vcap] 98 :: FoldAt H pf s.f :: Cells b5 (rowCells r (.slice rad r.b.l.length rcap)) 39 :: R) := hw.perm (by repeat (first | exact List.Perm.refl _ | refine perm_pick (by repeat (first | exact Pick.hd | apply Pick.tl)) ?_))
    refine st_append1 hs (hw := hw) (hi := In.hd) (ch := hch2.mono (RowIn.le hle)) (ha := (⟨_, rfl, hnv⟩ : RowIn H2 r (rowCells r (.slice nad r.b.l.length ncap)))) (hl := rfl) (h1 := rfl) (hb := by omega) (h63 := by omega) (k := ?_)
    clear hs hw; intro a ad2 cap2 W hs hw hc2
    rw [← take_of hri] at hs hw hc2
    repeat (first | (refine sxv hs hw ?_; clear hs; intro a hs) | refine sxc hs ?_ | (refine sxa hs hw ?_; clear hs hw; intro a b W hw hs) | (refine sxs hs hw ?_; clear hs hw; intro W hs hw))
    have hw := hw.sub (L' := Sx.Own 39 5 (.slice ad2 (s.l.take (j + 1)).length cap2) (s.l.take (j + 1)).length (ys ++ rowCells r (.slice nad r.b.l.length ncap)) :: Fz H2 :: Sx.Own 39 5 (.slice vad s.l.length vcap) s.l.length xs :: Cells p [.pointer (some ⟨pf, 0, none⟩), .slice vad s.l.length vcap] 98 :: FoldAt H pf s.f :: R) (List.Sublist.cons_cons _ (List.Sublist.cons _ (List.Sublist.cons_cons _ (List.Sublist.cons_cons _ (List.Sublist.cons_cons _ (List.Sublist.cons_cons _ (List.Sublist.cons _ (List.Sublist.refl _))))))))
    exact st_again (j + 1, ad2, cap2, ys ++ rowCells r (.slice nad r.b.l.length ncap), H2) hs hw ⟨hj', hH'.trans hle, hc2⟩ (by show s.l.length - (j + 1) < s.l.length - j; omega) ⟨rfl, rfl, int_eq (by show IntKind.i64.wrap ((j : Int) + 1) = ((j + 1 : Nat) : Int); rw [IntWalk.i64_in _ (by omega)]; omega), rfl, trivial⟩
  · have hj' : j = s.l.length := by have : ¬ j < s.l.length := by simpa using hcc
                                    omega
    subst hj'
    rw [List.take_length] at hs hw hch2
    repeat (first | (refine sxv hs hw ?_; clear hs; intro a hs) | refine sxc hs ?_ | (refine sxa hs hw ?_; clear hs hw; intro a b W hw hs) | (refine sxs hs hw ?_; clear hs hw; intro W hs hw))
    have hw : Has 0 w0 W (FoldAt H pf s.f :: Cells p [.pointer (some ⟨pf, 0, none⟩), .slice vad s.l.length vcap] 98 :: Sx.Own 39 5 (.slice vad s.l.length vcap) s.l.length xs :: Sx.Own 39 5 (.slice oad s.l.length ocap) s.l.length ys :: Fz H' :: R) := hw.perm (by repeat (first | exact List.Perm.refl _ | refine perm_pick (by repeat (first | exact Pick.hd | apply Pick.tl)) ?_))
    have hw := streamShut (foldLe hw hH').swap2 (hch.mono (RowIn.le hH'))
    exact rt1 hs rfl rfl ⟨_, _, ys, H', rfl, hH', hch2, hw.swap2⟩
end Go.Proofs.YtmalklakaalaoaaGreatDoor.Sw

set_option linter.unusedVariables false
set_option maxRecDepth 10000
namespace Go.Sx
open Go.RowKit
section
variable {P : Program} {Q : Exit → Act → World → Prop} {C : Ending → World → Prop} {a : Act} {n G : Nat} {L : List (Nat × Value)} {w W : World} {R : List Res} {t t' : Tmp} {T T' E E' : TypeId} {b o b' o' : Nat} {cs cs' z z' : List Value} {fn : Func}
theorem rk3 [u : Ty P T true z] [u' : Ty P T' true z'] {r : Tmp} {v : Value} (hs : Slots a n L) (hr : fn.results = #[.cell t T, .cell t' T', .tmp r]) (hv : lk L t = some (.pointer (some ⟨b, o, none⟩))) (hv' : lk L t' = some (.pointer (some ⟨b', o', none⟩))) (hw : Has G w W R) (hi : In (Cells b cs E) R) (hi' : In (Cells b' cs' E') R) (hl : Nat.ble (o + z.length) cs.length = true) (hl' : Nat.ble (o' + z'.length) cs'.length = true) (hv2 : lk L r = some v) (h : C (.returned (.tuple #[.agg ⟨cut cs o z.length⟩, .agg ⟨cut cs' o' z'.length⟩, v])) W) : bodyPost P fn C .ret a W := by
  have h1 := run_load_agg u (hw.block hi).1 (Nat.le_of_ble_eq_true hl)
  have h1' := run_load_agg u' (hw.block hi').1 (Nat.le_of_ble_eq_true hl')
  refine rt hs ?_ h
  have h2 := at_tmp hs hv
  have h2' := at_tmp hs hv'
  have h3 := at_tmp hs hv2
  simp only [Instr.loadAt, Instr.sureAddr, Sem.run_bind, Sem.run_pure, Result.andThen_ok] at h1 h1'
  simp only [results, hr, List.mapM_toArray, List.mapM_cons, List.mapM_nil]
  simp [h2, h2', h3, asAddr, h1, h1']
end
theorem ch_at {α : Type} {Rr : α → List Value → Prop} {W : World} {sad : Option Addr} {scap n k : Nat} {l : List α} {xs : List Value} {i : Nat} {o : α} (hk : ∀ a c, Rr a c → c.length = k) (r : Rd W k (.slice sad n scap) n xs) (hc : Ch Rr l xs) (hn : l.length = n) (h : l[i]? = some o) :
    ∃ g off c, sad = some ⟨g, off, none⟩ ∧ g < W.heap.size ∧ Rr o c ∧ ∀ j u, c[j]? = some u → W.cell? ⟨g, off + i * k + j, none⟩ = some u := by
  have hi : i < l.length := (List.getElem?_eq_some_iff.1 h).1
  obtain ⟨c, h1, h2, h3⟩ := hc.get hk h
  obtain ⟨_, ad, cap, e, h4, h5, h6⟩ := r
  injection e with e1 e2 e3
  subst e1
  rcases h6 with h6 | ⟨b, off, rfl, hlt, hcell⟩
  · omega
  · refine ⟨b, off, c, rfl, hlt, h1, fun j u hu => ?_⟩
    rw [Nat.add_assoc]
    refine hcell _ _ ?_
    rw [← h3, cut_eq, List.getElem?_take] at hu
    split at hu
    · rw [List.getElem?_drop] at hu; exact hu
    · cases hu
end Go.Sx
namespace Go.Proofs.YtmalklakaalaoaaGreatDoor.Sw
open Go.RowKit Go.Sx
-- pieces
def eqRow (a b : RowD) : Bool := (a.place == b.place) && ((a.err == b.err) && eqBatch a.b.c a.b.q a.b.l b.b.c b.b.q b.b.l)
theorem eqRow_iff {a b : RowD} : eqRow a b = true ↔ a = b := by
  obtain ⟨p, ⟨c, q, l⟩, e⟩ := a
  obtain ⟨p', ⟨c', q', l'⟩, e'⟩ := b
  simp only [eqRow, Bool.and_eq_true, beq_iff_eq, eqBatch_iff, RowD.mk.injEq, BatchD.mk.injEq]
  constructor
  · rintro ⟨h1, h2, h3⟩; exact ⟨h1, h3, h2⟩
  · rintro ⟨h1, h3, h2⟩; exact ⟨h1, h2, h3⟩
theorem eqL_iff {l l' : List OpD} : eqL l l' = true ↔ l = l' := by
  unfold eqL
  rw [Bool.and_eq_true, beq_iff_eq]
  constructor
  · rintro ⟨h1, h2⟩; exact (eqOps_iff h1).1 h2
  · rintro rfl; exact ⟨rfl, (eqOps_iff rfl).2 rfl⟩
theorem sameR_iff {a b : RowD} : sameR a b = true ↔ a = b := by
  obtain ⟨p, ⟨c, q, l⟩, e⟩ := a
  obtain ⟨p', ⟨c', q', l'⟩, e'⟩ := b
  simp only [sameR, Bool.and_eq_true, beq_iff_eq, eqL_iff, RowD.mk.injEq, BatchD.mk.injEq]
  constructor
  · rintro ⟨h1, h2, h3, h4, h5⟩; exact ⟨h1, ⟨h3, h4, h5⟩, h2⟩
  · rintro ⟨h1, ⟨h3, h4, h5⟩, h2⟩; exact ⟨h1, h2, h3, h4, h5⟩
def RowRd (W : World) (r : RowD) (cs : List Value) : Prop := ∃ sv, cs = rowCells r sv ∧ Rd W 9 sv r.b.l.length (r.b.l.flatMap opCells)
theorem RowRd.len {W : World} : ∀ (b : RowD) (c : List Value), RowRd W b c → c.length = 5 := by rintro b c ⟨sv, rfl, _⟩; rfl
theorem rowRd {G : Nat} {w0 W : World} {L : List Res} {H : Fh} (h : Has G w0 W L) (i : In (Fz H) L) {rows : List RowD} {xs : List Value} (hc : Ch (RowIn H) rows xs) : Ch (RowRd W) rows xs :=
  hc.mono fun r c ⟨sv, h1, h2⟩ => ⟨sv, h1, h.rdH i h2⟩
def eqRows (l m : List RowD) : Bool := (l.length == m.length) && (l.zip m).all fun p => eqRow p.1 p.2
theorem eqRows_iff {l m : List RowD} : eqRows l m = true ↔ l = m := by
  unfold eqRows
  rw [Bool.and_eq_true, beq_iff_eq]
  constructor
  · rintro ⟨h1, h2⟩
    apply List.ext_getElem h1
    intro i h3 h4
    rw [List.all_eq_true] at h2
    exact eqRow_iff.1 (h2 (l[i], m[i]) (List.mem_of_getElem? (i := i) (by rw [List.getElem?_zip_eq_some]; exact ⟨List.getElem?_eq_getElem h3, List.getElem?_eq_getElem h4⟩)))
  · rintro rfl
    refine ⟨rfl, ?_⟩
    rw [List.all_eq_true]
    intro p hp
    obtain ⟨i, hi⟩ := List.getElem?_of_mem hp
    rw [List.getElem?_zip_eq_some] at hi
    exact eqRow_iff.2 (Option.some.inj (hi.1.symm.trans hi.2))
set_option maxHeartbeats 8000000 in
theorem ref_EqRow (x y : RowD) (sv sv' : Value) (w : World) (r : Rd w 9 sv x.b.l.length (x.b.l.flatMap opCells)) (r' : Rd w 9 sv' y.b.l.length (y.b.l.flatMap opCells)) :
    Calls Tryz.prog 27 ⟨[.agg ⟨rowCells x sv⟩, .agg ⟨rowCells y sv'⟩]⟩ w fun e w' => e = .returned (.bool (eqRow x y)) ∧ Below w.heap.size w w' := by
  have hw := Has.start (G := 0) (w := w) (Nat.zero_le _)
  refine enter Tryz.func27 Tryz.ntmps27 rfl rfl fun a hs => ?_
  repeat (first | (refine sxv hs hw ?_; clear hs; intro a hs) | refine sxc hs ?_ | (refine sxa hs hw ?_; clear hs hw; intro a b W hw hs) | (refine sxs hs hw ?_; clear hs hw; intro W hs hw))
  unfold eqRow
  cases h1 : (x.place == y.place) with
  | false =>
    rw [h1] at hs
    repeat (first | (refine sxv hs hw ?_; clear hs; intro a hs) | refine sxc hs ?_ | (refine sxa hs hw ?_; clear hs hw; intro a b W hw hs) | (refine sxs hs hw ?_; clear hs hw; intro W hs hw))
    exact rt1 hs rfl rfl ⟨rfl, hw.end (by repeat (first | exact In.hd | apply In.tl))⟩
  | true =>
  rw [h1] at hs
  repeat (first | (refine sxv hs hw ?_; clear hs; intro a hs) | refine sxc hs ?_ | (refine sxa hs hw ?_; clear hs hw; intro a b W hw hs) | (refine sxs hs hw ?_; clear hs hw; intro W hs hw))
  cases h2 : (x.err == y.err) with
  | false =>
    rw [h2] at hs
    repeat (first | (refine sxv hs hw ?_; clear hs; intro a hs) | refine sxc hs ?_ | (refine sxa hs hw ?_; clear hs hw; intro a b W hw hs) | (refine sxs hs hw ?_; clear hs hw; intro W hs hw))
    exact rt1 hs rfl rfl ⟨rfl, hw.end (by repeat (first | exact In.hd | apply In.tl))⟩
  | true =>
  rw [h2] at hs
  repeat (first | (refine sxv hs hw ?_; clear hs; intro a hs) | refine sxc hs ?_ | (refine sxa hs hw ?_; clear hs hw; intro a b W hw hs) | (refine sxs hs hw ?_; clear hs hw; intro W hs hw))
  refine st_call hs (hc := ref_EqBatch x.b.c x.b.q x.b.l sv y.b.c y.b.q y.b.l sv' _ (hw.rd (by repeat (first | exact In.hd | apply In.tl)) hw.ext.size r) (hw.rd (by repeat (first | exact In.hd | apply In.tl)) hw.ext.size r')) (k := ?_); rintro e0 W1 ⟨rfl, hb⟩; refine ⟨_, rfl, ?_⟩; clear hs; intro a hs; replace hw := hw.below hb; clear hb
  repeat (first | (refine sxv hs hw ?_; clear hs; intro a hs) | refine sxc hs ?_ | (refine sxa hs hw ?_; clear hs hw; intro a b W hw hs) | (refine sxs hs hw ?_; clear hs hw; intro W hs hw))
  exact rt1 hs rfl rfl ⟨rfl, hw.end (by repeat (first | exact In.hd | apply In.tl))⟩
theorem eqRows_snoc {l l' : List RowD} {i : Nat} {o o' : RowD} (h : l[i]? = some o) (h' : l'[i]? = some o') (e : l.take i = l'.take i) (ho : eqRow o o' = true) : l.take (i + 1) = l'.take (i + 1) := by
  rw [List.take_add_one, List.take_add_one, h, h', e, eqRow_iff.1 ho]
theorem eqRows_no {l l' : List RowD} {i : Nat} {o o' : RowD} (h : l[i]? = some o) (h' : l'[i]? = some o') (e : eqRow o o' = false) : eqRows l l' = false := by
  cases hq : eqRows l l' with
  | false => rfl
  | true =>
    have := eqRows_iff.1 hq
    subst this
    rw [h] at h'
    cases h'
    rw [eqRow_iff.2 rfl] at e
    cases e
set_option maxHeartbeats 8000000 in
theorem ref_EqRows (l : List RowD) (sv : Value) (xs : List Value) (l' : List RowD) (sv' : Value) (ys : List Value) (w : World) (r : Rd w 5 sv l.length xs) (hc : Ch (RowRd w) l xs) (r' : Rd w 5 sv' l'.length ys) (hc' : Ch (RowRd w) l' ys) :
    Calls Tryz.prog 15 ⟨[sv, sv']⟩ w fun e w' => e = .returned (.bool (eqRows l l')) ∧ Below w.heap.size w w' := by
  have hw := Has.start (G := 0) (w := w) (Nat.zero_le _)
  obtain ⟨sad, scap, rfl⟩ : ∃ ad cap, sv = .slice ad l.length cap := by obtain ⟨_, ad, cap, e, _⟩ := r; exact ⟨ad, cap, e⟩
  obtain ⟨tad, tcap, rfl⟩ : ∃ ad cap, sv' = .slice ad l'.length cap := by obtain ⟨_, ad, cap, e, _⟩ := r'; exact ⟨ad, cap, e⟩
  have hlen : l.length ≤ 9223372036854775807 := r.len
  refine enter Tryz.func15 Tryz.ntmps15 rfl rfl fun a hs => ?_
  repeat (first | (refine sxv hs hw ?_; clear hs; intro a hs) | refine sxc hs ?_ | (refine sxa hs hw ?_; clear hs hw; intro a b W hw hs) | (refine sxs hs hw ?_; clear hs hw; intro W hs hw))
  cases h2 : ((l.length : Int) != (l'.length : Int)) with
  | true =>
    rw [h2] at hs
    repeat (first | (refine sxv hs hw ?_; clear hs; intro a hs) | refine sxc hs ?_ | (refine sxa hs hw ?_; clear hs hw; intro a b W hw hs) | (refine sxs hs hw ?_; clear hs hw; intro W hs hw))
    have h3 : ¬ l.length = l'.length := by rw [bne_iff_ne] at h2; omega
    exact rt1 hs rfl rfl ⟨by simp [eqRows, h3], hw.end (by repeat (first | exact In.hd | apply In.tl))⟩
  | false =>
  rw [h2] at hs
  repeat (first | (refine sxv hs hw ?_; clear hs; intro a hs) | refine sxc hs ?_ | (refine sxa hs hw ?_; clear hs hw; intro a b W hw hs) | (refine sxs hs hw ?_; clear hs hw; intro W hs hw))
  have hL : l.length = l'.length := by
    have : (l.length : Int) = (l'.length : Int) := by simpa using h2
    omega
  clear h2
  refine st_loop (σ := Nat) (fun i => [(0, .slice sad l.length scap), (1, .slice tad l'.length tcap), (5, .int .i64 (i : Int))]) (fun _ => Old w 0 :: []) (fun i => i ≤ l.length ∧ l.take i = l'.take i) (fun i => l.length - i) 0 ⟨Nat.zero_le _, rfl⟩ hs ⟨rfl, rfl, rfl, trivial⟩ hw ?_
  clear hs hw
  rintro i a W ⟨hi, ha⟩ hs hw
  repeat (first | (refine sxv hs hw ?_; clear hs; intro a hs) | refine sxc hs ?_ | (refine sxa hs hw ?_; clear hs hw; intro a b W hw hs) | (refine sxs hs hw ?_; clear hs hw; intro W hs hw))
  refine cd_split hs (kt := fun hcc => ?_) (kf := fun hcc => ?_)
  · have hi' : i < l.length := by simpa using hcc
    obtain ⟨o, hoi⟩ : ∃ o, l[i]? = some o := ⟨l[i], List.getElem?_eq_getElem hi'⟩
    obtain ⟨o', hoi'⟩ : ∃ o, l'[i]? = some o := ⟨l'[i], List.getElem?_eq_getElem (by omega)⟩
    have hnext := eqRows_snoc hoi hoi' ha
    have hall := eqRows_no hoi hoi'
    obtain ⟨g1, f1, c1, rfl, hg1, ⟨v1, rfl, hv1⟩, hc1⟩ := ch_at RowRd.len r hc rfl hoi
    obtain ⟨g2, f2, c2, rfl, hg2, ⟨v2, rfl, hv2⟩, hc2⟩ := ch_at RowRd.len r' hc' rfl hoi'
    repeat (first | (refine sxv hs hw ?_; clear hs; intro a hs) | refine sxc hs ?_ | (refine sxa hs hw ?_; clear hs hw; intro a b W hw hs) | (refine sxs hs hw ?_; clear hs hw; intro W hs hw))
    refine rg_draw (V := [.slice (some ⟨g1, f1, none⟩) l.length scap, .int .i64 (i : Int), .pointer (some ⟨g1, f1 + i * 5, none⟩), .agg ⟨rowCells o v1⟩, .slice (some ⟨g2, f2, none⟩) l'.length tcap, .int .i64 (i : Int), .pointer (some ⟨g2, f2 + i * 5, none⟩), .agg ⟨rowCells o' v2⟩, .bool (eqRow o o'), .bool (!eqRow o o')])
      (Rs := fun D => Old w 0 :: []) hs hw (ho := ⟨?_, ?_, ?c2_c, ?c3_c, ?_, ?_, ?c6_c, ?c7_c, ?c8_c, ?_, trivial⟩) (k := ?k_c)
    case c2_c =>
      intro LD D a W hcl hi hp hs hw
      refine st_index_at hs (z := zrc) (h0 := by omega) (h1 := by omega) (c := ?_); clear hs; intro a hs
      repeat (first | (refine sxv hs hw ?_; clear hs; intro a hs) | refine sxc hs ?_ | (refine sxa hs hw ?_; clear hs hw; intro a b W hw hs) | (refine sxs hs hw ?_; clear hs hw; intro W hs hw))
      exact ⟨hs, hw⟩
    case c6_c =>
      intro LD D a W hcl hi hp hs hw
      refine st_index_at hs (z := zrc) (h0 := by omega) (h1 := by omega) (c := ?_); clear hs; intro a hs
      repeat (first | (refine sxv hs hw ?_; clear hs; intro a hs) | refine sxc hs ?_ | (refine sxa hs hw ?_; clear hs hw; intro a b W hw hs) | (refine sxs hs hw ?_; clear hs hw; intro W hs hw))
      exact ⟨hs, hw⟩
    case c3_c =>
      intro LD D a W hcl hi hp hs hw
      refine st_load_ats (z := zrc) hs (cs := rowCells o v1) (hc := fun j u h => ((hw.end In.hd).cell hg1).trans (hc1 j u h)) (hl := rfl) (c := ?_); clear hs; intro a hs
      repeat (first | (refine sxv hs hw ?_; clear hs; intro a hs) | refine sxc hs ?_ | (refine sxa hs hw ?_; clear hs hw; intro a b W hw hs) | (refine sxs hs hw ?_; clear hs hw; intro W hs hw))
      exact ⟨hs, hw⟩
    case c7_c =>
      intro LD D a W hcl hi hp hs hw
      refine st_load_ats (z := zrc) hs (cs := rowCells o' v2) (hc := fun j u h => ((hw.end In.hd).cell hg2).trans (hc2 j u h)) (hl := rfl) (c := ?_); clear hs; intro a hs
      repeat (first | (refine sxv hs hw ?_; clear hs; intro a hs) | refine sxc hs ?_ | (refine sxa hs hw ?_; clear hs hw; intro a b W hw hs) | (refine sxs hs hw ?_; clear hs hw; intro W hs hw))
      exact ⟨hs, hw⟩
    case c8_c =>
      intro LD D a W hcl hi hp hs hw
      refine st_call hs (hc := ref_EqRow o o' v1 v2 _ (hw.rd (by repeat (first | exact In.hd | apply In.tl)) hw.ext.size hv1) (hw.rd (by repeat (first | exact In.hd | apply In.tl)) hw.ext.size hv2)) (k := ?_); rintro e0 W1 ⟨rfl, hb⟩; refine ⟨_, rfl, ?_⟩; clear hs; intro a hs; replace hw := hw.below hb; clear hb
      repeat (first | (refine sxv hs hw ?_; clear hs; intro a hs) | refine sxc hs ?_ | (refine sxa hs hw ?_; clear hs hw; intro a b W hw hs) | (refine sxs hs hw ?_; clear hs hw; intro W hs hw))
      exact ⟨hs, hw⟩
    case k_c =>
      clear hs hw
      intro a W hs hw
      replace hs : Slots a 27 [(26, .bool (!eqRow o o')), (0, .slice (some ⟨g1, f1, none⟩) l.length scap), (1, .slice (some ⟨g2, f2, none⟩) l'.length tcap), (5, .int .i64 (i : Int))] := hs.of ⟨rfl, rfl, rfl, rfl, trivial⟩
      cases he : eqRow o o' with
      | false =>
        rw [he] at hs
        repeat (first | (refine sxv hs hw ?_; clear hs; intro a hs) | refine sxc hs ?_ | (refine sxa hs hw ?_; clear hs hw; intro a b W hw hs) | (refine sxs hs hw ?_; clear hs hw; intro W hs hw))
        exact rt1 hs rfl rfl ⟨by rw [hall he], hw.end (by repeat (first | exact In.hd | apply In.tl))⟩
      | true =>
        rw [he] at hs
        repeat (first | (refine sxv hs hw ?_; clear hs; intro a hs) | refine sxc hs ?_ | (refine sxa hs hw ?_; clear hs hw; intro a b W hw hs) | (refine sxs hs hw ?_; clear hs hw; intro W hs hw))
        exact st_again (i + 1) hs hw ⟨hi', hnext he⟩ (by show l.length - (i + 1) < l.length - i; omega) ⟨rfl, rfl, int_eq (by show IntKind.i64.wrap ((i : Int) + 1) = ((i + 1 : Nat) : Int); rw [IntWalk.i64_in _ (by omega)]; omega), trivial⟩
    all_goals
      intro LD D a W hcl hi hp hs hw
      repeat (first | (refine sxv hs hw ?_; clear hs; intro a hs) | refine sxc hs ?_ | (refine sxa hs hw ?_; clear hs hw; intro a b W hw hs) | (refine sxs hs hw ?_; clear hs hw; intro W hs hw))
      exact ⟨hs, hw⟩
  · have hi' : i = l.length := by have : ¬ i < l.length := by simpa using hcc
                                  omega
    subst hi'
    rw [List.take_length, hL, List.take_length] at ha
    repeat (first | (refine sxv hs hw ?_; clear hs; intro a hs) | refine sxc hs ?_ | (refine sxa hs hw ?_; clear hs hw; intro a b W hw hs) | (refine sxs hs hw ?_; clear hs hw; intro W hs hw))
    exact rt1 hs rfl rfl ⟨by rw [eqRows_iff.2 ha], hw.end (by repeat (first | exact In.hd | apply In.tl))⟩
end Go.Proofs.YtmalklakaalaoaaGreatDoor.Sw

set_option linter.unusedVariables false
set_option maxRecDepth 10000
namespace Go.Proofs.YtmalklakaalaoaaGreatDoor.Sw
open Go.RowKit Go.Sx
-- pieces
def mayAll (l : List OpD) : Bool := !(decide ((l.length : Int) < 1)) && !(decide ((l.length : Int) > 8)) && l.all mayD
set_option maxHeartbeats 4000000 in
theorem ref_mayOps (l : List OpD) (sv : Value) (w : World) (ho : ∀ o ∈ l, OpOk o) (r : Rd w 9 sv l.length (l.flatMap opCells)) :
    Calls Tryz.prog 53 ⟨[sv]⟩ w fun e w' => e = .returned (.bool (mayAll l)) ∧ Below w.heap.size w w' := by
  have hw := Has.start (G := 0) (w := w) (Nat.zero_le _)
  obtain ⟨sad, scap, rfl⟩ : ∃ ad cap, sv = .slice ad l.length cap := by obtain ⟨_, ad, cap, e, _⟩ := r; exact ⟨ad, cap, e⟩
  have hlen : l.length ≤ 9223372036854775807 := r.len
  refine enter Tryz.func53 Tryz.ntmps53 rfl rfl fun a hs => ?_
  repeat (first | (refine sxv hs hw ?_; clear hs; intro a hs) | refine sxc hs ?_ | (refine sxa hs hw ?_; clear hs hw; intro a b W hw hs) | (refine sxs hs hw ?_; clear hs hw; intro W hs hw))
  cases h4 : decide ((l.length : Int) < 1) with
  | true =>
    rw [h4] at hs
    repeat (first | (refine sxv hs hw ?_; clear hs; intro a hs) | refine sxc hs ?_ | (refine sxa hs hw ?_; clear hs hw; intro a b W hw hs) | (refine sxs hs hw ?_; clear hs hw; intro W hs hw))
    exact rt1 hs rfl rfl ⟨by simp [mayAll, h4], hw.end (by repeat (first | exact In.hd | apply In.tl))⟩
  | false =>
  rw [h4] at hs
  repeat (first | (refine sxv hs hw ?_; clear hs; intro a hs) | refine sxc hs ?_ | (refine sxa hs hw ?_; clear hs hw; intro a b W hw hs) | (refine sxs hs hw ?_; clear hs hw; intro W hs hw))
  cases h5 : decide ((l.length : Int) > 8) with
  | true =>
    rw [h5] at hs
    repeat (first | (refine sxv hs hw ?_; clear hs; intro a hs) | refine sxc hs ?_ | (refine sxa hs hw ?_; clear hs hw; intro a b W hw hs) | (refine sxs hs hw ?_; clear hs hw; intro W hs hw))
    exact rt1 hs rfl rfl ⟨by simp only [mayAll, h4, h5]; rfl, hw.end (by repeat (first | exact In.hd | apply In.tl))⟩
  | false =>
  rw [h5] at hs
  repeat (first | (refine sxv hs hw ?_; clear hs; intro a hs) | refine sxc hs ?_ | (refine sxa hs hw ?_; clear hs hw; intro a b W hw hs) | (refine sxs hs hw ?_; clear hs hw; intro W hs hw))
  have hmb : mayAll l = l.all mayD := by unfold mayAll; rw [h4, h5]; simp
  rw [hmb]
  clear hmb h4 h5
  refine st_loop (σ := Nat) (fun i => [(0, .slice sad l.length scap), (3, .int .i64 (i : Int))]) (fun _ => Old w 0 :: []) (fun i => i ≤ l.length ∧ (l.take i).all mayD = true) (fun i => l.length - i) 0 ⟨Nat.zero_le _, rfl⟩ hs ⟨rfl, rfl, trivial⟩ hw ?_
  clear hs hw
  rintro i a W ⟨hi, ha⟩ hs hw
  repeat (first | (refine sxv hs hw ?_; clear hs; intro a hs) | refine sxc hs ?_ | (refine sxa hs hw ?_; clear hs hw; intro a b W hw hs) | (refine sxs hs hw ?_; clear hs hw; intro W hs hw))
  refine cd_split hs (kt := fun hcc => ?_) (kf := fun hcc => ?_)
  · have hi' : i < l.length := by simpa using hcc
    obtain ⟨o, hoi⟩ : ∃ o, l[i]? = some o := ⟨l[i], List.getElem?_eq_getElem hi'⟩
    have hok := ho o (List.mem_of_getElem? hoi)
    have hnext : (l.take (i + 1)).all mayD = mayD o := by
      rw [List.take_add_one, hoi, List.all_append, ha]; simp
    have hall : mayD o = false → l.all mayD = false := fun h => by
      rw [List.all_eq_false]
      exact ⟨o, List.mem_of_getElem? hoi, by rw [h]; simp⟩
    repeat (first | (refine sxv hs hw ?_; clear hs; intro a hs) | refine sxc hs ?_ | (refine sxa hs hw ?_; clear hs hw; intro a b W hw hs) | (refine sxs hs hw ?_; clear hs hw; intro W hs hw))
    refine st_index_op hs (r := hw.rd (by repeat (first | exact In.hd | apply In.tl)) hw.ext.size r) (ho := hoi) (c := ?_); clear hs; intro a p off hpc hs
    refine st_load_ats (z := opCells ⟨0, ⟨#[]⟩, 0, 0, ⟨#[]⟩, 0, 0, ⟨#[]⟩, 0⟩) hs (hc := hpc) (hl := rfl) (c := ?_); clear hs; intro a hs
    obtain ⟨kind, key, vk, vn, vs, ok, on, os, n⟩ := o
    simp only [opCells] at hs
    clear hpc
    have hkey := hok.key
    have hvs := hok.vs
    have hos := hok.os
    simp only at hkey hvs hos
    repeat (first | (refine sxv hs hw ?_; clear hs; intro a hs) | refine sxc hs ?_ | (refine sxa hs hw ?_; clear hs hw; intro a b W hw hs) | (refine sxs hs hw ?_; clear hs hw; intro W hs hw))
    refine st_call hs (hc := ref_MayOp kind key vk vn vs ok on os n _ hkey hvs hos) (k := ?_); rintro e0 W1 ⟨rfl, hb⟩; refine ⟨_, rfl, ?_⟩; clear hs; intro a hs; replace hw := hw.below hb; clear hb
    rw [show mayOp kind key vk vn vs ok on os n = mayD ⟨kind, key, vk, vn, vs, ok, on, os, n⟩ from rfl] at hs
    cases hm : mayD ⟨kind, key, vk, vn, vs, ok, on, os, n⟩ with
    | false =>
      rw [hm] at hs
      repeat (first | (refine sxv hs hw ?_; clear hs; intro a hs) | refine sxc hs ?_ | (refine sxa hs hw ?_; clear hs hw; intro a b W hw hs) | (refine sxs hs hw ?_; clear hs hw; intro W hs hw))
      exact rt1 hs rfl rfl ⟨by rw [hall hm], hw.end (by repeat (first | exact In.hd | apply In.tl))⟩
    | true =>
      rw [hm] at hs hnext
      repeat (first | (refine sxv hs hw ?_; clear hs; intro a hs) | refine sxc hs ?_ | (refine sxa hs hw ?_; clear hs hw; intro a b W hw hs) | (refine sxs hs hw ?_; clear hs hw; intro W hs hw))
      exact st_again (i + 1) hs hw ⟨by omega, hnext⟩ (by show l.length - (i + 1) < l.length - i; omega) ⟨rfl, int_eq (by show IntKind.i64.wrap ((i : Int) + 1) = ((i + 1 : Nat) : Int); rw [IntWalk.i64_in _ (by omega)]; omega), trivial⟩
  · have hi' : i = l.length := by have h9 := of_decide_eq_false hcc; omega
    subst hi'
    rw [List.take_length] at ha
    rw [ha]
    repeat (first | (refine sxv hs hw ?_; clear hs; intro a hs) | refine sxc hs ?_ | (refine sxa hs hw ?_; clear hs hw; intro a b W hw hs) | (refine sxs hs hw ?_; clear hs hw; intro W hs hw))
    exact rt1 hs rfl rfl ⟨rfl, hw.end (by repeat (first | exact In.hd | apply In.tl))⟩
end Go.Proofs.YtmalklakaalaoaaGreatDoor.Sw

set_option linter.unusedVariables false
set_option maxRecDepth 10000
namespace Go.Proofs.YtmalklakaalaoaaGreatDoor.Sw
open Go.RowKit Go.Sx
-- pieces
set_option maxHeartbeats 8000000 in
theorem ref_bytesOf (c q : Int) (l : List OpD) (sv : Value) (w : World) (hc : i64 c) (hq : i64 q) (hl : l.length ≤ 100) (ho : ∀ o ∈ l, OpOk o) (r : Rd w 9 sv l.length (l.flatMap opCells)) :
    Calls Tryz.prog 52 ⟨[.agg ⟨[.int .i64 c, .int .i64 q, sv]⟩]⟩ w fun e w' => ∃ ad cap, e = .returned (.slice ad (textB c q l).length cap) ∧ Has 0 w w' (OwnB 5 (.slice ad (textB c q l).length cap) (textB c q l) :: Old w 0 :: []) := by
  have hw := Has.start (G := 0) (w := w) (Nat.zero_le _)
  obtain ⟨sad, scap, rfl⟩ : ∃ ad cap, sv = .slice ad l.length cap := by obtain ⟨_, ad, cap, e, _⟩ := r; exact ⟨ad, cap, e⟩
  have hh := headB_le c q l.length
  unfold headB at hh
  simp only [List.length_append] at hh
  refine enter Tryz.func52 Tryz.ntmps52 rfl rfl fun a hs => ?_
  repeat (first | (refine sxv hs hw ?_; clear hs; intro a hs) | refine sxc hs ?_ | (refine sxa hs hw ?_; clear hs hw; intro a b W hw hs) | (refine sxs hs hw ?_; clear hs hw; intro W hs hw))
  obtain ⟨b1, q1⟩ := nm1 hw; subst q1
  have hw : Has 0 w _ (Cells b1 [.int .i64 c, .int .i64 q, .slice sad l.length scap] 36 :: Old w 0 :: []) := hw
  refine st_call hs (hc := ref_Put w _ c _ hc.1 hc.2 hw) (k := ?_); rintro e0 W1 ⟨ad, cap, rfl, hw1⟩; refine ⟨_, rfl, ?_⟩; clear hs hw; intro a hs; have hw := hw1; clear hw1
  repeat (first | (refine sxv hs hw ?_; clear hs; intro a hs) | refine sxc hs ?_ | (refine sxa hs hw ?_; clear hs hw; intro a b W hw hs) | (refine sxs hs hw ?_; clear hs hw; intro W hs hw))
  refine st_call hs (hc := ref_Put w _ q _ hq.1 hq.2 hw) (k := ?_); rintro e0 W1 ⟨ad, cap, rfl, hw1⟩; refine ⟨_, rfl, ?_⟩; clear hs hw; intro a hs; have hw := hw1; clear hw1
  repeat (first | (refine sxv hs hw ?_; clear hs; intro a hs) | refine sxc hs ?_ | (refine sxa hs hw ?_; clear hs hw; intro a b W hw hs) | (refine sxs hs hw ?_; clear hs hw; intro W hs hw))
  have hw := hw.swap2
  refine st_append_b hs hw (l := Ph.putI c) (m := Ph.putI q) (hr := src_rd (hw.rd_own (In.tl In.hd)) (bys_one _)) (hb := by first | omega | (simp only [List.length_append]; omega)) (c := ?_); clear hs hw; intro a ad2 cap2 W hs hw
  have hw := hw.drop2
  repeat (first | (refine sxv hs hw ?_; clear hs; intro a hs) | refine sxc hs ?_ | (refine sxa hs hw ?_; clear hs hw; intro a b W hw hs) | (refine sxs hs hw ?_; clear hs hw; intro W hs hw))
  refine st_call hs (hc := ref_Put w _ (l.length : Int) _ (by omega) (by omega) hw) (k := ?_); rintro e0 W1 ⟨ad, cap, rfl, hw1⟩; refine ⟨_, rfl, ?_⟩; clear hs hw; intro a hs; have hw := hw1; clear hw1
  repeat (first | (refine sxv hs hw ?_; clear hs; intro a hs) | refine sxc hs ?_ | (refine sxa hs hw ?_; clear hs hw; intro a b W hw hs) | (refine sxs hs hw ?_; clear hs hw; intro W hs hw))
  have hw := hw.swap2
  refine st_append_b hs hw (l := Ph.putI c ++ Ph.putI q) (m := Ph.putI l.length) (hr := src_rd (hw.rd_own (In.tl In.hd)) (bys_one _)) (hb := by first | omega | (simp only [List.length_append]; omega)) (c := ?_); clear hs hw; intro a ad2 cap2 W hs hw
  have hw := hw.drop2
  repeat (first | (refine sxv hs hw ?_; clear hs; intro a hs) | refine sxc hs ?_ | (refine sxa hs hw ?_; clear hs hw; intro a b W hw hs) | (refine sxs hs hw ?_; clear hs hw; intro W hs hw))
  refine st_loop (σ := Value × Nat) (fun s => [(1, .pointer (some ⟨b1, 0, none⟩)), (3, s.1), (4, .int .i64 (s.2 : Int))]) (fun s => Sx.OwnB 5 s.1 (headB c q l.length ++ (l.take s.2).flatMap opB) :: Cells b1 [.int .i64 c, .int .i64 q, .slice sad l.length scap] 36 :: Old w 0 :: []) (fun s => s.2 ≤ l.length) (fun s => l.length - s.2) (.slice ad2 (Ph.putI c ++ Ph.putI q ++ Ph.putI l.length).length cap2, 0) (Nat.zero_le _) hs ⟨rfl, rfl, rfl, trivial⟩ (by rw [show (headB c q l.length ++ (l.take 0).flatMap opB) = Ph.putI c ++ Ph.putI q ++ Ph.putI l.length from by simp [headB]]; exact hw) ?_
  clear hs hw hh
  rintro ⟨v, i⟩ a W hi hs hw
  simp only at hi hs hw
  repeat (first | (refine sxv hs hw ?_; clear hs; intro a hs) | refine sxc hs ?_ | (refine sxa hs hw ?_; clear hs hw; intro a b W hw hs) | (refine sxs hs hw ?_; clear hs hw; intro W hs hw))
  refine cd_split hs (kt := fun hcc => ?_) (kf := fun hcc => ?_)
  · have hi' : i < l.length := by simpa using hcc
    obtain ⟨o, hoi⟩ : ∃ o, l[i]? = some o := ⟨l[i], List.getElem?_eq_getElem hi'⟩
    have hok := ho o (List.mem_of_getElem? hoi)
    have hacc : (headB c q l.length ++ (l.take i).flatMap opB).length ≤ 320000030 := by
      have h1 := headB_le c q l.length
      have h2 := ops_le (l := l.take i) fun x hx => ho x (List.mem_of_mem_take hx)
      rw [List.length_take] at h2
      rw [List.length_append]; omega
    have hnext : headB c q l.length ++ (l.take (i + 1)).flatMap opB = headB c q l.length ++ (l.take i).flatMap opB ++ opB o := by
      rw [List.take_add_one, hoi, List.flatMap_append, List.append_assoc]; simp
    generalize headB c q l.length ++ (l.take i).flatMap opB = acc at *
    have hp1 := Ph.putI_length_le o.kind
    have hp2 := putT_le o.key
    have hp3 := putR_le o.vk o.vn o.vs
    have hp4 := putR_le o.ok o.on o.os
    have hp5 := Ph.putI_length_le o.n
    obtain ⟨hk, hvk, hvn, hok', hon, hn, hkey, hvs, hos⟩ := hok
    repeat (first | (refine sxv hs hw ?_; clear hs; intro a hs) | refine sxc hs ?_ | (refine sxa hs hw ?_; clear hs hw; intro a b W hw hs) | (refine sxs hs hw ?_; clear hs hw; intro W hs hw))
    refine st_index_op hs (r := hw.rd (by repeat (first | exact In.hd | apply In.tl)) hw.ext.size r) (ho := hoi) (c := ?_); clear hs; intro a p off hpc hs
    refine st_load_ats (z := opCells ⟨0, ⟨#[]⟩, 0, 0, ⟨#[]⟩, 0, 0, ⟨#[]⟩, 0⟩) hs (hc := hpc) (hl := rfl) (c := ?_); clear hs; intro a hs
    obtain ⟨kind, key, vk, vn, vs, ok, on, os, n⟩ := o
    simp only at hk hvk hvn hok' hon hn hkey hvs hos hp1 hp2 hp3 hp4 hp5
    simp only [opCells] at hs
    clear hpc
    repeat (first | (refine sxv hs hw ?_; clear hs; intro a hs) | refine sxc hs ?_ | (refine sxa hs hw ?_; clear hs hw; intro a b W hw hs) | (refine sxs hs hw ?_; clear hs hw; intro W hs hw))
    obtain ⟨b4, q4⟩ := nm1 hw; subst q4
    have hw : Has 0 w _ (Cells b4 [.int .i64 kind, .string key, .int .i64 vk, .int .i64 vn, .string vs, .int .i64 ok, .int .i64 on, .string os, .int .i64 n] 95 :: Sx.OwnB 5 v acc :: Cells b1 [.int .i64 c, .int .i64 q, .slice sad l.length scap] 36 :: Old w 0 :: []) := hw
    have hw := hw.swap2
    obtain ⟨vad, vcap, rfl⟩ := hw.own_slice
    refine st_call hs (hc := ref_Put w _ kind _ hk.1 hk.2 hw) (k := ?_); rintro e0 W1 ⟨ad, cap, rfl, hw1⟩; refine ⟨_, rfl, ?_⟩; clear hs hw; intro a hs; have hw := hw1; clear hw1
    repeat (first | (refine sxv hs hw ?_; clear hs; intro a hs) | refine sxc hs ?_ | (refine sxa hs hw ?_; clear hs hw; intro a b W hw hs) | (refine sxs hs hw ?_; clear hs hw; intro W hs hw))
    have hw := hw.swap2
    refine st_append_b hs hw (l := acc) (m := Ph.putI kind) (hr := src_rd (hw.rd_own (In.tl In.hd)) (bys_one _)) (hb := by first | omega | (simp only [List.length_append]; omega)) (c := ?_); clear hs hw; intro a ad2 cap2 W hs hw
    have hw := hw.drop2
    repeat (first | (refine sxv hs hw ?_; clear hs; intro a hs) | refine sxc hs ?_ | (refine sxa hs hw ?_; clear hs hw; intro a b W hw hs) | (refine sxs hs hw ?_; clear hs hw; intro W hs hw))
    refine st_call hs (hc := ref_PutText w _ key _ (by omega) hw) (k := ?_); rintro e0 W1 ⟨ad, cap, rfl, hw1⟩; refine ⟨_, rfl, ?_⟩; clear hs hw; intro a hs; have hw := hw1; clear hw1
    repeat (first | (refine sxv hs hw ?_; clear hs; intro a hs) | refine sxc hs ?_ | (refine sxa hs hw ?_; clear hs hw; intro a b W hw hs) | (refine sxs hs hw ?_; clear hs hw; intro W hs hw))
    have hw := hw.swap2
    refine st_append_b hs hw (l := acc ++ Ph.putI kind) (m := Ph.putT key.data.toList) (hr := src_rd (hw.rd_own (In.tl In.hd)) (bys_one _)) (hb := by first | omega | (simp only [List.length_append]; omega)) (c := ?_); clear hs hw; intro a ad2 cap2 W hs hw
    have hw := hw.drop2
    repeat (first | (refine sxv hs hw ?_; clear hs; intro a hs) | refine sxc hs ?_ | (refine sxa hs hw ?_; clear hs hw; intro a b W hw hs) | (refine sxs hs hw ?_; clear hs hw; intro W hs hw))
    have hlen2 : (acc ++ Ph.putI kind ++ Ph.putT key.data.toList).length ≤ 322000060 := by simp only [List.length_append]; omega
    generalize hA : acc ++ Ph.putI kind ++ Ph.putT key.data.toList = acc2 at *
    by_cases k1 : kind = 1
    · subst k1
      repeat (first | (refine sxv hs hw ?_; clear hs; intro a hs) | refine sxc hs ?_ | (refine sxa hs hw ?_; clear hs hw; intro a b W hw hs) | (refine sxs hs hw ?_; clear hs hw; intro W hs hw))
      refine st_call hs (hc := ref_PutRaw w _ vk vn vs _ hvk.1 hvk.2 hvn.1 hvn.2 (by omega) hw) (k := ?_); rintro e0 W1 ⟨ad, cap, rfl, hw1⟩; refine ⟨_, rfl, ?_⟩; clear hs hw; intro a hs; have hw := hw1; clear hw1
      repeat (first | (refine sxv hs hw ?_; clear hs; intro a hs) | refine sxc hs ?_ | (refine sxa hs hw ?_; clear hs hw; intro a b W hw hs) | (refine sxs hs hw ?_; clear hs hw; intro W hs hw))
      have hw := hw.swap2
      refine st_append_b hs hw (l := acc2) (m := putR vk vn vs) (hr := src_rd (hw.rd_own (In.tl In.hd)) (bys_one _)) (hb := by first | omega | (simp only [List.length_append]; omega)) (c := ?_); clear hs hw; intro a ad2 cap2 W hs hw
      have hw := hw.drop2
      repeat (first | (refine sxv hs hw ?_; clear hs; intro a hs) | refine sxc hs ?_ | (refine sxa hs hw ?_; clear hs hw; intro a b W hw hs) | (refine sxs hs hw ?_; clear hs hw; intro W hs hw))
      have hw := hw.drop2
      repeat (first | (refine sxv hs hw ?_; clear hs; intro a hs) | refine sxc hs ?_ | (refine sxa hs hw ?_; clear hs hw; intro a b W hw hs) | (refine sxs hs hw ?_; clear hs hw; intro W hs hw))
      rw [show acc2 ++ putR vk vn vs = acc ++ opB ⟨1, key, vk, vn, vs, ok, on, os, n⟩ from by rw [← hA]; simp [opB], ← hnext] at hs hw
      refine st_again (_, i + 1) hs hw (by show i + 1 ≤ l.length; omega) (by show l.length - (i + 1) < l.length - i; omega) ⟨rfl, rfl, int_eq (by show IntKind.i64.wrap ((i : Int) + 1) = ((i + 1 : Nat) : Int); rw [IntWalk.i64_in _ (by omega)]; omega), trivial⟩
    have e1 : (kind == 1) = false := by simpa using k1
    rw [e1] at hs
    repeat (first | (refine sxv hs hw ?_; clear hs; intro a hs) | refine sxc hs ?_ | (refine sxa hs hw ?_; clear hs hw; intro a b W hw hs) | (refine sxs hs hw ?_; clear hs hw; intro W hs hw))
    by_cases k3 : kind = 3
    · subst k3
      repeat (first | (refine sxv hs hw ?_; clear hs; intro a hs) | refine sxc hs ?_ | (refine sxa hs hw ?_; clear hs hw; intro a b W hw hs) | (refine sxs hs hw ?_; clear hs hw; intro W hs hw))
      have hw := hw.free.free
      have hw := hw.perm ((List.Perm.cons _ (List.Perm.swap _ _ _)).trans ((List.Perm.swap _ _ _)))
      refine rg_drawU (σ := Option Addr × Nat) (V := fun u => [(.slice ad2 acc2.length cap2), .pointer (some ⟨b4, 0 + 2, none⟩), .agg ⟨[.int .i64 vk, .int .i64 vn, .string vs]⟩, (.slice (u 3).1 (putR vk vn vs).length (u 3).2), (.slice (u 4).1 (acc2 ++ putR vk vn vs).length (u 4).2), .pointer (some ⟨b4, 0 + 5, none⟩), .agg ⟨[.int .i64 ok, .int .i64 on, .string os]⟩, (.slice (u 7).1 (putR ok on os).length (u 7).2), (.slice (u 8).1 (acc2 ++ putR vk vn vs ++ putR ok on os).length (u 8).2), (.slice (u 9).1 (acc2 ++ putR vk vn vs ++ putR ok on os).length (u 9).2)])
        (Rs := fun u D => (if D 9 then Sx.OwnB 5 (.slice (u 9).1 (acc2 ++ putR vk vn vs ++ putR ok on os).length (u 9).2) (acc2 ++ putR vk vn vs ++ putR ok on os) else if D 8 then Sx.OwnB 5 (.slice (u 8).1 (acc2 ++ putR vk vn vs ++ putR ok on os).length (u 8).2) (acc2 ++ putR vk vn vs ++ putR ok on os) else if D 4 then Sx.OwnB 5 (.slice (u 4).1 (acc2 ++ putR vk vn vs).length (u 4).2) (acc2 ++ putR vk vn vs) else Sx.OwnB 5 (.slice ad2 acc2.length cap2) (acc2)) :: (if D 3 then Sx.OwnB 5 (.slice (u 3).1 (putR vk vn vs).length (u 3).2) (putR vk vn vs) else Free) :: (if D 7 then Sx.OwnB 5 (.slice (u 7).1 (putR ok on os).length (u 7).2) (putR ok on os) else Free) :: Cells b4 [.int .i64 3, .string key, .int .i64 vk, .int .i64 vn, .string vs, .int .i64 ok, .int .i64 on, .string os, .int .i64 n] 95 :: Cells b1 [.int .i64 c, .int .i64 q, .slice sad l.length scap] 36 :: Old w 0 :: []) (fun _ => (none, 0)) hs hw (hVu := ?vu_c) (ho := ⟨?_, ?_, ?_, ?c3_c, ?c4_c, ?_, ?_, ?c7_c, ?c8_c, ?c9_c, trivial⟩) (k := ?k_c)
      case vu_c =>
        intro u u' j h
        rcases j with _ | _ | _ | _ | _ | _ | _ | _ | _ | _ | j
        · rfl
        · rfl
        · rfl
        · simp [h]
        · simp [h]
        · rfl
        · rfl
        · simp [h]
        · simp [h]
        · simp [h]
        · rfl
      case c3_c =>
        intro u LD D a W hcl hi hp hs hw
        have h4 := Go.Sx.not_done hcl hi 4 (by kernel_rfl)
        have h8 := Go.Sx.not_done hcl h4 8 (by kernel_rfl)
        have h9 := Go.Sx.not_done hcl h8 9 (by kernel_rfl)
        simp only [hi, h4, h8, h9, Bool.false_eq_true, if_false] at hw
        refine st_call hs (hc := ref_PutRaw w _ vk vn vs _ hvk.1 hvk.2 hvn.1 hvn.2 (by omega) hw) (k := ?_); rintro e0 W1 ⟨ad, cap, rfl, hw1⟩; refine ⟨_, rfl, ?_⟩; clear hs hw; intro a hs; have hw := hw1; clear hw1
        repeat (first | (refine sxv hs hw ?_; clear hs; intro a hs) | refine sxc hs ?_ | (refine sxa hs hw ?_; clear hs hw; intro a b W hw hs) | (refine sxs hs hw ?_; clear hs hw; intro W hs hw))
        refine Or.inr ⟨(ad, cap), hs, ?_⟩
        show Has 0 w _ ((if (Nat.beq 9 3 || D 9) = true then _ else if (Nat.beq 8 3 || D 8) = true then _ else if (Nat.beq 4 3 || D 4) = true then _ else _) :: _)
        rw [h9, h8, h4]
        exact hw.fill (Upd.tl Upd.hd)
      case c4_c =>
        intro u LD D a W hcl hi hp hs hw
        have h3 := Go.Sx.done hp 3 (by kernel_rfl)
        have h8 := Go.Sx.not_done hcl hi 8 (by kernel_rfl)
        have h9 := Go.Sx.not_done hcl h8 9 (by kernel_rfl)
        simp only [hi, h3, h8, h9, Bool.false_eq_true, if_false, if_true] at hw
        refine st_append_b hs hw (l := acc2) (m := putR vk vn vs) (hr := src_rd (hw.rd_own (In.tl In.hd)) (bys_one _)) (hb := by omega) (c := ?_); clear hs hw; intro a ad cap W hs hw
        repeat (first | (refine sxv hs hw ?_; clear hs; intro a hs) | refine sxc hs ?_ | (refine sxa hs hw ?_; clear hs hw; intro a b W hw hs) | (refine sxs hs hw ?_; clear hs hw; intro W hs hw))
        refine Or.inr ⟨(ad, cap), hs, ?_⟩
        show Has 0 w _ ((if (Nat.beq 9 4 || D 9) = true then _ else if (Nat.beq 8 4 || D 8) = true then _ else _) :: (if (Nat.beq 3 4 || D 3) = true then _ else _) :: _)
        rw [h9, h8, h3]
        exact hw
      case c7_c =>
        intro u LD D a W hcl hi hp hs hw
        have h8 := Go.Sx.not_done hcl hi 8 (by kernel_rfl)
        have h9 := Go.Sx.not_done hcl h8 9 (by kernel_rfl)
        simp only [hi, h8, h9, Bool.false_eq_true, if_false] at hw
        refine st_call hs (hc := ref_PutRaw w _ ok on os _ hok'.1 hok'.2 hon.1 hon.2 (by omega) hw) (k := ?_); rintro e0 W1 ⟨ad, cap, rfl, hw1⟩; refine ⟨_, rfl, ?_⟩; clear hs hw; intro a hs; have hw := hw1; clear hw1
        repeat (first | (refine sxv hs hw ?_; clear hs; intro a hs) | refine sxc hs ?_ | (refine sxa hs hw ?_; clear hs hw; intro a b W hw hs) | (refine sxs hs hw ?_; clear hs hw; intro W hs hw))
        refine Or.inr ⟨(ad, cap), hs, ?_⟩
        show Has 0 w _ ((if (Nat.beq 9 7 || D 9) = true then _ else if (Nat.beq 8 7 || D 8) = true then _ else _) :: _)
        rw [h9, h8]
        exact hw.fill (Upd.tl (Upd.tl Upd.hd))
      case c8_c =>
        intro u LD D a W hcl hi hp hs hw
        have h4 := Go.Sx.done hp 4 (by kernel_rfl)
        have h7 := Go.Sx.done hp 7 (by kernel_rfl)
        have h9 := Go.Sx.not_done hcl hi 9 (by kernel_rfl)
        simp only [hi, h4, h7, h9, Bool.false_eq_true, if_false, if_true] at hw
        refine st_append_b hs hw (l := acc2 ++ putR vk vn vs) (m := putR ok on os) (hr := src_rd (hw.rd_own (In.tl (In.tl In.hd))) (bys_one _)) (hb := by first | omega | (simp only [List.length_append]; omega)) (c := ?_); clear hs hw; intro a ad cap W hs hw
        repeat (first | (refine sxv hs hw ?_; clear hs; intro a hs) | refine sxc hs ?_ | (refine sxa hs hw ?_; clear hs hw; intro a b W hw hs) | (refine sxs hs hw ?_; clear hs hw; intro W hs hw))
        refine Or.inr ⟨(ad, cap), hs, ?_⟩
        show Has 0 w _ ((if (Nat.beq 9 8 || D 9) = true then _ else _) :: _ :: (if (Nat.beq 7 8 || D 7) = true then _ else _) :: _)
        rw [h9, h7]
        exact hw
      case c9_c =>
        intro u LD D a W hcl hi hp hs hw
        have h8 := Go.Sx.done hp 8 (by kernel_rfl)
        simp only [hi, h8, Bool.false_eq_true, if_false, if_true] at hw
        repeat (first | (refine sxv hs hw ?_; clear hs; intro a hs) | refine sxc hs ?_ | (refine sxa hs hw ?_; clear hs hw; intro a b W hw hs) | (refine sxs hs hw ?_; clear hs hw; intro W hs hw))
        exact Or.inr ⟨u 8, hs, hw⟩
      case k_c =>
        clear hs hw
        intro u a W hs hw
        replace hw : Has 0 w W (Sx.OwnB 5 (.slice (u 9).1 (acc2 ++ putR vk vn vs ++ putR ok on os).length (u 9).2) (acc2 ++ putR vk vn vs ++ putR ok on os) :: Sx.OwnB 5 (.slice (u 3).1 (putR vk vn vs).length (u 3).2) (putR vk vn vs) :: Sx.OwnB 5 (.slice (u 7).1 (putR ok on os).length (u 7).2) (putR ok on os) :: Cells b4 [.int .i64 3, .string key, .int .i64 vk, .int .i64 vn, .string vs, .int .i64 ok, .int .i64 on, .string os, .int .i64 n] 95 :: Cells b1 [.int .i64 c, .int .i64 q, .slice sad l.length scap] 36 :: Old w 0 :: []) := hw
        replace hw := hw.drop2.drop2
        replace hs : Slots a 70 [(1, .pointer (some ⟨b1, 0, none⟩)), (3, (.slice (u 9).1 (acc2 ++ putR vk vn vs ++ putR ok on os).length (u 9).2)), (4, .int .i64 (i : Int))] := hs.of ⟨rfl, rfl, rfl, trivial⟩
        generalize (u 9).1 = ad1 at *
        generalize (u 9).2 = cap1 at *
        clear u
        have hw := hw.drop2
        repeat (first | (refine sxv hs hw ?_; clear hs; intro a hs) | refine sxc hs ?_ | (refine sxa hs hw ?_; clear hs hw; intro a b W hw hs) | (refine sxs hs hw ?_; clear hs hw; intro W hs hw))
        rw [show acc2 ++ putR vk vn vs ++ putR ok on os = acc ++ opB ⟨3, key, vk, vn, vs, ok, on, os, n⟩ from by rw [← hA]; simp [opB], ← hnext] at hs hw
        refine st_again (_, i + 1) hs hw (by show i + 1 ≤ l.length; omega) (by show l.length - (i + 1) < l.length - i; omega) ⟨rfl, rfl, int_eq (by show IntKind.i64.wrap ((i : Int) + 1) = ((i + 1 : Nat) : Int); rw [IntWalk.i64_in _ (by omega)]; omega), trivial⟩
      all_goals
        intro u LD D a W hcl hi hp hs hw
        repeat (first | (refine sxv hs hw ?_; clear hs; intro a hs) | refine sxc hs ?_ | (refine sxa hs hw ?_; clear hs hw; intro a b W hw hs) | (refine sxs hs hw ?_; clear hs hw; intro W hs hw))
        exact Or.inl ⟨hs, hw⟩
    have e3 : (kind == 3) = false := by simpa using k3
    rw [e3] at hs
    repeat (first | (refine sxv hs hw ?_; clear hs; intro a hs) | refine sxc hs ?_ | (refine sxa hs hw ?_; clear hs hw; intro a b W hw hs) | (refine sxs hs hw ?_; clear hs hw; intro W hs hw))
    by_cases k4 : kind = 4
    · subst k4
      repeat (first | (refine sxv hs hw ?_; clear hs; intro a hs) | refine sxc hs ?_ | (refine sxa hs hw ?_; clear hs hw; intro a b W hw hs) | (refine sxs hs hw ?_; clear hs hw; intro W hs hw))
      refine st_call hs (hc := ref_Put w _ n _ hn.1 hn.2 hw) (k := ?_); rintro e0 W1 ⟨ad, cap, rfl, hw1⟩; refine ⟨_, rfl, ?_⟩; clear hs hw; intro a hs; have hw := hw1; clear hw1
      repeat (first | (refine sxv hs hw ?_; clear hs; intro a hs) | refine sxc hs ?_ | (refine sxa hs hw ?_; clear hs hw; intro a b W hw hs) | (refine sxs hs hw ?_; clear hs hw; intro W hs hw))
      have hw := hw.swap2
      refine st_append_b hs hw (l := acc2) (m := Ph.putI n) (hr := src_rd (hw.rd_own (In.tl In.hd)) (bys_one _)) (hb := by first | omega | (simp only [List.length_append]; omega)) (c := ?_); clear hs hw; intro a ad2 cap2 W hs hw
      have hw := hw.drop2
      repeat (first | (refine sxv hs hw ?_; clear hs; intro a hs) | refine sxc hs ?_ | (refine sxa hs hw ?_; clear hs hw; intro a b W hw hs) | (refine sxs hs hw ?_; clear hs hw; intro W hs hw))
      have hw := hw.drop2
      repeat (first | (refine sxv hs hw ?_; clear hs; intro a hs) | refine sxc hs ?_ | (refine sxa hs hw ?_; clear hs hw; intro a b W hw hs) | (refine sxs hs hw ?_; clear hs hw; intro W hs hw))
      rw [show acc2 ++ Ph.putI n = acc ++ opB ⟨4, key, vk, vn, vs, ok, on, os, n⟩ from by rw [← hA]; simp [opB], ← hnext] at hs hw
      refine st_again (_, i + 1) hs hw (by show i + 1 ≤ l.length; omega) (by show l.length - (i + 1) < l.length - i; omega) ⟨rfl, rfl, int_eq (by show IntKind.i64.wrap ((i : Int) + 1) = ((i + 1 : Nat) : Int); rw [IntWalk.i64_in _ (by omega)]; omega), trivial⟩
    have e4 : (kind == 4) = false := by simpa using k4
    rw [e4] at hs
    repeat (first | (refine sxv hs hw ?_; clear hs; intro a hs) | refine sxc hs ?_ | (refine sxa hs hw ?_; clear hs hw; intro a b W hw hs) | (refine sxs hs hw ?_; clear hs hw; intro W hs hw))
    have hw := hw.drop2
    repeat (first | (refine sxv hs hw ?_; clear hs; intro a hs) | refine sxc hs ?_ | (refine sxa hs hw ?_; clear hs hw; intro a b W hw hs) | (refine sxs hs hw ?_; clear hs hw; intro W hs hw))
    rw [show acc2 = acc ++ opB ⟨kind, key, vk, vn, vs, ok, on, os, n⟩ from by rw [← hA]; simp [opB, k3, k1, k4], ← hnext] at hs hw
    refine st_again (_, i + 1) hs hw (by show i + 1 ≤ l.length; omega) (by show l.length - (i + 1) < l.length - i; omega) ⟨rfl, rfl, int_eq (by show IntKind.i64.wrap ((i : Int) + 1) = ((i + 1 : Nat) : Int); rw [IntWalk.i64_in _ (by omega)]; omega), trivial⟩
  · have hi' : i = l.length := by have h9 := of_decide_eq_false hcc; omega
    subst hi'
    repeat (first | (refine sxv hs hw ?_; clear hs; intro a hs) | refine sxc hs ?_ | (refine sxa hs hw ?_; clear hs hw; intro a b W hw hs) | (refine sxs hs hw ?_; clear hs hw; intro W hs hw))
    rw [List.take_length] at hw
    have hw := hw.drop2
    obtain ⟨ad, cap, e⟩ : ∃ ad cap, v = .slice ad (textB c q l).length cap := hw.own_slice
    subst e
    exact rt1 hs rfl rfl ⟨ad, cap, rfl, hw⟩
end Go.Proofs.YtmalklakaalaoaaGreatDoor.Sw

set_option linter.unusedVariables false
set_option maxRecDepth 10000
namespace Go.Proofs.YtmalklakaalaoaaGreatDoor.Sw
open Go.RowKit Go.Sx
-- pieces
set_option maxHeartbeats 8000000 in
theorem ref_MayBatch (c q : Int) (l : List OpD) (sv : Value) (w : World) (hc : i64 c) (hq : i64 q) (ho : ∀ o ∈ l, OpOk o) (r : Rd w 9 sv l.length (l.flatMap opCells)) :
    Calls Tryz.prog 23 ⟨[.agg ⟨[.int .i64 c, .int .i64 q, sv]⟩]⟩ w fun e w' => e = .returned (.bool (mayBatch c q l)) ∧ Below w.heap.size w w' := by
  have hw := Has.start (G := 0) (w := w) (Nat.zero_le _)
  obtain ⟨sad, scap, rfl⟩ : ∃ ad cap, sv = .slice ad l.length cap := by obtain ⟨_, ad, cap, e, _⟩ := r; exact ⟨ad, cap, e⟩
  have hlen : l.length ≤ 9223372036854775807 := r.len
  refine enter Tryz.func23 Tryz.ntmps23 rfl rfl fun a hs => ?_
  repeat (first | (refine sxv hs hw ?_; clear hs; intro a hs) | refine sxc hs ?_ | (refine sxa hs hw ?_; clear hs hw; intro a b W hw hs) | (refine sxs hs hw ?_; clear hs hw; intro W hs hw))
  cases h0 : decide (c < 1) with
  | true =>
    rw [h0] at hs
    repeat (first | (refine sxv hs hw ?_; clear hs; intro a hs) | refine sxc hs ?_ | (refine sxa hs hw ?_; clear hs hw; intro a b W hw hs) | (refine sxs hs hw ?_; clear hs hw; intro W hs hw))
    exact rt1 hs rfl rfl ⟨by simp [mayBatch, h0], hw.end (by repeat (first | exact In.hd | apply In.tl))⟩
  | false =>
  rw [h0] at hs
  repeat (first | (refine sxv hs hw ?_; clear hs; intro a hs) | refine sxc hs ?_ | (refine sxa hs hw ?_; clear hs hw; intro a b W hw hs) | (refine sxs hs hw ?_; clear hs hw; intro W hs hw))
  cases h1 : decide (c > 5) with
  | true =>
    rw [h1] at hs
    repeat (first | (refine sxv hs hw ?_; clear hs; intro a hs) | refine sxc hs ?_ | (refine sxa hs hw ?_; clear hs hw; intro a b W hw hs) | (refine sxs hs hw ?_; clear hs hw; intro W hs hw))
    exact rt1 hs rfl rfl ⟨by simp [mayBatch, h0, h1], hw.end (by repeat (first | exact In.hd | apply In.tl))⟩
  | false =>
  rw [h1] at hs
  repeat (first | (refine sxv hs hw ?_; clear hs; intro a hs) | refine sxc hs ?_ | (refine sxa hs hw ?_; clear hs hw; intro a b W hw hs) | (refine sxs hs hw ?_; clear hs hw; intro W hs hw))
  cases h2 : decide (q < 1) with
  | true =>
    rw [h2] at hs
    repeat (first | (refine sxv hs hw ?_; clear hs; intro a hs) | refine sxc hs ?_ | (refine sxa hs hw ?_; clear hs hw; intro a b W hw hs) | (refine sxs hs hw ?_; clear hs hw; intro W hs hw))
    exact rt1 hs rfl rfl ⟨by simp [mayBatch, h0, h1, h2], hw.end (by repeat (first | exact In.hd | apply In.tl))⟩
  | false =>
  rw [h2] at hs
  repeat (first | (refine sxv hs hw ?_; clear hs; intro a hs) | refine sxc hs ?_ | (refine sxa hs hw ?_; clear hs hw; intro a b W hw hs) | (refine sxs hs hw ?_; clear hs hw; intro W hs hw))
  cases h3 : decide (q > 1099511627776) with
  | true =>
    rw [h3] at hs
    repeat (first | (refine sxv hs hw ?_; clear hs; intro a hs) | refine sxc hs ?_ | (refine sxa hs hw ?_; clear hs hw; intro a b W hw hs) | (refine sxs hs hw ?_; clear hs hw; intro W hs hw))
    exact rt1 hs rfl rfl ⟨by simp [mayBatch, h0, h1, h2, h3], hw.end (by repeat (first | exact In.hd | apply In.tl))⟩
  | false =>
  rw [h3] at hs
  repeat (first | (refine sxv hs hw ?_; clear hs; intro a hs) | refine sxc hs ?_ | (refine sxa hs hw ?_; clear hs hw; intro a b W hw hs) | (refine sxs hs hw ?_; clear hs hw; intro W hs hw))
  have hmb : mayBatch c q l = (mayAll l && decide (((textB c q l).length : Int) ≤ 1200)) := by unfold mayBatch mayAll; rw [h0, h1, h2, h3]; simp
  rw [hmb]
  clear hmb h0 h1 h2 h3
  refine st_call hs (hc := ref_mayOps l _ _ ho (hw.rd (by repeat (first | exact In.hd | apply In.tl)) hw.ext.size r)) (k := ?_); rintro e0 W1 ⟨rfl, hb⟩; refine ⟨_, rfl, ?_⟩; clear hs; intro a hs; replace hw := hw.below hb; clear hb
  cases hm : mayAll l with
  | false =>
    rw [hm] at hs
    repeat (first | (refine sxv hs hw ?_; clear hs; intro a hs) | refine sxc hs ?_ | (refine sxa hs hw ?_; clear hs hw; intro a b W hw hs) | (refine sxs hs hw ?_; clear hs hw; intro W hs hw))
    exact rt1 hs rfl rfl ⟨by simp, hw.end (by repeat (first | exact In.hd | apply In.tl))⟩
  | true =>
    rw [hm] at hs
    have h8 : l.length ≤ 8 := by
      unfold mayAll at hm
      simp only [Bool.and_eq_true, Bool.not_eq_true', decide_eq_false_iff_not] at hm
      omega
    repeat (first | (refine sxv hs hw ?_; clear hs; intro a hs) | refine sxc hs ?_ | (refine sxa hs hw ?_; clear hs hw; intro a b W hw hs) | (refine sxs hs hw ?_; clear hs hw; intro W hs hw))
    refine st_call hs (hc := ref_bytesOf c q l _ _ hc hq (by omega) ho (hw.rd (by repeat (first | exact In.hd | apply In.tl)) hw.ext.size r)) (k := ?_); rintro e0 W1 ⟨ad, cap, rfl, hw1⟩; refine ⟨_, rfl, ?_⟩; clear hs; intro a hs; replace hw := hw.call hw1; clear hw1
    repeat (first | (refine sxv hs hw ?_; clear hs; intro a hs) | refine sxc hs ?_ | (refine sxa hs hw ?_; clear hs hw; intro a b W hw hs) | (refine sxs hs hw ?_; clear hs hw; intro W hs hw))
    exact rt1 hs rfl rfl ⟨by simp, hw.end (by repeat (first | exact In.hd | apply In.tl))⟩
end Go.Proofs.YtmalklakaalaoaaGreatDoor.Sw
