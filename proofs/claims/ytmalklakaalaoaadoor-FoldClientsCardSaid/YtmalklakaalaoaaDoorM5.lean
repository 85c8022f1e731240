/-
  Texts of the proof, one behind the other (part 5).
-/
import Derived.Test.YtmalklakaalaoaaDoorM4
import Derived.DataShut
import Derived.Test.YtmalklakaalaoaaDoorChecked
import Derived.WalkSpells
import Derived.Lib.Hide
import Derived.IntWalk
set_option linter.unusedVariables false
set_option maxRecDepth 10000
namespace Go.Proofs.YtmalklakaalaoaaDoor.Sw
open Go.RowKit Go.Sx
-- pieces
def nextB (f : FoldD) (bt : BatchD) : Bool := mayB bt && (bt.q == IntKind.i64.wrap (lastOf f bt.c + 1))
def nextR (f : FoldD) (bt : BatchD) : RowD := ⟨IntKind.i64.wrap (f.place + 1), bt, (applyL f.d bt.l).1⟩
def nextF (f : FoldD) (bt : BatchD) : FoldD := ⟨IntKind.i64.wrap (f.place + 1), (applyL f.d bt.l).2, f.told.set bt.c.toNat (bt.q, nextR f bt)⟩
def next (f : FoldD) (bt : BatchD) : FoldD × RowD × Bool := match nextB f bt with | true => (nextF f bt, nextR f bt, true) | false => (f, zeroRow, false)
theorem may_parts {bt : BatchD} (h : mayB bt = true) : (1 ≤ bt.c ∧ bt.c ≤ 5) ∧ (1 ≤ bt.q ∧ bt.q ≤ 1099511627776) ∧ bt.l.length ≤ 8 := by
  obtain ⟨h1, h2, h3, _⟩ := mayBatch_parts h
  exact ⟨h1, h2, h3.2⟩
set_option maxHeartbeats 16000000 in
theorem fold_Next (w0 W : World) (H : Fh) (p : Nat) (f : FoldD) (bt : BatchD) (sv : Value) (R : List Res) (hb : BatOk bt) (hr : OpsH H sv bt.l) (hH : (fr w0).le H) (hT : Tabs w0) (hw : Has 0 w0 W (FoldAt H p f :: Fz H :: R)) :
    Calls Tryd.prog 9 ⟨[.pointer (some ⟨p, 0, none⟩), .agg ⟨batCells bt sv⟩]⟩ W fun e W' => ∃ sv' H', e = .returned (.tuple ⟨[.agg ⟨rowCells (next f bt).2.1 sv'⟩, .bool (next f bt).2.2]⟩) ∧ H.le H' ∧ OpsH H' sv' (next f bt).2.1.b.l ∧ Has 0 w0 W' (FoldAt H' p (next f bt).1 :: Fz H' :: R) := by
  obtain ⟨sad, scap, rfl⟩ := hr.slice
  refine enter Tryd.func9 Tryd.ntmps9 rfl rfl fun a hs => ?_
  repeat (first | (refine sxv hs hw ?_; clear hs; intro a hs) | refine sxc hs ?_ | (refine sxa hs hw ?_; clear hs hw; intro a b W hw hs) | (refine sxs hs hw ?_; clear hs hw; intro W hs hw))
  obtain ⟨b4, q4⟩ := nm1 hw; subst q4
  obtain ⟨b3, q3⟩ := nm2 hw; subst q3
  have hw : Has 0 w0 _ (FoldAt H p f :: Cells b4 zrc 32 :: Cells b3 (batCells bt (.slice sad bt.l.length scap)) 29 :: Fz H :: R) := hw.perm (by repeat (first | exact List.Perm.refl _ | refine perm_pick (by repeat (first | exact Pick.hd | apply Pick.tl)) ?_))
  cases hm : mayB bt with
  | false =>
    have hN : next f bt = (f, zeroRow, false) := by unfold next nextB; rw [hm]; rfl
    rw [hN]
    refine rg_draw (V := [.pointer (some ⟨p, 0, none⟩), .bool false, .bool false, .agg ⟨batCells bt (.slice sad bt.l.length scap)⟩, .bool false, .bool true, .bool true, .bool true, undef, undef, undef, undef, undef, undef, undef, undef, .bool true])
      (Rs := fun D => FoldAt H p f :: Cells b4 zrc 32 :: Cells b3 (batCells bt (.slice sad bt.l.length scap)) 29 :: Fz H :: R) hs hw (ho := ⟨?_, ?_, ?_, ?_, ?c4_1, ?_, ?_, ?_, ?_, ?_, ?_, ?_, ?_, ?_, ?_, ?_, ?_, trivial⟩) (k := ?k_1)
    case c4_1 =>
      intro LD D a W hcl hi hp hs hw
      repeat (first | (refine sxv hs hw ?_; clear hs; intro a hs) | refine sxc hs ?_ | (refine sxa hs hw ?_; clear hs hw; intro a b W hw hs) | (refine sxs hs hw ?_; clear hs hw; intro W hs hw))
      refine st_call hs (hc := op_MayBatch bt.c bt.q bt.l _ _ hb.c hb.q hb.ops (hw.rdH (by repeat (first | exact In.hd | apply In.tl)) hr) (hT.keep (hw.endF (by repeat (first | exact In.hd | apply In.tl)) hH))) (k := ?_); rintro e0 W1 ⟨rfl, hb⟩; refine ⟨_, rfl, ?_⟩; clear hs; intro a hs; replace hw := hw.below hb; clear hb
      rw [show mayBatch bt.c bt.q bt.l = mayB bt from rfl, hm] at hs
      repeat (first | (refine sxv hs hw ?_; clear hs; intro a hs) | refine sxc hs ?_ | (refine sxa hs hw ?_; clear hs hw; intro a b W hw hs) | (refine sxs hs hw ?_; clear hs hw; intro W hs hw))
      exact ⟨hs, hw⟩
    case k_1 =>
      clear hs hw
      intro a W hs hw
      repeat (first | (refine sxv hs hw ?_; clear hs; intro a hs) | refine sxc hs ?_ | (refine sxa hs hw ?_; clear hs hw; intro a b W hw hs) | (refine sxs hs hw ?_; clear hs hw; intro W hs hw))
      refine rc2 hs rfl rfl hw (In.tl In.hd) rfl rfl ?_
      exact ⟨.slice none 0 0, H, rfl, Fh.le.refl _, ops_nil H, hw.sub (List.Sublist.cons_cons _ (List.Sublist.cons _ (List.Sublist.cons _ (List.Sublist.refl _))))⟩
    all_goals
      intro LD D a W hcl hi hp hs hw
      repeat (first | (refine sxv hs hw ?_; clear hs; intro a hs) | refine sxc hs ?_ | (refine sxa hs hw ?_; clear hs hw; intro a b W hw hs) | (refine sxs hs hw ?_; clear hs hw; intro W hs hw) | ((with_reducible first | refine st_ptrSome hs (k := ?_) | refine st_ptrNone hs (k := ?_)); clear hs; intro a hs))
      exact ⟨hs, hw⟩
  | true =>
  obtain ⟨⟨hc1, hc5⟩, ⟨hq1, hq2⟩, hl8⟩ := may_parts hm
  refine rg_draw (V := [.pointer (some ⟨p, 0, none⟩), .bool false, .bool false, .agg ⟨batCells bt (.slice sad bt.l.length scap)⟩, .bool true, .bool false, .bool false, .bool false, .pointer (some ⟨b3, 0 + 1, none⟩), .int .i64 bt.q, .pointer (some ⟨p, 0, none⟩), .pointer (some ⟨b3, 0 + 0, none⟩), .int .i64 bt.c, .int .i64 (lastOf f bt.c), .int .i64 (IntKind.i64.wrap (lastOf f bt.c + 1)), .bool (bt.q != IntKind.i64.wrap (lastOf f bt.c + 1)), .bool (bt.q != IntKind.i64.wrap (lastOf f bt.c + 1))])
    (Rs := fun D => FoldAt H p f :: Cells b4 zrc 32 :: Cells b3 (batCells bt (.slice sad bt.l.length scap)) 29 :: Fz H :: R) hs hw (ho := ⟨?_, ?_, ?_, ?_, ?c4_2, ?_, ?_, ?_, ?_, ?_, ?_, ?_, ?_, ?c13_2, ?_, ?_, ?_, trivial⟩) (k := ?k_2)
  case c4_2 =>
    intro LD D a W hcl hi hp hs hw
    repeat (first | (refine sxv hs hw ?_; clear hs; intro a hs) | refine sxc hs ?_ | (refine sxa hs hw ?_; clear hs hw; intro a b W hw hs) | (refine sxs hs hw ?_; clear hs hw; intro W hs hw))
    refine st_call hs (hc := op_MayBatch bt.c bt.q bt.l _ _ hb.c hb.q hb.ops (hw.rdH (by repeat (first | exact In.hd | apply In.tl)) hr) (hT.keep (hw.endF (by repeat (first | exact In.hd | apply In.tl)) hH))) (k := ?_); rintro e0 W1 ⟨rfl, hb⟩; refine ⟨_, rfl, ?_⟩; clear hs; intro a hs; replace hw := hw.below hb; clear hb
    rw [show mayBatch bt.c bt.q bt.l = mayB bt from rfl, hm] at hs
    repeat (first | (refine sxv hs hw ?_; clear hs; intro a hs) | refine sxc hs ?_ | (refine sxa hs hw ?_; clear hs hw; intro a b W hw hs) | (refine sxs hs hw ?_; clear hs hw; intro W hs hw))
    exact ⟨hs, hw⟩
  case c13_2 =>
    intro LD D a W hcl hi hp hs hw
    repeat (first | (refine sxv hs hw ?_; clear hs; intro a hs) | refine sxc hs ?_ | (refine sxa hs hw ?_; clear hs hw; intro a b W hw hs) | (refine sxs hs hw ?_; clear hs hw; intro W hs hw))
    refine st_call hs (hc := fold_Last w0 _ H p f bt.c _ hw) (k := ?_); rintro e0 W1 ⟨rfl, hw1⟩; refine ⟨_, rfl, ?_⟩; clear hs hw; intro a hs; have hw := hw1; clear hw1
    repeat (first | (refine sxv hs hw ?_; clear hs; intro a hs) | refine sxc hs ?_ | (refine sxa hs hw ?_; clear hs hw; intro a b W hw hs) | (refine sxs hs hw ?_; clear hs hw; intro W hs hw))
    exact ⟨hs, hw⟩
  case k_2 =>
    clear hs hw
    intro a W hs hw
    replace hw : Has 0 w0 W (FoldAt H p f :: Cells b4 zrc 32 :: Cells b3 (batCells bt (.slice sad bt.l.length scap)) 29 :: Fz H :: R) := hw
    replace hs : Slots a 58 [(0, .pointer (some ⟨p, 0, none⟩)), (3, .pointer (some ⟨b3, 0, none⟩)), (4, .pointer (some ⟨b4, 0, none⟩)), (5, .bool false), (23, .bool (bt.q != IntKind.i64.wrap (lastOf f bt.c + 1)))] := hs.of ⟨rfl, rfl, rfl, rfl, rfl, trivial⟩
    repeat (first | (refine sxv hs hw ?_; clear hs; intro a hs) | refine sxc hs ?_ | (refine sxa hs hw ?_; clear hs hw; intro a b W hw hs) | (refine sxs hs hw ?_; clear hs hw; intro W hs hw))
    cases hq : (bt.q != IntKind.i64.wrap (lastOf f bt.c + 1)) with
    | true =>
      have hN : next f bt = (f, zeroRow, false) := by
        unfold next nextB
        have : (bt.q == IntKind.i64.wrap (lastOf f bt.c + 1)) = false := by simpa using hq
        rw [hm, this]; rfl
      rw [hN]
      rw [hq] at hs
      repeat (first | (refine sxv hs hw ?_; clear hs; intro a hs) | refine sxc hs ?_ | (refine sxa hs hw ?_; clear hs hw; intro a b W hw hs) | (refine sxs hs hw ?_; clear hs hw; intro W hs hw))
      refine rc2 hs rfl rfl hw (In.tl In.hd) rfl rfl ?_
      exact ⟨.slice none 0 0, H, rfl, Fh.le.refl _, ops_nil H, hw.sub (List.Sublist.cons_cons _ (List.Sublist.cons _ (List.Sublist.cons _ (List.Sublist.refl _))))⟩
    | false =>
    have hN : next f bt = (nextF f bt, nextR f bt, true) := by
      unfold next nextB
      have : (bt.q == IntKind.i64.wrap (lastOf f bt.c + 1)) = true := by simpa using hq
      rw [hm, this]; rfl
    rw [hN]
    rw [hq] at hs
    obtain ⟨pd, xs, ht, hw⟩ := foldOpen hw
    repeat (first | (refine sxv hs hw ?_; clear hs; intro a hs) | refine sxc hs ?_ | (refine sxa hs hw ?_; clear hs hw; intro a b W hw hs) | (refine sxs hs hw ?_; clear hs hw; intro W hs hw))
    have hw : Has 0 w0 W (Cells p (foldCells (IntKind.i64.wrap (f.place + 1)) pd xs) 61 :: DocAt pd f.d :: Fz H :: Free :: Cells b4 zrc 32 :: Cells b3 (batCells bt (.slice sad bt.l.length scap)) 29 :: R) := hw.free.perm (by repeat (first | exact List.Perm.refl _ | refine perm_pick (by repeat (first | exact Pick.hd | apply Pick.tl)) ?_))
    refine rg_drawU (σ := Value × Fh × Nat) (V := fun u => [.pointer (some ⟨p, 0, none⟩), .pointer (some ⟨p, 0, none⟩), .pointer (some ⟨p, 0 + 0, none⟩), .int .i64 (IntKind.i64.wrap (f.place + 1)), .agg ⟨batCells bt (.slice sad bt.l.length scap)⟩, .pointer (some ⟨p, 0, none⟩), .pointer (some ⟨p, 0, none⟩), .pointer (some ⟨p, 0 + 1, none⟩), .pointer (some ⟨pd, 0, none⟩), .pointer (some ⟨b3, 0 + 2, none⟩), .slice sad bt.l.length scap, .int .i64 (applyL f.d bt.l).1, .agg ⟨rowCells (nextR f bt) (.slice sad bt.l.length scap)⟩, .agg ⟨rowCells (nextR f bt) (u 13).1⟩, .pointer (some ⟨(u 14).2.2, 0, none⟩), .bool true])
      (Rs := fun u D => Cells p (foldCells (IntKind.i64.wrap (f.place + 1)) pd xs) 61 :: (if D 11 then DocAt pd (applyL f.d bt.l).2 else DocAt pd f.d) :: (if D 13 then FzF (u 13).2.1 (H.le (u 13).2.1 ∧ OpsH (u 13).2.1 (u 13).1 bt.l) else Fz H) :: (if D 14 then Cells (u 14).2.2 (if D 15 then rowCells (nextR f bt) (u 13).1 else zrc) 32 else Free) :: Cells b4 zrc 32 :: Cells b3 (batCells bt (.slice sad bt.l.length scap)) 29 :: R) (fun _ => (.nilIface, H, 0)) hs hw (hVu := ?vu_3) (ho := ⟨?_, ?_, ?_, ?_, ?_, ?_, ?_, ?_, ?_, ?_, ?_, ?c11_3, ?_, ?c13_3, ?c14_3, ?c15_3, trivial⟩) (k := ?k_3)
    case vu_3 =>
      intro u u' j h
      rcases j with _ | _ | _ | _ | _ | _ | _ | _ | _ | _ | _ | _ | _ | _ | _ | j
      all_goals first | rfl | simp [h]
    case c11_3 =>
      intro u LD D a W hcl hi hp hs hw
      have h12 := Go.Sx.not_done hcl hi 12 (by kernel_rfl)
      have h13 := Go.Sx.not_done hcl h12 13 (by kernel_rfl)
      simp only [hi, h13, Bool.false_eq_true, if_false] at hw
      repeat (first | (refine sxv hs hw ?_; clear hs; intro a hs) | refine sxc hs ?_ | (refine sxa hs hw ?_; clear hs hw; intro a b W hw hs) | (refine sxs hs hw ?_; clear hs hw; intro W hs hw))
      have hw : Has 0 w0 W (DocAt pd f.d :: Cells p (foldCells (IntKind.i64.wrap (f.place + 1)) pd xs) 61 :: Fz H :: (if D 14 then Cells (u 14).2.2 (if D 15 then rowCells (nextR f bt) (u 13).1 else zrc) 32 else Free) :: Cells b4 zrc 32 :: Cells b3 (batCells bt (.slice sad bt.l.length scap)) 29 :: R) := hw.perm (by repeat (first | exact List.Perm.refl _ | refine perm_pick (by repeat (first | exact Pick.hd | apply Pick.tl)) ?_))
      refine st_call hs (hc := doc_ApplyL w0 _ H pd f.d bt.l _ _ hb.ops hr (by repeat (first | exact In.hd | apply In.tl)) hH hT hw) (k := ?_); rintro e0 W1 ⟨rfl, hw1⟩; refine ⟨_, rfl, ?_⟩; clear hs hw; intro a hs; have hw := hw1; clear hw1
      repeat (first | (refine sxv hs hw ?_; clear hs; intro a hs) | refine sxc hs ?_ | (refine sxa hs hw ?_; clear hs hw; intro a b W hw hs) | (refine sxs hs hw ?_; clear hs hw; intro W hs hw))
      refine Or.inl ⟨hs, ?_⟩
      show Has 0 w0 _ (Cells p (foldCells (IntKind.i64.wrap (f.place + 1)) pd xs) 61 :: DocAt pd (applyL f.d bt.l).2 :: (if (Nat.beq 13 11 || D 13) = true then _ else _) :: (if D 14 then Cells (u 14).2.2 (if D 15 then rowCells (nextR f bt) (u 13).1 else zrc) 32 else Free) :: Cells b4 zrc 32 :: Cells b3 (batCells bt (.slice sad bt.l.length scap)) 29 :: R)
      rw [h13]
      exact hw.swap2
    case c13_3 =>
      intro u LD D a W hcl hi hp hs hw
      have h15 := Go.Sx.not_done hcl hi 15 (by kernel_rfl)
      simp only [hi, h15, Bool.false_eq_true, if_false] at hw
      repeat (first | (refine sxv hs hw ?_; clear hs; intro a hs) | refine sxc hs ?_ | (refine sxa hs hw ?_; clear hs hw; intro a b W hw hs) | (refine sxs hs hw ?_; clear hs hw; intro W hs hw))
      have hw : Has 0 w0 W (Fz H :: Cells p (foldCells (IntKind.i64.wrap (f.place + 1)) pd xs) 61 :: (if D 11 then DocAt pd (applyL f.d bt.l).2 else DocAt pd f.d) :: (if D 14 then Cells (u 14).2.2 zrc 32 else Free) :: Cells b4 zrc 32 :: Cells b3 (batCells bt (.slice sad bt.l.length scap)) 29 :: R) := hw.perm (by repeat (first | exact List.Perm.refl _ | refine perm_pick (by repeat (first | exact Pick.hd | apply Pick.tl)) ?_))
      refine st_call hs (hc := fold_own w0 _ H (nextR f bt) _ _ (show (nextR f bt).b.l.length ≤ 1000 from Nat.le_trans hl8 (by decide)) hr hw) (k := ?_); rintro e0 W1 ⟨sv', H', rfl, h1, h2, hw1⟩; refine ⟨_, rfl, ?_⟩; clear hs hw; intro a hs; have hw := hw1; clear hw1
      repeat (first | (refine sxv hs hw ?_; clear hs; intro a hs) | refine sxc hs ?_ | (refine sxa hs hw ?_; clear hs hw; intro a b W hw hs) | (refine sxs hs hw ?_; clear hs hw; intro W hs hw))
      refine Or.inr ⟨(sv', H', 0), hs, ?_⟩
      have hw := hw.fzf (q := H.le H' ∧ OpsH H' sv' bt.l) ⟨h1, h2⟩
      show Has 0 w0 _ (Cells p (foldCells (IntKind.i64.wrap (f.place + 1)) pd xs) 61 :: (if D 11 then DocAt pd (applyL f.d bt.l).2 else DocAt pd f.d) :: FzF H' (H.le H' ∧ OpsH H' sv' bt.l) :: (if D 14 then Cells (u 14).2.2 (if (Nat.beq 15 13 || D 15) = true then _ else _) 32 else Free) :: Cells b4 zrc 32 :: Cells b3 (batCells bt (.slice sad bt.l.length scap)) 29 :: R)
      rw [h15]
      exact hw.perm (by repeat (first | exact List.Perm.refl _ | refine perm_pick (by repeat (first | exact Pick.hd | apply Pick.tl)) ?_))
    case c14_3 =>
      intro u LD D a W hcl hi hp hs hw
      have h15 := Go.Sx.not_done hcl hi 15 (by kernel_rfl)
      simp only [hi, Bool.false_eq_true, if_false] at hw
      repeat (first | (refine sxv hs hw ?_; clear hs; intro a hs) | refine sxc hs ?_ | (refine sxa hs hw ?_; clear hs hw; intro a b W hw hs) | (refine sxs hs hw ?_; clear hs hw; intro W hs hw))
      refine Or.inr ⟨(.nilIface, H, _), hs, ?_⟩
      show Has 0 w0 _ (Cells p (foldCells (IntKind.i64.wrap (f.place + 1)) pd xs) 61 :: (if D 11 then DocAt pd (applyL f.d bt.l).2 else DocAt pd f.d) :: (if D 13 then FzF (u 13).2.1 (H.le (u 13).2.1 ∧ OpsH (u 13).2.1 (u 13).1 bt.l) else Fz H) :: Cells _ (if (Nat.beq 15 14 || D 15) = true then _ else _) 32 :: Cells b4 zrc 32 :: Cells b3 (batCells bt (.slice sad bt.l.length scap)) 29 :: R)
      rw [h15]
      exact hw.fill (Upd.tl (Upd.tl (Upd.tl Upd.hd)))
    case c15_3 =>
      intro u LD D a W hcl hi hp hs hw
      have h13 := Go.Sx.done hp 13 (by kernel_rfl)
      have h14 := Go.Sx.done hp 14 (by kernel_rfl)
      simp only [hi, h13, h14, Bool.false_eq_true, if_false, if_true] at hw
      have hv : OpsH (u 13).2.1 (u 13).1 bt.l := by
        have hw2 := hw.perm (B := FzF (u 13).2.1 (H.le (u 13).2.1 ∧ OpsH (u 13).2.1 (u 13).1 bt.l) :: Cells p (foldCells (IntKind.i64.wrap (f.place + 1)) pd xs) 61 :: (if D 11 then DocAt pd (applyL f.d bt.l).2 else DocAt pd f.d) :: Cells (u 14).2.2 zrc 32 :: Cells b4 zrc 32 :: Cells b3 (batCells bt (.slice sad bt.l.length scap)) 29 :: R) (by repeat (first | exact List.Perm.refl _ | refine perm_pick (by repeat (first | exact Pick.hd | apply Pick.tl)) ?_))
        exact hw2.unfzf.1.2
      obtain ⟨tad, tcap, e13⟩ := hv.slice
      refine st_store hs (hw := hw) (vs := rowCells (nextR f bt) (u 13).1) (h1 := by rw [e13]; rfl) (k := ?_); clear hs hw; intro W hs hw
      repeat (first | (refine sxv hs hw ?_; clear hs; intro a hs) | refine sxc hs ?_ | (refine sxa hs hw ?_; clear hs hw; intro a b W hw hs) | (refine sxs hs hw ?_; clear hs hw; intro W hs hw))
      refine Or.inl ⟨hs, ?_⟩
      show Has 0 w0 _ (Cells p (foldCells (IntKind.i64.wrap (f.place + 1)) pd xs) 61 :: (if D 11 then DocAt pd (applyL f.d bt.l).2 else DocAt pd f.d) :: (if (Nat.beq 13 15 || D 13) = true then _ else _) :: (if (Nat.beq 14 15 || D 14) = true then _ else _) :: Cells b4 zrc 32 :: Cells b3 (batCells bt (.slice sad bt.l.length scap)) 29 :: R)
      rw [h13, h14]
      exact hw
    case k_3 =>
      clear hs hw
      intro u a W hs hw
      replace hw : Has 0 w0 W (Cells p (foldCells (IntKind.i64.wrap (f.place + 1)) pd xs) 61 :: DocAt pd (applyL f.d bt.l).2 :: FzF (u 13).2.1 (H.le (u 13).2.1 ∧ OpsH (u 13).2.1 (u 13).1 bt.l) :: Cells (u 14).2.2 (rowCells (nextR f bt) (u 13).1) 32 :: Cells b4 zrc 32 :: Cells b3 (batCells bt (.slice sad bt.l.length scap)) 29 :: R) := hw
      replace hs : Slots a 58 [(0, .pointer (some ⟨p, 0, none⟩)), (3, .pointer (some ⟨b3, 0, none⟩)), (4, .pointer (some ⟨b4, 0, none⟩)), (5, .bool false), (6, .pointer (some ⟨(u 14).2.2, 0, none⟩))] := hs.of ⟨rfl, rfl, rfl, rfl, rfl, trivial⟩
      generalize (u 14).2.2 = b6 at *
      generalize (u 13).2.1 = H1 at *
      generalize (u 13).1 = v1 at *
      clear u
      have hw : Has 0 w0 W (FzF H1 (H.le H1 ∧ OpsH H1 v1 bt.l) :: Cells p (foldCells (IntKind.i64.wrap (f.place + 1)) pd xs) 61 :: DocAt pd (applyL f.d bt.l).2 :: Cells b6 (rowCells (nextR f bt) v1) 32 :: Cells b4 zrc 32 :: Cells b3 (batCells bt (.slice sad bt.l.length scap)) 29 :: R) := hw.perm (by repeat (first | exact List.Perm.refl _ | refine perm_pick (by repeat (first | exact Pick.hd | apply Pick.tl)) ?_))
      obtain ⟨⟨hle1, hv1⟩, hw⟩ := hw.unfzf
      obtain ⟨vad, vcap, rfl⟩ := hv1.slice
      have ht1 : ToldOk H1 f.told xs := ⟨ht.1, ht.2.mono (TolIn.le hle1)⟩
      have hlen := fold_len (IntKind.i64.wrap (f.place + 1)) pd ht
      have hset := told_set ht1 (c := bt.c.toNat) (by omega) (x := (bt.q, nextR f bt)) (sv := .slice vad bt.l.length vcap) hv1
      repeat (first | (refine sxv hs hw ?_; clear hs; intro a hs) | refine sxc hs ?_ | (refine sxa hs hw ?_; clear hs hw; intro a b W hw hs) | (refine sxs hs hw ?_; clear hs hw; intro W hs hw))
      have hw : Has 0 w0 W (Cells p (foldCells (IntKind.i64.wrap (f.place + 1)) pd xs) 61 :: Fz H1 :: DocAt pd (applyL f.d bt.l).2 :: Cells b6 (rowCells (nextR f bt) (.slice vad bt.l.length vcap)) 32 :: Cells b4 zrc 32 :: Cells b3 (batCells bt (.slice sad bt.l.length scap)) 29 :: R) := hw.perm (by repeat (first | exact List.Perm.refl _ | refine perm_pick (by repeat (first | exact Pick.hd | apply Pick.tl)) ?_))
      refine rg_draw (V := [.pointer (some ⟨p, 0, none⟩), .pointer (some ⟨b3, 0 + 0, none⟩), .int .i64 bt.c, .pointer (some ⟨b3, 0 + 1, none⟩), .int .i64 bt.q, .agg ⟨rowCells (nextR f bt) (.slice vad bt.l.length vcap)⟩, .agg ⟨.int .i64 bt.q :: rowCells (nextR f bt) (.slice vad bt.l.length vcap)⟩, .pointer (some ⟨p, 0, none⟩), .pointer (some ⟨p, 0 + 2, none⟩), .pointer (some ⟨p, 0 + 2 + bt.c.toNat * 6, none⟩), .bool true])
        (Rs := fun D => (if D 10 then Cells p (foldCells (IntKind.i64.wrap (f.place + 1)) pd (ov xs (bt.c.toNat * 6) (.int .i64 bt.q :: rowCells (nextR f bt) (.slice vad bt.l.length vcap)))) 61 else Cells p (foldCells (IntKind.i64.wrap (f.place + 1)) pd xs) 61) :: Fz H1 :: DocAt pd (applyL f.d bt.l).2 :: Cells b6 (rowCells (nextR f bt) (.slice vad bt.l.length vcap)) 32 :: Cells b4 zrc 32 :: Cells b3 (batCells bt (.slice sad bt.l.length scap)) 29 :: R) hs hw (ho := ⟨?_, ?_, ?_, ?_, ?_, ?_, ?_, ?_, ?_, ?c9_4, ?c10_4, trivial⟩) (k := ?k_4)
      case c9_4 =>
        intro LD D a W hcl hi hp hs hw
        refine st_index_arr hs (h0 := by omega) (h1 := by omega) (c := ?_); clear hs; intro a hs
        repeat (first | (refine sxv hs hw ?_; clear hs; intro a hs) | refine sxc hs ?_ | (refine sxa hs hw ?_; clear hs hw; intro a b W hw hs) | (refine sxs hs hw ?_; clear hs hw; intro W hs hw))
        exact ⟨hs, hw⟩
      case c10_4 =>
        intro LD D a W hcl hi hp hs hw
        simp only [hi, Bool.false_eq_true, if_false] at hw
        refine st_store hs (hw := hw) (vs := .int .i64 bt.q :: rowCells (nextR f bt) (.slice vad bt.l.length vcap)) (hl := by rw [hlen, Nat.ble_eq]; show 0 + 2 + bt.c.toNat * 6 + 6 ≤ 38; omega) (k := ?_); clear hs hw; intro W hs hw
        repeat (first | (refine sxv hs hw ?_; clear hs; intro a hs) | refine sxc hs ?_ | (refine sxa hs hw ?_; clear hs hw; intro a b W hw hs) | (refine sxs hs hw ?_; clear hs hw; intro W hs hw))
        refine ⟨hs, ?_⟩
        have e : ov (foldCells (IntKind.i64.wrap (f.place + 1)) pd xs) (0 + 2 + bt.c.toNat * 6) (.int .i64 bt.q :: rowCells (nextR f bt) (.slice vad bt.l.length vcap)) = foldCells (IntKind.i64.wrap (f.place + 1)) pd (ov xs (bt.c.toNat * 6) (.int .i64 bt.q :: rowCells (nextR f bt) (.slice vad bt.l.length vcap))) := by
          rw [show 0 + 2 + bt.c.toNat * 6 = bt.c.toNat * 6 + 1 + 1 by omega]
          rfl
        rw [e] at hw
        exact hw
      case k_4 =>
        clear hs hw
        intro a W hs hw
        replace hw : Has 0 w0 W (Cells p (foldCells (IntKind.i64.wrap (f.place + 1)) pd (ov xs (bt.c.toNat * 6) (.int .i64 bt.q :: rowCells (nextR f bt) (.slice vad bt.l.length vcap)))) 61 :: Fz H1 :: DocAt pd (applyL f.d bt.l).2 :: Cells b6 (rowCells (nextR f bt) (.slice vad bt.l.length vcap)) 32 :: Cells b4 zrc 32 :: Cells b3 (batCells bt (.slice sad bt.l.length scap)) 29 :: R) := hw
        replace hs : Slots a 58 [(0, .pointer (some ⟨p, 0, none⟩)), (4, .pointer (some ⟨b4, 0, none⟩)), (5, .bool false), (6, .pointer (some ⟨b6, 0, none⟩))] := hs.of ⟨rfl, rfl, rfl, rfl, trivial⟩
        have hw : Has 0 w0 W (Cells p (foldCells (IntKind.i64.wrap (f.place + 1)) pd (ov xs (bt.c.toNat * 6) (.int .i64 bt.q :: rowCells (nextR f bt) (.slice vad bt.l.length vcap)))) 61 :: DocAt pd (applyL f.d bt.l).2 :: Fz H1 :: Cells b6 (rowCells (nextR f bt) (.slice vad bt.l.length vcap)) 32 :: Cells b4 zrc 32 :: Cells b3 (batCells bt (.slice sad bt.l.length scap)) 29 :: R) := hw.perm (by repeat (first | exact List.Perm.refl _ | refine perm_pick (by repeat (first | exact Pick.hd | apply Pick.tl)) ?_))
        have hw := foldShut (f := nextF f bt) hw hset
        repeat (first | (refine sxv hs hw ?_; clear hs; intro a hs) | refine sxc hs ?_ | (refine sxa hs hw ?_; clear hs hw; intro a b W hw hs) | (refine sxs hs hw ?_; clear hs hw; intro W hs hw))
        have hw : Has 0 w0 W (Fz H1 :: FoldAt H1 p (nextF f bt) :: Cells b6 (rowCells (nextR f bt) (.slice vad bt.l.length vcap)) 32 :: Cells b4 zrc 32 :: Cells b3 (batCells bt (.slice sad bt.l.length scap)) 29 :: R) := hw.swap2
        refine st_call hs (hc := fold_own w0 _ H1 (nextR f bt) _ _ (show (nextR f bt).b.l.length ≤ 1000 from Nat.le_trans hl8 (by decide)) hv1 hw) (k := ?_); rintro e0 W1 ⟨sv', H2, rfl, h1, h2, hw1⟩; refine ⟨_, rfl, ?_⟩; clear hs hw; intro a hs; have hw := hw1; clear hw1
        obtain ⟨uad, ucap, rfl⟩ := h2.slice
        repeat (first | (refine sxv hs hw ?_; clear hs; intro a hs) | refine sxc hs ?_ | (refine sxa hs hw ?_; clear hs hw; intro a b W hw hs) | (refine sxs hs hw ?_; clear hs hw; intro W hs hw))
        have hw : Has 0 w0 _ (Cells b4 (rowCells (nextR f bt) (.slice uad bt.l.length ucap)) 32 :: FoldAt H1 p (nextF f bt) :: Fz H2 :: Cells b6 (rowCells (nextR f bt) (.slice vad bt.l.length vcap)) 32 :: Cells b3 (batCells bt (.slice sad bt.l.length scap)) 29 :: R) := hw.perm (by repeat (first | exact List.Perm.refl _ | refine perm_pick (by repeat (first | exact Pick.hd | apply Pick.tl)) ?_))
        refine rc2 hs rfl rfl hw In.hd rfl rfl ?_
        have hw := foldLe (hw.sub (List.Sublist.cons _ (List.Sublist.refl _))) h1
        exact ⟨_, H2, rfl, hle1.trans h1, h2, hw.sub (List.Sublist.cons_cons _ (List.Sublist.cons_cons _ (List.Sublist.cons _ (List.Sublist.cons _ (List.Sublist.refl _)))))⟩
      all_goals
        intro LD D a W hcl hi hp hs hw
        repeat (first | (refine sxv hs hw ?_; clear hs; intro a hs) | refine sxc hs ?_ | (refine sxa hs hw ?_; clear hs hw; intro a b W hw hs) | (refine sxs hs hw ?_; clear hs hw; intro W hs hw))
        exact ⟨hs, hw⟩
    all_goals
      intro u LD D a W hcl hi hp hs hw
      repeat (first | (refine sxv hs hw ?_; clear hs; intro a hs) | refine sxc hs ?_ | (refine sxa hs hw ?_; clear hs hw; intro a b W hw hs) | (refine sxs hs hw ?_; clear hs hw; intro W hs hw))
      exact Or.inl ⟨hs, hw⟩
  all_goals
    intro LD D a W hcl hi hp hs hw
    repeat (first | (refine sxv hs hw ?_; clear hs; intro a hs) | refine sxc hs ?_ | (refine sxa hs hw ?_; clear hs hw; intro a b W hw hs) | (refine sxs hs hw ?_; clear hs hw; intro W hs hw) | ((with_reducible first | refine st_ptrSome hs (k := ?_) | refine st_ptrNone hs (k := ?_)); clear hs; intro a hs))
    exact ⟨hs, hw⟩
end Go.Proofs.YtmalklakaalaoaaDoor.Sw

set_option linter.unusedVariables false
set_option maxRecDepth 10000
namespace Go.Sx
open Go.RowKit
end Go.Sx
namespace Go.Proofs.YtmalklakaalaoaaDoor.Sw
open Go.RowKit Go.Sx
-- pieces
section
variable {ops : Array Oper} {rest : List Oper} {Q : Exit → Act → World → Prop} {a : Act} {n : Nat} {L : List (Nat × Value)} {W : World} {d : Nat} {T S' : TypeId} {p : String} {e : Array Edge} {x y : Operand} {o o' : OpD}
end
def eqL (l l' : List OpD) : Bool := (l.length == l'.length) && eqOps l l'
def sameR (a b : RowD) : Bool := (a.place == b.place) && ((a.err == b.err) && ((a.b.c == b.b.c) && ((a.b.q == b.b.q) && eqL a.b.l b.b.l)))
end Go.Proofs.YtmalklakaalaoaaDoor.Sw

set_option linter.unusedVariables false
set_option maxRecDepth 10000
namespace Go.Proofs.YtmalklakaalaoaaDoor.Sw
open Go.RowKit Go.Sx
-- pieces
structure StreamD where
  f : FoldD
  l : List RowD
section
variable {G p pf : Nat} {w W : World} {R : List Res} {s : StreamD} {H H' : Fh} {v : Value} {xs : List Value}
end
def one (s : StreamD) (r : RowD) : StreamD × Bool × Int :=
  if r.place > (s.l.length : Int) + 1 then (s, false, 2)
  else if r.place < (s.l.length : Int) + 1 then
    if r.place < 1 ∨ ¬ (∃ x, s.l[(r.place - 1).toNat]? = some x ∧ sameR r x = true) then (s, false, 1) else (s, false, 0)
  else if (next s.f r.b).2.2 = true ∧ (next s.f r.b).2.1.err = r.err then (⟨(next s.f r.b).1, s.l ++ [r]⟩, true, 0) else (s, false, 1)
end Go.Proofs.YtmalklakaalaoaaDoor.Sw

set_option linter.unusedVariables false
set_option maxRecDepth 10000
namespace Go.Proofs.YtmalklakaalaoaaDoor.Sw
open Go.RowKit Go.Sx
-- pieces
end Go.Proofs.YtmalklakaalaoaaDoor.Sw

set_option linter.unusedVariables false
set_option maxRecDepth 10000
namespace Go.Sx
open Go.RowKit
section
variable {P : Program} {Q : Exit → Act → World → Prop} {C : Ending → World → Prop} {a : Act} {n G : Nat} {L : List (Nat × Value)} {w W : World} {R : List Res} {t t' : Tmp} {T T' E E' : TypeId} {b o b' o' : Nat} {cs cs' z z' : List Value} {fn : Func}
end
end Go.Sx
namespace Go.Proofs.YtmalklakaalaoaaDoor.Sw
open Go.RowKit Go.Sx
-- pieces
end Go.Proofs.YtmalklakaalaoaaDoor.Sw

set_option linter.unusedVariables false
set_option maxRecDepth 10000
namespace Go.Proofs.YtmalklakaalaoaaDoor.Sw
open Go.RowKit Go.Sx
-- pieces
end Go.Proofs.YtmalklakaalaoaaDoor.Sw

set_option linter.unusedVariables false
set_option maxRecDepth 10000
namespace Go.Proofs.YtmalklakaalaoaaDoor.Sw
open Go.RowKit Go.Sx
-- pieces
end Go.Proofs.YtmalklakaalaoaaDoor.Sw

set_option linter.unusedVariables false
set_option maxRecDepth 10000
namespace Go.Proofs.YtmalklakaalaoaaDoor.Sw
open Go.RowKit Go.Sx
-- pieces
end Go.Proofs.YtmalklakaalaoaaDoor.Sw

set_option linter.unusedVariables false
set_option maxRecDepth 10000
namespace Go.Sx
end Go.Sx
namespace Go.Proofs.YtmalklakaalaoaaDoor.Sw
open Go.RowKit Go.Sx
-- pieces
instance arL : Ar Tryd.prog 47 6 2 := ⟨by kernel_rfl⟩
theorem lastOf_at {f : FoldD} {c : Int} (h1 : 1 ≤ c) (h5 : c ≤ 5) {x : Int × RowD} (hx : f.told[c.toNat]? = some x) : lastOf f c = x.1 := by
  unfold lastOf
  rw [if_pos ⟨h1, h5⟩, hx]; rfl
end Go.Proofs.YtmalklakaalaoaaDoor.Sw

set_option linter.unusedVariables false
set_option maxRecDepth 10000
namespace Go.Proofs.YtmalklakaalaoaaDoor.Sw
open Go.RowKit Go.Sx
-- pieces
end Go.Proofs.YtmalklakaalaoaaDoor.Sw

set_option linter.unusedVariables false
set_option maxRecDepth 10000
namespace Go.Proofs.YtmalklakaalaoaaDoor.Sw
open Go.RowKit Go.Sx
-- pieces
end Go.Proofs.YtmalklakaalaoaaDoor.Sw

set_option linter.unusedVariables false
namespace Go.Proofs.YtmalklakaalaoaaDoor.Sw
open Go.RowKit Go.Sx
theorem max63 {n : Nat} (h : n ≤ maxLen) : n ≤ 9223372036854775807 := by
  have : (maxLen : Nat) ≤ 9223372036854775807 := by decide
  omega
end Go.Proofs.YtmalklakaalaoaaDoor.Sw

set_option linter.unusedVariables false
set_option maxRecDepth 10000
namespace Go.Sx
end Go.Sx
namespace Go.Proofs.YtmalklakaalaoaaDoor.Sw
open Go.RowKit Go.Sx
-- pieces
end Go.Proofs.YtmalklakaalaoaaDoor.Sw

set_option linter.unusedVariables false
set_option maxRecDepth 10000
namespace Go.Proofs.YtmalklakaalaoaaDoor.Sw
open Go.RowKit Go.Sx
-- pieces
theorem setRL_err (d : Dm) (k : ByteArray) (x : Option DV) : (setRL d k x).1 = 0 ∨ (setRL d k x).1 = 6 := by
  cases x with
  | none => exact .inl rfl
  | some v => unfold setRL; simp only; split <;> simp
end Go.Proofs.YtmalklakaalaoaaDoor.Sw

set_option linter.unusedVariables false
namespace Go.Proofs.YtmalklakaalaoaaDoor
open Go.RowKit
theorem info_byte : (Tryd.prog.info? 5).map (fun i => (i.zero, i.size, i.bytes)) = some (some (.int .u8 0), 1, 1) := by kernel_rfl
theorem ret_int3 {a a' b b' c c' : Int} (h1 : a = a') (h2 : b = b') (h3 : c = c') : Ending.returned (.tuple #[.int .i64 a, .int .i64 b, .int .i64 c]) = .returned (.tuple #[.int .i64 a', .int .i64 b', .int .i64 c']) := by rw [h1, h2, h3]
def OwnB (w : World) (B : Nat) (v : Value) (l : List UInt8) : Prop := w.ownsRow B 5 1 v l.length (Lib.byteCells l)
theorem u8w (x : Nat) (h : x < 128) : IntKind.u8.wrap (x : Int) = ((x.toUInt8).toNat : Int) := by
  rw [IntKind.wrap_u8, Ph.u8n x (by omega)]; omega
theorem u8p (x : Nat) (h : x < 128) : (x : Int) = ((x.toUInt8).toNat : Int) := by rw [Ph.u8n x (by omega)]
theorem u8o (x : Nat) : bits .or .u8 (IntKind.u8.wrap (x : Int)) 128 = (((x % 128 + 128).toUInt8).toNat : Int) := by
  have e : IntKind.u8.wrap (x : Int) = ((x % 256 : Nat) : Int) := by rw [IntKind.wrap_u8]; omega
  rw [e, Ph.or128_at _ (by omega), Ph.u8n _ (by omega)]; omega
set_option maxRecDepth 100000 in
set_option maxHeartbeats 2000000 in
theorem num_Put_pos (B : Nat) (v : Value) (l : List UInt8) (n : Int) (w : World) (h0 : -9223372036854775808 ≤ n) (h1 : n ≤ 9223372036854775807) (hn : 0 ≤ n) (ho : OwnB w B v l) (hl : l.length ≤ 1000000000) (hB : B ≤ w.heap.size) :
    Calls Tryd.prog 36 #[v, .int .i64 n] w fun e w' => ∃ v', e = .returned v' ∧ OwnB w' B v' (l ++ Ph.putI n) ∧ Below B w w' ∧ B ≤ w'.heap.size := by
  obtain ⟨ib, hib, hbz, hbs, hbb⟩ := info_parts info_byte
  have HO : Hid (w.ownsRow B 5 1 v l.length (Lib.byteCells l)) := ho
  have HZ := Lib.hid (Ph.zig_small h0 h1).1
  clear ho
  go_enter Tryd.func36, Tryd.ntmps36
  go_wp2
  go_loopw [0, 5] (fun b u wr => ∃ (acc : List UInt8) (f x : Nat), u = .int .u64 x ∧ Hid (x < 128 ^ f) ∧ 1 ≤ f ∧ f ≤ 10 ∧ acc.length + f ≤ l.length + 10 ∧ Hid (wr.ownsRow B 5 1 b acc.length (Lib.byteCells acc)) ∧ Below B w wr ∧ B ≤ wr.heap.size ∧ Hid (acc ++ Ph.putN f x = l ++ Ph.putI n)) (fun _ u _ => (intOf u).toNat)
  case atStart => exact ⟨l, 10, Ph.zig n, by rw [Ph.zig_pos n hn], HZ.out, by omega, by omega, by omega, HO.out, Below.refl _ _, hB, rfl⟩
  case round =>
    obtain ⟨acc, f, x, rfl, HX, hf1, hf2, hal, HR, hbw, hBw, HE⟩ := hrel
    have hr := HR.out
    by_cases hx : x < 128
    · have hx' : (x : Int) ≤ 127 := by omega
      go_wp2_with (at_builtin; refine wpList_append_own _ rfl (.tmp 23) (.tmp 26) 22 rfl (B) 5 ib (.int .u8 0) 1 1 Tryd.underlying22 hib hbz hbs hbb rfl (by decide) _ acc.length _ rfl (hr.alloc _) ⟨wr.heap.size, 0, none⟩ 1 1 [?xv] rfl rfl ?c1 ?c2 ?c3 ?c4 ?c5 ?_)
      case c1 => exact (cell_one_new _ _ _)
      case c2 => simp [Value.oneCell']
      case c3 => unfold maxLen; omega
      case c4 => omega
      case c5 => simp; omega
      intro b1 w1 hr1 hg1 _
      have hb1 : Below (B) w w1 := (hbw.alloc hBw _).grown hg1 (by simp; omega) (fun g hg => (hr.lt g hg).1)
      have hB1 : B ≤ w1.heap.size := by have := hg1.size; simp at this; omega
      have hr2 := own_snoc (c := x.toUInt8) hr1 (u8p x hx)
      have HF : Hid (acc ++ [x.toUInt8] = l ++ Ph.putI n) := by
        show _ = _
        rw [← HE.out]
        obtain ⟨g, rfl⟩ : ∃ g, f = g + 1 := ⟨f - 1, by omega⟩
        rw [Ph.putN_last g x hx]
      clear hr hr1
      go_wp2
      go_ret
      refine ⟨_, rfl, ?_, hb1, hB1⟩
      unfold OwnB
      rw [← HF.out]
      exact hr2
    · have hx' : (127 : Int) < (x : Int) := by omega
      obtain ⟨g, hfg, hg1', hxg, hpn⟩ := Ph.putN_split f x hx HX.out
      have HPN := Lib.hid hpn
      have HXG := Lib.hid hxg
      clear hpn hxg
      go_wp2_with (at_builtin; refine wpList_append_own _ rfl (.tmp 15) (.tmp 19) 22 rfl (B) 5 ib (.int .u8 0) 1 1 Tryd.underlying22 hib hbz hbs hbb rfl (by decide) _ acc.length _ rfl (hr.alloc _) ⟨wr.heap.size, 0, none⟩ 1 1 [?yv] rfl rfl ?d1 ?d2 ?d3 ?d4 ?d5 ?_)
      case d1 => exact (cell_one_new _ _ _)
      case d2 => simp [Value.oneCell']
      case d3 => unfold maxLen; omega
      case d4 => omega
      case d5 => simp; omega
      intro b1 w1 hr1 hg1 _
      have hb1 : Below (B) w w1 := (hbw.alloc hBw _).grown hg1 (by simp; omega) (fun g hg => (hr.lt g hg).1)
      have hB1 : B ≤ w1.heap.size := by have := hg1.size; simp at this; omega
      have hr2 := own_snoc (c := (x % 128 + 128).toUInt8) hr1 (u8o x)
      have HF : Hid (acc ++ [(x % 128 + 128).toUInt8] ++ Ph.putN g (x / 128) = l ++ Ph.putI n) := by
        show _ = _
        rw [← HE.out, HPN.out]
        simp
      have HR2 := Lib.hid hr2
      clear hr hr1 hr2
      go_wp2
      go_roundw
      case rel => exact ⟨acc ++ [(x % 128 + 128).toUInt8], g, x / 128, by go_num, HXG.out, hg1', by omega, by simp; omega, HR2.out, hb1, hB1, HF.out⟩
      case measure => simp [intOf]; omega
set_option maxRecDepth 100000 in
set_option maxHeartbeats 2000000 in
theorem num_Put_neg (B : Nat) (v : Value) (l : List UInt8) (n : Int) (w : World) (h0 : -9223372036854775808 ≤ n) (h1 : n ≤ 9223372036854775807) (hn : n < 0) (ho : OwnB w B v l) (hl : l.length ≤ 1000000000) (hB : B ≤ w.heap.size) :
    Calls Tryd.prog 36 #[v, .int .i64 n] w fun e w' => ∃ v', e = .returned v' ∧ OwnB w' B v' (l ++ Ph.putI n) ∧ Below B w w' ∧ B ≤ w'.heap.size := by
  obtain ⟨ib, hib, hbz, hbs, hbb⟩ := info_parts info_byte
  have HO : Hid (w.ownsRow B 5 1 v l.length (Lib.byteCells l)) := ho
  have HZ := Lib.hid (Ph.zig_small h0 h1).1
  clear ho
  go_enter Tryd.func36, Tryd.ntmps36
  go_wp2
  go_loopw [0, 5] (fun b u wr => ∃ (acc : List UInt8) (f x : Nat), u = .int .u64 x ∧ Hid (x < 128 ^ f) ∧ 1 ≤ f ∧ f ≤ 10 ∧ acc.length + f ≤ l.length + 10 ∧ Hid (wr.ownsRow B 5 1 b acc.length (Lib.byteCells acc)) ∧ Below B w wr ∧ B ≤ wr.heap.size ∧ Hid (acc ++ Ph.putN f x = l ++ Ph.putI n)) (fun _ u _ => (intOf u).toNat)
  case atStart => exact ⟨l, 10, Ph.zig n, by rw [Ph.zig_neg n h0 hn], HZ.out, by omega, by omega, by omega, HO.out, Below.refl _ _, hB, rfl⟩
  case round =>
    obtain ⟨acc, f, x, rfl, HX, hf1, hf2, hal, HR, hbw, hBw, HE⟩ := hrel
    have hr := HR.out
    by_cases hx : x < 128
    · have hx' : (x : Int) ≤ 127 := by omega
      go_wp2_with (at_builtin; refine wpList_append_own _ rfl (.tmp 23) (.tmp 26) 22 rfl (B) 5 ib (.int .u8 0) 1 1 Tryd.underlying22 hib hbz hbs hbb rfl (by decide) _ acc.length _ rfl (hr.alloc _) ⟨wr.heap.size, 0, none⟩ 1 1 [?xv] rfl rfl ?c1 ?c2 ?c3 ?c4 ?c5 ?_)
      case c1 => exact (cell_one_new _ _ _)
      case c2 => simp [Value.oneCell']
      case c3 => unfold maxLen; omega
      case c4 => omega
      case c5 => simp; omega
      intro b1 w1 hr1 hg1 _
      have hb1 : Below (B) w w1 := (hbw.alloc hBw _).grown hg1 (by simp; omega) (fun g hg => (hr.lt g hg).1)
      have hB1 : B ≤ w1.heap.size := by have := hg1.size; simp at this; omega
      have hr2 := own_snoc (c := x.toUInt8) hr1 (u8p x hx)
      have HF : Hid (acc ++ [x.toUInt8] = l ++ Ph.putI n) := by
        show _ = _
        rw [← HE.out]
        obtain ⟨g, rfl⟩ : ∃ g, f = g + 1 := ⟨f - 1, by omega⟩
        rw [Ph.putN_last g x hx]
      clear hr hr1
      go_wp2
      go_ret
      refine ⟨_, rfl, ?_, hb1, hB1⟩
      unfold OwnB
      rw [← HF.out]
      exact hr2
    · have hx' : (127 : Int) < (x : Int) := by omega
      obtain ⟨g, hfg, hg1', hxg, hpn⟩ := Ph.putN_split f x hx HX.out
      have HPN := Lib.hid hpn
      have HXG := Lib.hid hxg
      clear hpn hxg
      go_wp2_with (at_builtin; refine wpList_append_own _ rfl (.tmp 15) (.tmp 19) 22 rfl (B) 5 ib (.int .u8 0) 1 1 Tryd.underlying22 hib hbz hbs hbb rfl (by decide) _ acc.length _ rfl (hr.alloc _) ⟨wr.heap.size, 0, none⟩ 1 1 [?yv] rfl rfl ?d1 ?d2 ?d3 ?d4 ?d5 ?_)
      case d1 => exact (cell_one_new _ _ _)
      case d2 => simp [Value.oneCell']
      case d3 => unfold maxLen; omega
      case d4 => omega
      case d5 => simp; omega
      intro b1 w1 hr1 hg1 _
      have hb1 : Below (B) w w1 := (hbw.alloc hBw _).grown hg1 (by simp; omega) (fun g hg => (hr.lt g hg).1)
      have hB1 : B ≤ w1.heap.size := by have := hg1.size; simp at this; omega
      have hr2 := own_snoc (c := (x % 128 + 128).toUInt8) hr1 (u8o x)
      have HF : Hid (acc ++ [(x % 128 + 128).toUInt8] ++ Ph.putN g (x / 128) = l ++ Ph.putI n) := by
        show _ = _
        rw [← HE.out, HPN.out]
        simp
      have HR2 := Lib.hid hr2
      clear hr hr1 hr2
      go_wp2
      go_roundw
      case rel => exact ⟨acc ++ [(x % 128 + 128).toUInt8], g, x / 128, by go_num, HXG.out, hg1', by omega, by simp; omega, HR2.out, hb1, hB1, HF.out⟩
      case measure => simp [intOf]; omega
theorem num_Put (B : Nat) (v : Value) (l : List UInt8) (n : Int) (w : World) (h0 : -9223372036854775808 ≤ n) (h1 : n ≤ 9223372036854775807) (ho : OwnB w B v l) (hl : l.length ≤ 1000000000) (hB : B ≤ w.heap.size) :
    Calls Tryd.prog 36 #[v, .int .i64 n] w fun e w' => ∃ v', e = .returned v' ∧ OwnB w' B v' (l ++ Ph.putI n) ∧ Below B w w' ∧ B ≤ w'.heap.size := by
  by_cases hn : n < 0
  · exact num_Put_neg B v l n w h0 h1 hn ho hl hB
  · exact num_Put_pos B v l n w h0 h1 (by omega) ho hl hB
end Go.Proofs.YtmalklakaalaoaaDoor

set_option linter.unusedVariables false
namespace Go.Proofs.YtmalklakaalaoaaDoor
open Go.RowKit
-- pieces
theorem get_ret {l : List UInt8} {a b c : Int} (h : Ph.getI l = (a, b.toNat, c)) (hb : 0 ≤ b) : Ending.returned (.tuple #[.int .i64 a, .int .i64 b, .int .i64 c]) = .returned (.tuple #[.int .i64 (Ph.getI l).1, .int .i64 (Ph.getI l).2.1, .int .i64 (Ph.getI l).2.2]) := by
  rw [h]
  exact ret_int3 rfl (by simp; omega) rfl
theorem get_ret2 {l : List UInt8} {a b c a' c' : Int} {b' : Nat} (h : Ph.getI l = (a', b', c')) (h1 : a = a') (h2 : b = b') (h3 : c = c') : Ending.returned (.tuple #[.int .i64 a, .int .i64 b, .int .i64 c]) = .returned (.tuple #[.int .i64 (Ph.getI l).1, .int .i64 (Ph.getI l).2.1, .int .i64 (Ph.getI l).2.2]) := by
  rw [h, h1, h2, h3]
theorem num_Get_nil (c : Nat) (w : World) :
    Calls Tryd.prog 47 #[.slice none 0 c] w fun e w' => e = .returned (.tuple #[.int .i64 (Ph.getI []).1, .int .i64 (Ph.getI []).2.1, .int .i64 (Ph.getI []).2.2]) ∧ w = w' := by
  go_enter Tryd.func47, Tryd.ntmps47
  go_wp2
  go_loop [5, 11] (fun u i => u = .int .u64 0 ∧ i = .int .i64 0) (fun _ i => 0)
  case atStart => exact ⟨rfl, rfl⟩
  case round =>
    obtain ⟨rfl, rfl⟩ := hrel
    go_wp2
    go_ret3
    exact ⟨rfl, rfl⟩
set_option maxRecDepth 100000 in
set_option maxHeartbeats 4000000 in
theorem num_Get_some (b off cap : Nat) (l : List UInt8) (w : World) (hl : l.length ≤ cap) (hm : cap ≤ 9223372036854775807) (hc : ∀ j (h : j < l.length), w.cell? ⟨b, off + j, none⟩ = some (.int .u8 (l[j].toNat : Int))) :
    Calls Tryd.prog 47 #[.slice (some ⟨b, off, none⟩) l.length cap] w fun e w' => e = .returned (.tuple #[.int .i64 (Ph.getI l).1, .int .i64 (Ph.getI l).2.1, .int .i64 (Ph.getI l).2.2]) ∧ w = w' := by
  have HC := Lib.hid hc
  clear hc
  go_enter Tryd.func47, Tryd.ntmps47
  go_wp2
  go_loop [5, 11] (fun u i => ∃ k x : Nat, k ≤ l.length ∧ k ≤ 9 ∧ i = .int .i64 k ∧ u = .int .u64 x ∧ Hid (x < 128 ^ k) ∧ Hid (Ph.getI l = Ph.getN k x (l.drop k))) (fun _ i => l.length - (intOf i).toNat)
  case atStart => exact ⟨0, 0, by omega, by omega, rfl, rfl, by show 0 < 128 ^ 0; decide, rfl⟩
  case round =>
    obtain ⟨k, x, hk, hk9, rfl, rfl, HX, HK⟩ := hrel
    by_cases hlt : k < l.length
    · have hlt' : (k : Int) < (l.length : Int) := by omega
      have hcell := HC.out k hlt
      have HD : Hid (l.drop k = l[k] :: l.drop (k + 1)) := List.drop_eq_getElem_cons hlt
      have hcb := (l[k]).toNat_lt
      generalize l[k] = c at *
      by_cases h9 : k = 9
      · subst h9
        have e9 : (128 : Nat) ^ 9 = 9223372036854775808 := by decide
        by_cases hc1 : 1 < c.toNat
        · have hc1' : (1 : Int) < (c.toNat : Int) := by omega
          have HF : Hid (Ph.getI l = (0, 0, 1)) := by show _ = _; rw [HK.out, HD.out, Ph.getN_big _ _ _ _ rfl hc1]
          clear e9
          go_wp2
          go_ret3
          exact ⟨get_ret HF.out (by omega), rfl⟩
        · have hc1' : (c.toNat : Int) ≤ 1 := by omega
          have hc2' : (c.toNat : Int) ≤ 127 := by omega
          have hor := Ph.or_last x c.toNat HX.out (by omega)
          have hy : x + c.toNat % 128 * 128 ^ 9 < 18446744073709551616 := by have := HX.out; omega
          clear e9
          by_cases hz : c.toNat = 0
          · have hz' : ((c.toNat : Int) == 0) = true := by rw [beq_iff_eq]; omega
            have HF : Hid (Ph.getI l = (0, 0, 1)) := by show _ = _; rw [HK.out, HD.out, Ph.getN_zero _ _ _ _ (by omega) hz]
            have HYY := Lib.hid hy
            clear hz hy
            go_wp2
            go_ret3
            exact ⟨get_ret HF.out (by omega), rfl⟩
          · have hz' : ((c.toNat : Int) == 0) = false := by rw [beq_eq_false_iff_ne]; omega
            have HF : Hid (Ph.getI l = (Ph.unzig (x + c.toNat % 128 * 128 ^ 9), 9 + 1, 0)) := by show _ = _; rw [HK.out, HD.out, Ph.getN_last _ _ _ _ (by omega) (by omega) (by omega)]
            clear hz
            generalize x + c.toNat % 128 * 128 ^ 9 = y at *
            have HYY := Lib.hid hy
            have hod := and_one_u64 (y : Int) (by omega) (by omega)
            have hnt := i64_not (y / 2) (by omega)
            have hdv : (0 : Int) ≤ (y : Int) / 2 := by omega
            have hdv2 : (y : Int) / 2 ≤ 9223372036854775807 := by omega
            clear hy
            by_cases ho : y % 2 = 1
            · have ho' : ((y : Int) % 2 == 1) = true := by rw [beq_iff_eq]; omega
              have HU := Lib.hid (Ph.unzig_odd y ho)
              clear ho
              go_wp2
              go_ret3
              refine ⟨get_ret2 HF.out ?_ rfl rfl, rfl⟩
              have e : (y : Int) / 2 = ((y / 2 : Nat) : Int) := by omega
              show bits BinOp.xor IntKind.i64 (-1) ((y : Int) / 2) = _
              rw [e, i64_not _ (by have := HYY.out; omega), HU.out]
            · have ho' : ((y : Int) % 2 == 1) = false := by rw [beq_eq_false_iff_ne]; omega
              have HU := Lib.hid (Ph.unzig_even y (by omega))
              clear ho
              go_wp2
              go_ret3
              refine ⟨get_ret2 HF.out ?_ rfl rfl, rfl⟩
              show (y : Int) / 2 = _
              rw [HU.out]
              omega
      · have h9' : ((k : Int) == 9) = false := by rw [beq_eq_false_iff_ne]; omega
        have hsm := Ph.sum_small x c.toNat k HX.out (by omega) hcb
        have hor := Ph.or_seven x c.toNat k HX.out hcb hsm.1 (by omega)
        have hy : x + c.toNat % 128 * 128 ^ k < 9223372036854775808 := by
          have h1 := hsm.2
          have h2 : (128 : Nat) ^ (k + 1) ≤ 128 ^ 9 := Nat.pow_le_pow_right (by omega) (by omega)
          have e9 : (128 : Nat) ^ 9 = 9223372036854775808 := by decide
          omega
        have HSM := Lib.hid hsm.2
        clear hsm
        by_cases hc1 : 127 < c.toNat
        · have hc1' : (127 : Int) < (c.toNat : Int) := by omega
          have HF : Hid (Ph.getI l = Ph.getN (k + 1) (x + c.toNat % 128 * 128 ^ k) (l.drop (k + 1))) := by show _ = _; rw [HK.out, HD.out, Ph.getN_more _ _ _ _ h9 (by omega)]
          generalize x + c.toNat % 128 * 128 ^ k = y at *
          have HYY := Lib.hid hy
          clear hy
          go_wp2
          go_round
          case rel => exact ⟨k + 1, y, by omega, by omega, by go_num, rfl, HSM.out, HF.out⟩
          case measure => simp [intOf]; omega
        · have hc1' : (c.toNat : Int) ≤ 127 := by omega
          by_cases hz : 0 < k ∧ c.toNat = 0
          · obtain ⟨hz1, hz2⟩ := hz
            have hk0 : (0 : Int) < (k : Int) := by omega
            have hz' : ((c.toNat : Int) == 0) = true := by rw [beq_iff_eq]; omega
            have HF : Hid (Ph.getI l = (0, 0, 1)) := by show _ = _; rw [HK.out, HD.out, Ph.getN_zero _ _ _ _ hz1 hz2]
            have HYY := Lib.hid hy
            clear hy hz2
            go_wp2
            go_ret3
            exact ⟨get_ret HF.out (by omega), rfl⟩
          · have HF : Hid (Ph.getI l = (Ph.unzig (x + c.toNat % 128 * 128 ^ k), k + 1, 0)) := by show _ = _; rw [HK.out, HD.out, Ph.getN_last _ _ _ _ (by omega) (by omega) hz]
            have HZZ := Lib.hid hz
            clear hz
            generalize x + c.toNat % 128 * 128 ^ k = y at *
            have HYY := Lib.hid hy
            have hod := and_one_u64 (y : Int) (by omega) (by omega)
            have hdv : (0 : Int) ≤ (y : Int) / 2 := by omega
            have hdv2 : (y : Int) / 2 ≤ 9223372036854775807 := by omega
            clear hy
            by_cases hk0 : 0 < k
            all_goals
              by_cases ho : y % 2 = 1
              · have hz' : 0 < k → ((c.toNat : Int) == 0) = false := fun h => by rw [beq_eq_false_iff_ne]; have := HZZ.out; omega
                have hzk : Hid True := trivial
                first | (have hz2 := hz' hk0; clear hz') | clear hz'
                have ho' : ((y : Int) % 2 == 1) = true := by rw [beq_iff_eq]; omega
                have HU := Lib.hid (Ph.unzig_odd y ho)
                clear ho
                go_wp2
                go_ret3
                refine ⟨get_ret2 HF.out ?_ rfl rfl, rfl⟩
                have e : (y : Int) / 2 = ((y / 2 : Nat) : Int) := by omega
                show bits BinOp.xor IntKind.i64 (-1) ((y : Int) / 2) = _
                rw [e, i64_not _ (by have := HYY.out; omega), HU.out]
              · have hz' : 0 < k → ((c.toNat : Int) == 0) = false := fun h => by rw [beq_eq_false_iff_ne]; have := HZZ.out; omega
                have hzk : Hid True := trivial
                first | (have hz2 := hz' hk0; clear hz') | clear hz'
                have ho' : ((y : Int) % 2 == 1) = false := by rw [beq_eq_false_iff_ne]; omega
                have HU := Lib.hid (Ph.unzig_even y (by omega))
                clear ho
                go_wp2
                go_ret3
                refine ⟨get_ret2 HF.out ?_ rfl rfl, rfl⟩
                show (y : Int) / 2 = _
                rw [HU.out]
                omega
    · have hlt' : (l.length : Int) ≤ (k : Int) := by omega
      have HF : Hid (Ph.getI l = (0, 0, 2)) := by show _ = _; rw [HK.out, List.drop_eq_nil_of_le (by omega), Ph.getN_end]
      go_wp2
      go_ret3
      exact ⟨get_ret HF.out (by omega), rfl⟩
end Go.Proofs.YtmalklakaalaoaaDoor

set_option linter.unusedVariables false
-- pieces
namespace Go.Proofs.YtmalklakaalaoaaDoor.Sw
open Go.RowKit Go.Sx
theorem num_Get_empty (ad : Option Addr) (cap : Nat) (w : World) :
    Calls Tryd.prog 47 ⟨[.slice ad 0 cap]⟩ w fun e W' => e = .returned (.tuple #[.int .i64 (Ph.getI []).1, .int .i64 (Ph.getI []).2.1, .int .i64 (Ph.getI []).2.2]) ∧ w = W' := by
  cases ad with
  | none => exact num_Get_nil cap w
  | some a =>
    go_enter Tryd.func47, Tryd.ntmps47
    go_wp2
    go_loop [5, 11] (fun u i => u = .int .u64 0 ∧ i = .int .i64 0) (fun _ i => 0)
    case atStart => exact ⟨rfl, rfl⟩
    case round =>
      obtain ⟨rfl, rfl⟩ := hrel
      go_wp2
      go_ret3
      exact ⟨rfl, rfl⟩
theorem num_Get (W : World) (v : Value) (l : List UInt8) (r : RdB W v l) :
    Calls Tryd.prog 47 ⟨[v]⟩ W fun e W' => e = .returned (.tuple #[.int .i64 (Ph.getI l).1, .int .i64 (Ph.getI l).2.1, .int .i64 (Ph.getI l).2.2]) ∧ W = W' := by
  obtain ⟨ad, cap, rfl, h3, h4, rfl | ⟨b, o, rfl, hc⟩⟩ := r.cells
  · exact num_Get_empty ad cap W
  · exact num_Get_some b o cap l W h3 h4 hc
theorem bys_drop (l : List UInt8) (k : Nat) : (bys l).drop (k * 1) = bys (l.drop k) := by simp
theorem i64s {x : Int} (h0 : -9223372036854775808 ≤ x) (h1 : x ≤ 9223372036854775807) : IntKind.i64.wrap x = x := IntWalk.i64_in _ (by omega)
set_option maxHeartbeats 4000000 in
theorem num_GetText (W : World) (v : Value) (l : List UInt8) (r : RdB W v l) :
    Calls Tryd.prog 48 ⟨[v]⟩ W fun e W' => e = .returned (.tuple #[.string ⟨(Ph.getT l).1.toArray⟩, .int .i64 (Ph.getT l).2.1, .int .i64 (Ph.getT l).2.2]) ∧ W = W' := by
  have hlen : l.length ≤ 9223372036854775807 := by have := r.len; exact this
  have hle := Ph.getI_le l
  have hG := num_Get W v l r
  obtain ⟨ad, cap, rfl, -⟩ := r.cells
  have hw := Has.start (G := 0) (w := W) (Nat.zero_le _)
  refine enter Tryd.func48 Tryd.ntmps48 rfl rfl fun a hs => ?_
  repeat (first | (refine sxv hs hw ?_; clear hs; intro a hs) | refine sxc hs ?_ | (refine sxa hs hw ?_; clear hs hw; intro a b W hw hs) | (refine sxs hs hw ?_; clear hs hw; intro W hs hw))
  refine st_call hs (hc := hG) (k := ?_); rintro e0 W1 ⟨rfl, rfl⟩; refine ⟨_, rfl, ?_⟩; clear hs hG; intro a hs
  generalize hg : Ph.getI l = g at *
  obtain ⟨n, k, e⟩ := g
  simp only at hle hs
  by_cases he : e = 0
  · subst he
    by_cases hn : n < 0
    · have e1 : decide (n < 0) = true := by simpa using hn
      have hT : Ph.getT l = ([], 0, 1) := by simp [Ph.getT, hg, hn]
      repeat (first | (refine sxv hs hw ?_; clear hs; intro a hs) | refine sxc hs ?_ | (refine sxa hs hw ?_; clear hs hw; intro a b W hw hs) | (refine sxs hs hw ?_; clear hs hw; intro W hs hw))
      rw [e1] at hs
      repeat (first | (refine sxv hs hw ?_; clear hs; intro a hs) | refine sxc hs ?_ | (refine sxa hs hw ?_; clear hs hw; intro a b W hw hs) | (refine sxs hs hw ?_; clear hs hw; intro W hs hw))
      exact rt3 hs rfl rfl rfl rfl ⟨by rw [hT]; rfl, rfl⟩
    · have e1 : decide (n < 0) = false := by simpa using hn
      repeat (first | (refine sxv hs hw ?_; clear hs; intro a hs) | refine sxc hs ?_ | (refine sxa hs hw ?_; clear hs hw; intro a b W hw hs) | (refine sxs hs hw ?_; clear hs hw; intro W hs hw))
      rw [e1] at hs
      repeat (first | (refine sxv hs hw ?_; clear hs; intro a hs) | refine sxc hs ?_ | (refine sxa hs hw ?_; clear hs hw; intro a b W hw hs) | (refine sxs hs hw ?_; clear hs hw; intro W hs hw))
      by_cases hb : n > 1048576
      · have e2 : decide (n > 1048576) = true := by simpa using hb
        have hT : Ph.getT l = ([], 0, 1) := by simp [Ph.getT, hg, hb]
        rw [e2] at hs
        repeat (first | (refine sxv hs hw ?_; clear hs; intro a hs) | refine sxc hs ?_ | (refine sxa hs hw ?_; clear hs hw; intro a b W hw hs) | (refine sxs hs hw ?_; clear hs hw; intro W hs hw))
        exact rt3 hs rfl rfl rfl rfl ⟨by rw [hT]; rfl, rfl⟩
      · have e2 : decide (n > 1048576) = false := by simpa using hb
        rw [e2] at hs
        repeat (first | (refine sxv hs hw ?_; clear hs; intro a hs) | refine sxc hs ?_ | (refine sxa hs hw ?_; clear hs hw; intro a b W hw hs) | (refine sxs hs hw ?_; clear hs hw; intro W hs hw))
        have e3 : IntKind.i64.wrap ((l.length : Int) - (k : Int)) = (l.length : Int) - k := i64s (by omega) (by omega)
        rw [e3] at hs
        by_cases hm : n > (l.length : Int) - k
        · have e4 : decide (n > (l.length : Int) - k) = true := by simpa using hm
          have hT : Ph.getT l = ([], 0, 2) := by
            simp only [Ph.getT, hg]
            rw [if_neg (by simp), if_neg (by omega), if_pos (by omega)]
          rw [e4] at hs
          repeat (first | (refine sxv hs hw ?_; clear hs; intro a hs) | refine sxc hs ?_ | (refine sxa hs hw ?_; clear hs hw; intro a b W hw hs) | (refine sxs hs hw ?_; clear hs hw; intro W hs hw))
          exact rt3 hs rfl rfl rfl rfl ⟨by rw [hT]; rfl, rfl⟩
        · have e4 : decide (n > (l.length : Int) - k) = false := by simpa using hm
          have hT : Ph.getT l = ((l.drop k).take n.toNat, k + n.toNat, 0) := by
            simp only [Ph.getT, hg]
            rw [if_neg (by simp), if_neg (by omega), if_neg (by omega)]
          rw [e4] at hs
          repeat (first | (refine sxv hs hw ?_; clear hs; intro a hs) | refine sxc hs ?_ | (refine sxa hs hw ?_; clear hs hw; intro a b W hw hs) | (refine sxs hs hw ?_; clear hs hw; intro W hs hw))
          have e5 : IntKind.i64.wrap ((k : Int) + n) = (k : Int) + n := i64s (by omega) (by omega)
          rw [e5] at hs
          refine st_slice_lh_b (hs := hs) (r := r) (h0 := by omega) (h1 := by omega) (h2 := by omega) (m := (l.drop k).take n.toNat) (hm := by rw [show ((k : Int) + n).toNat - (k : Int).toNat = n.toNat by omega, show (k : Int).toNat = k by omega]) (c := ?_)
          clear hs; intro a ad2 cap2 hr2 hs
          refine st_string_b hs (r := hr2) (k := ?_)
          clear hs; intro a hs
          repeat (first | (refine sxv hs hw ?_; clear hs; intro a hs) | refine sxc hs ?_ | (refine sxa hs hw ?_; clear hs hw; intro a b W hw hs) | (refine sxs hs hw ?_; clear hs hw; intro W hs hw))
          rw [e5] at hs
          repeat (first | (refine sxv hs hw ?_; clear hs; intro a hs) | refine sxc hs ?_ | (refine sxa hs hw ?_; clear hs hw; intro a b W hw hs) | (refine sxs hs hw ?_; clear hs hw; intro W hs hw))
          refine rt3 hs rfl rfl rfl rfl ⟨?_, rfl⟩
          rw [hT]
          simp only
          rw [show (((k + n.toNat : Nat) : Int)) = (k : Int) + n by omega]
  · have e1 : (e != 0) = true := by simpa using he
    have hT : Ph.getT l = ([], 0, e) := by simp [Ph.getT, hg, he]
    repeat (first | (refine sxv hs hw ?_; clear hs; intro a hs) | refine sxc hs ?_ | (refine sxa hs hw ?_; clear hs hw; intro a b W hw hs) | (refine sxs hs hw ?_; clear hs hw; intro W hs hw))
    rw [e1] at hs
    repeat (first | (refine sxv hs hw ?_; clear hs; intro a hs) | refine sxc hs ?_ | (refine sxa hs hw ?_; clear hs hw; intro a b W hw hs) | (refine sxs hs hw ?_; clear hs hw; intro W hs hw))
    exact rt3 hs rfl rfl rfl rfl ⟨by rw [hT]; rfl, rfl⟩
def getR (l : List UInt8) : (Int × Int × ByteArray) × Nat × Int :=
  let g := Ph.getI l
  if g.2.2 ≠ 0 then ((0, 0, ⟨#[]⟩), 0, g.2.2)
  else if g.1 = 0 then ((0, 0, ⟨#[]⟩), g.2.1, 0)
  else if g.1 = 1 then
    let h := Ph.getI (l.drop g.2.1)
    if h.2.2 ≠ 0 then ((0, 0, ⟨#[]⟩), 0, h.2.2) else ((1, h.1, ⟨#[]⟩), g.2.1 + h.2.1, 0)
  else if g.1 = 2 then
    let h := Ph.getT (l.drop g.2.1)
    if h.2.2 ≠ 0 then ((0, 0, ⟨#[]⟩), 0, h.2.2)
    else if (ofRaw 2 0 ⟨h.1.toArray⟩).2 ≠ 0 then ((0, 0, ⟨#[]⟩), 0, 1)
    else ((2, 0, ⟨h.1.toArray⟩), g.2.1 + h.2.1, 0)
  else ((0, 0, ⟨#[]⟩), 0, 1)
theorem ofRaw_err (k n : Int) (s : ByteArray) : (ofRaw k n s).2 = 0 ∨ (ofRaw k n s).2 = 1 := by
  unfold ofRaw
  split
  · exact .inl rfl
  · split
    · exact .inl rfl
    · split
      · exact .inl rfl
      · exact .inr rfl
theorem ofRaw_int (n : Int) : (ofRaw 1 n ⟨#[]⟩).2 = 0 := by
  unfold ofRaw
  rw [if_neg (fun h => by have := h.1; omega), if_pos ⟨rfl, rfl⟩]
theorem ofRaw_zero : (ofRaw 0 0 ⟨#[]⟩).2 = 0 := by
  unfold ofRaw
  rw [if_pos ⟨rfl, rfl, rfl⟩]
theorem ofRaw_other (k : Int) (h0 : k ≠ 0) (h1 : k ≠ 1) (h2 : k ≠ 2) : (ofRaw k 0 ⟨#[]⟩).2 = 1 := by
  unfold ofRaw
  rw [if_neg (fun h => h0 h.1), if_neg (fun h => h1 h.1), if_neg (fun h => h2 h.1)]
theorem getT_size (l : List UInt8) : (⟨(Ph.getT l).1.toArray⟩ : ByteArray).size ≤ l.length := by
  show (Ph.getT l).1.toArray.size ≤ _
  unfold Ph.getT
  simp only
  split
  · simp
  · split
    · simp
    · split
      · simp
      · simp; omega
theorem getT_le (l : List UInt8) : (Ph.getT l).2.1 ≤ l.length := by
  have := Ph.getI_le l
  unfold Ph.getT
  simp only
  split
  · simp
  · split
    · simp
    · split
      · simp
      · simp only; omega
set_option maxHeartbeats 8000000 in
theorem value_Get (w : World) (v : Value) (l : List UInt8) (r : RdB w v l) (hT : Tabs w) :
    Calls Tryd.prog 50 ⟨[v]⟩ w fun e W' => e = .returned (.tuple #[.agg #[.int .i64 (getR l).1.1, .int .i64 (getR l).1.2.1, .string (getR l).1.2.2], .int .i64 (getR l).2.1, .int .i64 (getR l).2.2]) ∧ Below w.heap.size w W' := by
  have hlen : l.length ≤ 9223372036854775807 := by have := r.len; exact this
  have hw := Has.start (G := 0) (w := w) (Nat.zero_le _)
  obtain ⟨ad, cap, rfl, -⟩ := r.cells
  have hle := Ph.getI_le l
  refine enter Tryd.func50 Tryd.ntmps50 rfl rfl fun a hs => ?_
  repeat (first | (refine sxv hs hw ?_; clear hs; intro a hs) | refine sxc hs ?_ | (refine sxa hs hw ?_; clear hs hw; intro a b W hw hs) | (refine sxs hs hw ?_; clear hs hw; intro W hs hw))
  have hG := num_Get _ _ l (hw.rd (by repeat (first | exact In.hd | apply In.tl)) hw.ext.size r)
  refine st_call hs (hc := hG) (k := ?_); rintro e0 W1 ⟨rfl, rfl⟩; refine ⟨_, rfl, ?_⟩; clear hs hG; intro a hs
  have gR := getR.eq_1 l
  generalize hg : Ph.getI l = g at *
  obtain ⟨k, m, e⟩ := g
  simp only at hle hs gR
  by_cases he : e = 0
  · subst he
    simp only [ne_eq, not_true_eq_false, if_false] at gR
    by_cases k1 : k = 1
    · subst k1
      simp only [if_neg (show ¬ ((1 : Int) = 0) by decide), if_true] at gR
      repeat (first | (refine sxv hs hw ?_; clear hs; intro a hs) | refine sxc hs ?_ | (refine sxa hs hw ?_; clear hs hw; intro a b W hw hs) | (refine sxs hs hw ?_; clear hs hw; intro W hs hw))
      refine st_slice_lo_b (hs := hs) (r := r) (h0 := by omega) (h1 := by omega) (c := ?_)
      clear hs; intro a ad2 cap2 hr hs
      have hr2 := hw.rd (by repeat (first | exact In.hd | apply In.tl)) hw.ext.size hr
      rw [show (m : Int).toNat = m by omega] at hr hs hr2
      have hle2 := Ph.getI_le (l.drop m)
      rw [List.length_drop] at hle2
      have hG := num_Get _ _ _ hr2
      refine st_call hs (hc := hG) (k := ?_); rintro e0 W1 ⟨rfl, rfl⟩; refine ⟨_, rfl, ?_⟩; clear hs hG hr hr2; intro a hs
      generalize Ph.getI (l.drop m) = g at *
      obtain ⟨n, m2, e2⟩ := g
      simp only at hle2 hs gR
      by_cases he2 : e2 = 0
      · subst he2
        simp only [not_true_eq_false, if_false] at gR
        repeat (first | (refine sxv hs hw ?_; clear hs; intro a hs) | refine sxc hs ?_ | (refine sxa hs hw ?_; clear hs hw; intro a b W hw hs) | (refine sxs hs hw ?_; clear hs hw; intro W hs hw))
        have hO := ofRaw_int n
        refine st_call hs (hc := value_Of 1 n ⟨#[]⟩ _ (by decide) (hT.keep (hw.end (by repeat (first | exact In.hd | apply In.tl))))) (k := ?_); rintro e0 W1 ⟨rfl, hb⟩; refine ⟨_, rfl, ?_⟩; clear hs; intro a hs; replace hw := hw.below hb; clear hb
        rw [hO] at hs
        repeat (first | (refine sxv hs hw ?_; clear hs; intro a hs) | refine sxc hs ?_ | (refine sxa hs hw ?_; clear hs hw; intro a b W hw hs) | (refine sxs hs hw ?_; clear hs hw; intro W hs hw))
        rw [i64s (x := (m : Int) + (m2 : Int)) (by omega) (by omega)] at hs
        repeat (first | (refine sxv hs hw ?_; clear hs; intro a hs) | refine sxc hs ?_ | (refine sxa hs hw ?_; clear hs hw; intro a b W hw hs) | (refine sxs hs hw ?_; clear hs hw; intro W hs hw))
        exact rc3 hs rfl rfl hw (by repeat (first | exact In.hd | apply In.tl)) rfl rfl rfl ⟨by rw [gR]; rfl, hw.end (by repeat (first | exact In.hd | apply In.tl))⟩
      · have e1 : (e2 != 0) = true := by simpa using he2
        rw [if_pos he2] at gR
        repeat (first | (refine sxv hs hw ?_; clear hs; intro a hs) | refine sxc hs ?_ | (refine sxa hs hw ?_; clear hs hw; intro a b W hw hs) | (refine sxs hs hw ?_; clear hs hw; intro W hs hw))
        rw [e1] at hs
        repeat (first | (refine sxv hs hw ?_; clear hs; intro a hs) | refine sxc hs ?_ | (refine sxa hs hw ?_; clear hs hw; intro a b W hw hs) | (refine sxs hs hw ?_; clear hs hw; intro W hs hw))
        exact rc3 hs rfl rfl hw (by repeat (first | exact In.hd | apply In.tl)) rfl rfl rfl ⟨by rw [gR]; rfl, hw.end (by repeat (first | exact In.hd | apply In.tl))⟩
    · by_cases k2 : k = 2
      · subst k2
        simp only [if_neg (show ¬ ((2 : Int) = 0) by decide), if_neg (show ¬ ((2 : Int) = 1) by decide), if_true] at gR
        repeat (first | (refine sxv hs hw ?_; clear hs; intro a hs) | refine sxc hs ?_ | (refine sxa hs hw ?_; clear hs hw; intro a b W hw hs) | (refine sxs hs hw ?_; clear hs hw; intro W hs hw))
        refine st_slice_lo_b (hs := hs) (r := r) (h0 := by omega) (h1 := by omega) (c := ?_)
        clear hs; intro a ad2 cap2 hr hs
        have hr2 := hw.rd (by repeat (first | exact In.hd | apply In.tl)) hw.ext.size hr
        rw [show (m : Int).toNat = m by omega] at hr hs hr2
        have hle2 := getT_le (l.drop m)
        have hsz := getT_size (l.drop m)
        rw [List.length_drop] at hle2 hsz
        have hG := num_GetText _ _ _ hr2
        refine st_call hs (hc := hG) (k := ?_); rintro e0 W1 ⟨rfl, rfl⟩; refine ⟨_, rfl, ?_⟩; clear hs hG hr hr2; intro a hs
        generalize Ph.getT (l.drop m) = g at *
        obtain ⟨s, m2, e2⟩ := g
        simp only at hle2 hsz hs gR
        generalize (⟨s.toArray⟩ : ByteArray) = s at *
        by_cases he2 : e2 = 0
        · subst he2
          simp only [not_true_eq_false, if_false] at gR
          repeat (first | (refine sxv hs hw ?_; clear hs; intro a hs) | refine sxc hs ?_ | (refine sxa hs hw ?_; clear hs hw; intro a b W hw hs) | (refine sxs hs hw ?_; clear hs hw; intro W hs hw))
          refine st_call hs (hc := value_Of 2 0 s _ (by omega) (hT.keep (hw.end (by repeat (first | exact In.hd | apply In.tl))))) (k := ?_); rintro e0 W1 ⟨rfl, hb⟩; refine ⟨_, rfl, ?_⟩; clear hs; intro a hs; replace hw := hw.below hb; clear hb
          rcases ofRaw_err 2 0 s with hO | hO
          · rw [hO] at hs gR
            repeat (first | (refine sxv hs hw ?_; clear hs; intro a hs) | refine sxc hs ?_ | (refine sxa hs hw ?_; clear hs hw; intro a b W hw hs) | (refine sxs hs hw ?_; clear hs hw; intro W hs hw))
            rw [i64s (x := (m : Int) + (m2 : Int)) (by omega) (by omega)] at hs
            repeat (first | (refine sxv hs hw ?_; clear hs; intro a hs) | refine sxc hs ?_ | (refine sxa hs hw ?_; clear hs hw; intro a b W hw hs) | (refine sxs hs hw ?_; clear hs hw; intro W hs hw))
            exact rc3 hs rfl rfl hw (by repeat (first | exact In.hd | apply In.tl)) rfl rfl rfl ⟨by rw [gR]; rfl, hw.end (by repeat (first | exact In.hd | apply In.tl))⟩
          · rw [hO] at hs gR
            repeat (first | (refine sxv hs hw ?_; clear hs; intro a hs) | refine sxc hs ?_ | (refine sxa hs hw ?_; clear hs hw; intro a b W hw hs) | (refine sxs hs hw ?_; clear hs hw; intro W hs hw))
            exact rc3 hs rfl rfl hw (by repeat (first | exact In.hd | apply In.tl)) rfl rfl rfl ⟨by rw [gR]; rfl, hw.end (by repeat (first | exact In.hd | apply In.tl))⟩
        · have e1 : (e2 != 0) = true := by simpa using he2
          rw [if_pos he2] at gR
          repeat (first | (refine sxv hs hw ?_; clear hs; intro a hs) | refine sxc hs ?_ | (refine sxa hs hw ?_; clear hs hw; intro a b W hw hs) | (refine sxs hs hw ?_; clear hs hw; intro W hs hw))
          rw [e1] at hs
          repeat (first | (refine sxv hs hw ?_; clear hs; intro a hs) | refine sxc hs ?_ | (refine sxa hs hw ?_; clear hs hw; intro a b W hw hs) | (refine sxs hs hw ?_; clear hs hw; intro W hs hw))
          exact rc3 hs rfl rfl hw (by repeat (first | exact In.hd | apply In.tl)) rfl rfl rfl ⟨by rw [gR]; rfl, hw.end (by repeat (first | exact In.hd | apply In.tl))⟩
      · have e1 : (k == 1) = false := by simpa using k1
        have e2 : (k == 2) = false := by simpa using k2
        repeat (first | (refine sxv hs hw ?_; clear hs; intro a hs) | refine sxc hs ?_ | (refine sxa hs hw ?_; clear hs hw; intro a b W hw hs) | (refine sxs hs hw ?_; clear hs hw; intro W hs hw))
        rw [e1] at hs
        repeat (first | (refine sxv hs hw ?_; clear hs; intro a hs) | refine sxc hs ?_ | (refine sxa hs hw ?_; clear hs hw; intro a b W hw hs) | (refine sxs hs hw ?_; clear hs hw; intro W hs hw))
        rw [e2] at hs
        repeat (first | (refine sxv hs hw ?_; clear hs; intro a hs) | refine sxc hs ?_ | (refine sxa hs hw ?_; clear hs hw; intro a b W hw hs) | (refine sxs hs hw ?_; clear hs hw; intro W hs hw))
        refine st_call hs (hc := value_Of k 0 ⟨#[]⟩ _ (by decide) (hT.keep (hw.end (by repeat (first | exact In.hd | apply In.tl))))) (k := ?_); rintro e0 W1 ⟨rfl, hb⟩; refine ⟨_, rfl, ?_⟩; clear hs; intro a hs; replace hw := hw.below hb; clear hb
        by_cases k0 : k = 0
        · subst k0
          have hO := ofRaw_zero
          rw [hO] at hs
          repeat (first | (refine sxv hs hw ?_; clear hs; intro a hs) | refine sxc hs ?_ | (refine sxa hs hw ?_; clear hs hw; intro a b W hw hs) | (refine sxs hs hw ?_; clear hs hw; intro W hs hw))
          rw [i64s (x := (m : Int) + 0) (by omega) (by omega), Int.add_zero] at hs
          repeat (first | (refine sxv hs hw ?_; clear hs; intro a hs) | refine sxc hs ?_ | (refine sxa hs hw ?_; clear hs hw; intro a b W hw hs) | (refine sxs hs hw ?_; clear hs hw; intro W hs hw))
          exact rc3 hs rfl rfl hw (by repeat (first | exact In.hd | apply In.tl)) rfl rfl rfl ⟨by rw [gR]; rfl, hw.end (by repeat (first | exact In.hd | apply In.tl))⟩
        · have hO := ofRaw_other k k0 k1 k2
          rw [if_neg k0, if_neg k1, if_neg k2] at gR
          rw [hO] at hs
          repeat (first | (refine sxv hs hw ?_; clear hs; intro a hs) | refine sxc hs ?_ | (refine sxa hs hw ?_; clear hs hw; intro a b W hw hs) | (refine sxs hs hw ?_; clear hs hw; intro W hs hw))
          exact rc3 hs rfl rfl hw (by repeat (first | exact In.hd | apply In.tl)) rfl rfl rfl ⟨by rw [gR]; rfl, hw.end (by repeat (first | exact In.hd | apply In.tl))⟩
  · have e1 : (e != 0) = true := by simpa using he
    rw [if_pos he] at gR
    repeat (first | (refine sxv hs hw ?_; clear hs; intro a hs) | refine sxc hs ?_ | (refine sxa hs hw ?_; clear hs hw; intro a b W hw hs) | (refine sxs hs hw ?_; clear hs hw; intro W hs hw))
    rw [e1] at hs
    repeat (first | (refine sxv hs hw ?_; clear hs; intro a hs) | refine sxc hs ?_ | (refine sxa hs hw ?_; clear hs hw; intro a b W hw hs) | (refine sxs hs hw ?_; clear hs hw; intro W hs hw))
    exact rc3 hs rfl rfl hw (by repeat (first | exact In.hd | apply In.tl)) rfl rfl rfl ⟨by rw [gR]; rfl, hw.end (by repeat (first | exact In.hd | apply In.tl))⟩
end Go.Proofs.YtmalklakaalaoaaDoor.Sw

set_option linter.unusedVariables false
set_option maxRecDepth 10000
namespace Go.Proofs.YtmalklakaalaoaaDoor.Sw
open Go.RowKit Go.Sx
-- pieces
def tk (s : List UInt8 × Bool) (n : Nat) (err : Int) : List UInt8 × Bool := (if s.2 || err != 0 then s.1 else s.1.drop n, s.2 || err != 0)
set_option maxHeartbeats 4000000 in
theorem op_took (w0 W : World) (p : Nat) (sv : Value) (s : List UInt8 × Bool) (n : Nat) (err : Int) (R : List Res) (i : In (Old w0 0) R) (r : RdB w0 sv s.1) (hn : n ≤ s.1.length) (hw : Has 0 w0 W (Cells p [sv, .bool s.2] 109 :: R)) :
    Calls Tryd.prog 68 ⟨[.pointer (some ⟨p, 0, none⟩), .int .i64 (n : Int), .int .i64 err]⟩ W fun e W' => e = .returned (.tuple #[]) ∧ ∃ sv', RdB w0 sv' (tk s n err).1 ∧ Has 0 w0 W' (Cells p [sv', .bool (tk s n err).2] 109 :: R) := by
  obtain ⟨l, bad⟩ := s
  simp only at r hn hw
  obtain ⟨ad, cap, rfl, -⟩ := r.cells
  refine enter Tryd.func68 Tryd.ntmps68 rfl rfl fun a hs => ?_
  cases bad with
  | true =>
    repeat (first | (refine sxv hs hw ?_; clear hs; intro a hs) | refine sxc hs ?_ | (refine sxa hs hw ?_; clear hs hw; intro a b W hw hs) | (refine sxs hs hw ?_; clear hs hw; intro W hs hw))
    exact rt0n hs rfl ⟨rfl, _, r, hw⟩
  | false =>
    repeat (first | (refine sxv hs hw ?_; clear hs; intro a hs) | refine sxc hs ?_ | (refine sxa hs hw ?_; clear hs hw; intro a b W hw hs) | (refine sxs hs hw ?_; clear hs hw; intro W hs hw))
    cases he : (err != 0) with
    | true =>
      rw [he] at hs hw
      repeat (first | (refine sxv hs hw ?_; clear hs; intro a hs) | refine sxc hs ?_ | (refine sxa hs hw ?_; clear hs hw; intro a b W hw hs) | (refine sxs hs hw ?_; clear hs hw; intro W hs hw))
      exact rt0n hs rfl ⟨rfl, _, by simp only [tk, he]; exact r, by simp only [tk, he]; exact hw⟩
    | false =>
      rw [he] at hs hw
      repeat (first | (refine sxv hs hw ?_; clear hs; intro a hs) | refine sxc hs ?_ | (refine sxa hs hw ?_; clear hs hw; intro a b W hw hs) | (refine sxs hs hw ?_; clear hs hw; intro W hs hw))
      refine st_slice_lo_b (hs := hs) (r := r) (h0 := by omega) (h1 := by omega) (c := ?_); clear hs; intro a ad' cap' r' hs
      repeat (first | (refine sxv hs hw ?_; clear hs; intro a hs) | refine sxc hs ?_ | (refine sxa hs hw ?_; clear hs hw; intro a b W hw hs) | (refine sxs hs hw ?_; clear hs hw; intro W hs hw))
      rw [Int.toNat_natCast] at r' hw
      exact rt0n hs rfl ⟨rfl, _, by simp only [tk, he]; exact r', by simp only [tk, he]; exact hw⟩
theorem getR_le (l : List UInt8) : (getR l).2.1 ≤ l.length := by
  have h1 := Ph.getI_le l
  unfold getR
  simp only
  split
  · simp
  · split
    · exact h1
    · split
      · split
        · simp
        · have := Ph.getI_le (l.drop (Ph.getI l).2.1)
          rw [List.length_drop] at this
          simp only; omega
      · split
        · split
          · simp
          · have := getT_le (l.drop (Ph.getI l).2.1)
            rw [List.length_drop] at this
            split <;> simp only <;> omega
        · simp
set_option maxHeartbeats 4000000 in
theorem op_num (w0 W : World) (p : Nat) (sv : Value) (s : List UInt8 × Bool) (R : List Res) (i : In (Old w0 0) R) (r : RdB w0 sv s.1) (hw : Has 0 w0 W (Cells p [sv, .bool s.2] 109 :: R)) :
    Calls Tryd.prog 53 ⟨[.pointer (some ⟨p, 0, none⟩)]⟩ W fun e W' => e = .returned (.int .i64 (Ph.getI s.1).1) ∧ ∃ sv', RdB w0 sv' (tk s (Ph.getI s.1).2.1 (Ph.getI s.1).2.2).1 ∧ Has 0 w0 W' (Cells p [sv', .bool (tk s (Ph.getI s.1).2.1 (Ph.getI s.1).2.2).2] 109 :: R) := by
  refine enter Tryd.func53 Tryd.ntmps53 rfl rfl fun a hs => ?_
  repeat (first | (refine sxv hs hw ?_; clear hs; intro a hs) | refine sxc hs ?_ | (refine sxa hs hw ?_; clear hs hw; intro a b W hw hs) | (refine sxs hs hw ?_; clear hs hw; intro W hs hw))
  refine st_call hs (hc := num_Get _ sv s.1 (hw.rd (In.tl i) hw.ext.size r)) (k := ?_); rintro e0 W1 ⟨rfl, rfl⟩; refine ⟨_, rfl, ?_⟩; clear hs; intro a hs
  repeat (first | (refine sxv hs hw ?_; clear hs; intro a hs) | refine sxc hs ?_ | (refine sxa hs hw ?_; clear hs hw; intro a b W hw hs) | (refine sxs hs hw ?_; clear hs hw; intro W hs hw))
  refine st_call hs (hc := op_took w0 _ p sv s _ _ R i r (Ph.getI_le s.1) hw) (k := ?_); rintro e0 W1 ⟨rfl, sv', r', hw'⟩; refine ⟨_, rfl, ?_⟩; clear hs hw; intro a hs
  have hw := hw'; clear hw'
  repeat (first | (refine sxv hs hw ?_; clear hs; intro a hs) | refine sxc hs ?_ | (refine sxa hs hw ?_; clear hs hw; intro a b W hw hs) | (refine sxs hs hw ?_; clear hs hw; intro W hs hw))
  exact rt1 hs rfl rfl ⟨rfl, sv', r', hw⟩
theorem Has_rot3 {G : Nat} {w W : World} {x y q : Res} {R : List Res} (h : Has G w W (x :: y :: q :: R)) : Has G w W (q :: x :: y :: R) :=
  ⟨h.ext, h.glob, HasIn.swap (let ⟨F1, h1, h2, h3⟩ := h.has; ⟨F1, h1, h2, HasIn.swap h3⟩)⟩
set_option maxHeartbeats 4000000 in
theorem op_value (w0 W : World) (p : Nat) (sv : Value) (s : List UInt8 × Bool) (R : List Res) (i : In (Old w0 0) R) (r : RdB w0 sv s.1) (hT : Tabs w0) (hw : Has 0 w0 W (Cells p [sv, .bool s.2] 109 :: R)) :
    Calls Tryd.prog 69 ⟨[.pointer (some ⟨p, 0, none⟩)]⟩ W fun e W' => e = .returned (.agg ⟨[.int .i64 (getR s.1).1.1, .int .i64 (getR s.1).1.2.1, .string (getR s.1).1.2.2]⟩) ∧ ∃ sv', RdB w0 sv' (tk s (getR s.1).2.1 (getR s.1).2.2).1 ∧ Has 0 w0 W' (Cells p [sv', .bool (tk s (getR s.1).2.1 (getR s.1).2.2).2] 109 :: R) := by
  refine enter Tryd.func69 Tryd.ntmps69 rfl rfl fun a hs => ?_
  repeat (first | (refine sxv hs hw ?_; clear hs; intro a hs) | refine sxc hs ?_ | (refine sxa hs hw ?_; clear hs hw; intro a b W hw hs) | (refine sxs hs hw ?_; clear hs hw; intro W hs hw))
  refine st_call hs (hc := value_Get _ sv s.1 (hw.rd (In.tl (In.tl i)) hw.ext.size r) (hT.keep (hw.end (In.tl (In.tl i))))) (k := ?_); rintro e0 W1 ⟨rfl, hb⟩; refine ⟨_, rfl, ?_⟩; clear hs; intro a hs; replace hw := hw.below hb; clear hb
  repeat (first | (refine sxv hs hw ?_; clear hs; intro a hs) | refine sxc hs ?_ | (refine sxa hs hw ?_; clear hs hw; intro a b W hw hs) | (refine sxs hs hw ?_; clear hs hw; intro W hs hw))
  have hw := Has_rot3 hw
  refine st_call hs (hc := op_took w0 _ p sv s _ _ _ (In.tl (In.tl i)) r (getR_le s.1) hw) (k := ?_); rintro e0 W1 ⟨rfl, sv', r', hw'⟩; refine ⟨_, rfl, ?_⟩; clear hs hw; intro a hs
  have hw := hw'; clear hw'
  repeat (first | (refine sxv hs hw ?_; clear hs; intro a hs) | refine sxc hs ?_ | (refine sxa hs hw ?_; clear hs hw; intro a b W hw hs) | (refine sxs hs hw ?_; clear hs hw; intro W hs hw))
  have hw' := hw.sub (List.Sublist.cons_cons _ (List.Sublist.cons _ (List.Sublist.cons _ (List.Sublist.refl _))))
  refine rc1 hs rfl rfl hw (In.tl (In.tl In.hd)) rfl ?_
  exact ⟨rfl, sv', r', hw'⟩
end Go.Proofs.YtmalklakaalaoaaDoor.Sw

set_option linter.unusedVariables false
set_option maxRecDepth 10000
namespace Go.Proofs.YtmalklakaalaoaaDoor.Sw
open Go.RowKit Go.Sx
-- pieces
def rdNum (s : List UInt8 × Bool) : List UInt8 × Bool := tk s (Ph.getI s.1).2.1 (Ph.getI s.1).2.2
def rdTxt (s : List UInt8 × Bool) : List UInt8 × Bool := tk s (Ph.getT s.1).2.1 (Ph.getT s.1).2.2
def rdVal (s : List UInt8 × Bool) : List UInt8 × Bool := tk s (getR s.1).2.1 (getR s.1).2.2
def rdOp (s : List UInt8 × Bool) : OpD × (List UInt8 × Bool) :=
  let kind := (Ph.getI s.1).1
  let s1 := rdNum s
  let key : ByteArray := ⟨(Ph.getT s1.1).1.toArray⟩
  let s2 := rdTxt s1
  if kind = 3 then
    let s3 := rdVal s2
    (⟨kind, key, (getR s2.1).1.1, (getR s2.1).1.2.1, (getR s2.1).1.2.2, (getR s3.1).1.1, (getR s3.1).1.2.1, (getR s3.1).1.2.2, 0⟩, rdVal s3)
  else if kind = 1 then (⟨kind, key, (getR s2.1).1.1, (getR s2.1).1.2.1, (getR s2.1).1.2.2, 0, 0, ⟨#[]⟩, 0⟩, rdVal s2)
  else if kind = 4 then (⟨kind, key, 0, 0, ⟨#[]⟩, 0, 0, ⟨#[]⟩, (Ph.getI s2.1).1⟩, rdNum s2)
  else (⟨kind, key, 0, 0, ⟨#[]⟩, 0, 0, ⟨#[]⟩, 0⟩, s2)
set_option maxHeartbeats 8000000 in
theorem op_op (w0 W : World) (p : Nat) (sv : Value) (s : List UInt8 × Bool) (R : List Res) (i : In (Old w0 0) R) (r : RdB w0 sv s.1) (hT : Tabs w0) (hw : Has 0 w0 W (Cells p [sv, .bool s.2] 109 :: R)) :
    Calls Tryd.prog 54 ⟨[.pointer (some ⟨p, 0, none⟩)]⟩ W fun e W' => e = .returned (.agg ⟨opCells (rdOp s).1⟩) ∧ ∃ sv', RdB w0 sv' (rdOp s).2.1 ∧ Has 0 w0 W' (Cells p [sv', .bool (rdOp s).2.2] 109 :: R) := by
  refine enter Tryd.func54 Tryd.ntmps54 rfl rfl fun a hs => ?_
  repeat (first | (refine sxv hs hw ?_; clear hs; intro a hs) | refine sxc hs ?_ | (refine sxa hs hw ?_; clear hs hw; intro a b W hw hs) | (refine sxs hs hw ?_; clear hs hw; intro W hs hw))
  have hw := hw.swap2
  refine st_call hs (hc := op_num w0 _ p sv s _ (In.tl i) r hw) (k := ?_); rintro e0 W1 ⟨rfl, sv1, r1, hw'⟩; refine ⟨_, rfl, ?_⟩; clear hs hw; intro a hs
  have hw := hw'; clear hw'
  rw [show tk s (Ph.getI s.1).2.1 (Ph.getI s.1).2.2 = rdNum s from rfl] at hw r1
  repeat (first | (refine sxv hs hw ?_; clear hs; intro a hs) | refine sxc hs ?_ | (refine sxa hs hw ?_; clear hs hw; intro a b W hw hs) | (refine sxs hs hw ?_; clear hs hw; intro W hs hw))
  have hw := hw.swap2
  refine st_call hs (hc := num_GetText _ sv1 (rdNum s).1 (hw.rd (In.tl (In.tl (In.tl i))) hw.ext.size r1)) (k := ?_); rintro e0 W1 ⟨rfl, rfl⟩; refine ⟨_, rfl, ?_⟩; clear hs; intro a hs
  repeat (first | (refine sxv hs hw ?_; clear hs; intro a hs) | refine sxc hs ?_ | (refine sxa hs hw ?_; clear hs hw; intro a b W hw hs) | (refine sxs hs hw ?_; clear hs hw; intro W hs hw))
  refine st_call hs (hc := op_took w0 _ p sv1 (rdNum s) _ _ _ (In.tl (In.tl i)) r1 (getT_le (rdNum s).1) hw) (k := ?_); rintro e0 W1 ⟨rfl, sv2, r2, hw'⟩; refine ⟨_, rfl, ?_⟩; clear hs hw; intro a hs
  have hw := hw'; clear hw'
  rw [show tk (rdNum s) (Ph.getT (rdNum s).1).2.1 (Ph.getT (rdNum s).1).2.2 = rdTxt (rdNum s) from rfl] at hw r2
  obtain ⟨key, hkey⟩ : ∃ key : ByteArray, (⟨(Ph.getT (rdNum s).1).1.toArray⟩ : ByteArray) = key := ⟨_, rfl⟩
  rw [hkey] at hs
  obtain ⟨K, hK⟩ : ∃ K, (Ph.getI s.1).1 = K := ⟨_, rfl⟩
  have hD : rdOp s = (if K = 3 then (⟨K, key, (getR (rdTxt (rdNum s)).1).1.1, (getR (rdTxt (rdNum s)).1).1.2.1, (getR (rdTxt (rdNum s)).1).1.2.2, (getR (rdVal (rdTxt (rdNum s))).1).1.1, (getR (rdVal (rdTxt (rdNum s))).1).1.2.1, (getR (rdVal (rdTxt (rdNum s))).1).1.2.2, 0⟩, rdVal (rdVal (rdTxt (rdNum s))))
      else if K = 1 then (⟨K, key, (getR (rdTxt (rdNum s)).1).1.1, (getR (rdTxt (rdNum s)).1).1.2.1, (getR (rdTxt (rdNum s)).1).1.2.2, 0, 0, ⟨#[]⟩, 0⟩, rdVal (rdTxt (rdNum s)))
      else if K = 4 then (⟨K, key, 0, 0, ⟨#[]⟩, 0, 0, ⟨#[]⟩, (Ph.getI (rdTxt (rdNum s)).1).1⟩, rdNum (rdTxt (rdNum s)))
      else (⟨K, key, 0, 0, ⟨#[]⟩, 0, 0, ⟨#[]⟩, 0⟩, rdTxt (rdNum s))) := by unfold rdOp; simp only; rw [hkey, hK]
  rw [hK] at hs hw
  clear hkey hK
  generalize rdTxt (rdNum s) = s2 at *
  rw [hD]
  clear hD
  repeat (first | (refine sxv hs hw ?_; clear hs; intro a hs) | refine sxc hs ?_ | (refine sxa hs hw ?_; clear hs hw; intro a b W hw hs) | (refine sxs hs hw ?_; clear hs hw; intro W hs hw))
  by_cases k3 : K = 3
  · subst k3
    repeat (first | (refine sxv hs hw ?_; clear hs; intro a hs) | refine sxc hs ?_ | (refine sxa hs hw ?_; clear hs hw; intro a b W hw hs) | (refine sxs hs hw ?_; clear hs hw; intro W hs hw))
    refine st_call hs (hc := op_value w0 _ p sv2 s2 _ (In.tl (In.tl i)) r2 hT hw) (k := ?_); rintro e0 W1 ⟨rfl, sv3, r3, hw'⟩; refine ⟨_, rfl, ?_⟩; clear hs hw; intro a hs
    have hw := hw'; clear hw'
    rw [show tk (s2) (getR (s2).1).2.1 (getR (s2).1).2.2 = rdVal (s2) from rfl] at hw r3
    repeat (first | (refine sxv hs hw ?_; clear hs; intro a hs) | refine sxc hs ?_ | (refine sxa hs hw ?_; clear hs hw; intro a b W hw hs) | (refine sxs hs hw ?_; clear hs hw; intro W hs hw))
    refine st_call hs (hc := op_value w0 _ p sv3 (rdVal s2) _ (In.tl (In.tl i)) r3 hT hw) (k := ?_); rintro e0 W1 ⟨rfl, sv4, RR, hw'⟩; refine ⟨_, rfl, ?_⟩; clear hs hw; intro a hs
    have hw := hw'; clear hw'
    rw [show tk ((rdVal s2)) (getR ((rdVal s2)).1).2.1 (getR ((rdVal s2)).1).2.2 = rdVal ((rdVal s2)) from rfl] at hw RR
    repeat (first | (refine sxv hs hw ?_; clear hs; intro a hs) | refine sxc hs ?_ | (refine sxa hs hw ?_; clear hs hw; intro a b W hw hs) | (refine sxs hs hw ?_; clear hs hw; intro W hs hw))
    have hw' := hw.sub (List.Sublist.cons_cons _ (List.Sublist.cons _ (List.Sublist.cons _ (List.Sublist.refl _))))
    refine rc1 hs rfl rfl hw (In.tl (In.tl In.hd)) rfl ?_
    rw [if_pos rfl]
    exact ⟨rfl, _, RR, hw'⟩
  have e3 : (K == 3) = false := by simpa using k3
  rw [e3] at hs
  repeat (first | (refine sxv hs hw ?_; clear hs; intro a hs) | refine sxc hs ?_ | (refine sxa hs hw ?_; clear hs hw; intro a b W hw hs) | (refine sxs hs hw ?_; clear hs hw; intro W hs hw))
  by_cases k1 : K = 1
  · subst k1
    repeat (first | (refine sxv hs hw ?_; clear hs; intro a hs) | refine sxc hs ?_ | (refine sxa hs hw ?_; clear hs hw; intro a b W hw hs) | (refine sxs hs hw ?_; clear hs hw; intro W hs hw))
    refine st_call hs (hc := op_value w0 _ p sv2 s2 _ (In.tl (In.tl i)) r2 hT hw) (k := ?_); rintro e0 W1 ⟨rfl, sv3, RR, hw'⟩; refine ⟨_, rfl, ?_⟩; clear hs hw; intro a hs
    have hw := hw'; clear hw'
    rw [show tk (s2) (getR (s2).1).2.1 (getR (s2).1).2.2 = rdVal (s2) from rfl] at hw RR
    repeat (first | (refine sxv hs hw ?_; clear hs; intro a hs) | refine sxc hs ?_ | (refine sxa hs hw ?_; clear hs hw; intro a b W hw hs) | (refine sxs hs hw ?_; clear hs hw; intro W hs hw))
    have hw' := hw.sub (List.Sublist.cons_cons _ (List.Sublist.cons _ (List.Sublist.cons _ (List.Sublist.refl _))))
    refine rc1 hs rfl rfl hw (In.tl (In.tl In.hd)) rfl ?_
    rw [if_neg k3, if_pos rfl]
    exact ⟨rfl, _, RR, hw'⟩
  have e1 : (K == 1) = false := by simpa using k1
  rw [e1] at hs
  repeat (first | (refine sxv hs hw ?_; clear hs; intro a hs) | refine sxc hs ?_ | (refine sxa hs hw ?_; clear hs hw; intro a b W hw hs) | (refine sxs hs hw ?_; clear hs hw; intro W hs hw))
  by_cases k4 : K = 4
  · subst k4
    repeat (first | (refine sxv hs hw ?_; clear hs; intro a hs) | refine sxc hs ?_ | (refine sxa hs hw ?_; clear hs hw; intro a b W hw hs) | (refine sxs hs hw ?_; clear hs hw; intro W hs hw))
    refine st_call hs (hc := op_num w0 _ p sv2 s2 _ (In.tl (In.tl i)) r2 hw) (k := ?_); rintro e0 W1 ⟨rfl, sv3, RR, hw'⟩; refine ⟨_, rfl, ?_⟩; clear hs hw; intro a hs
    have hw := hw'; clear hw'
    rw [show tk s2 (Ph.getI s2.1).2.1 (Ph.getI s2.1).2.2 = rdNum s2 from rfl] at hw RR
    repeat (first | (refine sxv hs hw ?_; clear hs; intro a hs) | refine sxc hs ?_ | (refine sxa hs hw ?_; clear hs hw; intro a b W hw hs) | (refine sxs hs hw ?_; clear hs hw; intro W hs hw))
    have hw' := hw.sub (List.Sublist.cons_cons _ (List.Sublist.cons _ (List.Sublist.cons _ (List.Sublist.refl _))))
    refine rc1 hs rfl rfl hw (In.tl (In.tl In.hd)) rfl ?_
    rw [if_neg k3, if_neg k1, if_pos rfl]
    exact ⟨rfl, _, RR, hw'⟩
  have e4 : (K == 4) = false := by simpa using k4
  rw [e4] at hs
  have RR := r2
  repeat (first | (refine sxv hs hw ?_; clear hs; intro a hs) | refine sxc hs ?_ | (refine sxa hs hw ?_; clear hs hw; intro a b W hw hs) | (refine sxs hs hw ?_; clear hs hw; intro W hs hw))
  have hw' := hw.sub (List.Sublist.cons_cons _ (List.Sublist.cons _ (List.Sublist.cons _ (List.Sublist.refl _))))
  refine rc1 hs rfl rfl hw (In.tl (In.tl In.hd)) rfl ?_
  rw [if_neg k3, if_neg k1, if_neg k4]
  exact ⟨rfl, _, RR, hw'⟩
end Go.Proofs.YtmalklakaalaoaaDoor.Sw

set_option linter.unusedVariables false
set_option maxRecDepth 10000
namespace Go.Proofs.YtmalklakaalaoaaDoor.Sw
open Go.RowKit Go.Sx
theorem getR_putR {k n : Int} {s : ByteArray} (t : List UInt8) (h : (ofRaw k n s).2 = 0) (h0 : -9223372036854775808 ≤ n) (h1 : n ≤ 9223372036854775807) (hs : s.size ≤ 1000000) :
    getR (putR k n s ++ t) = ((k, n, s), (putR k n s).length, 0) := by
  have hd : s.data.toList.length = s.size := by rw [Array.length_toList]; rfl
  have hO := h
  unfold ofRaw at h
  have he : s.size = 0 → s = ⟨#[]⟩ := fun h => by
    apply ByteArray.ext
    exact Array.eq_empty_of_size_eq_zero h
  split at h
  · rename_i c
    obtain ⟨rfl, rfl, hz⟩ := c
    have g := Ph.getI_putI 0 t (by omega) (by omega)
    have e : putR 0 0 s = Ph.putI 0 := by simp [putR]
    rw [e, getR.eq_1, g, he hz]
    simp
  · split at h
    · rename_i c
      obtain ⟨rfl, hz⟩ := c
      have e : putR 1 n s = Ph.putI 1 ++ Ph.putI n := by simp [putR]
      have g := Ph.getI_putI 1 (Ph.putI n ++ t) (by omega) (by omega)
      have g2 := Ph.getI_putI n t h0 h1
      rw [e, List.append_assoc, getR.eq_1, g, he hz]
      simp only [List.drop_left, g2, List.length_append]
      simp
    · split at h
      · rename_i c
        obtain ⟨rfl, rfl, hz, hv⟩ := c
        have e : putR 2 0 s = Ph.putI 2 ++ Ph.putT s.data.toList := by simp [putR]
        have g := Ph.getI_putI 2 (Ph.putT s.data.toList ++ t) (by omega) (by omega)
        have g2 := Ph.getT_putT s.data.toList t (by omega)
        rw [e, List.append_assoc, getR.eq_1, g]
        simp only [List.drop_left, g2, List.length_append, ba_mk, hO]
        simp
      · cases h
def rdOps : Nat → Int → List OpD → (List UInt8 × Bool) → List OpD × (List UInt8 × Bool)
  | 0, _, l, s => (l, s)
  | f + 1, n, l, s => if 0 < n ∧ s.2 = false ∧ l.length ≤ 8 then rdOps f (n - 1) (l ++ [(rdOp s).1]) (rdOp s).2 else (l, s)
def parse (b : List UInt8) : (Int × Int × List OpD) × (List UInt8 × Bool) :=
  let s1 := rdNum (b, false)
  let s2 := rdNum s1
  let r := rdOps 10 (Ph.getI s2.1).1 [] (rdNum s2)
  (((Ph.getI b).1, (Ph.getI s1.1).1, r.1), r.2)
def decode (b : List UInt8) : Option (Int × Int × List OpD) :=
  let p := parse b
  if p.2.2 = false ∧ mayBatch p.1.1 p.1.2.1 p.1.2.2 = true ∧ textB p.1.1 p.1.2.1 p.1.2.2 = b then some p.1 else none
theorem rdNum_put (n : Int) (t : List UInt8) (h : i64 n) : rdNum (Ph.putI n ++ t, false) = (t, false) ∧ (Ph.getI (Ph.putI n ++ t)).1 = n := by
  unfold rdNum tk
  simp only
  rw [Ph.getI_putI n t h.1 h.2]
  simp
theorem rdTxt_put (s : ByteArray) (t : List UInt8) (h : s.size ≤ 1000000) : rdTxt (Ph.putT s.data.toList ++ t, false) = (t, false) ∧ (⟨(Ph.getT (Ph.putT s.data.toList ++ t)).1.toArray⟩ : ByteArray) = s := by
  have hd : s.data.toList.length = s.size := by rw [Array.length_toList]; rfl
  unfold rdTxt tk
  simp only
  rw [Ph.getT_putT s.data.toList t (by omega)]
  refine ⟨?_, ba_mk s⟩
  simp
theorem rdVal_put {k n : Int} {s : ByteArray} (t : List UInt8) (h : (ofRaw k n s).2 = 0) (hn : i64 n) (hs : s.size ≤ 1000000) : rdVal (putR k n s ++ t, false) = (t, false) ∧ (getR (putR k n s ++ t)).1 = (k, n, s) := by
  unfold rdVal tk
  simp only
  rw [getR_putR t h hn.1 hn.2 hs]
  simp
theorem rdOp_put (o : OpD) (t : List UInt8) (hm : mayD o = true) (ho : OpOk o) : rdOp (opB o ++ t, false) = (o, (t, false)) := by
  obtain ⟨kind, key, vk, vn, vs, ok, on, os, n⟩ := o
  obtain ⟨hk, hvk, hvn, hok, hon, hn, hkey, hvs, hos⟩ := ho
  simp only at hk hvk hvn hok hon hn hkey hvs hos
  simp only [mayD, mayOp, Bool.and_eq_true, beq_iff_eq] at hm
  obtain ⟨⟨⟨-, hv⟩, hO⟩, hm⟩ := hm
  have key0 : ∀ x : List UInt8, rdNum (Ph.putI kind ++ (Ph.putT key.data.toList ++ x), false) = (Ph.putT key.data.toList ++ x, false) ∧ (Ph.getI (Ph.putI kind ++ (Ph.putT key.data.toList ++ x))).1 = kind := fun x => rdNum_put kind _ hk
  have key1 : ∀ x : List UInt8, rdTxt (Ph.putT key.data.toList ++ x, false) = (x, false) ∧ (⟨(Ph.getT (Ph.putT key.data.toList ++ x)).1.toArray⟩ : ByteArray) = key := fun x => rdTxt_put key x hkey
  have main : ∀ x : List UInt8, rdOp (Ph.putI kind ++ (Ph.putT key.data.toList ++ x), false) = (if kind = 3 then
      (⟨kind, key, (getR x).1.1, (getR x).1.2.1, (getR x).1.2.2, (getR (rdVal (x, false)).1).1.1, (getR (rdVal (x, false)).1).1.2.1, (getR (rdVal (x, false)).1).1.2.2, 0⟩, rdVal (rdVal (x, false)))
      else if kind = 1 then (⟨kind, key, (getR x).1.1, (getR x).1.2.1, (getR x).1.2.2, 0, 0, ⟨#[]⟩, 0⟩, rdVal (x, false))
      else if kind = 4 then (⟨kind, key, 0, 0, ⟨#[]⟩, 0, 0, ⟨#[]⟩, (Ph.getI x).1⟩, rdNum (x, false))
      else (⟨kind, key, 0, 0, ⟨#[]⟩, 0, 0, ⟨#[]⟩, 0⟩, (x, false))) := fun x => by
    unfold rdOp
    simp only
    rw [(key0 x).1, (key0 x).2]
    simp only
    rw [(key1 x).1, (key1 x).2]
  have hA : opB ⟨kind, key, vk, vn, vs, ok, on, os, n⟩ ++ t = Ph.putI kind ++ (Ph.putT key.data.toList ++ ((if kind = 3 then putR vk vn vs ++ putR ok on os else if kind = 1 then putR vk vn vs else if kind = 4 then Ph.putI n else []) ++ t)) := by
    unfold opB
    simp only [List.append_assoc]
  rw [hA, main]
  clear main hA key0 key1
  split at hm
  · rename_i k1
    subst k1
    simp only [Bool.and_eq_true, beq_iff_eq] at hm
    obtain ⟨⟨-, h2⟩, rfl⟩ := hm
    obtain ⟨rfl, rfl, rfl⟩ := rawEq_iff.1 h2
    obtain ⟨g1, g2⟩ := rdVal_put t hv hvn hvs
    rw [if_neg (by decide), if_pos rfl, if_neg (by decide), if_pos rfl, g1, g2]
  · rename_i k1
    split at hm
    · rename_i k2
      subst k2
      simp only [Bool.and_eq_true, beq_iff_eq] at hm
      obtain ⟨⟨h1, h2⟩, rfl⟩ := hm
      obtain ⟨rfl, rfl, rfl⟩ := rawEq_iff.1 h1
      obtain ⟨rfl, rfl, rfl⟩ := rawEq_iff.1 h2
      rw [if_neg (by decide), if_neg (by decide), if_neg (by decide), if_neg (by decide), if_neg (by decide), if_neg (by decide), List.nil_append]
    · split at hm
      · rename_i k3
        subst k3
        simp only [Bool.and_eq_true, beq_iff_eq] at hm
        obtain ⟨-, rfl⟩ := hm
        obtain ⟨g1, g2⟩ := rdVal_put (putR ok on os ++ t) hv hvn hvs
        obtain ⟨g3, g4⟩ := rdVal_put t hO hon hos
        rw [if_pos rfl, if_pos rfl, List.append_assoc, g1, g2]
        simp only
        rw [g3, g4]
      · split at hm
        · rename_i k4
          subst k4
          simp only [Bool.and_eq_true] at hm
          obtain ⟨⟨⟨h1, h2⟩, -⟩, -⟩ := hm
          obtain ⟨rfl, rfl, rfl⟩ := rawEq_iff.1 h1
          obtain ⟨rfl, rfl, rfl⟩ := rawEq_iff.1 h2
          obtain ⟨g1, g2⟩ := rdNum_put n t hn
          rw [if_neg (by decide), if_neg (by decide), if_pos rfl, if_neg (by decide), if_neg (by decide), if_pos rfl, g1, g2]
        · cases hm
theorem rdOps_zero (f : Nat) (acc : List OpD) (s : List UInt8 × Bool) : rdOps f 0 acc s = (acc, s) := by
  cases f with
  | zero => rfl
  | succ f => rw [rdOps, if_neg (by omega)]
theorem rdOps_put : ∀ (l : List OpD) (f : Nat) (acc : List OpD) (t : List UInt8), acc.length + l.length ≤ 8 → l.length ≤ f → l.all mayD = true → (∀ o ∈ l, OpOk o) → rdOps f (l.length : Int) acc (l.flatMap opB ++ t, false) = (acc ++ l, (t, false))
  | [], f, acc, t, _, _, _, _ => by
    rw [show (([] : List OpD).length : Int) = 0 from rfl, rdOps_zero]; simp
  | o :: l, 0, acc, t, _, hf, _, _ => by simp at hf
  | o :: l, f + 1, acc, t, h8, hf, hm, ho => by
    simp only [List.length_cons] at h8 hf
    rw [List.all_cons, Bool.and_eq_true] at hm
    rw [rdOps, if_pos ⟨by simp only [List.length_cons]; omega, rfl, by omega⟩, List.flatMap_cons, List.append_assoc, rdOp_put o _ hm.1 (ho o (by simp))]
    simp only
    have e : ((o :: l).length : Int) - 1 = (l.length : Int) := by simp only [List.length_cons]; omega
    rw [e, rdOps_put l f (acc ++ [o]) t (by simp; omega) (by omega) hm.2 fun x hx => ho x (by simp [hx])]
    simp
theorem parse_text {c q : Int} {l : List OpD} (t : List UInt8) (h : mayBatch c q l = true) (ho : ∀ o ∈ l, OpOk o) : parse (textB c q l ++ t) = ((c, q, l), (t, false)) := by
  obtain ⟨hc, hq, hl, hm, -⟩ := mayBatch_parts h
  have e : textB c q l ++ t = Ph.putI c ++ (Ph.putI q ++ (Ph.putI l.length ++ (l.flatMap opB ++ t))) := by
    unfold textB headB; simp only [List.append_assoc]
  obtain ⟨g1, g2⟩ := rdNum_put c (Ph.putI q ++ (Ph.putI l.length ++ (l.flatMap opB ++ t))) ⟨by omega, by omega⟩
  obtain ⟨g3, g4⟩ := rdNum_put q (Ph.putI l.length ++ (l.flatMap opB ++ t)) ⟨by omega, by omega⟩
  obtain ⟨g5, g6⟩ := rdNum_put l.length (l.flatMap opB ++ t) ⟨by omega, by omega⟩
  unfold parse
  simp only
  rw [e, g1, g2]
  simp only
  rw [g3, g4]
  simp only
  rw [g5, g6, rdOps_put l 10 [] t (by simp; omega) (by omega) hm ho]
  rfl
theorem decode_text {c q : Int} {l : List OpD} (h : mayBatch c q l = true) (ho : ∀ o ∈ l, OpOk o) : decode (textB c q l) = some (c, q, l) := by
  have := parse_text [] h ho
  rw [List.append_nil] at this
  unfold decode
  simp only
  rw [this, if_pos ⟨rfl, h, rfl⟩]
theorem decode_some {b : List UInt8} {c q : Int} {l : List OpD} (h : decode b = some (c, q, l)) : mayBatch c q l = true ∧ textB c q l = b ∧ (parse b).1 = (c, q, l) := by
  unfold decode at h
  simp only at h
  split at h
  · rename_i hh
    have e := Option.some.inj h
    rw [e] at hh
    exact ⟨hh.2.1, hh.2.2, e⟩
  · cases h
theorem unzig_range (y : Nat) (h : y < 18446744073709551616) : i64 (Ph.unzig y) := by
  unfold Ph.unzig i64
  split <;> omega
theorem getN_range : ∀ (l : List UInt8) (i u : Nat), u < 128 ^ i → i ≤ 9 → i64 (Ph.getN i u l).1
  | [], i, u, _, _ => by rw [Ph.getN_end]; simp [i64]
  | c :: t, i, u, hu, hi => by
    have hc := c.toNat_lt
    rw [Ph.getN]
    split
    · simp [i64]
    · rename_i c1
      split
      · rename_i c2
        have h8 : i ≤ 8 := by omega
        exact getN_range t (i + 1) _ (Ph.sum_small u c.toNat i hu h8 (by omega)).2 (by omega)
      · rename_i c2
        split
        · simp [i64]
        · refine unzig_range _ ?_
          by_cases h8 : i ≤ 8
          · have h1 := (Ph.sum_small u c.toNat i hu h8 (by omega)).2
            have h2 : 128 ^ (i + 1) ≤ 128 ^ 9 := Nat.pow_le_pow_right (by omega) (by omega)
            have h3 : (128 : Nat) ^ 9 = 9223372036854775808 := by decide
            omega
          · obtain rfl : i = 9 := by omega
            have h3 : (128 : Nat) ^ 9 = 9223372036854775808 := by decide
            rw [h3] at hu
            have : c.toNat ≤ 1 := by omega
            have h4 : c.toNat % 128 * 128 ^ 9 ≤ 9223372036854775808 := by
              rw [h3, Nat.mod_eq_of_lt (by omega)]
              omega
            omega
theorem getI_range (l : List UInt8) : i64 (Ph.getI l).1 := getN_range l 0 0 (by simp) (by omega)
theorem getR_range (l : List UInt8) : i64 (getR l).1.1 ∧ i64 (getR l).1.2.1 ∧ (getR l).1.2.2.size ≤ l.length := by
  have h1 := getI_range (l.drop (Ph.getI l).2.1)
  have z : i64 0 := ⟨by omega, by omega⟩
  have e0 : (⟨#[]⟩ : ByteArray).size = 0 := rfl
  unfold getR
  simp only
  split
  · exact ⟨z, z, by simp [e0]⟩
  · split
    · exact ⟨z, z, by simp [e0]⟩
    · split
      · split
        · exact ⟨z, z, by simp [e0]⟩
        · exact ⟨⟨by simp, by simp⟩, h1, by simp [e0]⟩
      · split
        · split
          · exact ⟨z, z, by simp [e0]⟩
          · have := getT_size (l.drop (Ph.getI l).2.1)
            rw [List.length_drop] at this
            split
            · exact ⟨z, z, by simp [e0]⟩
            · exact ⟨⟨by simp, by simp⟩, z, by simp only; omega⟩
        · exact ⟨z, z, by simp [e0]⟩
theorem tk_le (s : List UInt8 × Bool) (n : Nat) (err : Int) : (tk s n err).1.length ≤ s.1.length := by
  unfold tk
  simp only
  split
  · exact Nat.le_refl _
  · rw [List.length_drop]; omega
theorem rdOp_ok (s : List UInt8 × Bool) (h : s.1.length ≤ 1000000) : OpOk (rdOp s).1 ∧ (rdOp s).2.1.length ≤ s.1.length := by
  have h1 : (rdNum s).1.length ≤ s.1.length := tk_le _ _ _
  have h2 : (rdTxt (rdNum s)).1.length ≤ (rdNum s).1.length := tk_le _ _ _
  have k0 := getI_range s.1
  have hkey := getT_size (rdNum s).1
  unfold rdOp
  simp only
  generalize rdTxt (rdNum s) = s2 at *
  have h3 : (rdVal s2).1.length ≤ s2.1.length := tk_le _ _ _
  have h4 : (rdVal (rdVal s2)).1.length ≤ (rdVal s2).1.length := tk_le _ _ _
  have h5 : (rdNum s2).1.length ≤ s2.1.length := tk_le _ _ _
  obtain ⟨a1, a2, a3⟩ := getR_range s2.1
  obtain ⟨b1, b2, b3⟩ := getR_range (rdVal s2).1
  have c1 := getI_range s2.1
  have z : i64 0 := ⟨by omega, by omega⟩
  have e0 : (⟨#[]⟩ : ByteArray).size ≤ 1000000 := by show 0 ≤ _; omega
  split
  · exact ⟨⟨k0, a1, a2, b1, b2, z, by simp only; omega, by simp only; omega, by simp only; omega⟩, by simp only; omega⟩
  · split
    · exact ⟨⟨k0, a1, a2, z, z, z, by simp only; omega, by simp only; omega, e0⟩, by simp only; omega⟩
    · split
      · exact ⟨⟨k0, z, z, z, z, c1, by simp only; omega, e0, e0⟩, by simp only; omega⟩
      · exact ⟨⟨k0, z, z, z, z, z, by simp only; omega, e0, e0⟩, by simp only; omega⟩
theorem rdOps_ok : ∀ (f : Nat) (n : Int) (l : List OpD) (s : List UInt8 × Bool), s.1.length ≤ 1000000 → l.length ≤ 9 → (∀ o ∈ l, OpOk o) → (rdOps f n l s).1.length ≤ 9 ∧ ∀ o ∈ (rdOps f n l s).1, OpOk o
  | 0, n, l, s, _, h9, ho => ⟨h9, ho⟩
  | f + 1, n, l, s, hs, h9, ho => by
    rw [rdOps]
    split
    · rename_i c
      obtain ⟨g1, g2⟩ := rdOp_ok s hs
      refine rdOps_ok f (n - 1) _ _ (by omega) (by simp; omega) fun o h => ?_
      rcases List.mem_append.1 h with h | h
      · exact ho o h
      · rw [List.mem_singleton] at h; rw [h]; exact g1
    · exact ⟨h9, ho⟩
theorem parse_ok (b : List UInt8) (h : b.length ≤ 1000000) : i64 (parse b).1.1 ∧ i64 (parse b).1.2.1 ∧ (parse b).1.2.2.length ≤ 9 ∧ ∀ o ∈ (parse b).1.2.2, OpOk o := by
  have h1 : (rdNum (b, false)).1.length ≤ b.length := tk_le _ _ _
  have h2 : (rdNum (rdNum (b, false))).1.length ≤ (rdNum (b, false)).1.length := tk_le _ _ _
  have h3 : (rdNum (rdNum (rdNum (b, false)))).1.length ≤ (rdNum (rdNum (b, false))).1.length := tk_le _ _ _
  have := rdOps_ok 10 (Ph.getI (rdNum (rdNum (b, false))).1).1 [] (rdNum (rdNum (rdNum (b, false)))) (by omega) (by simp) (by simp)
  exact ⟨getI_range _, getI_range _, this.1, this.2⟩
theorem decode_ok {b : List UInt8} {c q : Int} {l : List OpD} (hb : b.length ≤ 1000000) (h : decode b = some (c, q, l)) : i64 c ∧ i64 q ∧ l.length ≤ 9 ∧ ∀ o ∈ l, OpOk o := by
  have := parse_ok b hb
  rw [(decode_some h).2.2] at this
  exact this
end Go.Proofs.YtmalklakaalaoaaDoor.Sw

set_option linter.unusedVariables false
set_option maxRecDepth 10000
namespace Go.Proofs.YtmalklakaalaoaaDoor.Sw
open Go.RowKit Go.Sx
def encB (b : BatchD) : List UInt8 := textB b.c b.q b.l
def batOf (p : Int × Int × List OpD) : BatchD := ⟨p.1, p.2.1, p.2.2⟩
end Go.Proofs.YtmalklakaalaoaaDoor.Sw

set_option linter.unusedVariables false
set_option maxRecDepth 10000
namespace Go.Proofs.YtmalklakaalaoaaDoor.Sw
open Go.RowKit Go.Sx
theorem lessK_irr (a : ByteArray) : lessK a a = false := Ph.lessL_irr _
theorem lessK_trans {a b c : ByteArray} (h : lessK a b = true) (h' : lessK b c = true) : lessK a c = true := Ph.lessL_trans _ _ _ h h'
theorem lessK_asymm {a b : ByteArray} (h : lessK a b = true) : lessK b a = false := Ph.lessL_asymm _ _ h
theorem lessK_total {a b : ByteArray} (h : a ≠ b) : lessK a b = true ∨ lessK b a = true := by
  have : a.data.toList ≠ b.data.toList := fun e => h (by
    cases a; cases b
    simp only at e
    congr 1
    exact Array.toList_inj.1 e)
  have := Ph.lessL_total _ _ this
  unfold lessK
  simpa [Bool.or_eq_true] using this
def Srt (d : Dm) : Prop := d.Pairwise fun p q => lessK p.1 q.1 = true
theorem Srt.nil : Srt [] := List.Pairwise.nil
theorem Srt.delD {d : Dm} (h : Srt d) (k : ByteArray) : Srt (delD d k) := List.Pairwise.filter _ h
theorem delD_mem {d : Dm} {k : ByteArray} {q : ByteArray × DV} (h : q ∈ delD d k) : q ∈ d ∧ q.1 ≠ k := by
  have h2 := List.mem_filter.1 h
  refine ⟨h2.1, fun e => ?_⟩
  have := h2.2
  rw [e, ks_self] at this
  cases this
theorem Srt.setL : ∀ {d : Dm}, Srt d → ∀ (k : ByteArray) (v : DV), Srt (setL d k v)
  | [], _, k, v => by simp [Srt, Sw.setL]
  | p :: d, h, k, v => by
    have hd := List.pairwise_cons.1 h
    simp only [Sw.setL]
    cases hl : lessK p.1 k with
    | false =>
      refine List.pairwise_cons.2 ⟨fun q hq => ?_, Srt.delD h k⟩
      obtain ⟨h1, h2⟩ := delD_mem hq
      by_cases e : k = p.1
      · rcases List.mem_cons.1 h1 with rfl | h1
        · exact absurd e.symm h2
        · rw [e]; exact hd.1 q h1
      · have hkp : lessK k p.1 = true := by
          rcases lessK_total e with h | h
          · exact h
          · rw [hl] at h; cases h
        rcases List.mem_cons.1 h1 with rfl | h1
        · exact hkp
        · exact lessK_trans hkp (hd.1 q h1)
    | true =>
      have hne : ks k p.1 = false := by
        cases hk : ks k p.1 with
        | false => rfl
        | true => rw [ks_iff.1 hk, lessK_irr] at hl; cases hl
      rw [hne]
      refine List.pairwise_cons.2 ⟨fun q hq => ?_, Srt.setL (d := d) hd.2 k v⟩
      rcases List.mem_cons.1 ((setL_perm d k v).mem_iff.1 hq) with rfl | hq
      · exact hl
      · exact hd.1 q (delD_mem hq).1
theorem setL_last : ∀ {d : Dm} {k : ByteArray} (v : DV), (∀ p ∈ d, lessK p.1 k = true) → setL d k v = d ++ [(k, v)]
  | [], k, v, _ => rfl
  | p :: d, k, v, h => by
    have h1 := h p (by simp)
    have hne : ks k p.1 = false := by
      cases hk : ks k p.1 with
      | false => rfl
      | true => rw [ks_iff.1 hk, lessK_irr] at h1; cases h1
    simp only [setL, h1, hne]
    rw [setL_last (d := d) v fun q hq => h q (by simp [hq])]
    rfl
theorem setRL_srt {d : Dm} (h : Srt d) (k : ByteArray) (x : Option DV) : Srt (setRL d k x).2 := by
  cases x with
  | none => exact h.delD k
  | some v =>
    unfold setRL
    simp only
    split
    · exact h
    · exact h.setL k v
theorem doL_srt {d : Dm} (h : Srt d) (o : OpD) : Srt (doL d o).2 := by
  unfold doL
  split
  · split
    · exact setRL_srt h _ _
    · exact h
  · split
    · split
      · exact h
      · split
        · exact h
        · exact setRL_srt h _ _
    · exact setRL_srt h _ _
theorem goL_srt : ∀ (l : List OpD) {d : Dm}, Srt d → Srt (goL l d).2
  | [], d, h => h
  | o :: l, d, h => by
    unfold goL
    split
    · exact h
    · split
      · exact goL_srt l (doL_srt h o)
      · exact h
theorem applyL_srt {d : Dm} (h : Srt d) (l : List OpD) : Srt (applyL d l).2 := by
  unfold applyL
  split
  · exact h
  · split
    · exact goL_srt l h
    · exact h
theorem srt_unique {l m : List ByteArray} (hp : l.Perm m) (hl : l.Pairwise fun a b => lessK a b = true) (hm : m.Pairwise fun a b => lessK a b = true) : l = m :=
  hp.eq_of_pairwise (fun a b _ _ h1 h2 => by rw [lessK_asymm h1] at h2; cases h2) hl hm
theorem Srt.keys {d : Dm} (h : Srt d) : (d.map (·.1)).Pairwise fun a b => lessK a b = true := List.pairwise_map.2 h
theorem srt_of_not {l : List ByteArray} (hn : l.Nodup) (h : l.Pairwise fun a b => lessK b a = false) : l.Pairwise fun a b => lessK a b = true := by
  refine (hn.and h).imp fun {a b} hab => ?_
  rcases lessK_total hab.1 with h1 | h1
  · exact h1
  · rw [hab.2] at h1; cases h1
end Go.Proofs.YtmalklakaalaoaaDoor.Sw

set_option linter.unusedVariables false
set_option maxRecDepth 10000
namespace Go.Proofs.YtmalklakaalaoaaDoor.Sw
open Go.RowKit Go.Sx
structure DocFine (d : Dm) : Prop where
  ok : DocOk d
  srt : Srt d
  key : ∀ p ∈ d, Ph.keyB p.1.data.toList = true
theorem DocFine.nil : DocFine [] := ⟨DocOk.nil, Srt.nil, by simp⟩
theorem mayD_key {o : OpD} (h : mayD o = true) : Ph.keyB o.key.data.toList = true := by
  unfold mayD mayOp at h
  simp only [Bool.and_eq_true] at h
  exact h.1.1.1
theorem setRL_key {d : Dm} (h : ∀ p ∈ d, Ph.keyB p.1.data.toList = true) {k : ByteArray} (hk : Ph.keyB k.data.toList = true) (x : Option DV) : ∀ p ∈ (setRL d k x).2, Ph.keyB p.1.data.toList = true := by
  cases x with
  | none => exact fun p hp => h p (delD_mem hp).1
  | some v =>
    unfold setRL
    simp only
    split
    · exact h
    · intro p hp
      rcases List.mem_cons.1 ((setL_perm d k v).mem_iff.1 hp) with rfl | hp
      · exact hk
      · exact h p (delD_mem hp).1
theorem doL_key {d : Dm} (h : ∀ p ∈ d, Ph.keyB p.1.data.toList = true) {o : OpD} (hk : Ph.keyB o.key.data.toList = true) : ∀ p ∈ (doL d o).2, Ph.keyB p.1.data.toList = true := by
  unfold doL
  split
  · split
    · exact setRL_key h hk _
    · exact h
  · split
    · split
      · exact h
      · split
        · exact h
        · exact setRL_key h hk _
    · exact setRL_key h hk _
theorem goL_key : ∀ (l : List OpD) {d : Dm}, (∀ p ∈ d, Ph.keyB p.1.data.toList = true) → ∀ p ∈ (goL l d).2, Ph.keyB p.1.data.toList = true
  | [], d, h => h
  | o :: l, d, h => by
    unfold goL
    split
    · exact h
    · rename_i hm
      split
      · exact goL_key l (doL_key h (mayD_key (by simpa using hm)))
      · exact h
theorem applyL_fine {d : Dm} (h : DocFine d) {l : List OpD} (ho : ∀ o ∈ l, OpOk o) : DocFine (applyL d l).2 := by
  refine ⟨applyL_ok h.ok ho, applyL_srt h.srt l, ?_⟩
  unfold applyL
  split
  · exact h.key
  · split
    · exact goL_key l h.key
    · exact h.key
def rawB (x : Option DV) : List UInt8 := putR (kindOf x) (intIn x) (textIn x)
def pairB (p : ByteArray × DV) : List UInt8 := Ph.putT p.1.data.toList ++ rawB (some p.2)
def docB (d : Dm) : List UInt8 := Ph.putI (d.length : Int) ++ d.flatMap pairB
def rdPairs : Nat → Dm → List UInt8 → Option Dm
  | 0, d, _ => some d
  | n + 1, d, s =>
    match (Ph.getT s).2.2 == 0 && Ph.keyB (Ph.getT s).1, (getR (s.drop (Ph.getT s).2.1)).2.2 == 0, (ofRaw (getR (s.drop (Ph.getT s).2.1)).1.1 (getR (s.drop (Ph.getT s).2.1)).1.2.1 (getR (s.drop (Ph.getT s).2.1)).1.2.2).1 with
    | true, true, some v => rdPairs n (setL d ⟨(Ph.getT s).1.toArray⟩ v) (s.drop ((Ph.getT s).2.1 + (getR (s.drop (Ph.getT s).2.1)).2.1))
    | _, _, _ => none
def decDoc (s : List UInt8) : Option Dm :=
  if (Ph.getI s).2.2 = 0 ∧ 0 ≤ (Ph.getI s).1 ∧ (Ph.getI s).1 ≤ 50 then
    (match rdPairs (Ph.getI s).1.toNat [] (s.drop (Ph.getI s).2.1) with
     | none => none
     | some d => if docB d = s then some d else none)
  else none
theorem ofRaw_val {k : ByteArray} {v : DV} (h : PairOk (k, v)) : ofRaw (kindOf (some v)) (intIn (some v)) (textIn (some v)) = (some v, 0) := by
  rcases v with n | s
  · exact rfl
  · obtain ⟨h1, h2⟩ := h.txt s rfl
    have h2' : Lib.validD s.data.toList = true := h2
    unfold ofRaw kindOf intIn textIn
    simp [h1, h2']
theorem raw_range {k : ByteArray} {v : DV} (h : PairOk (k, v)) : i64 (intIn (some v)) ∧ (textIn (some v)).size ≤ 200 := by
  rcases v with n | s
  · exact ⟨h.num n rfl, by show (0 : Nat) ≤ 200; decide⟩
  · exact ⟨⟨by show -9223372036854775808 ≤ (0 : Int); decide, by show (0 : Int) ≤ 9223372036854775807; decide⟩, (h.txt s rfl).1⟩
theorem rdPairs_put : ∀ (m d : Dm) (t : List UInt8), (∀ p ∈ m, PairOk p ∧ Ph.keyB p.1.data.toList = true) → Srt (d ++ m) → rdPairs m.length d (m.flatMap pairB ++ t) = some (d ++ m)
  | [], d, t, _, _ => by simp [rdPairs]
  | p :: m, d, t, h, hs => by
    obtain ⟨k, v⟩ := p
    obtain ⟨hp, hk⟩ := h (k, v) (by simp)
    have hk0 : k.data.toList.length ≤ 1000000 := by have := hp.key; rw [Array.length_toList]; exact this
    have hg := Ph.getT_putT k.data.toList (rawB (some v) ++ (m.flatMap pairB ++ t)) (by omega)
    have hv := ofRaw_val hp
    obtain ⟨hr1, hr2⟩ := raw_range hp
    have hr := getR_putR (k := kindOf (some v)) (n := intIn (some v)) (s := textIn (some v)) (m.flatMap pairB ++ t) (by rw [hv]) hr1.1 hr1.2 (by omega)
    have e : ((k, v) :: m).flatMap pairB ++ t = Ph.putT k.data.toList ++ (rawB (some v) ++ (m.flatMap pairB ++ t)) := by
      simp [pairB]
    have hlast : setL d k v = d ++ [(k, v)] := setL_last v fun q hq => by
      have := (List.pairwise_append.1 hs).2.2 q hq (k, v) (by simp)
      exact this
    rw [e]
    simp only [List.length_cons, rdPairs, hg]
    rw [List.drop_left]
    change (match ((0 : Int) == 0) && Ph.keyB k.data.toList, (getR (putR (kindOf (some v)) (intIn (some v)) (textIn (some v)) ++ (m.flatMap pairB ++ t))).2.2 == 0, (ofRaw (getR (putR (kindOf (some v)) (intIn (some v)) (textIn (some v)) ++ (m.flatMap pairB ++ t))).1.1 (getR (putR (kindOf (some v)) (intIn (some v)) (textIn (some v)) ++ (m.flatMap pairB ++ t))).1.2.1 (getR (putR (kindOf (some v)) (intIn (some v)) (textIn (some v)) ++ (m.flatMap pairB ++ t))).1.2.2).1 with
      | true, true, some v' => rdPairs m.length (setL d ⟨k.data.toList.toArray⟩ v') (List.drop ((Ph.putT k.data.toList).length + (getR (putR (kindOf (some v)) (intIn (some v)) (textIn (some v)) ++ (m.flatMap pairB ++ t))).2.1) (Ph.putT k.data.toList ++ (rawB (some v) ++ (m.flatMap pairB ++ t))))
      | _, _, _ => none) = _
    rw [hr]
    simp only [hk, hv, beq_self_eq_true, Bool.and_self]
    rw [ba_mk, hlast, ← List.drop_drop, List.drop_left]
    unfold rawB
    rw [List.drop_left, rdPairs_put m (d ++ [(k, v)]) t (fun q hq => h q (by simp [hq])) (by simpa using hs)]
    simp
theorem dec_docB {d : Dm} (h : DocFine d) : decDoc (docB d) = some d := by
  have hg := Ph.getI_putI (d.length : Int) (d.flatMap pairB) (by omega) (by have := h.ok.len; omega)
  have hr := rdPairs_put d [] [] (fun p hp => ⟨h.ok.all p hp, h.key p hp⟩) h.srt
  rw [List.append_nil, List.nil_append] at hr
  unfold decDoc
  have hd : docB d = Ph.putI (d.length : Int) ++ d.flatMap pairB := rfl
  rw [hd, hg]
  simp only
  rw [if_pos ⟨by trivial, by omega, by have := h.ok.len; omega⟩, List.drop_left, Int.toNat_natCast, hr]
  simp only
  rw [if_pos hd]
theorem rdPairs_some : ∀ (n : Nat) (d : Dm) (s : List UInt8) (d' : Dm), rdPairs n d s = some d' → s.length ≤ 1000000 → d.length + n ≤ 50 → DocFine d → DocFine d'
  | 0, d, s, d', h, _, _, hf => by
    simp only [rdPairs, Option.some.injEq] at h
    rw [← h]; exact hf
  | n + 1, d, s, d', h, hl, hn, hf => by
    simp only [rdPairs] at h
    split at h
    · rename_i v h1 h2 h3
      rw [Bool.and_eq_true] at h1
      have hks : (⟨(Ph.getT s).1.toArray⟩ : ByteArray).size ≤ 1000000 := by have := getT_size s; omega
      have hrr := getR_range (s.drop (Ph.getT s).2.1)
      have hp : PairOk (⟨(Ph.getT s).1.toArray⟩, v) := ofRaw_pair hks hrr.2.1 v h3
      have hperm := setL_perm d ⟨(Ph.getT s).1.toArray⟩ v
      have hlen : (setL d ⟨(Ph.getT s).1.toArray⟩ v).length ≤ d.length + 1 := by
        rw [hperm.length_eq]
        exact Nat.succ_le_succ (delD_len d _)
      refine rdPairs_some n _ _ d' h (by rw [List.length_drop]; omega) (by omega) ⟨⟨(dKeys_perm hperm).2 (setD_keys hf.ok.keys _ _), by omega, fun p hp' => ?_⟩, hf.srt.setL _ _, fun p hp' => ?_⟩
      · rcases List.mem_cons.1 (hperm.mem_iff.1 hp') with rfl | hp'
        · exact hp
        · exact hf.ok.all p (delD_mem hp').1
      · rcases List.mem_cons.1 (hperm.mem_iff.1 hp') with rfl | hp'
        · exact h1.2
        · exact hf.key p (delD_mem hp').1
    · cases h
theorem decDoc_some {s : List UInt8} {d : Dm} (hl : s.length ≤ 1000000) (h : decDoc s = some d) : docB d = s ∧ DocFine d := by
  unfold decDoc at h
  split at h
  · rename_i hh
    split at h
    · cases h
    · rename_i d2 hr
      split at h
      · rename_i hd
        injection h with h
        subst h
        exact ⟨hd, rdPairs_some _ [] _ d2 hr (by rw [List.length_drop]; omega) (by simp; omega) DocFine.nil⟩
      · cases h
  · cases h
theorem pairB_len {p : ByteArray × DV} (h : PairOk p) : (pairB p).length ≤ p.1.size + 300 := by
  obtain ⟨k, v⟩ := p
  have h1 : (Ph.putT k.data.toList).length ≤ k.size + 10 := by
    unfold Ph.putT
    have := Ph.putI_length_le (k.data.toList.length : Int)
    rw [List.length_append]
    have e : k.data.toList.length = k.size := by rw [Array.length_toList]; rfl
    omega
  have h2 : (rawB (some v)).length ≤ 240 := by
    have := raw_range h
    unfold rawB putR
    have a1 := Ph.putI_length_le (kindOf (some v))
    have a2 := Ph.putI_length_le (intIn (some v))
    rw [List.length_append]
    split
    · omega
    · split
      · unfold Ph.putT
        have a3 := Ph.putI_length_le ((textIn (some v)).data.toList.length : Int)
        rw [List.length_append]
        have e : (textIn (some v)).data.toList.length = (textIn (some v)).size := by rw [Array.length_toList]; rfl
        omega
      · simp; omega
  unfold pairB
  rw [List.length_append]
  show (Ph.putT k.data.toList).length + (rawB (some v)).length ≤ k.size + 300
  omega
end Go.Proofs.YtmalklakaalaoaaDoor.Sw

set_option linter.unusedVariables false
set_option maxRecDepth 10000
namespace Go.Proofs.YtmalklakaalaoaaDoor.Sw
open Go.RowKit Go.Sx
def rowOf (f : FoldD) (c : Int) : RowD := if 1 ≤ c ∧ c ≤ 5 then ((f.told[c.toNat]?).map (·.2)).getD zeroRow else zeroRow
def toldOf (f : FoldD) (c : Int) : RowD := if lastOf f c = 0 then zeroRow else rowOf f c
structure FoldOk (f : FoldD) : Prop where
  doc : DocFine f.d
  six : f.told.length = 6
  told : ∀ x ∈ f.told, 0 ≤ x.1 ∧ (x.1 = 0 → x.2 = zeroRow) ∧ x.2.b.l.length ≤ 8
theorem FoldOk.at_ {f : FoldD} (h : FoldOk f) {c : Int} (hc : 1 ≤ c ∧ c ≤ 5) : ∃ x, f.told[c.toNat]? = some x ∧ x ∈ f.told ∧ lastOf f c = x.1 ∧ rowOf f c = x.2 := by
  have hlt : c.toNat < f.told.length := by rw [h.six]; omega
  refine ⟨f.told[c.toNat], List.getElem?_eq_getElem hlt, List.getElem_mem hlt, lastOf_at hc.1 hc.2 (List.getElem?_eq_getElem hlt), ?_⟩
  unfold rowOf
  rw [if_pos hc, List.getElem?_eq_getElem hlt]
  rfl
set_option maxHeartbeats 4000000 in
theorem fold_Doc (w0 W : World) (H : Fh) (p : Nat) (f : FoldD) (R : List Res) (hw : Has 0 w0 W (FoldAt H p f :: R)) :
    Calls Tryd.prog 16 ⟨[.pointer (some ⟨p, 0, none⟩)]⟩ W fun e W' => ∃ c, e = .returned (.pointer (some ⟨c, 0, none⟩)) ∧ Has 0 w0 W' (DocAt c f.d :: FoldAt H p f :: R) := by
  obtain ⟨pd, xs, ht, hw⟩ := foldOpen hw
  refine enter Tryd.func16 Tryd.ntmps16 rfl rfl fun a hs => ?_
  repeat (first | (refine sxv hs hw ?_; clear hs; intro a hs) | refine sxc hs ?_ | (refine sxa hs hw ?_; clear hs hw; intro a b W hw hs) | (refine sxs hs hw ?_; clear hs hw; intro W hs hw) | ((with_reducible first | refine st_ptrSome hs (k := ?_) | refine st_ptrNone hs (k := ?_)); clear hs; intro a hs))
  refine st_call hs (hc := doc_Copy w0 _ pd f.d _ hw.swap2) (k := ?_); rintro e0 W1 ⟨c, rfl, hw1⟩; refine ⟨_, rfl, ?_⟩; clear hs hw; intro a hs; have hw := hw1; clear hw1
  repeat (first | (refine sxv hs hw ?_; clear hs; intro a hs) | refine sxc hs ?_ | (refine sxa hs hw ?_; clear hs hw; intro a b W hw hs) | (refine sxs hs hw ?_; clear hs hw; intro W hs hw) | ((with_reducible first | refine st_ptrSome hs (k := ?_) | refine st_ptrNone hs (k := ?_)); clear hs; intro a hs))
  have hw : Has 0 w0 _ (Cells p (foldCells f.place pd xs) 61 :: DocAt pd f.d :: DocAt c f.d :: R) := hw.perm (by repeat (first | exact List.Perm.refl _ | refine perm_pick (by repeat (first | exact Pick.hd | apply Pick.tl)) ?_))
  exact rt1 hs rfl rfl ⟨c, rfl, (foldShut hw ht).swap2⟩
set_option maxHeartbeats 8000000 in
theorem fold_Told (w0 W : World) (H : Fh) (p : Nat) (f : FoldD) (c : Int) (R : List Res) (h8 : ∀ x ∈ f.told, x.2.b.l.length ≤ 8) (hw : Has 0 w0 W (FoldAt H p f :: Fz H :: R)) :
    Calls Tryd.prog 10 ⟨[.pointer (some ⟨p, 0, none⟩), .int .i64 c]⟩ W fun e W' => ∃ sv H', e = .returned (.tuple ⟨[.agg ⟨rowCells (toldOf f c) sv⟩, .bool (!(lastOf f c == 0))]⟩) ∧ H.le H' ∧ OpsH H' sv (toldOf f c).b.l ∧ Has 0 w0 W' (FoldAt H p f :: Fz H' :: R) := by
  refine enter Tryd.func10 Tryd.ntmps10 rfl rfl fun a hs => ?_
  repeat (first | (refine sxv hs hw ?_; clear hs; intro a hs) | refine sxc hs ?_ | (refine sxa hs hw ?_; clear hs hw; intro a b W hw hs) | (refine sxs hs hw ?_; clear hs hw; intro W hs hw) | ((with_reducible first | refine st_ptrSome hs (k := ?_) | refine st_ptrNone hs (k := ?_)); clear hs; intro a hs))
  obtain ⟨b4, q4⟩ := nm1 hw; subst q4
  refine st_call hs (hc := fold_Last w0 _ H p f c _ hw.swap2) (k := ?_); rintro e0 W1 ⟨rfl, hw1⟩; refine ⟨_, rfl, ?_⟩; clear hs hw; intro a hs; have hw := hw1; clear hw1
  repeat (first | (refine sxv hs hw ?_; clear hs; intro a hs) | refine sxc hs ?_ | (refine sxa hs hw ?_; clear hs hw; intro a b W hw hs) | (refine sxs hs hw ?_; clear hs hw; intro W hs hw) | ((with_reducible first | refine st_ptrSome hs (k := ?_) | refine st_ptrNone hs (k := ?_)); clear hs; intro a hs))
  cases h0 : (lastOf f c == 0) with
  | true =>
    rw [h0] at hs
    have hT : toldOf f c = zeroRow := by unfold toldOf; rw [if_pos (by simpa using h0)]
    repeat (first | (refine sxv hs hw ?_; clear hs; intro a hs) | refine sxc hs ?_ | (refine sxa hs hw ?_; clear hs hw; intro a b W hw hs) | (refine sxs hs hw ?_; clear hs hw; intro W hs hw) | ((with_reducible first | refine st_ptrSome hs (k := ?_) | refine st_ptrNone hs (k := ?_)); clear hs; intro a hs))
    refine rc2 hs rfl rfl hw (In.tl In.hd) rfl rfl ?_
    rw [hT]
    exact ⟨.slice none 0 0, H, rfl, Fh.le.refl _, ops_nil H, hw.sub (List.Sublist.cons_cons _ (List.Sublist.cons _ (List.Sublist.refl _)))⟩
  | false =>
    rw [h0] at hs
    have h0' : ¬ lastOf f c = 0 := by simpa using h0
    have hc : 1 ≤ c ∧ c ≤ 5 := by
      by_cases hc : 1 ≤ c ∧ c ≤ 5
      · exact hc
      · exfalso; apply h0'; unfold lastOf; rw [if_neg hc]
    obtain ⟨pd, xs, ht, hw⟩ := foldOpen hw
    obtain ⟨x, hx⟩ : ∃ x, f.told[c.toNat]? = some x := ⟨f.told[c.toNat]'(by rw [ht.1]; omega), List.getElem?_eq_getElem _⟩
    have hT : toldOf f c = x.2 := by unfold toldOf rowOf; rw [if_neg h0', if_pos hc, hx]; rfl
    have hx8 := h8 x (List.mem_of_getElem? hx)
    obtain ⟨sv, hsv, h6⟩ := told_get ht hx
    rw [hT]
    repeat (first | (refine sxv hs hw ?_; clear hs; intro a hs) | refine sxc hs ?_ | (refine sxa hs hw ?_; clear hs hw; intro a b W hw hs) | (refine sxs hs hw ?_; clear hs hw; intro W hs hw) | ((with_reducible first | refine st_ptrSome hs (k := ?_) | refine st_ptrNone hs (k := ?_)); clear hs; intro a hs))
    refine st_index_arr hs (h0 := by omega) (h1 := by omega) (c := ?_); clear hs; intro a hs
    repeat (first | (refine sxv hs hw ?_; clear hs; intro a hs) | refine sxc hs ?_ | (refine sxa hs hw ?_; clear hs hw; intro a b W hw hs) | (refine sxs hs hw ?_; clear hs hw; intro W hs hw) | ((with_reducible first | refine st_ptrSome hs (k := ?_) | refine st_ptrNone hs (k := ?_)); clear hs; intro a hs))
    refine st_load_ats (z := zrc) hs (cs := rowCells x.2 sv) (hc := fun j u hu => ?hcc) (hl := rfl) (c := ?_)
    case hcc =>
      rw [cell_block (hw.block In.hd).1]
      show (foldCells f.place pd xs)[0 + 2 + c.toNat * 6 + 1 + j]? = _
      rw [show 0 + 2 + c.toNat * 6 + 1 + j = c.toNat * 6 + (j + 1) + 1 + 1 by omega]
      have h9 := congrArg (fun t => t[j + 1]?) h6
      simp only [cut_eq, List.getElem?_take, List.getElem?_drop, List.getElem?_cons_succ] at h9
      rw [hu] at h9
      split at h9
      · simpa [foldCells] using h9
      · cases h9
    clear hs; intro a hs
    repeat (first | (refine sxv hs hw ?_; clear hs; intro a hs) | refine sxc hs ?_ | (refine sxa hs hw ?_; clear hs hw; intro a b W hw hs) | (refine sxs hs hw ?_; clear hs hw; intro W hs hw) | ((with_reducible first | refine st_ptrSome hs (k := ?_) | refine st_ptrNone hs (k := ?_)); clear hs; intro a hs))
    have hw : Has 0 w0 _ (Fz H :: Cells p (foldCells f.place pd xs) 61 :: DocAt pd f.d :: Cells b4 zrc 32 :: R) := hw.perm (by repeat (first | exact List.Perm.refl _ | refine perm_pick (by repeat (first | exact Pick.hd | apply Pick.tl)) ?_))
    refine st_call hs (hc := fold_own w0 _ H x.2 sv _ (by omega) hsv hw) (k := ?_); rintro e0 W1 ⟨sv', H', rfl, hle, hsv', hw1⟩; refine ⟨_, rfl, ?_⟩; clear hs hw; intro a hs; have hw := hw1; clear hw1
    obtain ⟨tad, tcap, rfl⟩ := hsv'.slice
    repeat (first | (refine sxv hs hw ?_; clear hs; intro a hs) | refine sxc hs ?_ | (refine sxa hs hw ?_; clear hs hw; intro a b W hw hs) | (refine sxs hs hw ?_; clear hs hw; intro W hs hw) | ((with_reducible first | refine st_ptrSome hs (k := ?_) | refine st_ptrNone hs (k := ?_)); clear hs; intro a hs))
    refine rc2 hs rfl rfl hw (In.tl (In.tl (In.tl In.hd))) rfl rfl ?_
    have hw : Has 0 w0 _ (Cells p (foldCells f.place pd xs) 61 :: DocAt pd f.d :: Cells b4 (rowCells x.2 (.slice tad x.2.b.l.length tcap)) 32 :: Fz H' :: R) := hw.perm (by repeat (first | exact List.Perm.refl _ | refine perm_pick (by repeat (first | exact Pick.hd | apply Pick.tl)) ?_))
    exact ⟨_, H', rfl, hle, hsv', (foldShut hw ht).sub (List.Sublist.cons_cons _ (List.Sublist.cons _ (List.Sublist.refl _)))⟩
end Go.Proofs.YtmalklakaalaoaaDoor.Sw

set_option linter.unusedVariables false
set_option maxRecDepth 10000
namespace Ph
open Go Go.Lib
theorem decodeN_le4 (n b0 b1 b2 b3 : Nat) : (decodeN n b0 b1 b2 b3).2 ≤ 4 := by
  unfold decodeN
  repeat' split
  all_goals first | decide | simp
theorem decodeL_le4 (l : List UInt8) : (decodeL l).2 ≤ 4 := by
  unfold decodeL
  rw [decode_at]; exact decodeN_le4 _ _ _ _ _
theorem wid_le4 : ∀ l : List UInt8, wid (rs l) ≤ 4 * (rs l).length :=
  rs_induct (by simp [rs_nil, wid]) (fun l he ih => by
    rw [rs_step l he, wid_cons, List.length_cons]
    have hw := decodeL_le4 l
    omega)
theorem keyB_len {l : List UInt8} (h : keyB l = true) : l.length ≤ 160 := by
  unfold keyB at h
  simp only [Bool.and_eq_true, decide_eq_true_eq] at h
  have h1 := wid_le4 l
  rw [wid_rs] at h1
  have h2 := h.1.2
  unfold count at h2
  omega
end Ph
namespace Go.Proofs.YtmalklakaalaoaaDoor.Sw
open Go.RowKit Go.Sx
def fineE (e : Int) : Bool := e == 0 || e == 6 || e == 7 || e == 8 || e == 4
def seqB (x : Int × RowD) : List UInt8 := Ph.putI x.1 ++ (if x.1 > 0 then Ph.putI x.2.place ++ Ph.putT (encB x.2.b) ++ Ph.putI x.2.err else [])
def foldB (f : FoldD) : List UInt8 := Ph.putI f.place ++ Ph.putT (docB f.d) ++ (f.told.drop 1).flatMap seqB
structure ToldFine (place : Int) (c : Nat) (x : Int × RowD) : Prop where
  seq : x.1 = x.2.b.q
  cli : x.2.b.c = c
  may : mayB x.2.b = true
  ok : BatOk x.2.b
  pl : 1 ≤ x.2.place ∧ x.2.place ≤ place
  err : fineE x.2.err = true
structure FoldFine (f : FoldD) : Prop where
  doc : DocFine f.d
  place : 0 ≤ f.place ∧ f.place ≤ 9223372036854775807
  six : f.told.length = 6
  told : ∀ (c : Nat) (x : Int × RowD), f.told[c]? = some x → x = (0, zeroRow) ∨ (1 ≤ c ∧ ToldFine f.place c x)
  dist : ∀ (c c' : Nat) (x x' : Int × RowD), f.told[c]? = some x → f.told[c']? = some x' → x.1 ≠ 0 → x'.1 ≠ 0 → x.2.place = x'.2.place → c = c'
theorem ToldFine.pos {place : Int} {c : Nat} {x : Int × RowD} (h : ToldFine place c x) : 0 < x.1 := by
  have := (may_parts h.may).2.1.1
  have := h.seq
  omega
theorem fineE_i64 {e : Int} (h : fineE e = true) : i64 e := by
  unfold fineE at h
  simp only [Bool.or_eq_true, beq_iff_eq] at h
  unfold i64
  omega
theorem DocFine.len {d : Dm} (h : DocFine d) : (docB d).length ≤ 30000 := by
  have h1 : ∀ m : Dm, (∀ p ∈ m, PairOk p) → (∀ p ∈ m, Ph.keyB p.1.data.toList = true) → (m.flatMap pairB).length ≤ m.length * 460 := by
    intro m
    induction m with
    | nil => intro _ _; simp
    | cons p m ih =>
      intro a b
      have h1 := pairB_len (a p (by simp))
      have h2 := Ph.keyB_len (b p (by simp))
      have h3 := ih (fun q hq => a q (by simp [hq])) (fun q hq => b q (by simp [hq]))
      have h4 : p.1.data.toList.length = p.1.size := by rw [Array.length_toList]; rfl
      rw [List.flatMap_cons, List.length_append, List.length_cons]
      omega
  have h2 := h1 d h.ok.all h.key
  have h3 := Ph.putI_length_le (d.length : Int)
  have h4 := h.ok.len
  unfold docB
  rw [List.length_append]
  omega
def rdTold (place : Int) : Nat → Nat → (List UInt8 × Bool) → List (Int × RowD) → List Int → Option (List (Int × RowD) × (List UInt8 × Bool))
  | 0, _, s, told, _ => some (told, s)
  | n + 1, c, s, told, places =>
    if (Ph.getI s.1).1 = 0 then rdTold place n (c + 1) (rdNum s) told places
    else
      match decode (Ph.getT (rdNum (rdNum s)).1).1 with
      | none => none
      | some x =>
        if x.1 = (c : Int) ∧ x.2.1 = (Ph.getI s.1).1 ∧ 1 ≤ (Ph.getI (rdNum s).1).1 ∧ (Ph.getI (rdNum s).1).1 ≤ place ∧ fineE (Ph.getI (rdTxt (rdNum (rdNum s))).1).1 = true ∧ (Ph.getI (rdNum s).1).1 ∉ places then
          rdTold place n (c + 1) (rdNum (rdTxt (rdNum (rdNum s)))) (told.set c ((Ph.getI s.1).1, ⟨(Ph.getI (rdNum s).1).1, batOf x, (Ph.getI (rdTxt (rdNum (rdNum s))).1).1⟩)) (places ++ [(Ph.getI (rdNum s).1).1])
        else none
def decF (b : List UInt8) : Option FoldD :=
  match decDoc (Ph.getT (rdNum (b, false)).1).1 with
  | none => none
  | some d =>
    if (Ph.getI b).1 < 0 then none
    else
      match rdTold (Ph.getI b).1 5 1 (rdTxt (rdNum (b, false))) (List.replicate 6 (0, zeroRow)) [] with
      | none => none
      | some (told, s) => if s.2 = false ∧ foldB ⟨(Ph.getI b).1, d, told⟩ = b then some ⟨(Ph.getI b).1, d, told⟩ else none
def curT (told : List (Int × RowD)) (c : Nat) : List (Int × RowD) := told.take c ++ List.replicate (6 - c) (0, zeroRow)
theorem curT_next {told : List (Int × RowD)} {c : Nat} (h6 : told.length = 6) (hc : c < 6) {x : Int × RowD} (hx : told[c]? = some x) : (curT told c).set c x = curT told (c + 1) := by
  unfold curT
  have hl : (told.take c).length = c := by rw [List.length_take]; omega
  rw [List.set_append_right _ _ (by omega), hl, Nat.sub_self, show 6 - c = (6 - (c + 1)) + 1 from by omega, List.replicate_succ, List.set_cons_zero, List.take_add_one, hx]
  simp
theorem curT_same {told : List (Int × RowD)} {c : Nat} (h6 : told.length = 6) (hc : c < 6) (hx : told[c]? = some (0, zeroRow)) : curT told c = curT told (c + 1) := by
  rw [← curT_next h6 hc hx]
  unfold curT
  have hl : (told.take c).length = c := by rw [List.length_take]; omega
  rw [List.set_append_right _ _ (by omega), hl, Nat.sub_self, show 6 - c = (6 - (c + 1)) + 1 from by omega, List.replicate_succ, List.set_cons_zero]
theorem mayB_dec {b : BatchD} (h : mayB b = true) (hb : BatOk b) : decode (encB b) = some (b.c, b.q, b.l) := decode_text h hb.ops
theorem encB_le {b : BatchD} (h : mayB b = true) : (encB b).length ≤ 1200 := (mayBatch_parts h).2.2.2.2
theorem rdTold_put {f : FoldD} (hf : FoldFine f) : ∀ (n c : Nat) (places : List Int) (t : List UInt8), c + n = 6 → (∀ p ∈ places, ∃ c', c' < c ∧ ∃ x, f.told[c']? = some x ∧ x.1 ≠ 0 ∧ x.2.place = p) →
    rdTold f.place n c ((f.told.drop c).flatMap seqB ++ t, false) (curT f.told c) places = some (f.told, (t, false))
  | 0, c, places, t, hc, hp => by
    have h6 : c = 6 := by omega
    subst h6
    have hd : f.told.drop 6 = [] := List.drop_eq_nil_of_le (by rw [hf.six]; omega)
    have ht : curT f.told 6 = f.told := by unfold curT; rw [List.take_of_length_le (by rw [hf.six]; omega)]; simp
    rw [hd, ht]
    rfl
  | n + 1, c, places, t, hc, hp => by
    have hlt : c < f.told.length := by rw [hf.six]; omega
    obtain ⟨x, hx⟩ : ∃ x, f.told[c]? = some x := ⟨f.told[c], List.getElem?_eq_getElem hlt⟩
    have hdr : f.told.drop c = x :: f.told.drop (c + 1) := drop_of hx
    have hcat : (f.told.drop c).flatMap seqB ++ t = seqB x ++ ((f.told.drop (c + 1)).flatMap seqB ++ t) := by rw [hdr, List.flatMap_cons, List.append_assoc]
    rw [hcat]
    generalize hT : (f.told.drop (c + 1)).flatMap seqB ++ t = T at *
    rcases hf.told c x hx with h0 | ⟨h1, hfine⟩
    · subst h0
      have e : seqB (0, zeroRow) ++ T = Ph.putI 0 ++ T := by simp [seqB]
      rw [e]
      obtain ⟨a1, a2⟩ := rdNum_put 0 T ⟨by decide, by decide⟩
      unfold rdTold
      simp only
      rw [if_pos a2, a1, curT_same hf.six (by omega) hx, ← hT]
      exact rdTold_put hf n (c + 1) places t (by omega) fun p hh => by
        obtain ⟨c', h2, h3⟩ := hp p hh
        exact ⟨c', by omega, h3⟩
    · have hpos := hfine.pos
      obtain ⟨q, r⟩ := x
      have hq : q = r.b.q := hfine.seq
      have hpl := hfine.pl
      simp only at hpos hpl
      have hqi : i64 q := by have := hfine.ok.q; rw [hq]; exact this
      have hpi : i64 r.place := ⟨by omega, by have := hf.place.2; have := hpl.2; omega⟩
      have hei := fineE_i64 hfine.err
      have e : seqB (q, r) ++ T = Ph.putI q ++ (Ph.putI r.place ++ (Ph.putT (⟨(encB r.b).toArray⟩ : ByteArray).data.toList ++ (Ph.putI r.err ++ T))) := by
        simp only [seqB]
        rw [if_pos hpos]
        simp
      rw [e]
      obtain ⟨a1, a2⟩ := rdNum_put q (Ph.putI r.place ++ (Ph.putT (⟨(encB r.b).toArray⟩ : ByteArray).data.toList ++ (Ph.putI r.err ++ T))) hqi
      obtain ⟨b1, b2⟩ := rdNum_put r.place (Ph.putT (⟨(encB r.b).toArray⟩ : ByteArray).data.toList ++ (Ph.putI r.err ++ T)) hpi
      have hel : (encB r.b).length ≤ 1200 := encB_le hfine.may
      obtain ⟨c1, c2⟩ := rdTxt_put ⟨(encB r.b).toArray⟩ (Ph.putI r.err ++ T) (by show (encB r.b).toArray.size ≤ _; simp; exact Nat.le_trans hel (by decide))
      obtain ⟨d1, d2⟩ := rdNum_put r.err T hei
      have c3 : (Ph.getT (Ph.putT (⟨(encB r.b).toArray⟩ : ByteArray).data.toList ++ (Ph.putI r.err ++ T))).1 = encB r.b := by
        rw [Ph.getT_putT _ _ (by show (encB r.b).length ≤ _; omega)]
      unfold rdTold
      simp only
      rw [a2, if_neg (by omega), a1]
      simp only
      rw [b1, b2]
      simp only
      rw [c3, c1, mayB_dec hfine.may hfine.ok]
      simp only
      rw [d1, d2]
      have hnp : r.place ∉ places := fun hh => by
        obtain ⟨c', h2, x', h3, h4, h5⟩ := hp _ hh
        have := hf.dist c c' (q, r) x' hx h3 (by show q ≠ 0; omega) h4 h5.symm
        omega
      have hco : r.b.c = (c : Int) := hfine.cli
      rw [if_pos ⟨hco, hq.symm, hpl.1, hpl.2, hfine.err, hnp⟩]
      have hset : (curT f.told c).set c (q, (⟨r.place, batOf (r.b.c, r.b.q, r.b.l), r.err⟩ : RowD)) = curT f.told (c + 1) := curT_next hf.six (by omega) hx
      rw [hset, ← hT]
      refine rdTold_put hf n (c + 1) (places ++ [r.place]) t (by omega) fun p hh => ?_
      rcases List.mem_append.1 hh with hh | hh
      · obtain ⟨c', h2, h3⟩ := hp p hh
        exact ⟨c', by omega, h3⟩
      · rw [List.mem_singleton] at hh
        subst hh
        exact ⟨c, by omega, (q, r), hx, by show q ≠ 0; omega, rfl⟩
theorem dec_foldB {f : FoldD} (hf : FoldFine f) (h0 : f.told[0]? = some (0, zeroRow)) : decF (foldB f) = some f := by
  have hpi : i64 f.place := ⟨by have := hf.place.1; omega, hf.place.2⟩
  have hdl := hf.doc.len
  have e : foldB f = Ph.putI f.place ++ (Ph.putT (⟨(docB f.d).toArray⟩ : ByteArray).data.toList ++ ((f.told.drop 1).flatMap seqB ++ [])) := by
    unfold foldB; simp
  obtain ⟨a1, a2⟩ := rdNum_put f.place (Ph.putT (⟨(docB f.d).toArray⟩ : ByteArray).data.toList ++ ((f.told.drop 1).flatMap seqB ++ [])) hpi
  obtain ⟨b1, b2⟩ := rdTxt_put ⟨(docB f.d).toArray⟩ ((f.told.drop 1).flatMap seqB ++ []) (by show (docB f.d).toArray.size ≤ _; simp; omega)
  have b3 : (Ph.getT (Ph.putT (⟨(docB f.d).toArray⟩ : ByteArray).data.toList ++ ((f.told.drop 1).flatMap seqB ++ []))).1 = docB f.d := by
    rw [Ph.getT_putT _ _ (by show (docB f.d).length ≤ _; omega)]
  have hr := rdTold_put hf 5 1 [] [] (by decide) (by simp)
  have hc1 : curT f.told 1 = List.replicate 6 (0, zeroRow) := by
    rw [← curT_same hf.six (by decide) h0]
    unfold curT
    simp
  rw [hc1] at hr
  unfold decF
  rw [e, a1]
  simp only
  rw [b3, dec_docB hf.doc]
  simp only
  rw [a2, if_neg (by have := hf.place.1; omega), b1, hr]
  simp only
  rw [if_pos ⟨trivial, e⟩]
structure ReadInv (place : Int) (c : Nat) (tl : List (Int × RowD)) (places : List Int) : Prop where
  six : tl.length = 6
  told : ∀ (i : Nat) (x : Int × RowD), tl[i]? = some x → x = (0, zeroRow) ∨ (1 ≤ i ∧ i < c ∧ ToldFine place i x)
  dist : ∀ (i i' : Nat) (x x' : Int × RowD), tl[i]? = some x → tl[i']? = some x' → x.1 ≠ 0 → x'.1 ≠ 0 → x.2.place = x'.2.place → i = i'
  mem : ∀ (i : Nat) (x : Int × RowD), tl[i]? = some x → x.1 ≠ 0 → x.2.place ∈ places
theorem rdNum_len (s : List UInt8 × Bool) : (rdNum s).1.length ≤ s.1.length := tk_le s _ _
theorem rdTxt_len (s : List UInt8 × Bool) : (rdTxt s).1.length ≤ s.1.length := tk_le s _ _
theorem getT_len (l : List UInt8) : (Ph.getT l).1.length ≤ l.length := by
  have h1 := getT_size l
  have h2 : (⟨(Ph.getT l).1.toArray⟩ : ByteArray).size = (Ph.getT l).1.length := by show (Ph.getT l).1.toArray.size = _; simp
  omega
theorem ReadInv.more {place : Int} {c : Nat} {told : List (Int × RowD)} {places : List Int} (h : ReadInv place c told places) : ReadInv place (c + 1) told places :=
  ⟨h.six, fun i x hx => (h.told i x hx).imp id fun ⟨a, b, d⟩ => ⟨a, by omega, d⟩, h.dist, h.mem⟩
theorem ReadInv.set {place : Int} {c : Nat} {told : List (Int × RowD)} {places : List Int} (h : ReadInv place c told places) (hc : 1 ≤ c ∧ c < 6) {x : Int × RowD} (hx : ToldFine place c x) (hn : x.2.place ∉ places) : ReadInv place (c + 1) (told.set c x) (places ++ [x.2.place]) := by
  have hlt : c < told.length := by rw [h.six]; omega
  have hat : ∀ (i : Nat) (y : Int × RowD), (told.set c x)[i]? = some y → (i = c ∧ y = x) ∨ (i ≠ c ∧ told[i]? = some y) := by
    intro i y hy
    by_cases e : i = c
    · subst e
      rw [List.getElem?_set_self hlt] at hy
      injection hy with hy
      exact .inl ⟨rfl, hy.symm⟩
    · rw [List.getElem?_set_ne (fun k => e k.symm)] at hy
      exact .inr ⟨e, hy⟩
  refine ⟨by rw [List.length_set]; exact h.six, fun i y hy => ?_, fun i i' y y' hy hy' h0 h0' he => ?_, fun i y hy h0 => ?_⟩
  · rcases hat i y hy with ⟨rfl, rfl⟩ | ⟨_, hy⟩
    · exact .inr ⟨hc.1, by omega, hx⟩
    · exact (h.told i y hy).imp id fun ⟨a, b, d⟩ => ⟨a, by omega, d⟩
  · rcases hat i y hy with ⟨e1, e2⟩ | ⟨hne, hz⟩
    · rcases hat i' y' hy' with ⟨e3, e4⟩ | ⟨hne', hz'⟩
      · rw [e1, e3]
      · exact absurd (by rw [← e2, he]; exact h.mem i' y' hz' h0') hn
    · rcases hat i' y' hy' with ⟨e3, e4⟩ | ⟨hne', hz'⟩
      · exact absurd (by rw [← e4, ← he]; exact h.mem i y hz h0) hn
      · exact h.dist i i' y y' hz hz' h0 h0' he
  · rcases hat i y hy with ⟨rfl, rfl⟩ | ⟨hne, hy⟩
    · exact List.mem_append_right _ (by simp)
    · exact List.mem_append_left _ (h.mem i y hy h0)
theorem rdTold_some {place : Int} : ∀ (n c : Nat) (s : List UInt8 × Bool) (told : List (Int × RowD)) (places : List Int) (r : List (Int × RowD) × (List UInt8 × Bool)), rdTold place n c s told places = some r → c + n = 6 → 1 ≤ c → s.1.length ≤ 1000000 → ReadInv place c told places → ∃ pl, ReadInv place 6 r.1 pl
  | 0, c, s, told, places, r, h, hc, _, _, hi => by
    simp only [rdTold, Option.some.injEq] at h
    obtain rfl : c = 6 := by omega
    rw [← h]; exact ⟨places, hi⟩
  | n + 1, c, s, told, places, r, h, hc, h1, hl, hi => by
    unfold rdTold at h
    have l1 := rdNum_len s
    have l2 := rdNum_len (rdNum s)
    have l3 := rdTxt_len (rdNum (rdNum s))
    have l4 := rdNum_len (rdTxt (rdNum (rdNum s)))
    split at h
    · exact rdTold_some n (c + 1) _ told places r h (by omega) (by omega) (by omega) hi.more
    · rename_i hseq
      split at h
      · cases h
      · rename_i x hx
        split at h
        · rename_i hh
          obtain ⟨h2, h3, h4, h5, h6, h7⟩ := hh
          obtain ⟨xc, xq, xl⟩ := x
          have hlt := getT_len (rdNum (rdNum s)).1
          have hok := decode_ok (by omega) hx
          have hds := decode_some hx
          refine rdTold_some n (c + 1) _ _ _ r h (by omega) (by omega) (by omega) (hi.set ⟨h1, by omega⟩ ⟨h3.symm, h2, hds.1, ⟨hok.1, hok.2.1, hok.2.2.2⟩, ⟨h4, h5⟩, h6⟩ h7)
        · cases h
theorem decF_some {b : List UInt8} {f : FoldD} (hl : b.length ≤ 1000000) (h : decF b = some f) : foldB f = b ∧ FoldFine f := by
  unfold decF at h
  have l1 := rdNum_len (b, false)
  have l2 := rdTxt_len (rdNum (b, false))
  have l3 := getT_len (rdNum (b, false)).1
  simp only at l1
  split at h
  · cases h
  · rename_i d hd
    split at h
    · cases h
    · rename_i hp
      split at h
      · cases h
      · rename_i told s hr
        split at h
        · rename_i hh
          injection h with h
          subst h
          have hdd := decDoc_some (by omega) hd
          obtain ⟨pl, hi⟩ := rdTold_some 5 1 _ _ [] _ hr (by decide) (by decide) (by omega) ⟨by simp, fun i x hx => by
            have := List.eq_of_mem_replicate (List.mem_of_getElem? hx); exact .inl this, fun i i' x x' hx _ h0 => by
            have := List.eq_of_mem_replicate (List.mem_of_getElem? hx); rw [this] at h0; exact absurd rfl h0, fun i x hx h0 => by
            have := List.eq_of_mem_replicate (List.mem_of_getElem? hx); rw [this] at h0; exact absurd rfl h0⟩
          have hgi := getI_range b
          exact ⟨hh.2, hdd.2, ⟨by show 0 ≤ (Ph.getI b).1; omega, hgi.2⟩, hi.six, fun c x hx => (hi.told c x hx).imp id fun ⟨a, _, e⟩ => ⟨a, e⟩, hi.dist⟩
        · cases h
theorem FoldFine.zero {f : FoldD} (h : FoldFine f) : f.told[0]? = some (0, zeroRow) := by
  have hlt : 0 < f.told.length := by rw [h.six]; decide
  have hx : f.told[0]? = some f.told[0] := List.getElem?_eq_getElem hlt
  rcases h.told 0 _ hx with e | ⟨e, _⟩
  · rw [hx, e]
  · omega
theorem FoldFine.ok {f : FoldD} (h : FoldFine f) : FoldOk f := by
  refine ⟨h.doc, h.six, fun x hx => ?_⟩
  obtain ⟨i, hi⟩ := List.mem_iff_getElem?.1 hx
  rcases h.told i x hi with rfl | ⟨_, e⟩
  · exact ⟨by decide, fun _ => rfl, by decide⟩
  · have := e.pos
    exact ⟨by omega, fun h0 => by omega, (may_parts e.may).2.2⟩
theorem FoldFine.empty : FoldFine emptyF := by
  refine ⟨DocFine.nil, ⟨by decide, by decide⟩, rfl, fun c x hx => .inl (List.eq_of_mem_replicate (List.mem_of_getElem? hx)), fun c c' x x' hx _ h0 => ?_⟩
  rw [List.eq_of_mem_replicate (List.mem_of_getElem? hx)] at h0
  exact absurd rfl h0
theorem FoldFine.dec {f : FoldD} (h : FoldFine f) : decF (foldB f) = some f := dec_foldB h h.zero
theorem setRL_fineE (d : Dm) (k : ByteArray) (x : Option DV) : fineE (setRL d k x).1 = true := by
  rcases setRL_err d k x with h | h <;> rw [h] <;> rfl
theorem doL_fineE (d : Dm) (o : OpD) : fineE (doL d o).1 = true := by
  unfold doL
  split
  · split
    · exact setRL_fineE _ _ _
    · exact (rfl : fineE 8 = true)
  · split
    · split
      · exact (rfl : fineE 7 = true)
      · split
        · exact (rfl : fineE 4 = true)
        · exact setRL_fineE _ _ _
    · exact setRL_fineE _ _ _
theorem goL_fineE : ∀ (l : List OpD) (d : Dm), l.all mayD = true → fineE (goL l d).1 = true
  | [], d, _ => (rfl : fineE 0 = true)
  | o :: l, d, h => by
    rw [List.all_cons, Bool.and_eq_true] at h
    unfold goL
    rw [if_neg (by rw [h.1]; simp)]
    split
    · exact goL_fineE l _ h.2
    · exact doL_fineE d o
theorem applyL_fineE {b : BatchD} (h : mayB b = true) (d : Dm) : fineE (applyL d b.l).1 = true := by
  obtain ⟨_, _, h3, h4, _⟩ := mayBatch_parts h
  unfold applyL
  rw [if_neg (by omega)]
  have := goL_fineE b.l d h4
  split
  · exact (rfl : fineE 0 = true)
  · exact this
theorem FoldFine.next {f : FoldD} (h : FoldFine f) {b : BatchD} (hb : BatOk b) (hp : f.place < 1000000) : FoldFine (next f b).1 ∧ (next f b).1.place ≤ f.place + 1 := by
  unfold Sw.next
  cases hn : nextB f b with
  | false => exact ⟨h, by show f.place ≤ f.place + 1; omega⟩
  | true =>
    have hm : mayB b = true := by
      unfold nextB at hn
      rw [Bool.and_eq_true] at hn
      exact hn.1
    obtain ⟨hc, hq, hl⟩ := may_parts hm
    have hp0 := h.place.1
    have hwr : IntKind.i64.wrap (f.place + 1) = f.place + 1 := IntWalk.i64_in _ (by omega)
    have hlt : b.c.toNat < f.told.length := by rw [h.six]; omega
    have hat : ∀ (i : Nat) (y : Int × RowD), (f.told.set b.c.toNat (b.q, nextR f b))[i]? = some y → (i = b.c.toNat ∧ y = (b.q, nextR f b)) ∨ (i ≠ b.c.toNat ∧ f.told[i]? = some y) := by
      intro i y hy
      by_cases e : i = b.c.toNat
      · subst e
        rw [List.getElem?_set_self hlt] at hy
        injection hy with hy
        exact .inl ⟨rfl, hy.symm⟩
      · rw [List.getElem?_set_ne (fun k => e k.symm)] at hy
        exact .inr ⟨e, hy⟩
    have hpl : ∀ (i : Nat) (y : Int × RowD), f.told[i]? = some y → y.1 ≠ 0 → y.2.place ≤ f.place := by
      intro i y hy h0
      rcases h.told i y hy with rfl | ⟨_, e⟩
      · exact absurd rfl h0
      · exact e.pl.2
    refine ⟨⟨applyL_fine h.doc hb.ops, ?_, by show (f.told.set _ _).length = 6; rw [List.length_set]; exact h.six, fun i y hy => ?_, fun i i' y y' hy hy' h0 h0' he => ?_⟩, ?_⟩
    · show 0 ≤ IntKind.i64.wrap (f.place + 1) ∧ IntKind.i64.wrap (f.place + 1) ≤ _
      rw [hwr]; omega
    · rcases hat i y hy with ⟨rfl, rfl⟩ | ⟨_, hy⟩
      · refine .inr ⟨by omega, rfl, by show b.c = _; omega, hm, hb, ?_, applyL_fineE hm f.d⟩
        show 1 ≤ IntKind.i64.wrap (f.place + 1) ∧ IntKind.i64.wrap (f.place + 1) ≤ IntKind.i64.wrap (f.place + 1)
        rw [hwr]; omega
      · refine (h.told i y hy).imp id fun ⟨a, e⟩ => ⟨a, e.seq, e.cli, e.may, e.ok, ⟨e.pl.1, ?_⟩, e.err⟩
        show _ ≤ IntKind.i64.wrap (f.place + 1)
        have := e.pl.2
        rw [hwr]; omega
    · have hnp : (nextR f b).place = f.place + 1 := hwr
      rcases hat i y hy with ⟨rfl, rfl⟩ | ⟨hne, hy⟩
      · rcases hat i' y' hy' with ⟨rfl, rfl⟩ | ⟨hne', hy'⟩
        · rfl
        · have h1 := hpl i' y' hy' h0'
          have h2 : (nextR f b).place = y'.2.place := he
          omega
      · rcases hat i' y' hy' with ⟨rfl, rfl⟩ | ⟨hne', hy'⟩
        · have h1 := hpl i y hy h0
          have h2 : y.2.place = (nextR f b).place := he
          omega
        · exact h.dist i i' y y' hy hy' h0 h0' he
    · show IntKind.i64.wrap (f.place + 1) ≤ f.place + 1
      rw [hwr]; omega
end Go.Proofs.YtmalklakaalaoaaDoor.Sw
