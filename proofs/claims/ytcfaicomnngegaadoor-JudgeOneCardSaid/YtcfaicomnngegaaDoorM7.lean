/-
  Texts of the proof, one behind the other (part 7).
-/
import Derived.Test.YtcfaicomnngegaaDoorM6
/-
  Streams: New, Next, one, Take, Rows, Fold.
-/
set_option linter.unusedVariables false
set_option maxRecDepth 10000
namespace Go.Proofs.YtcfaicomnngegaaDoor.Sw
open Go.RowKit Go.Sx

-- pieces

structure StreamD where
  f : FoldD
  l : List RowD
/-- A stream behind a pointer. -/
def StreamAt (H : Fh) (p : Nat) (s : StreamD) : Res := Ex fun x : Nat × Value × List Value => Cells p [.pointer (some ⟨x.1, 0, none⟩), x.2.1] 76 :: FoldAt H x.1 s.f :: Sx.Own 36 5 x.2.1 s.l.length x.2.2 :: Fact (Ch (RowIn H) s.l x.2.2) :: []
section
variable {G p pf : Nat} {w W : World} {R : List Res} {s : StreamD} {H H' : Fh} {v : Value} {xs : List Value}
theorem streamShut (h : Has G w W (Cells p [.pointer (some ⟨pf, 0, none⟩), v] 76 :: FoldAt H pf s.f :: Sx.Own 36 5 v s.l.length xs :: R)) (hc : Ch (RowIn H) s.l xs) : Has G w W (StreamAt H p s :: R) :=
  Has.shut (pf, v, xs) ((h.fact hc).perm (by repeat (first | exact List.Perm.refl _ | refine perm_pick (by repeat (first | exact Pick.hd | apply Pick.tl)) ?_)))
theorem streamOpen (h : Has G w W (StreamAt H p s :: R)) : ∃ pf vad vcap xs, Ch (RowIn H) s.l xs ∧ Has G w W (Cells p [.pointer (some ⟨pf, 0, none⟩), .slice vad s.l.length vcap] 76 :: FoldAt H pf s.f :: Sx.Own 36 5 (.slice vad s.l.length vcap) s.l.length xs :: R) := by
  obtain ⟨⟨pf, v, xs⟩, h⟩ := Has.open h
  have h : Has G w W (Cells p [.pointer (some ⟨pf, 0, none⟩), v] 76 :: FoldAt H pf s.f :: Sx.Own 36 5 v s.l.length xs :: Fact (Ch (RowIn H) s.l xs) :: R) := h
  have hf := h.told (In.tl (In.tl (In.tl In.hd)))
  have h : Has G w W (Cells p [.pointer (some ⟨pf, 0, none⟩), v] 76 :: FoldAt H pf s.f :: Sx.Own 36 5 v s.l.length xs :: R) := h.sub (List.Sublist.cons_cons _ (List.Sublist.cons_cons _ (List.Sublist.cons_cons _ (List.Sublist.cons _ (List.Sublist.refl _)))))
  have h2 : Has G w W (Sx.Own 36 5 v s.l.length xs :: Cells p [.pointer (some ⟨pf, 0, none⟩), v] 76 :: FoldAt H pf s.f :: R) := h.perm (by repeat (first | exact List.Perm.refl _ | refine perm_pick (by repeat (first | exact Pick.hd | apply Pick.tl)) ?_))
  obtain ⟨ad, cap, rfl⟩ := h2.own_slice
  exact ⟨pf, ad, cap, xs, hf, h⟩
theorem streamLe (h : Has G w W (StreamAt H p s :: R)) (hl : H.le H') : Has G w W (StreamAt H' p s :: R) := by
  obtain ⟨pf, ad, cap, xs, h1, h2⟩ := streamOpen h
  exact streamShut (foldLe h2.swap2 hl).swap2 (h1.mono (RowIn.le hl))
end

set_option maxHeartbeats 4000000 in
theorem stream_New (w0 W : World) (H : Fh) (R : List Res) (hw : Has 0 w0 W R) :
    Calls Tryd.prog 26 ⟨[]⟩ W fun e W' => ∃ p, e = .returned (.pointer (some ⟨p, 0, none⟩)) ∧ Has 0 w0 W' (StreamAt H p ⟨emptyF, []⟩ :: R) := by
  refine enter Tryd.func26 Tryd.ntmps26 rfl rfl fun a hs => ?_
  repeat (first | (refine sxv hs hw ?_; clear hs; intro a hs) | refine sxc hs ?_ | (refine sxa hs hw ?_; clear hs hw; intro a b W hw hs) | (refine sxs hs hw ?_; clear hs hw; intro W hs hw))
  refine st_call hs (hc := fold_New w0 _ H _ hw) (k := ?_); rintro e0 W1 ⟨c, rfl, hw1⟩; refine ⟨_, rfl, ?_⟩; clear hs hw; intro a hs; have hw := hw1; clear hw1
  repeat (first | (refine sxv hs hw ?_; clear hs; intro a hs) | refine sxc hs ?_ | (refine sxa hs hw ?_; clear hs hw; intro a b W hw hs) | (refine sxs hs hw ?_; clear hs hw; intro W hs hw))
  refine rt1 hs rfl rfl ⟨_, rfl, ?_⟩
  have hw := hw.nilOwn 36 5
  exact streamShut (s := ⟨emptyF, []⟩) (xs := []) (hw.perm (by repeat (first | exact List.Perm.refl _ | refine perm_pick (by repeat (first | exact Pick.hd | apply Pick.tl)) ?_))) rfl

set_option maxHeartbeats 4000000 in
theorem stream_Next (w0 W : World) (H : Fh) (p : Nat) (s : StreamD) (R : List Res) (hl : s.l.length ≤ 1000000) (hw : Has 0 w0 W (StreamAt H p s :: R)) :
    Calls Tryd.prog 49 ⟨[.pointer (some ⟨p, 0, none⟩)]⟩ W fun e W' => e = .returned (.int .i64 ((s.l.length : Int) + 1)) ∧ Has 0 w0 W' (StreamAt H p s :: R) := by
  obtain ⟨pf, ad, cap, xs, hc, hw⟩ := streamOpen hw
  refine enter Tryd.func49 Tryd.ntmps49 rfl rfl fun a hs => ?_
  repeat (first | (refine sxv hs hw ?_; clear hs; intro a hs) | refine sxc hs ?_ | (refine sxa hs hw ?_; clear hs hw; intro a b W hw hs) | (refine sxs hs hw ?_; clear hs hw; intro W hs hw) | ((with_reducible first | refine st_ptrSome hs (k := ?_) | refine st_ptrNone hs (k := ?_)); clear hs; intro a hs))
  refine rt1 hs rfl rfl ⟨?_, streamShut hw hc⟩
  rw [IntWalk.i64_in _ (by omega)]

/-- A row is taken: is it new? what came of it. -/
def one (s : StreamD) (r : RowD) : StreamD × Bool × Int :=
  if r.place > (s.l.length : Int) + 1 then (s, false, 2)
  else if r.place < (s.l.length : Int) + 1 then
    if r.place < 1 ∨ ¬ (∃ x, s.l[(r.place - 1).toNat]? = some x ∧ sameR r x = true) then (s, false, 1) else (s, false, 0)
  else if (next s.f r.b).2.2 = true ∧ (next s.f r.b).2.1.err = r.err then (⟨(next s.f r.b).1, s.l ++ [r]⟩, true, 0) else (s, false, 1)

set_option maxHeartbeats 16000000 in
theorem stream_one (w0 W : World) (H : Fh) (p : Nat) (s : StreamD) (r : RowD) (sv : Value) (R : List Res) (hl : s.l.length ≤ 1000000) (hi64 : i64 r.place) (hb : BatOk r.b) (hr : OpsH H sv r.b.l) (hH : (fr w0).le H) (hT : Tabs w0) (hw : Has 0 w0 W (StreamAt H p s :: Fz H :: R)) :
    Calls Tryd.prog 37 ⟨[.pointer (some ⟨p, 0, none⟩), .agg ⟨rowCells r sv⟩]⟩ W fun e W' => ∃ H', e = .returned (.tuple ⟨[.bool (one s r).2.1, .int .i64 (one s r).2.2]⟩) ∧ H.le H' ∧ Has 0 w0 W' (StreamAt H' p (one s r).1 :: Fz H' :: R) := by
  obtain ⟨sad, scap, rfl⟩ := hr.slice
  refine enter Tryd.func37 Tryd.ntmps37 rfl rfl fun a hs => ?_
  repeat (first | (refine sxv hs hw ?_; clear hs; intro a hs) | refine sxc hs ?_ | (refine sxa hs hw ?_; clear hs hw; intro a b W hw hs) | (refine sxs hs hw ?_; clear hs hw; intro W hs hw))
  obtain ⟨b3, q3⟩ := nm1 hw; subst q3
  have hw : Has 0 w0 _ (StreamAt H p s :: Cells b3 (rowCells r (.slice sad r.b.l.length scap)) 36 :: Fz H :: R) := hw.perm (by repeat (first | exact List.Perm.refl _ | refine perm_pick (by repeat (first | exact Pick.hd | apply Pick.tl)) ?_))
  refine rg_draw (V := [.pointer (some ⟨b3, 0 + 0, none⟩), .int .i64 r.place, .pointer (some ⟨p, 0, none⟩), .int .i64 ((s.l.length : Int) + 1), .bool (decide (r.place > (s.l.length : Int) + 1)), .bool (decide (r.place > (s.l.length : Int) + 1))])
    (Rs := fun D => StreamAt H p s :: Cells b3 (rowCells r (.slice sad r.b.l.length scap)) 36 :: Fz H :: R) hs hw (ho := ⟨?_, ?_, ?_, ?c3_1, ?_, ?_, trivial⟩) (k := ?k_1)
  case c3_1 =>
    intro LD D a W hcl hi hp hs hw
    refine st_call hs (hc := stream_Next w0 _ H p s _ hl hw) (k := ?_); rintro e0 W1 ⟨rfl, hw1⟩; refine ⟨_, rfl, ?_⟩; clear hs hw; intro a hs; have hw := hw1; clear hw1
    repeat (first | (refine sxv hs hw ?_; clear hs; intro a hs) | refine sxc hs ?_ | (refine sxa hs hw ?_; clear hs hw; intro a b W hw hs) | (refine sxs hs hw ?_; clear hs hw; intro W hs hw))
    exact ⟨hs, hw⟩
  case k_1 =>
    clear hs hw
    intro a W hs hw
    replace hs : Slots a 74 [(0, .pointer (some ⟨p, 0, none⟩)), (3, .pointer (some ⟨b3, 0, none⟩)), (9, .bool (decide (r.place > (s.l.length : Int) + 1)))] := hs.of ⟨rfl, rfl, rfl, trivial⟩
    replace hw : Has 0 w0 W (StreamAt H p s :: Cells b3 (rowCells r (.slice sad r.b.l.length scap)) 36 :: Fz H :: R) := hw
    cases h9 : decide (r.place > (s.l.length : Int) + 1) with
    | true =>
      rw [h9] at hs
      have hX : one s r = (s, false, 2) := by unfold one; rw [if_pos (of_decide_eq_true h9)]
      rw [hX]
      repeat (first | (refine sxv hs hw ?_; clear hs; intro a hs) | refine sxc hs ?_ | (refine sxa hs hw ?_; clear hs hw; intro a b W hw hs) | (refine sxs hs hw ?_; clear hs hw; intro W hs hw))
      exact rt2 hs rfl rfl rfl ⟨H, rfl, Fh.le.refl _, hw.drop2⟩
    | false =>
    rw [h9] at hs
    repeat (first | (refine sxv hs hw ?_; clear hs; intro a hs) | refine sxc hs ?_ | (refine sxa hs hw ?_; clear hs hw; intro a b W hw hs) | (refine sxs hs hw ?_; clear hs hw; intro W hs hw))
    refine rg_draw (V := [.pointer (some ⟨b3, 0 + 0, none⟩), .int .i64 r.place, .pointer (some ⟨p, 0, none⟩), .int .i64 ((s.l.length : Int) + 1), .bool (decide (r.place < (s.l.length : Int) + 1)), .bool (decide (r.place < (s.l.length : Int) + 1))])
      (Rs := fun D => StreamAt H p s :: Cells b3 (rowCells r (.slice sad r.b.l.length scap)) 36 :: Fz H :: R) hs hw (ho := ⟨?_, ?_, ?_, ?c3_2, ?_, ?_, trivial⟩) (k := ?k_2)
    case c3_2 =>
      intro LD D a W hcl hi hp hs hw
      refine st_call hs (hc := stream_Next w0 _ H p s _ hl hw) (k := ?_); rintro e0 W1 ⟨rfl, hw1⟩; refine ⟨_, rfl, ?_⟩; clear hs hw; intro a hs; have hw := hw1; clear hw1
      repeat (first | (refine sxv hs hw ?_; clear hs; intro a hs) | refine sxc hs ?_ | (refine sxa hs hw ?_; clear hs hw; intro a b W hw hs) | (refine sxs hs hw ?_; clear hs hw; intro W hs hw))
      exact ⟨hs, hw⟩
    case k_2 =>
      clear hs hw
      intro a W hs hw
      replace hs : Slots a 74 [(0, .pointer (some ⟨p, 0, none⟩)), (3, .pointer (some ⟨b3, 0, none⟩)), (15, .bool (decide (r.place < (s.l.length : Int) + 1)))] := hs.of ⟨rfl, rfl, rfl, trivial⟩
      replace hw : Has 0 w0 W (StreamAt H p s :: Cells b3 (rowCells r (.slice sad r.b.l.length scap)) 36 :: Fz H :: R) := hw
      have g9 := of_decide_eq_false h9
      cases h15 : decide (r.place < (s.l.length : Int) + 1) with
      | true =>
        rw [h15] at hs
        have g15 := of_decide_eq_true h15
        have hX : one s r = if r.place < 1 ∨ ¬ (∃ x, s.l[(r.place - 1).toNat]? = some x ∧ sameR r x = true) then (s, false, 1) else (s, false, 0) := by unfold one; rw [if_neg g9, if_pos g15]
        obtain ⟨pf, vad, vcap, xs, hch, hw⟩ := streamOpen hw
        have hw : Has 0 w0 W (Cells p [.pointer (some ⟨pf, 0, none⟩), .slice vad s.l.length vcap] 76 :: FoldAt H pf s.f :: Sx.Own 36 5 (.slice vad s.l.length vcap) s.l.length xs :: Cells b3 (rowCells r (.slice sad r.b.l.length scap)) 36 :: Fz H :: R) := hw
        repeat (first | (refine sxv hs hw ?_; clear hs; intro a hs) | refine sxc hs ?_ | (refine sxa hs hw ?_; clear hs hw; intro a b W hw hs) | (refine sxs hs hw ?_; clear hs hw; intro W hs hw))
        cases h1 : decide (r.place < 1) with
        | true =>
          rw [hX, if_pos (.inl (of_decide_eq_true h1))]
          refine rg_draw (V := [.pointer (some ⟨b3, 0 + 0, none⟩), .int .i64 r.place, .bool true, .bool true, undef, undef, undef, undef, undef, undef, undef, undef, undef, undef, undef, undef, .bool true])
            (Rs := fun D => Cells p [.pointer (some ⟨pf, 0, none⟩), .slice vad s.l.length vcap] 76 :: FoldAt H pf s.f :: Sx.Own 36 5 (.slice vad s.l.length vcap) s.l.length xs :: Cells b3 (rowCells r (.slice sad r.b.l.length scap)) 36 :: Fz H :: R) hs hw (ho := ⟨?_, ?_, ?c2_3, ?_, ?_, ?_, ?_, ?_, ?_, ?_, ?_, ?_, ?_, ?_, ?_, ?_, ?_, trivial⟩) (k := ?k_3)
          case c2_3 =>
            intro LD D a W hcl hi hp hs hw
            repeat (first | (refine sxv hs hw ?_; clear hs; intro a hs) | refine sxc hs ?_ | (refine sxa hs hw ?_; clear hs hw; intro a b W hw hs) | (refine sxs hs hw ?_; clear hs hw; intro W hs hw))
            rw [h1] at hs
            exact ⟨hs, hw⟩
          case k_3 =>
            clear hs hw
            intro a W hs hw
            repeat (first | (refine sxv hs hw ?_; clear hs; intro a hs) | refine sxc hs ?_ | (refine sxa hs hw ?_; clear hs hw; intro a b W hw hs) | (refine sxs hs hw ?_; clear hs hw; intro W hs hw))
            exact rt2 hs rfl rfl rfl ⟨H, rfl, Fh.le.refl _, (streamShut hw hch).drop2⟩
          all_goals
            intro LD D a W hcl hi hp hs hw
            repeat (first | (refine sxv hs hw ?_; clear hs; intro a hs) | refine sxc hs ?_ | (refine sxa hs hw ?_; clear hs hw; intro a b W hw hs) | (refine sxs hs hw ?_; clear hs hw; intro W hs hw))
            exact ⟨hs, hw⟩
        | false =>
          have g1 := of_decide_eq_false h1
          obtain ⟨i, hi0⟩ : ∃ i : Nat, r.place - 1 = i := ⟨(r.place - 1).toNat, by omega⟩
          have hi' : i < s.l.length := by omega
          have hwrap : IntKind.i64.wrap (r.place - 1) = (i : Int) := by rw [IntWalk.i64_in _ (by omega)]; omega
          obtain ⟨x, hx⟩ : ∃ x, s.l[i]? = some x := ⟨s.l[i], List.getElem?_eq_getElem hi'⟩
          obtain ⟨cx, ⟨tv, rfl, hxv⟩, hcx, hcut⟩ := hch.get RowIn.len hx
          have hX2 : one s r = if sameR r x = true then (s, false, 0) else (s, false, 1) := by
            rw [hX, hi0, Int.toNat_natCast]
            cases hsm : sameR r x with
            | true => rw [if_neg, if_pos rfl]; rintro (h | h); exact g1 h; exact h ⟨x, hx, hsm⟩
            | false => rw [if_pos, if_neg (by decide)]; exact .inr fun ⟨y, hy, hs⟩ => by rw [hx] at hy; cases hy; rw [hsm] at hs; cases hs
          rw [hX2]
          clear hX hX2
          have hwo : Has 0 w0 W (Sx.Own 36 5 (.slice vad s.l.length vcap) s.l.length xs :: Cells p [.pointer (some ⟨pf, 0, none⟩), .slice vad s.l.length vcap] 76 :: FoldAt H pf s.f :: Cells b3 (rowCells r (.slice sad r.b.l.length scap)) 36 :: Fz H :: R) := hw.perm (by repeat (first | exact List.Perm.refl _ | refine perm_pick (by repeat (first | exact Pick.hd | apply Pick.tl)) ?_))
          obtain ⟨g, cur, hadg, hcur, hcl0, hkc, hcm, hwo⟩ := hwo.open_own (by omega)
          obtain rfl := hadg
          have hcut2 : ∀ j u, (rowCells x tv)[j]? = some u → cur[i * 5 + j]? = some u := by
            intro j u hu
            have h1 := congrArg (fun t => t[j]?) hcut
            simp only [cut_eq, List.getElem?_take, List.getElem?_drop, hu] at h1
            split at h1
            · rw [← hcur, List.getElem?_take] at h1
              split at h1
              · exact h1
              · cases h1
            · cases h1
          have hw : Has 0 w0 W (Cells g cur 36 :: Cells p [.pointer (some ⟨pf, 0, none⟩), .slice (some ⟨g, 0, none⟩) s.l.length vcap] 76 :: FoldAt H pf s.f :: Cells b3 (rowCells r (.slice sad r.b.l.length scap)) 36 :: Fz H :: R) := hwo
          obtain ⟨tad, tcap, rfl⟩ := hxv.slice
          refine rg_draw (V := [.pointer (some ⟨b3, 0 + 0, none⟩), .int .i64 r.place, .bool false, .bool false, .agg ⟨rowCells r (.slice sad r.b.l.length scap)⟩, .pointer (some ⟨p, 0, none⟩), .pointer (some ⟨p, 0, none⟩), .pointer (some ⟨p, 0 + 1, none⟩), .slice (some ⟨g, 0, none⟩) s.l.length vcap, .pointer (some ⟨b3, 0 + 0, none⟩), .int .i64 r.place, .int .i64 (i : Int), .pointer (some ⟨g, 0 + i * 5, none⟩), .agg ⟨rowCells x (.slice tad x.b.l.length tcap)⟩, .bool (sameR r x), .bool (!sameR r x), .bool (!sameR r x)])
            (Rs := fun D => Cells g cur 36 :: Cells p [.pointer (some ⟨pf, 0, none⟩), .slice (some ⟨g, 0, none⟩) s.l.length vcap] 76 :: FoldAt H pf s.f :: Cells b3 (rowCells r (.slice sad r.b.l.length scap)) 36 :: Fz H :: R) hs hw (ho := ⟨?_, ?_, ?c2_4, ?_, ?_, ?_, ?_, ?_, ?_, ?_, ?_, ?c11_4, ?c12_4, ?c13_4, ?c14_4, ?_, ?_, trivial⟩) (k := ?k_4)
          case c2_4 =>
            intro LD D a W hcl hi hp hs hw
            repeat (first | (refine sxv hs hw ?_; clear hs; intro a hs) | refine sxc hs ?_ | (refine sxa hs hw ?_; clear hs hw; intro a b W hw hs) | (refine sxs hs hw ?_; clear hs hw; intro W hs hw))
            rw [h1] at hs
            exact ⟨hs, hw⟩
          case c11_4 =>
            intro LD D a W hcl hi hp hs hw
            repeat (first | (refine sxv hs hw ?_; clear hs; intro a hs) | refine sxc hs ?_ | (refine sxa hs hw ?_; clear hs hw; intro a b W hw hs) | (refine sxs hs hw ?_; clear hs hw; intro W hs hw))
            rw [hwrap] at hs
            exact ⟨hs, hw⟩
          case c12_4 =>
            intro LD D a W hcl hi hp hs hw
            repeat (first | (refine sxv hs hw ?_; clear hs; intro a hs) | refine sxc hs ?_ | (refine sxa hs hw ?_; clear hs hw; intro a b W hw hs) | (refine sxs hs hw ?_; clear hs hw; intro W hs hw))
            refine st_index_at hs (z := zrc) (h0 := by omega) (h1 := by omega) (c := ?_); clear hs; intro a hs
            repeat (first | (refine sxv hs hw ?_; clear hs; intro a hs) | refine sxc hs ?_ | (refine sxa hs hw ?_; clear hs hw; intro a b W hw hs) | (refine sxs hs hw ?_; clear hs hw; intro W hs hw))
            exact ⟨hs, hw⟩
          case c13_4 =>
            intro LD D a W hcl hi hp hs hw
            repeat (first | (refine sxv hs hw ?_; clear hs; intro a hs) | refine sxc hs ?_ | (refine sxa hs hw ?_; clear hs hw; intro a b W hw hs) | (refine sxs hs hw ?_; clear hs hw; intro W hs hw))
            refine st_load_ats (z := zrc) hs (cs := rowCells x (.slice tad x.b.l.length tcap)) (hc := fun j u h => by rw [cell_block (hw.block In.hd).1, Nat.zero_add]; exact hcut2 j u h) (hl := by rfl) (c := ?_); clear hs; intro a hs
            repeat (first | (refine sxv hs hw ?_; clear hs; intro a hs) | refine sxc hs ?_ | (refine sxa hs hw ?_; clear hs hw; intro a b W hw hs) | (refine sxs hs hw ?_; clear hs hw; intro W hs hw))
            exact ⟨hs, hw⟩
          case c14_4 =>
            intro LD D a W hcl hi hp hs hw
            repeat (first | (refine sxv hs hw ?_; clear hs; intro a hs) | refine sxc hs ?_ | (refine sxa hs hw ?_; clear hs hw; intro a b W hw hs) | (refine sxs hs hw ?_; clear hs hw; intro W hs hw))
            refine st_call hs (hc := stream_Same r x _ _ _ (hw.rdH (by repeat (first | exact In.hd | apply In.tl)) hr) (hw.rdH (by repeat (first | exact In.hd | apply In.tl)) hxv)) (k := ?_); rintro e0 W1 ⟨rfl, hb⟩; refine ⟨_, rfl, ?_⟩; clear hs; intro a hs; replace hw := hw.below hb; clear hb
            repeat (first | (refine sxv hs hw ?_; clear hs; intro a hs) | refine sxc hs ?_ | (refine sxa hs hw ?_; clear hs hw; intro a b W hw hs) | (refine sxs hs hw ?_; clear hs hw; intro W hs hw))
            exact ⟨hs, hw⟩
          case k_4 =>
            clear hs hw
            intro a W hs hw
            replace hs : Slots a 74 [(37, .bool (!sameR r x))] := hs.of ⟨rfl, trivial⟩
            replace hw : Has 0 w0 W (Cells g cur 36 :: Cells p [.pointer (some ⟨pf, 0, none⟩), .slice (some ⟨g, 0, none⟩) s.l.length vcap] 76 :: FoldAt H pf s.f :: Cells b3 (rowCells r (.slice sad r.b.l.length scap)) 36 :: Fz H :: R) := hw
            have hw := hw.shut_own (k := s.l.length) (size := 5) hcur hcl0 hkc hcm
            have hw : Has 0 w0 W (Cells p [.pointer (some ⟨pf, 0, none⟩), .slice (some ⟨g, 0, none⟩) s.l.length vcap] 76 :: FoldAt H pf s.f :: Sx.Own 36 5 (.slice (some ⟨g, 0, none⟩) s.l.length vcap) s.l.length xs :: Cells b3 (rowCells r (.slice sad r.b.l.length scap)) 36 :: Fz H :: R) := hw.perm (by repeat (first | exact List.Perm.refl _ | refine perm_pick (by repeat (first | exact Pick.hd | apply Pick.tl)) ?_))
            have hw := streamShut hw hch
            cases hsm : sameR r x with
            | true =>
              rw [hsm] at hs
              repeat (first | (refine sxv hs hw ?_; clear hs; intro a hs) | refine sxc hs ?_ | (refine sxa hs hw ?_; clear hs hw; intro a b W hw hs) | (refine sxs hs hw ?_; clear hs hw; intro W hs hw))
              exact rt2 hs rfl rfl rfl ⟨H, rfl, Fh.le.refl _, hw.drop2⟩
            | false =>
              rw [hsm] at hs
              repeat (first | (refine sxv hs hw ?_; clear hs; intro a hs) | refine sxc hs ?_ | (refine sxa hs hw ?_; clear hs hw; intro a b W hw hs) | (refine sxs hs hw ?_; clear hs hw; intro W hs hw))
              exact rt2 hs rfl rfl rfl ⟨H, rfl, Fh.le.refl _, hw.drop2⟩
          all_goals
            intro LD D a W hcl hi hp hs hw
            repeat (first | (refine sxv hs hw ?_; clear hs; intro a hs) | refine sxc hs ?_ | (refine sxa hs hw ?_; clear hs hw; intro a b W hw hs) | (refine sxs hs hw ?_; clear hs hw; intro W hs hw))
            exact ⟨hs, hw⟩
      | false =>
      rw [h15] at hs
      have g15 := of_decide_eq_false h15
      have hX : one s r = if (next s.f r.b).2.2 = true ∧ (next s.f r.b).2.1.err = r.err then (⟨(next s.f r.b).1, s.l ++ [r]⟩, true, 0) else (s, false, 1) := by unfold one; rw [if_neg g9, if_neg g15]
      obtain ⟨pf, vad, vcap, xs, hch, hw⟩ := streamOpen hw
      repeat (first | (refine sxv hs hw ?_; clear hs; intro a hs) | refine sxc hs ?_ | (refine sxa hs hw ?_; clear hs hw; intro a b W hw hs) | (refine sxs hs hw ?_; clear hs hw; intro W hs hw) | ((with_reducible first | refine st_ptrSome hs (k := ?_) | refine st_ptrNone hs (k := ?_)); clear hs; intro a hs))
      refine st_call hs (hc := fold_Copy w0 _ H pf s.f _ hw.swap2) (k := ?_); rintro e0 W1 ⟨q, rfl, hw1⟩; refine ⟨_, rfl, ?_⟩; clear hs hw; intro a hs; have hw := hw1; clear hw1
      have hw : Has 0 w0 _ (FoldAt H q s.f :: Fz H :: Cells p [.pointer (some ⟨pf, 0, none⟩), .slice vad s.l.length vcap] 76 :: FoldAt H pf s.f :: Sx.Own 36 5 (.slice vad s.l.length vcap) s.l.length xs :: Cells b3 (rowCells r (.slice sad r.b.l.length scap)) 36 :: R) := hw.perm (by repeat (first | exact List.Perm.refl _ | refine perm_pick (by repeat (first | exact Pick.hd | apply Pick.tl)) ?_))
      repeat (first | (refine sxv hs hw ?_; clear hs; intro a hs) | refine sxc hs ?_ | (refine sxa hs hw ?_; clear hs hw; intro a b W hw hs) | (refine sxs hs hw ?_; clear hs hw; intro W hs hw))
      refine st_call hs (hc := fold_Next w0 _ H q s.f r.b _ _ hb hr hH hT hw) (k := ?_); rintro e0 W1 ⟨xv, H1, rfl, hle0, hxv, hw1⟩; refine ⟨_, rfl, ?_⟩; clear hs hw; intro a hs; have hw := hw1; clear hw1
      replace hr := hr.le hle0
      obtain ⟨x, hxe⟩ : ∃ x, (next s.f r.b).2.1 = x := ⟨_, rfl⟩
      obtain ⟨f1, hfe⟩ : ∃ x, (next s.f r.b).1 = x := ⟨_, rfl⟩
      obtain ⟨ok, hoe⟩ : ∃ x, (next s.f r.b).2.2 = x := ⟨_, rfl⟩
      have hr8 : ok = true → r.b.l.length ≤ 1000 := fun h => by
        have : nextB s.f r.b = true := by
          unfold next at hoe
          cases hn : nextB s.f r.b with
          | true => rfl
          | false => rw [hn] at hoe; rw [← hoe] at h; cases h
        unfold nextB at this
        have := (may_parts (Bool.and_eq_true _ _ |>.mp this).1).2.2
        omega
      rw [hxe] at hs hxv hX
      rw [hoe] at hs hX
      rw [hfe] at hX hw
      obtain ⟨xad, xcap, rfl⟩ := hxv.slice
      repeat (first | (refine sxv hs hw ?_; clear hs; intro a hs) | refine sxc hs ?_ | (refine sxa hs hw ?_; clear hs hw; intro a b W hw hs) | (refine sxs hs hw ?_; clear hs hw; intro W hs hw))
      obtain ⟨b7, q7⟩ := nm1 hw; subst q7
      have hw : Has 0 w0 _ (FoldAt H pf s.f :: Cells p [.pointer (some ⟨pf, 0, none⟩), .slice vad s.l.length vcap] 76 :: Sx.Own 36 5 (.slice vad s.l.length vcap) s.l.length xs :: Fz H1 :: FoldAt H1 q f1 :: Cells b7 (rowCells x (.slice xad x.b.l.length xcap)) 36 :: Cells b3 (rowCells r (.slice sad r.b.l.length scap)) 36 :: R) := hw.perm (by repeat (first | exact List.Perm.refl _ | refine perm_pick (by repeat (first | exact Pick.hd | apply Pick.tl)) ?_))
      have hw := (foldLe hw hle0).swap2
      replace hch := hch.mono (RowIn.le hle0)
      have hend : (∃ H', Ending.returned (Value.tuple ⟨[.bool (s, false, (1 : Int)).2.1, .int .i64 (s, false, (1 : Int)).2.2]⟩) = Ending.returned (Value.tuple ⟨[.bool false, .int .i64 1]⟩) ∧ H.le H') := ⟨H, rfl, Fh.le.refl _⟩
      cases ok with
      | false =>
        rw [hX, if_neg (fun h => by cases h.1)]
        repeat (first | (refine sxv hs hw ?_; clear hs; intro a hs) | refine sxc hs ?_ | (refine sxa hs hw ?_; clear hs hw; intro a b W hw hs) | (refine sxs hs hw ?_; clear hs hw; intro W hs hw))
        exact rt2 hs rfl rfl rfl ⟨H1, rfl, hle0, (streamShut hw hch).sub (List.Sublist.cons_cons _ (List.Sublist.cons_cons _ (List.Sublist.cons _ (List.Sublist.cons _ (List.Sublist.cons _ (List.Sublist.refl _))))))⟩
      | true =>
      repeat (first | (refine sxv hs hw ?_; clear hs; intro a hs) | refine sxc hs ?_ | (refine sxa hs hw ?_; clear hs hw; intro a b W hw hs) | (refine sxs hs hw ?_; clear hs hw; intro W hs hw))
      cases he : (x.err != r.err) with
      | true =>
        rw [he] at hs
        rw [hX, if_neg (fun h => by rw [h.2] at he; simp at he)]
        repeat (first | (refine sxv hs hw ?_; clear hs; intro a hs) | refine sxc hs ?_ | (refine sxa hs hw ?_; clear hs hw; intro a b W hw hs) | (refine sxs hs hw ?_; clear hs hw; intro W hs hw))
        exact rt2 hs rfl rfl rfl ⟨H1, rfl, hle0, (streamShut hw hch).sub (List.Sublist.cons_cons _ (List.Sublist.cons_cons _ (List.Sublist.cons _ (List.Sublist.cons _ (List.Sublist.cons _ (List.Sublist.refl _))))))⟩
      | false =>
      rw [he] at hs
      have hone : one s r = (⟨f1, s.l ++ [r]⟩, true, 0) := by rw [hX, if_pos ⟨rfl, by simpa using he⟩]
      clear hX hend
      replace hr8 := hr8 rfl
      repeat (first | (refine sxv hs hw ?_; clear hs; intro a hs) | refine sxc hs ?_ | (refine sxa hs hw ?_; clear hs hw; intro a b W hw hs) | (refine sxs hs hw ?_; clear hs hw; intro W hs hw))
      have hw : Has 0 w0 _ (Cells p [.pointer (some ⟨q, 0, none⟩), .slice vad s.l.length vcap] 76 :: Fz H1 :: Free :: Sx.Own 36 5 (.slice vad s.l.length vcap) s.l.length xs :: FoldAt H1 q f1 :: Cells b7 (rowCells x (.slice xad x.b.l.length xcap)) 36 :: Cells b3 (rowCells r (.slice sad r.b.l.length scap)) 36 :: FoldAt H1 pf s.f :: R) := hw.free.perm (by repeat (first | exact List.Perm.refl _ | refine perm_pick (by repeat (first | exact Pick.hd | apply Pick.tl)) ?_))
      refine rg_drawU (σ := Value × Fh × Nat × Option Addr) (V := fun u => [.pointer (some ⟨p, 0, none⟩), .pointer (some ⟨p, 0, none⟩), .pointer (some ⟨p, 0, none⟩), .pointer (some ⟨p, 0 + 1, none⟩), .slice vad s.l.length vcap, .agg ⟨rowCells r (.slice sad r.b.l.length scap)⟩, .agg ⟨rowCells r (u 6).1⟩, .slice (some ⟨(u 7).2.2.1, 0, none⟩) 1 1, .slice (u 8).2.2.2 (s.l ++ [r]).length (u 8).2.2.1, .pointer (some ⟨p, 0, none⟩), .pointer (some ⟨p, 0 + 1, none⟩), .bool true])
        (Rs := fun u D => Cells p [.pointer (some ⟨q, 0, none⟩), (if D 11 then .slice (u 8).2.2.2 (s.l ++ [r]).length (u 8).2.2.1 else .slice vad s.l.length vcap)] 76 :: (if D 6 then FzF (u 6).2.1 (H1.le (u 6).2.1 ∧ OpsH (u 6).2.1 (u 6).1 r.b.l) else Fz H1) :: (if D 7 then Cells (u 7).2.2.1 (rowCells r (u 6).1) 36 else Free) :: (if D 8 then Sx.Own 36 5 (.slice (u 8).2.2.2 (s.l ++ [r]).length (u 8).2.2.1) (s.l ++ [r]).length (xs ++ rowCells r (u 6).1) else Sx.Own 36 5 (.slice vad s.l.length vcap) s.l.length xs) :: FoldAt H1 q f1 :: Cells b7 (rowCells x (.slice xad x.b.l.length xcap)) 36 :: Cells b3 (rowCells r (.slice sad r.b.l.length scap)) 36 :: FoldAt H1 pf s.f :: R) (fun _ => (.nilIface, H1, 0, none)) hs hw (hVu := ?vu_6) (ho := ⟨?_, ?_, ?_, ?_, ?c4_6, ?_, ?c6_6, ?c7_6, ?c8_6, ?_, ?_, ?c11_6, trivial⟩) (k := ?k_6)
      case vu_6 =>
        intro u u' j h
        rcases j with _ | _ | _ | _ | _ | _ | _ | _ | _ | _ | _ | j
        all_goals first | rfl | simp [h]
      case c4_6 =>
        intro u LD D a W hcl hi hp hs hw
        have h8 := Go.Sx.not_done hcl hi 8 (by kernel_rfl)
        have h11 := Go.Sx.not_done hcl h8 11 (by kernel_rfl)
        have hw0 := hw
        simp only [h11, Bool.false_eq_true, if_false] at hw
        repeat (first | (refine sxv hs hw ?_; clear hs; intro a hs) | refine sxc hs ?_ | (refine sxa hs hw ?_; clear hs hw; intro a b W hw hs) | (refine sxs hs hw ?_; clear hs hw; intro W hs hw))
        exact Or.inl ⟨hs, hw0⟩
      case c6_6 =>
        intro u LD D a W hcl hi hp hs hw
        have h7 := Go.Sx.not_done hcl hi 7 (by kernel_rfl)
        have h8 := Go.Sx.not_done hcl h7 8 (by kernel_rfl)
        have h11 := Go.Sx.not_done hcl h8 11 (by kernel_rfl)
        simp only [hi, h7, h8, h11, Bool.false_eq_true, if_false] at hw
        repeat (first | (refine sxv hs hw ?_; clear hs; intro a hs) | refine sxc hs ?_ | (refine sxa hs hw ?_; clear hs hw; intro a b W hw hs) | (refine sxs hs hw ?_; clear hs hw; intro W hs hw))
        have hw : Has 0 w0 W (Fz H1 :: Cells p [.pointer (some ⟨q, 0, none⟩), .slice vad s.l.length vcap] 76 :: Free :: Sx.Own 36 5 (.slice vad s.l.length vcap) s.l.length xs :: FoldAt H1 q f1 :: Cells b7 (rowCells x (.slice xad x.b.l.length xcap)) 36 :: Cells b3 (rowCells r (.slice sad r.b.l.length scap)) 36 :: FoldAt H1 pf s.f :: R) := hw.perm (by repeat (first | exact List.Perm.refl _ | refine perm_pick (by repeat (first | exact Pick.hd | apply Pick.tl)) ?_))
        refine st_call hs (hc := stream_own w0 _ H1 r _ _ hr8 hr hw) (k := ?_); rintro e0 W1 ⟨sv', H', rfl, h1, h2, hw1⟩; refine ⟨_, rfl, ?_⟩; clear hs hw; intro a hs; have hw := hw1; clear hw1
        repeat (first | (refine sxv hs hw ?_; clear hs; intro a hs) | refine sxc hs ?_ | (refine sxa hs hw ?_; clear hs hw; intro a b W hw hs) | (refine sxs hs hw ?_; clear hs hw; intro W hs hw))
        refine Or.inr ⟨(sv', H', 0, none), hs, ?_⟩
        have hw := hw.fzf (q := H1.le H' ∧ OpsH H' sv' r.b.l) ⟨h1, h2⟩
        show Has 0 w0 _ (Cells p [_, (if (Nat.beq 11 6 || D 11) = true then _ else _)] _ :: _ :: (if (Nat.beq 7 6 || D 7) = true then _ else _) :: (if (Nat.beq 8 6 || D 8) = true then _ else _) :: _)
        rw [h7, h8, h11]
        exact hw.perm (by repeat (first | exact List.Perm.refl _ | refine perm_pick (by repeat (first | exact Pick.hd | apply Pick.tl)) ?_))
      case c7_6 =>
        intro u LD D a W hcl hi hp hs hw
        have h6 := Go.Sx.done hp 6 (by kernel_rfl)
        have h8 := Go.Sx.not_done hcl hi 8 (by kernel_rfl)
        have h11 := Go.Sx.not_done hcl h8 11 (by kernel_rfl)
        simp only [hi, h6, h8, h11, Bool.false_eq_true, if_false, if_true] at hw
        repeat (first | (refine sxv hs hw ?_; clear hs; intro a hs) | refine sxc hs ?_ | (refine sxa hs hw ?_; clear hs hw; intro a b W hw hs) | (refine sxs hs hw ?_; clear hs hw; intro W hs hw))
        refine Or.inr ⟨(.nilIface, H1, _, none), hs, ?_⟩
        show Has 0 w0 _ (Cells p [_, (if (Nat.beq 11 7 || D 11) = true then _ else _)] _ :: (if (Nat.beq 6 7 || D 6) = true then _ else _) :: _ :: (if (Nat.beq 8 7 || D 8) = true then _ else _) :: _)
        rw [h6, h8, h11]
        exact hw.fill (Upd.tl (Upd.tl Upd.hd))
      case c8_6 =>
        intro u LD D a W hcl hi hp hs hw
        have h7 := Go.Sx.done hp 7 (by kernel_rfl)
        have h6 := Go.Sx.done (hcl 7 _ rfl h7) 6 (by kernel_rfl)
        have h11 := Go.Sx.not_done hcl hi 11 (by kernel_rfl)
        simp only [hi, h6, h7, h11, Bool.false_eq_true, if_false, if_true] at hw
        have hw : Has 0 w0 W (FzF (u 6).2.1 (H1.le (u 6).2.1 ∧ OpsH (u 6).2.1 (u 6).1 r.b.l) :: Sx.Own 36 5 (.slice vad s.l.length vcap) s.l.length xs :: Cells p [.pointer (some ⟨q, 0, none⟩), .slice vad s.l.length vcap] 76 :: Cells (u 7).2.2.1 (rowCells r (u 6).1) 36 :: FoldAt H1 q f1 :: Cells b7 (rowCells x (.slice xad x.b.l.length xcap)) 36 :: Cells b3 (rowCells r (.slice sad r.b.l.length scap)) 36 :: FoldAt H1 pf s.f :: R) := hw.perm (by repeat (first | exact List.Perm.refl _ | refine perm_pick (by repeat (first | exact Pick.hd | apply Pick.tl)) ?_))
        obtain ⟨⟨hle, hv⟩, _⟩ := hw.unfzf
        have hw : Has 0 w0 W (Sx.Own 36 5 (.slice vad s.l.length vcap) s.l.length xs :: FzF (u 6).2.1 (H1.le (u 6).2.1 ∧ OpsH (u 6).2.1 (u 6).1 r.b.l) :: Cells p [.pointer (some ⟨q, 0, none⟩), .slice vad s.l.length vcap] 76 :: Cells (u 7).2.2.1 (rowCells r (u 6).1) 36 :: FoldAt H1 q f1 :: Cells b7 (rowCells x (.slice xad x.b.l.length xcap)) 36 :: Cells b3 (rowCells r (.slice sad r.b.l.length scap)) 36 :: FoldAt H1 pf s.f :: R) := hw.swap2
        have hone := RowIn.ones (H := (u 6).2.1) r (rowCells r (u 6).1) ⟨_, rfl, hv⟩
        refine st_append1 hs (hw := hw) (hi := In.tl (In.tl In.hd)) (ch := hch.mono (RowIn.le hle)) (ha := (⟨_, rfl, hv⟩ : RowIn (u 6).2.1 r (rowCells r (u 6).1))) (hl := rfl) (h1 := by rw [List.all_eq_true]; exact hone) (hb := by omega) (h63 := by omega) (k := ?_)
        clear hs hw; intro a ad cap W hs hw hc2
        repeat (first | (refine sxv hs hw ?_; clear hs; intro a hs) | refine sxc hs ?_ | (refine sxa hs hw ?_; clear hs hw; intro a b W hw hs) | (refine sxs hs hw ?_; clear hs hw; intro W hs hw))
        refine Or.inr ⟨(.nilIface, H1, cap, ad), hs, ?_⟩
        show Has 0 w0 _ (Cells p [_, (if (Nat.beq 11 8 || D 11) = true then _ else _)] _ :: (if (Nat.beq 6 8 || D 6) = true then _ else _) :: (if (Nat.beq 7 8 || D 7) = true then _ else _) :: _ :: _)
        rw [h6, h7, h11]
        exact hw.perm (by repeat (first | exact List.Perm.refl _ | refine perm_pick (by repeat (first | exact Pick.hd | apply Pick.tl)) ?_))
      case c11_6 =>
        intro u LD D a W hcl hi hp hs hw
        have h8 := Go.Sx.done hp 8 (by kernel_rfl)
        simp only [hi, h8, Bool.false_eq_true, if_false, if_true] at hw
        repeat (first | (refine sxv hs hw ?_; clear hs; intro a hs) | refine sxc hs ?_ | (refine sxa hs hw ?_; clear hs hw; intro a b W hw hs) | (refine sxs hs hw ?_; clear hs hw; intro W hs hw))
        refine Or.inl ⟨hs, ?_⟩
        show Has 0 w0 _ (_ :: _ :: _ :: (if (Nat.beq 8 11 || D 8) = true then _ else _) :: _)
        rw [h8]
        exact hw
      case k_6 =>
        clear hs hw
        intro u a W hs hw
        replace hw : Has 0 w0 W (Cells p [.pointer (some ⟨q, 0, none⟩), .slice (u 8).2.2.2 (s.l ++ [r]).length (u 8).2.2.1] 76 :: FzF (u 6).2.1 (H1.le (u 6).2.1 ∧ OpsH (u 6).2.1 (u 6).1 r.b.l) :: Cells (u 7).2.2.1 (rowCells r (u 6).1) 36 :: Sx.Own 36 5 (.slice (u 8).2.2.2 (s.l ++ [r]).length (u 8).2.2.1) (s.l ++ [r]).length (xs ++ rowCells r (u 6).1) :: FoldAt H1 q f1 :: Cells b7 (rowCells x (.slice xad x.b.l.length xcap)) 36 :: Cells b3 (rowCells r (.slice sad r.b.l.length scap)) 36 :: FoldAt H1 pf s.f :: R) := hw
        replace hs : Slots a 74 [(0, .pointer (some ⟨p, 0, none⟩))] := hs.of ⟨rfl, trivial⟩
        generalize (u 8).2.2.2 = ad at *
        generalize (u 8).2.2.1 = cap at *
        generalize (u 7).2.2.1 = bx at *
        generalize (u 6).2.1 = H2 at *
        generalize (u 6).1 = v2 at *
        clear u
        have hw : Has 0 w0 W (FzF H2 (H1.le H2 ∧ OpsH H2 v2 r.b.l) :: Cells p [.pointer (some ⟨q, 0, none⟩), .slice ad (s.l ++ [r]).length cap] 76 :: FoldAt H1 q f1 :: Sx.Own 36 5 (.slice ad (s.l ++ [r]).length cap) (s.l ++ [r]).length (xs ++ rowCells r v2) :: Cells bx (rowCells r v2) 36 :: Cells b7 (rowCells x (.slice xad x.b.l.length xcap)) 36 :: Cells b3 (rowCells r (.slice sad r.b.l.length scap)) 36 :: FoldAt H1 pf s.f :: R) := hw.perm (by repeat (first | exact List.Perm.refl _ | refine perm_pick (by repeat (first | exact Pick.hd | apply Pick.tl)) ?_))
        obtain ⟨⟨hle, hv⟩, hw⟩ := hw.unfzf
        have hw : Has 0 w0 W (FoldAt H1 q f1 :: Cells p [.pointer (some ⟨q, 0, none⟩), .slice ad (s.l ++ [r]).length cap] 76 :: Sx.Own 36 5 (.slice ad (s.l ++ [r]).length cap) (s.l ++ [r]).length (xs ++ rowCells r v2) :: Fz H2 :: R) := (hw.perm (B := FoldAt H1 q f1 :: Cells p [.pointer (some ⟨q, 0, none⟩), .slice ad (s.l ++ [r]).length cap] 76 :: Sx.Own 36 5 (.slice ad (s.l ++ [r]).length cap) (s.l ++ [r]).length (xs ++ rowCells r v2) :: Fz H2 :: Cells bx (rowCells r v2) 36 :: Cells b7 (rowCells x (.slice xad x.b.l.length xcap)) 36 :: Cells b3 (rowCells r (.slice sad r.b.l.length scap)) 36 :: FoldAt H1 pf s.f :: R) (by repeat (first | exact List.Perm.refl _ | refine perm_pick (by repeat (first | exact Pick.hd | apply Pick.tl)) ?_))).sub (List.Sublist.cons_cons _ (List.Sublist.cons_cons _ (List.Sublist.cons_cons _ (List.Sublist.cons_cons _ (List.Sublist.cons _ (List.Sublist.cons _ (List.Sublist.cons _ (List.Sublist.cons _ (List.Sublist.refl _)))))))))
        have hw := (foldLe hw hle).swap2
        have hw := streamShut (s := ⟨f1, s.l ++ [r]⟩) hw ((hch.mono (RowIn.le hle)).app (Ch.unit ⟨_, rfl, hv⟩))
        repeat (first | (refine sxv hs hw ?_; clear hs; intro a hs) | refine sxc hs ?_ | (refine sxa hs hw ?_; clear hs hw; intro a b W hw hs) | (refine sxs hs hw ?_; clear hs hw; intro W hs hw))
        rw [hone]
        refine rt2 hs rfl rfl rfl ?_
        exact ⟨H2, rfl, hle0.trans hle, hw⟩
      all_goals
        intro u LD D a W hcl hi hp hs hw
        repeat (first | (refine sxv hs hw ?_; clear hs; intro a hs) | refine sxc hs ?_ | (refine sxa hs hw ?_; clear hs hw; intro a b W hw hs) | (refine sxs hs hw ?_; clear hs hw; intro W hs hw))
        exact Or.inl ⟨hs, hw⟩
    all_goals
      intro LD D a W hcl hi hp hs hw
      repeat (first | (refine sxv hs hw ?_; clear hs; intro a hs) | refine sxc hs ?_ | (refine sxa hs hw ?_; clear hs hw; intro a b W hw hs) | (refine sxs hs hw ?_; clear hs hw; intro W hs hw))
      exact ⟨hs, hw⟩
  all_goals
    intro LD D a W hcl hi hp hs hw
    repeat (first | (refine sxv hs hw ?_; clear hs; intro a hs) | refine sxc hs ?_ | (refine sxa hs hw ?_; clear hs hw; intro a b W hw hs) | (refine sxs hs hw ?_; clear hs hw; intro W hs hw))
    exact ⟨hs, hw⟩

end Go.Proofs.YtcfaicomnngegaaDoor.Sw

/-
  Streams: Take, Rows.
-/
set_option linter.unusedVariables false
set_option maxRecDepth 10000
namespace Go.Proofs.YtcfaicomnngegaaDoor.Sw
open Go.RowKit Go.Sx

-- pieces

/-- A slice of rows that is frozen. -/
def RowsH (H : Fh) (v : Value) (rows : List RowD) : Prop := ∃ xs, RdH H 5 v rows.length xs ∧ Ch (RowIn H) rows xs
theorem RowsH.le {H H' : Fh} {v : Value} {rows : List RowD} (h : H.le H') (r : RowsH H v rows) : RowsH H' v rows := by
  obtain ⟨xs, h1, h2⟩ := r
  exact ⟨xs, h1.le h, h2.mono (RowIn.le h)⟩
structure RowOk (r : RowD) : Prop where
  place : i64 r.place
  err : i64 r.err
  b : BatOk r.b
/-- Rows are taken, one behind the other, to the first that may not. -/
def takeN (s : StreamD) (n : Nat) : List RowD → StreamD × Nat × Int
  | [] => (s, n, 0)
  | r :: rs => if (one s r).2.2 = 0 then takeN (one s r).1 (if (one s r).2.1 = true then n + 1 else n) rs else ((one s r).1, n, (one s r).2.2)
theorem one_len (s : StreamD) (r : RowD) : (one s r).1.l.length ≤ s.l.length + 1 := by
  unfold one
  repeat (first | split | simp)
set_option maxHeartbeats 8000000 in
theorem stream_Take (w0 W : World) (H : Fh) (p : Nat) (s : StreamD) (rows : List RowD) (v : Value) (R : List Res) (hl : s.l.length + rows.length ≤ 1000000) (hb : ∀ r ∈ rows, RowOk r) (hr : RowsH H v rows) (hH : (fr w0).le H) (hT : Tabs w0) (hw : Has 0 w0 W (StreamAt H p s :: Fz H :: R)) :
    Calls Tryd.prog 27 ⟨[.pointer (some ⟨p, 0, none⟩), v]⟩ W fun e W' => ∃ H', e = .returned (.tuple ⟨[.int .i64 ((takeN s 0 rows).2.1 : Nat), .int .i64 (takeN s 0 rows).2.2]⟩) ∧ H.le H' ∧ Has 0 w0 W' (StreamAt H' p (takeN s 0 rows).1 :: Fz H' :: R) := by
  obtain ⟨xs, hr, hch⟩ := hr
  obtain ⟨sad, scap, rfl⟩ := hr.slice
  refine enter Tryd.func27 Tryd.ntmps27 rfl rfl fun a hs => ?_
  repeat (first | (refine sxv hs hw ?_; clear hs; intro a hs) | refine sxc hs ?_ | (refine sxa hs hw ?_; clear hs hw; intro a b W hw hs) | (refine sxs hs hw ?_; clear hs hw; intro W hs hw) | ((with_reducible first | refine st_ptrSome hs (k := ?_) | refine st_ptrNone hs (k := ?_)); clear hs; intro a hs))
  refine st_loop (σ := Nat × Nat × StreamD × Fh) (fun t => [(0, .pointer (some ⟨p, 0, none⟩)), (13, .slice sad rows.length scap), (14, .int .i64 (rows.length : Int)), (15, .int .i64 (t.1 : Int)), (6, .int .i64 (t.2.1 : Int))]) (fun t => StreamAt t.2.2.2 p t.2.2.1 :: Fz t.2.2.2 :: R) (fun t => t.1 ≤ rows.length ∧ t.2.1 ≤ t.1 ∧ t.2.2.1.l.length ≤ s.l.length + t.1 ∧ H.le t.2.2.2 ∧ takeN t.2.2.1 t.2.1 (rows.drop t.1) = takeN s 0 rows) (fun t => rows.length - t.1) (0, 0, s, H) ⟨Nat.zero_le _, Nat.zero_le _, Nat.le_refl _, Fh.le.refl _, rfl⟩ hs ⟨rfl, rfl, rfl, rfl, rfl, trivial⟩ hw ?_
  clear hs hw
  rintro ⟨j, n, s', H'⟩ a W ⟨hj, hn, hsl, hH', hgo⟩ hs hw
  simp only at hj hn hsl hH' hgo hs hw
  repeat (first | (refine sxv hs hw ?_; clear hs; intro a hs) | refine sxc hs ?_ | (refine sxa hs hw ?_; clear hs hw; intro a b W hw hs) | (refine sxs hs hw ?_; clear hs hw; intro W hs hw))
  refine cd_split hs (kt := fun hcc => ?_) (kf := fun hcc => ?_)
  · have hj' : j < rows.length := by simpa using hcc
    obtain ⟨r, hri⟩ : ∃ o, rows[j]? = some o := ⟨rows[j], List.getElem?_eq_getElem hj'⟩
    have hok := hb r (List.mem_of_getElem? hri)
    rw [drop_of hri] at hgo
    simp only [takeN] at hgo
    repeat (first | (refine sxv hs hw ?_; clear hs; intro a hs) | refine sxc hs ?_ | (refine sxa hs hw ?_; clear hs hw; intro a b W hw hs) | (refine sxs hs hw ?_; clear hs hw; intro W hs hw))
    refine st_index_ch hs (r := hw.rdH (by repeat (first | exact In.hd | apply In.tl)) (hr.le hH')) (hk := RowIn.len) (ch := hch.mono (RowIn.le hH')) (ho := hri) (hlen := rfl) (c := ?_); clear hs; intro a g off c hc hcl hpc hlt hs
    obtain ⟨rv, rfl, hrv⟩ := hc
    obtain ⟨rad, rcap, rfl⟩ := hrv.slice
    refine st_load_ats hs (cs := rowCells r (.slice rad r.b.l.length rcap)) (hc := hpc) (hl := by rfl) (c := ?_); clear hs; intro a hs
    clear hpc
    repeat (first | (refine sxv hs hw ?_; clear hs; intro a hs) | refine sxc hs ?_ | (refine sxa hs hw ?_; clear hs hw; intro a b W hw hs) | (refine sxs hs hw ?_; clear hs hw; intro W hs hw))
    obtain ⟨b8, q8⟩ := nm1 hw; subst q8
    have hw : Has 0 w0 _ (StreamAt H' p s' :: Fz H' :: Cells b8 (rowCells r (.slice rad r.b.l.length rcap)) 36 :: R) := hw.perm (by repeat (first | exact List.Perm.refl _ | refine perm_pick (by repeat (first | exact Pick.hd | apply Pick.tl)) ?_))
    refine st_call hs (hc := stream_one w0 _ H' p s' r _ _ (by omega) hok.place hok.b hrv (hH.trans hH') hT hw) (k := ?_); rintro e0 W1 ⟨H2, rfl, hle, hw1⟩; refine ⟨_, rfl, ?_⟩; clear hs hw; intro a hs; have hw := hw1; clear hw1
    have hol := one_len s' r
    repeat (first | (refine sxv hs hw ?_; clear hs; intro a hs) | refine sxc hs ?_ | (refine sxa hs hw ?_; clear hs hw; intro a b W hw hs) | (refine sxs hs hw ?_; clear hs hw; intro W hs hw))
    cases he : ((one s' r).2.2 != 0) with
    | true =>
      rw [he] at hs
      rw [if_neg (by simpa using he)] at hgo
      repeat (first | (refine sxv hs hw ?_; clear hs; intro a hs) | refine sxc hs ?_ | (refine sxa hs hw ?_; clear hs hw; intro a b W hw hs) | (refine sxs hs hw ?_; clear hs hw; intro W hs hw))
      rw [← hgo]
      exact rt2 hs rfl rfl rfl ⟨H2, rfl, hH'.trans hle, hw.sub (List.Sublist.cons_cons _ (List.Sublist.cons_cons _ (List.Sublist.cons _ (List.Sublist.refl _))))⟩
    | false =>
    rw [he] at hs
    rw [if_pos (by simpa using he)] at hgo
    repeat (first | (refine sxv hs hw ?_; clear hs; intro a hs) | refine sxc hs ?_ | (refine sxa hs hw ?_; clear hs hw; intro a b W hw hs) | (refine sxs hs hw ?_; clear hs hw; intro W hs hw))
    have hw := hw.sub (L' := StreamAt H2 p (one s' r).1 :: Fz H2 :: R) (List.Sublist.cons_cons _ (List.Sublist.cons_cons _ (List.Sublist.cons _ (List.Sublist.refl _))))
    cases hf : (one s' r).2.1 with
    | true =>
      rw [hf] at hs
      rw [hf, if_pos rfl] at hgo
      repeat (first | (refine sxv hs hw ?_; clear hs; intro a hs) | refine sxc hs ?_ | (refine sxa hs hw ?_; clear hs hw; intro a b W hw hs) | (refine sxs hs hw ?_; clear hs hw; intro W hs hw))
      exact st_again (j + 1, n + 1, (one s' r).1, H2) hs hw ⟨hj', by show n + 1 ≤ j + 1; omega, by show (one s' r).1.l.length ≤ s.l.length + (j + 1); omega, hH'.trans hle, hgo⟩ (by show rows.length - (j + 1) < rows.length - j; omega) ⟨rfl, rfl, rfl, int_eq (by show IntKind.i64.wrap ((j : Int) + 1) = ((j + 1 : Nat) : Int); rw [IntWalk.i64_in _ (by omega)]; omega), int_eq (by show IntKind.i64.wrap ((n : Int) + 1) = ((n + 1 : Nat) : Int); rw [IntWalk.i64_in _ (by omega)]; omega), trivial⟩
    | false =>
      rw [hf] at hs
      rw [hf, if_neg (by decide)] at hgo
      repeat (first | (refine sxv hs hw ?_; clear hs; intro a hs) | refine sxc hs ?_ | (refine sxa hs hw ?_; clear hs hw; intro a b W hw hs) | (refine sxs hs hw ?_; clear hs hw; intro W hs hw))
      exact st_again (j + 1, n, (one s' r).1, H2) hs hw ⟨hj', by show n ≤ j + 1; omega, by show (one s' r).1.l.length ≤ s.l.length + (j + 1); omega, hH'.trans hle, hgo⟩ (by show rows.length - (j + 1) < rows.length - j; omega) ⟨rfl, rfl, rfl, int_eq (by show IntKind.i64.wrap ((j : Int) + 1) = ((j + 1 : Nat) : Int); rw [IntWalk.i64_in _ (by omega)]; omega), rfl, trivial⟩
  · have hj' : j = rows.length := by have : ¬ j < rows.length := by simpa using hcc
                                     omega
    subst hj'
    rw [List.drop_length] at hgo
    repeat (first | (refine sxv hs hw ?_; clear hs; intro a hs) | refine sxc hs ?_ | (refine sxa hs hw ?_; clear hs hw; intro a b W hw hs) | (refine sxs hs hw ?_; clear hs hw; intro W hs hw))
    rw [← hgo]
    exact rt2 hs rfl rfl rfl ⟨H', rfl, hH', hw⟩

end Go.Proofs.YtcfaicomnngegaaDoor.Sw

/-
  The reference's rows compared: EqRow, EqRows.
-/
set_option linter.unusedVariables false
set_option maxRecDepth 10000
namespace Go.Sx
open Go.RowKit
section
variable {P : Program} {Q : Exit → Act → World → Prop} {C : Ending → World → Prop} {a : Act} {n G : Nat} {L : List (Nat × Value)} {w W : World} {R : List Res} {t t' : Tmp} {T T' E E' : TypeId} {b o b' o' : Nat} {cs cs' z z' : List Value} {fn : Func}
theorem rk3 [u : Ty P T true z] [u' : Ty P T' true z'] {r : Tmp} {v : Value} (hs : Slots a n L) (hr : fn.results = #[.cell t T, .cell t' T', .tmp r]) (hv : lk L t = some (.pointer (some ⟨b, o, none⟩))) (hv' : lk L t' = some (.pointer (some ⟨b', o', none⟩))) (hw : Has G w W R) (hi : In (Cells b cs E) R) (hi' : In (Cells b' cs' E') R) (hl : Nat.ble (o + z.length) cs.length = true) (hl' : Nat.ble (o' + z'.length) cs'.length = true) (hv2 : lk L r = some v) (h : C (.returned (.tuple #[.agg ⟨cut cs o z.length⟩, .agg ⟨cut cs' o' z'.length⟩, v])) W) : bodyPost P fn C .ret a W := by
  have h1 := run_load_agg u (hw.block hi).1 (Nat.le_of_ble_eq_true hl)
  have h1' := run_load_agg u' (hw.block hi').1 (Nat.le_of_ble_eq_true hl')
  refine rt hs ?_ h
  have h2 := at_tmp hs hv
  have h2' := at_tmp hs hv'
  have h3 := at_tmp hs hv2
  simp only [Instr.loadAt, Instr.sureAddr, Sem.run_bind, Sem.run_pure, Result.andThen_ok] at h1 h1'
  simp only [results, hr, List.mapM_toArray, List.mapM_cons, List.mapM_nil]
  simp [h2, h2', h3, asAddr, h1, h1']
end
theorem ch_at {α : Type} {Rr : α → List Value → Prop} {W : World} {sad : Option Addr} {scap n k : Nat} {l : List α} {xs : List Value} {i : Nat} {o : α} (hk : ∀ a c, Rr a c → c.length = k) (r : Rd W k (.slice sad n scap) n xs) (hc : Ch Rr l xs) (hn : l.length = n) (h : l[i]? = some o) :
    ∃ g off c, sad = some ⟨g, off, none⟩ ∧ g < W.heap.size ∧ Rr o c ∧ ∀ j u, c[j]? = some u → W.cell? ⟨g, off + i * k + j, none⟩ = some u := by
  have hi : i < l.length := (List.getElem?_eq_some_iff.1 h).1
  obtain ⟨c, h1, h2, h3⟩ := hc.get hk h
  obtain ⟨_, ad, cap, e, h4, h5, h6⟩ := r
  injection e with e1 e2 e3
  subst e1
  rcases h6 with h6 | ⟨b, off, rfl, hlt, hcell⟩
  · omega
  · refine ⟨b, off, c, rfl, hlt, h1, fun j u hu => ?_⟩
    rw [Nat.add_assoc]
    refine hcell _ _ ?_
    rw [← h3, cut_eq, List.getElem?_take] at hu
    split at hu
    · rw [List.getElem?_drop] at hu; exact hu
    · cases hu
end Go.Sx
namespace Go.Proofs.YtcfaicomnngegaaDoor.Sw
open Go.RowKit Go.Sx

def eqRow (a b : RowD) : Bool := (a.place == b.place) && ((a.err == b.err) && eqBatch a.b.c a.b.q a.b.l b.b.c b.b.q b.b.l)
theorem eqRow_iff {a b : RowD} : eqRow a b = true ↔ a = b := by
  obtain ⟨p, ⟨c, q, l⟩, e⟩ := a
  obtain ⟨p', ⟨c', q', l'⟩, e'⟩ := b
  simp only [eqRow, Bool.and_eq_true, beq_iff_eq, eqBatch_iff, RowD.mk.injEq, BatchD.mk.injEq]
  constructor
  · rintro ⟨h1, h2, h3⟩; exact ⟨h1, h3, h2⟩
  · rintro ⟨h1, h3, h2⟩; exact ⟨h1, h2, h3⟩
theorem eqL_iff {l l' : List OpD} : eqL l l' = true ↔ l = l' := by
  unfold eqL
  rw [Bool.and_eq_true, beq_iff_eq]
  constructor
  · rintro ⟨h1, h2⟩; exact (eqOps_iff h1).1 h2
  · rintro rfl; exact ⟨rfl, (eqOps_iff rfl).2 rfl⟩
theorem sameR_iff {a b : RowD} : sameR a b = true ↔ a = b := by
  obtain ⟨p, ⟨c, q, l⟩, e⟩ := a
  obtain ⟨p', ⟨c', q', l'⟩, e'⟩ := b
  simp only [sameR, Bool.and_eq_true, beq_iff_eq, eqL_iff, RowD.mk.injEq, BatchD.mk.injEq]
  constructor
  · rintro ⟨h1, h2, h3, h4, h5⟩; exact ⟨h1, ⟨h3, h4, h5⟩, h2⟩
  · rintro ⟨h1, ⟨h3, h4, h5⟩, h2⟩; exact ⟨h1, h2, h3, h4, h5⟩
def RowRd (W : World) (r : RowD) (cs : List Value) : Prop := ∃ sv, cs = rowCells r sv ∧ Rd W 9 sv r.b.l.length (r.b.l.flatMap opCells)
theorem RowRd.len {W : World} : ∀ (b : RowD) (c : List Value), RowRd W b c → c.length = 5 := by rintro b c ⟨sv, rfl, _⟩; rfl
theorem rowRd {G : Nat} {w0 W : World} {L : List Res} {H : Fh} (h : Has G w0 W L) (i : In (Fz H) L) {rows : List RowD} {xs : List Value} (hc : Ch (RowIn H) rows xs) : Ch (RowRd W) rows xs :=
  hc.mono fun r c ⟨sv, h1, h2⟩ => ⟨sv, h1, h.rdH i h2⟩
def eqRows (l m : List RowD) : Bool := (l.length == m.length) && (l.zip m).all fun p => eqRow p.1 p.2
theorem eqRows_iff {l m : List RowD} : eqRows l m = true ↔ l = m := by
  unfold eqRows
  rw [Bool.and_eq_true, beq_iff_eq]
  constructor
  · rintro ⟨h1, h2⟩
    apply List.ext_getElem h1
    intro i h3 h4
    rw [List.all_eq_true] at h2
    exact eqRow_iff.1 (h2 (l[i], m[i]) (List.mem_of_getElem? (i := i) (by rw [List.getElem?_zip_eq_some]; exact ⟨List.getElem?_eq_getElem h3, List.getElem?_eq_getElem h4⟩)))
  · rintro rfl
    refine ⟨rfl, ?_⟩
    rw [List.all_eq_true]
    intro p hp
    obtain ⟨i, hi⟩ := List.getElem?_of_mem hp
    rw [List.getElem?_zip_eq_some] at hi
    exact eqRow_iff.2 (Option.some.inj (hi.1.symm.trans hi.2))

set_option maxHeartbeats 8000000 in
theorem ref_EqRow (x y : RowD) (sv sv' : Value) (w : World) (r : Rd w 9 sv x.b.l.length (x.b.l.flatMap opCells)) (r' : Rd w 9 sv' y.b.l.length (y.b.l.flatMap opCells)) :
    Calls Tryd.prog 23 ⟨[.agg ⟨rowCells x sv⟩, .agg ⟨rowCells y sv'⟩]⟩ w fun e w' => e = .returned (.bool (eqRow x y)) ∧ Below w.heap.size w w' := by
  have hw := Has.start (G := 0) (w := w) (Nat.zero_le _)
  refine enter Tryd.func23 Tryd.ntmps23 rfl rfl fun a hs => ?_
  repeat (first | (refine sxv hs hw ?_; clear hs; intro a hs) | refine sxc hs ?_ | (refine sxa hs hw ?_; clear hs hw; intro a b W hw hs) | (refine sxs hs hw ?_; clear hs hw; intro W hs hw))
  unfold eqRow
  cases h1 : (x.place == y.place) with
  | false =>
    rw [h1] at hs
    repeat (first | (refine sxv hs hw ?_; clear hs; intro a hs) | refine sxc hs ?_ | (refine sxa hs hw ?_; clear hs hw; intro a b W hw hs) | (refine sxs hs hw ?_; clear hs hw; intro W hs hw))
    exact rt1 hs rfl rfl ⟨rfl, hw.end (by repeat (first | exact In.hd | apply In.tl))⟩
  | true =>
  rw [h1] at hs
  repeat (first | (refine sxv hs hw ?_; clear hs; intro a hs) | refine sxc hs ?_ | (refine sxa hs hw ?_; clear hs hw; intro a b W hw hs) | (refine sxs hs hw ?_; clear hs hw; intro W hs hw))
  cases h2 : (x.err == y.err) with
  | false =>
    rw [h2] at hs
    repeat (first | (refine sxv hs hw ?_; clear hs; intro a hs) | refine sxc hs ?_ | (refine sxa hs hw ?_; clear hs hw; intro a b W hw hs) | (refine sxs hs hw ?_; clear hs hw; intro W hs hw))
    exact rt1 hs rfl rfl ⟨rfl, hw.end (by repeat (first | exact In.hd | apply In.tl))⟩
  | true =>
  rw [h2] at hs
  repeat (first | (refine sxv hs hw ?_; clear hs; intro a hs) | refine sxc hs ?_ | (refine sxa hs hw ?_; clear hs hw; intro a b W hw hs) | (refine sxs hs hw ?_; clear hs hw; intro W hs hw))
  refine st_call hs (hc := ref_EqBatch x.b.c x.b.q x.b.l sv y.b.c y.b.q y.b.l sv' _ (hw.rd (by repeat (first | exact In.hd | apply In.tl)) hw.ext.size r) (hw.rd (by repeat (first | exact In.hd | apply In.tl)) hw.ext.size r')) (k := ?_); rintro e0 W1 ⟨rfl, hb⟩; refine ⟨_, rfl, ?_⟩; clear hs; intro a hs; replace hw := hw.below hb; clear hb
  repeat (first | (refine sxv hs hw ?_; clear hs; intro a hs) | refine sxc hs ?_ | (refine sxa hs hw ?_; clear hs hw; intro a b W hw hs) | (refine sxs hs hw ?_; clear hs hw; intro W hs hw))
  exact rt1 hs rfl rfl ⟨rfl, hw.end (by repeat (first | exact In.hd | apply In.tl))⟩

theorem eqRows_snoc {l l' : List RowD} {i : Nat} {o o' : RowD} (h : l[i]? = some o) (h' : l'[i]? = some o') (e : l.take i = l'.take i) (ho : eqRow o o' = true) : l.take (i + 1) = l'.take (i + 1) := by
  rw [List.take_add_one, List.take_add_one, h, h', e, eqRow_iff.1 ho]
theorem eqRows_no {l l' : List RowD} {i : Nat} {o o' : RowD} (h : l[i]? = some o) (h' : l'[i]? = some o') (e : eqRow o o' = false) : eqRows l l' = false := by
  cases hq : eqRows l l' with
  | false => rfl
  | true =>
    have := eqRows_iff.1 hq
    subst this
    rw [h] at h'
    cases h'
    rw [eqRow_iff.2 rfl] at e
    cases e

set_option maxHeartbeats 8000000 in
theorem ref_EqRows (l : List RowD) (sv : Value) (xs : List Value) (l' : List RowD) (sv' : Value) (ys : List Value) (w : World) (r : Rd w 5 sv l.length xs) (hc : Ch (RowRd w) l xs) (r' : Rd w 5 sv' l'.length ys) (hc' : Ch (RowRd w) l' ys) :
    Calls Tryd.prog 11 ⟨[sv, sv']⟩ w fun e w' => e = .returned (.bool (eqRows l l')) ∧ Below w.heap.size w w' := by
  have hw := Has.start (G := 0) (w := w) (Nat.zero_le _)
  obtain ⟨sad, scap, rfl⟩ : ∃ ad cap, sv = .slice ad l.length cap := by obtain ⟨_, ad, cap, e, _⟩ := r; exact ⟨ad, cap, e⟩
  obtain ⟨tad, tcap, rfl⟩ : ∃ ad cap, sv' = .slice ad l'.length cap := by obtain ⟨_, ad, cap, e, _⟩ := r'; exact ⟨ad, cap, e⟩
  have hlen : l.length ≤ 9223372036854775807 := r.len
  refine enter Tryd.func11 Tryd.ntmps11 rfl rfl fun a hs => ?_
  repeat (first | (refine sxv hs hw ?_; clear hs; intro a hs) | refine sxc hs ?_ | (refine sxa hs hw ?_; clear hs hw; intro a b W hw hs) | (refine sxs hs hw ?_; clear hs hw; intro W hs hw))
  cases h2 : ((l.length : Int) != (l'.length : Int)) with
  | true =>
    rw [h2] at hs
    repeat (first | (refine sxv hs hw ?_; clear hs; intro a hs) | refine sxc hs ?_ | (refine sxa hs hw ?_; clear hs hw; intro a b W hw hs) | (refine sxs hs hw ?_; clear hs hw; intro W hs hw))
    have h3 : ¬ l.length = l'.length := by rw [bne_iff_ne] at h2; omega
    exact rt1 hs rfl rfl ⟨by simp [eqRows, h3], hw.end (by repeat (first | exact In.hd | apply In.tl))⟩
  | false =>
  rw [h2] at hs
  repeat (first | (refine sxv hs hw ?_; clear hs; intro a hs) | refine sxc hs ?_ | (refine sxa hs hw ?_; clear hs hw; intro a b W hw hs) | (refine sxs hs hw ?_; clear hs hw; intro W hs hw))
  have hL : l.length = l'.length := by
    have : (l.length : Int) = (l'.length : Int) := by simpa using h2
    omega
  clear h2
  refine st_loop (σ := Nat) (fun i => [(0, .slice sad l.length scap), (1, .slice tad l'.length tcap), (5, .int .i64 (i : Int))]) (fun _ => Old w 0 :: []) (fun i => i ≤ l.length ∧ l.take i = l'.take i) (fun i => l.length - i) 0 ⟨Nat.zero_le _, rfl⟩ hs ⟨rfl, rfl, rfl, trivial⟩ hw ?_
  clear hs hw
  rintro i a W ⟨hi, ha⟩ hs hw
  repeat (first | (refine sxv hs hw ?_; clear hs; intro a hs) | refine sxc hs ?_ | (refine sxa hs hw ?_; clear hs hw; intro a b W hw hs) | (refine sxs hs hw ?_; clear hs hw; intro W hs hw))
  refine cd_split hs (kt := fun hcc => ?_) (kf := fun hcc => ?_)
  · have hi' : i < l.length := by simpa using hcc
    obtain ⟨o, hoi⟩ : ∃ o, l[i]? = some o := ⟨l[i], List.getElem?_eq_getElem hi'⟩
    obtain ⟨o', hoi'⟩ : ∃ o, l'[i]? = some o := ⟨l'[i], List.getElem?_eq_getElem (by omega)⟩
    have hnext := eqRows_snoc hoi hoi' ha
    have hall := eqRows_no hoi hoi'
    obtain ⟨g1, f1, c1, rfl, hg1, ⟨v1, rfl, hv1⟩, hc1⟩ := ch_at RowRd.len r hc rfl hoi
    obtain ⟨g2, f2, c2, rfl, hg2, ⟨v2, rfl, hv2⟩, hc2⟩ := ch_at RowRd.len r' hc' rfl hoi'
    repeat (first | (refine sxv hs hw ?_; clear hs; intro a hs) | refine sxc hs ?_ | (refine sxa hs hw ?_; clear hs hw; intro a b W hw hs) | (refine sxs hs hw ?_; clear hs hw; intro W hs hw))
    refine rg_draw (V := [.slice (some ⟨g1, f1, none⟩) l.length scap, .int .i64 (i : Int), .pointer (some ⟨g1, f1 + i * 5, none⟩), .agg ⟨rowCells o v1⟩, .slice (some ⟨g2, f2, none⟩) l'.length tcap, .int .i64 (i : Int), .pointer (some ⟨g2, f2 + i * 5, none⟩), .agg ⟨rowCells o' v2⟩, .bool (eqRow o o'), .bool (!eqRow o o')])
      (Rs := fun D => Old w 0 :: []) hs hw (ho := ⟨?_, ?_, ?c2_c, ?c3_c, ?_, ?_, ?c6_c, ?c7_c, ?c8_c, ?_, trivial⟩) (k := ?k_c)
    case c2_c =>
      intro LD D a W hcl hi hp hs hw
      refine st_index_at hs (z := zrc) (h0 := by omega) (h1 := by omega) (c := ?_); clear hs; intro a hs
      repeat (first | (refine sxv hs hw ?_; clear hs; intro a hs) | refine sxc hs ?_ | (refine sxa hs hw ?_; clear hs hw; intro a b W hw hs) | (refine sxs hs hw ?_; clear hs hw; intro W hs hw))
      exact ⟨hs, hw⟩
    case c6_c =>
      intro LD D a W hcl hi hp hs hw
      refine st_index_at hs (z := zrc) (h0 := by omega) (h1 := by omega) (c := ?_); clear hs; intro a hs
      repeat (first | (refine sxv hs hw ?_; clear hs; intro a hs) | refine sxc hs ?_ | (refine sxa hs hw ?_; clear hs hw; intro a b W hw hs) | (refine sxs hs hw ?_; clear hs hw; intro W hs hw))
      exact ⟨hs, hw⟩
    case c3_c =>
      intro LD D a W hcl hi hp hs hw
      refine st_load_ats (z := zrc) hs (cs := rowCells o v1) (hc := fun j u h => ((hw.end In.hd).cell hg1).trans (hc1 j u h)) (hl := rfl) (c := ?_); clear hs; intro a hs
      repeat (first | (refine sxv hs hw ?_; clear hs; intro a hs) | refine sxc hs ?_ | (refine sxa hs hw ?_; clear hs hw; intro a b W hw hs) | (refine sxs hs hw ?_; clear hs hw; intro W hs hw))
      exact ⟨hs, hw⟩
    case c7_c =>
      intro LD D a W hcl hi hp hs hw
      refine st_load_ats (z := zrc) hs (cs := rowCells o' v2) (hc := fun j u h => ((hw.end In.hd).cell hg2).trans (hc2 j u h)) (hl := rfl) (c := ?_); clear hs; intro a hs
      repeat (first | (refine sxv hs hw ?_; clear hs; intro a hs) | refine sxc hs ?_ | (refine sxa hs hw ?_; clear hs hw; intro a b W hw hs) | (refine sxs hs hw ?_; clear hs hw; intro W hs hw))
      exact ⟨hs, hw⟩
    case c8_c =>
      intro LD D a W hcl hi hp hs hw
      refine st_call hs (hc := ref_EqRow o o' v1 v2 _ (hw.rd (by repeat (first | exact In.hd | apply In.tl)) hw.ext.size hv1) (hw.rd (by repeat (first | exact In.hd | apply In.tl)) hw.ext.size hv2)) (k := ?_); rintro e0 W1 ⟨rfl, hb⟩; refine ⟨_, rfl, ?_⟩; clear hs; intro a hs; replace hw := hw.below hb; clear hb
      repeat (first | (refine sxv hs hw ?_; clear hs; intro a hs) | refine sxc hs ?_ | (refine sxa hs hw ?_; clear hs hw; intro a b W hw hs) | (refine sxs hs hw ?_; clear hs hw; intro W hs hw))
      exact ⟨hs, hw⟩
    case k_c =>
      clear hs hw
      intro a W hs hw
      replace hs : Slots a 27 [(26, .bool (!eqRow o o')), (0, .slice (some ⟨g1, f1, none⟩) l.length scap), (1, .slice (some ⟨g2, f2, none⟩) l'.length tcap), (5, .int .i64 (i : Int))] := hs.of ⟨rfl, rfl, rfl, rfl, trivial⟩
      cases he : eqRow o o' with
      | false =>
        rw [he] at hs
        repeat (first | (refine sxv hs hw ?_; clear hs; intro a hs) | refine sxc hs ?_ | (refine sxa hs hw ?_; clear hs hw; intro a b W hw hs) | (refine sxs hs hw ?_; clear hs hw; intro W hs hw))
        exact rt1 hs rfl rfl ⟨by rw [hall he], hw.end (by repeat (first | exact In.hd | apply In.tl))⟩
      | true =>
        rw [he] at hs
        repeat (first | (refine sxv hs hw ?_; clear hs; intro a hs) | refine sxc hs ?_ | (refine sxa hs hw ?_; clear hs hw; intro a b W hw hs) | (refine sxs hs hw ?_; clear hs hw; intro W hs hw))
        exact st_again (i + 1) hs hw ⟨hi', hnext he⟩ (by show l.length - (i + 1) < l.length - i; omega) ⟨rfl, rfl, int_eq (by show IntKind.i64.wrap ((i : Int) + 1) = ((i + 1 : Nat) : Int); rw [IntWalk.i64_in _ (by omega)]; omega), trivial⟩
    all_goals
      intro LD D a W hcl hi hp hs hw
      repeat (first | (refine sxv hs hw ?_; clear hs; intro a hs) | refine sxc hs ?_ | (refine sxa hs hw ?_; clear hs hw; intro a b W hw hs) | (refine sxs hs hw ?_; clear hs hw; intro W hs hw))
      exact ⟨hs, hw⟩
  · have hi' : i = l.length := by have : ¬ i < l.length := by simpa using hcc
                                  omega
    subst hi'
    rw [List.take_length, hL, List.take_length] at ha
    repeat (first | (refine sxv hs hw ?_; clear hs; intro a hs) | refine sxc hs ?_ | (refine sxa hs hw ?_; clear hs hw; intro a b W hw hs) | (refine sxs hs hw ?_; clear hs hw; intro W hs hw))
    exact rt1 hs rfl rfl ⟨by rw [eqRows_iff.2 ha], hw.end (by repeat (first | exact In.hd | apply In.tl))⟩
end Go.Proofs.YtcfaicomnngegaaDoor.Sw

/-
  The walk of the reference's mayOps.
-/
set_option linter.unusedVariables false
set_option maxRecDepth 10000
namespace Go.Proofs.YtcfaicomnngegaaDoor.Sw
open Go.RowKit Go.Sx

def mayAll (l : List OpD) : Bool := !(decide ((l.length : Int) < 1)) && !(decide ((l.length : Int) > 8)) && l.all mayD

set_option maxHeartbeats 4000000 in
theorem ref_mayOps (l : List OpD) (sv : Value) (w : World) (ho : ∀ o ∈ l, OpOk o) (r : Rd w 9 sv l.length (l.flatMap opCells)) :
    Calls Tryd.prog 42 ⟨[sv]⟩ w fun e w' => e = .returned (.bool (mayAll l)) ∧ Below w.heap.size w w' := by
  have hw := Has.start (G := 0) (w := w) (Nat.zero_le _)
  obtain ⟨sad, scap, rfl⟩ : ∃ ad cap, sv = .slice ad l.length cap := by obtain ⟨_, ad, cap, e, _⟩ := r; exact ⟨ad, cap, e⟩
  have hlen : l.length ≤ 9223372036854775807 := r.len
  refine enter Tryd.func42 Tryd.ntmps42 rfl rfl fun a hs => ?_
  repeat (first | (refine sxv hs hw ?_; clear hs; intro a hs) | refine sxc hs ?_ | (refine sxa hs hw ?_; clear hs hw; intro a b W hw hs) | (refine sxs hs hw ?_; clear hs hw; intro W hs hw))
  cases h4 : decide ((l.length : Int) < 1) with
  | true =>
    rw [h4] at hs
    repeat (first | (refine sxv hs hw ?_; clear hs; intro a hs) | refine sxc hs ?_ | (refine sxa hs hw ?_; clear hs hw; intro a b W hw hs) | (refine sxs hs hw ?_; clear hs hw; intro W hs hw))
    exact rt1 hs rfl rfl ⟨by simp [mayAll, h4], hw.end (by repeat (first | exact In.hd | apply In.tl))⟩
  | false =>
  rw [h4] at hs
  repeat (first | (refine sxv hs hw ?_; clear hs; intro a hs) | refine sxc hs ?_ | (refine sxa hs hw ?_; clear hs hw; intro a b W hw hs) | (refine sxs hs hw ?_; clear hs hw; intro W hs hw))
  cases h5 : decide ((l.length : Int) > 8) with
  | true =>
    rw [h5] at hs
    repeat (first | (refine sxv hs hw ?_; clear hs; intro a hs) | refine sxc hs ?_ | (refine sxa hs hw ?_; clear hs hw; intro a b W hw hs) | (refine sxs hs hw ?_; clear hs hw; intro W hs hw))
    exact rt1 hs rfl rfl ⟨by simp only [mayAll, h4, h5]; rfl, hw.end (by repeat (first | exact In.hd | apply In.tl))⟩
  | false =>
  rw [h5] at hs
  repeat (first | (refine sxv hs hw ?_; clear hs; intro a hs) | refine sxc hs ?_ | (refine sxa hs hw ?_; clear hs hw; intro a b W hw hs) | (refine sxs hs hw ?_; clear hs hw; intro W hs hw))
  have hmb : mayAll l = l.all mayD := by unfold mayAll; rw [h4, h5]; simp
  rw [hmb]
  clear hmb h4 h5
  refine st_loop (σ := Nat) (fun i => [(0, .slice sad l.length scap), (3, .int .i64 (i : Int))]) (fun _ => Old w 0 :: []) (fun i => i ≤ l.length ∧ (l.take i).all mayD = true) (fun i => l.length - i) 0 ⟨Nat.zero_le _, rfl⟩ hs ⟨rfl, rfl, trivial⟩ hw ?_
  clear hs hw
  rintro i a W ⟨hi, ha⟩ hs hw
  repeat (first | (refine sxv hs hw ?_; clear hs; intro a hs) | refine sxc hs ?_ | (refine sxa hs hw ?_; clear hs hw; intro a b W hw hs) | (refine sxs hs hw ?_; clear hs hw; intro W hs hw))
  refine cd_split hs (kt := fun hcc => ?_) (kf := fun hcc => ?_)
  · have hi' : i < l.length := by simpa using hcc
    obtain ⟨o, hoi⟩ : ∃ o, l[i]? = some o := ⟨l[i], List.getElem?_eq_getElem hi'⟩
    have hok := ho o (List.mem_of_getElem? hoi)
    have hnext : (l.take (i + 1)).all mayD = mayD o := by
      rw [List.take_add_one, hoi, List.all_append, ha]; simp
    have hall : mayD o = false → l.all mayD = false := fun h => by
      rw [List.all_eq_false]
      exact ⟨o, List.mem_of_getElem? hoi, by rw [h]; simp⟩
    repeat (first | (refine sxv hs hw ?_; clear hs; intro a hs) | refine sxc hs ?_ | (refine sxa hs hw ?_; clear hs hw; intro a b W hw hs) | (refine sxs hs hw ?_; clear hs hw; intro W hs hw))
    refine st_index_op hs (r := hw.rd (by repeat (first | exact In.hd | apply In.tl)) hw.ext.size r) (ho := hoi) (c := ?_); clear hs; intro a p off hpc hs
    refine st_load_ats (z := opCells ⟨0, ⟨#[]⟩, 0, 0, ⟨#[]⟩, 0, 0, ⟨#[]⟩, 0⟩) hs (hc := hpc) (hl := rfl) (c := ?_); clear hs; intro a hs
    obtain ⟨kind, key, vk, vn, vs, ok, on, os, n⟩ := o
    simp only [opCells] at hs
    clear hpc
    have hkey := hok.key
    have hvs := hok.vs
    have hos := hok.os
    simp only at hkey hvs hos
    repeat (first | (refine sxv hs hw ?_; clear hs; intro a hs) | refine sxc hs ?_ | (refine sxa hs hw ?_; clear hs hw; intro a b W hw hs) | (refine sxs hs hw ?_; clear hs hw; intro W hs hw))
    refine st_call hs (hc := ref_MayOp kind key vk vn vs ok on os n _ hkey hvs hos) (k := ?_); rintro e0 W1 ⟨rfl, hb⟩; refine ⟨_, rfl, ?_⟩; clear hs; intro a hs; replace hw := hw.below hb; clear hb
    rw [show mayOp kind key vk vn vs ok on os n = mayD ⟨kind, key, vk, vn, vs, ok, on, os, n⟩ from rfl] at hs
    cases hm : mayD ⟨kind, key, vk, vn, vs, ok, on, os, n⟩ with
    | false =>
      rw [hm] at hs
      repeat (first | (refine sxv hs hw ?_; clear hs; intro a hs) | refine sxc hs ?_ | (refine sxa hs hw ?_; clear hs hw; intro a b W hw hs) | (refine sxs hs hw ?_; clear hs hw; intro W hs hw))
      exact rt1 hs rfl rfl ⟨by rw [hall hm], hw.end (by repeat (first | exact In.hd | apply In.tl))⟩
    | true =>
      rw [hm] at hs hnext
      repeat (first | (refine sxv hs hw ?_; clear hs; intro a hs) | refine sxc hs ?_ | (refine sxa hs hw ?_; clear hs hw; intro a b W hw hs) | (refine sxs hs hw ?_; clear hs hw; intro W hs hw))
      exact st_again (i + 1) hs hw ⟨by omega, hnext⟩ (by show l.length - (i + 1) < l.length - i; omega) ⟨rfl, int_eq (by show IntKind.i64.wrap ((i : Int) + 1) = ((i + 1 : Nat) : Int); rw [IntWalk.i64_in _ (by omega)]; omega), trivial⟩
  · have hi' : i = l.length := by have h9 := of_decide_eq_false hcc; omega
    subst hi'
    rw [List.take_length] at ha
    rw [ha]
    repeat (first | (refine sxv hs hw ?_; clear hs; intro a hs) | refine sxc hs ?_ | (refine sxa hs hw ?_; clear hs hw; intro a b W hw hs) | (refine sxs hs hw ?_; clear hs hw; intro W hs hw))
    exact rt1 hs rfl rfl ⟨rfl, hw.end (by repeat (first | exact In.hd | apply In.tl))⟩
end Go.Proofs.YtcfaicomnngegaaDoor.Sw

/-
  The walk of the reference's bytesOf: a batch's bytes.
-/
set_option linter.unusedVariables false
set_option maxRecDepth 10000
namespace Go.Proofs.YtcfaicomnngegaaDoor.Sw
open Go.RowKit Go.Sx

set_option maxHeartbeats 8000000 in
theorem ref_bytesOf (c q : Int) (l : List OpD) (sv : Value) (w : World) (hc : i64 c) (hq : i64 q) (hl : l.length ≤ 100) (ho : ∀ o ∈ l, OpOk o) (r : Rd w 9 sv l.length (l.flatMap opCells)) :
    Calls Tryd.prog 43 ⟨[.agg ⟨[.int .i64 c, .int .i64 q, sv]⟩]⟩ w fun e w' => ∃ ad cap, e = .returned (.slice ad (textB c q l).length cap) ∧ Has 0 w w' (OwnB 5 (.slice ad (textB c q l).length cap) (textB c q l) :: Old w 0 :: []) := by
  have hw := Has.start (G := 0) (w := w) (Nat.zero_le _)
  obtain ⟨sad, scap, rfl⟩ : ∃ ad cap, sv = .slice ad l.length cap := by obtain ⟨_, ad, cap, e, _⟩ := r; exact ⟨ad, cap, e⟩
  have hh := headB_le c q l.length
  unfold headB at hh
  simp only [List.length_append] at hh
  refine enter Tryd.func43 Tryd.ntmps43 rfl rfl fun a hs => ?_
  repeat (first | (refine sxv hs hw ?_; clear hs; intro a hs) | refine sxc hs ?_ | (refine sxa hs hw ?_; clear hs hw; intro a b W hw hs) | (refine sxs hs hw ?_; clear hs hw; intro W hs hw))
  obtain ⟨b1, q1⟩ := nm1 hw; subst q1
  have hw : Has 0 w _ (Cells b1 [.int .i64 c, .int .i64 q, .slice sad l.length scap] 33 :: Old w 0 :: []) := hw
  refine st_call hs (hc := ref_Put w _ c _ hc.1 hc.2 hw) (k := ?_); rintro e0 W1 ⟨ad, cap, rfl, hw1⟩; refine ⟨_, rfl, ?_⟩; clear hs hw; intro a hs; have hw := hw1; clear hw1
  repeat (first | (refine sxv hs hw ?_; clear hs; intro a hs) | refine sxc hs ?_ | (refine sxa hs hw ?_; clear hs hw; intro a b W hw hs) | (refine sxs hs hw ?_; clear hs hw; intro W hs hw))
  refine st_call hs (hc := ref_Put w _ q _ hq.1 hq.2 hw) (k := ?_); rintro e0 W1 ⟨ad, cap, rfl, hw1⟩; refine ⟨_, rfl, ?_⟩; clear hs hw; intro a hs; have hw := hw1; clear hw1
  repeat (first | (refine sxv hs hw ?_; clear hs; intro a hs) | refine sxc hs ?_ | (refine sxa hs hw ?_; clear hs hw; intro a b W hw hs) | (refine sxs hs hw ?_; clear hs hw; intro W hs hw))
  have hw := hw.swap2
  refine st_append_b hs hw (l := Ph.putI c) (m := Ph.putI q) (hr := src_rd (hw.rd_own (In.tl In.hd)) (bys_one _)) (hb := by first | omega | (simp only [List.length_append]; omega)) (c := ?_); clear hs hw; intro a ad2 cap2 W hs hw
  have hw := hw.drop2
  repeat (first | (refine sxv hs hw ?_; clear hs; intro a hs) | refine sxc hs ?_ | (refine sxa hs hw ?_; clear hs hw; intro a b W hw hs) | (refine sxs hs hw ?_; clear hs hw; intro W hs hw))
  refine st_call hs (hc := ref_Put w _ (l.length : Int) _ (by omega) (by omega) hw) (k := ?_); rintro e0 W1 ⟨ad, cap, rfl, hw1⟩; refine ⟨_, rfl, ?_⟩; clear hs hw; intro a hs; have hw := hw1; clear hw1
  repeat (first | (refine sxv hs hw ?_; clear hs; intro a hs) | refine sxc hs ?_ | (refine sxa hs hw ?_; clear hs hw; intro a b W hw hs) | (refine sxs hs hw ?_; clear hs hw; intro W hs hw))
  have hw := hw.swap2
  refine st_append_b hs hw (l := Ph.putI c ++ Ph.putI q) (m := Ph.putI l.length) (hr := src_rd (hw.rd_own (In.tl In.hd)) (bys_one _)) (hb := by first | omega | (simp only [List.length_append]; omega)) (c := ?_); clear hs hw; intro a ad2 cap2 W hs hw
  have hw := hw.drop2
  repeat (first | (refine sxv hs hw ?_; clear hs; intro a hs) | refine sxc hs ?_ | (refine sxa hs hw ?_; clear hs hw; intro a b W hw hs) | (refine sxs hs hw ?_; clear hs hw; intro W hs hw))
  refine st_loop (σ := Value × Nat) (fun s => [(1, .pointer (some ⟨b1, 0, none⟩)), (3, s.1), (4, .int .i64 (s.2 : Int))]) (fun s => Sx.OwnB 5 s.1 (headB c q l.length ++ (l.take s.2).flatMap opB) :: Cells b1 [.int .i64 c, .int .i64 q, .slice sad l.length scap] 33 :: Old w 0 :: []) (fun s => s.2 ≤ l.length) (fun s => l.length - s.2) (.slice ad2 (Ph.putI c ++ Ph.putI q ++ Ph.putI l.length).length cap2, 0) (Nat.zero_le _) hs ⟨rfl, rfl, rfl, trivial⟩ (by rw [show (headB c q l.length ++ (l.take 0).flatMap opB) = Ph.putI c ++ Ph.putI q ++ Ph.putI l.length from by simp [headB]]; exact hw) ?_
  clear hs hw hh
  rintro ⟨v, i⟩ a W hi hs hw
  simp only at hi hs hw
  repeat (first | (refine sxv hs hw ?_; clear hs; intro a hs) | refine sxc hs ?_ | (refine sxa hs hw ?_; clear hs hw; intro a b W hw hs) | (refine sxs hs hw ?_; clear hs hw; intro W hs hw))
  refine cd_split hs (kt := fun hcc => ?_) (kf := fun hcc => ?_)
  · have hi' : i < l.length := by simpa using hcc
    obtain ⟨o, hoi⟩ : ∃ o, l[i]? = some o := ⟨l[i], List.getElem?_eq_getElem hi'⟩
    have hok := ho o (List.mem_of_getElem? hoi)
    have hacc : (headB c q l.length ++ (l.take i).flatMap opB).length ≤ 320000030 := by
      have h1 := headB_le c q l.length
      have h2 := ops_le (l := l.take i) fun x hx => ho x (List.mem_of_mem_take hx)
      rw [List.length_take] at h2
      rw [List.length_append]; omega
    have hnext : headB c q l.length ++ (l.take (i + 1)).flatMap opB = headB c q l.length ++ (l.take i).flatMap opB ++ opB o := by
      rw [List.take_add_one, hoi, List.flatMap_append, List.append_assoc]; simp
    generalize headB c q l.length ++ (l.take i).flatMap opB = acc at *
    have hp1 := Ph.putI_length_le o.kind
    have hp2 := putT_le o.key
    have hp3 := putR_le o.vk o.vn o.vs
    have hp4 := putR_le o.ok o.on o.os
    have hp5 := Ph.putI_length_le o.n
    obtain ⟨hk, hvk, hvn, hok', hon, hn, hkey, hvs, hos⟩ := hok
    repeat (first | (refine sxv hs hw ?_; clear hs; intro a hs) | refine sxc hs ?_ | (refine sxa hs hw ?_; clear hs hw; intro a b W hw hs) | (refine sxs hs hw ?_; clear hs hw; intro W hs hw))
    refine st_index_op hs (r := hw.rd (by repeat (first | exact In.hd | apply In.tl)) hw.ext.size r) (ho := hoi) (c := ?_); clear hs; intro a p off hpc hs
    refine st_load_ats (z := opCells ⟨0, ⟨#[]⟩, 0, 0, ⟨#[]⟩, 0, 0, ⟨#[]⟩, 0⟩) hs (hc := hpc) (hl := rfl) (c := ?_); clear hs; intro a hs
    obtain ⟨kind, key, vk, vn, vs, ok, on, os, n⟩ := o
    simp only at hk hvk hvn hok' hon hn hkey hvs hos hp1 hp2 hp3 hp4 hp5
    simp only [opCells] at hs
    clear hpc
    repeat (first | (refine sxv hs hw ?_; clear hs; intro a hs) | refine sxc hs ?_ | (refine sxa hs hw ?_; clear hs hw; intro a b W hw hs) | (refine sxs hs hw ?_; clear hs hw; intro W hs hw))
    obtain ⟨b4, q4⟩ := nm1 hw; subst q4
    have hw : Has 0 w _ (Cells b4 [.int .i64 kind, .string key, .int .i64 vk, .int .i64 vn, .string vs, .int .i64 ok, .int .i64 on, .string os, .int .i64 n] 56 :: Sx.OwnB 5 v acc :: Cells b1 [.int .i64 c, .int .i64 q, .slice sad l.length scap] 33 :: Old w 0 :: []) := hw
    have hw := hw.swap2
    obtain ⟨vad, vcap, rfl⟩ := hw.own_slice
    refine st_call hs (hc := ref_Put w _ kind _ hk.1 hk.2 hw) (k := ?_); rintro e0 W1 ⟨ad, cap, rfl, hw1⟩; refine ⟨_, rfl, ?_⟩; clear hs hw; intro a hs; have hw := hw1; clear hw1
    repeat (first | (refine sxv hs hw ?_; clear hs; intro a hs) | refine sxc hs ?_ | (refine sxa hs hw ?_; clear hs hw; intro a b W hw hs) | (refine sxs hs hw ?_; clear hs hw; intro W hs hw))
    have hw := hw.swap2
    refine st_append_b hs hw (l := acc) (m := Ph.putI kind) (hr := src_rd (hw.rd_own (In.tl In.hd)) (bys_one _)) (hb := by first | omega | (simp only [List.length_append]; omega)) (c := ?_); clear hs hw; intro a ad2 cap2 W hs hw
    have hw := hw.drop2
    repeat (first | (refine sxv hs hw ?_; clear hs; intro a hs) | refine sxc hs ?_ | (refine sxa hs hw ?_; clear hs hw; intro a b W hw hs) | (refine sxs hs hw ?_; clear hs hw; intro W hs hw))
    refine st_call hs (hc := ref_PutText w _ key _ (by omega) hw) (k := ?_); rintro e0 W1 ⟨ad, cap, rfl, hw1⟩; refine ⟨_, rfl, ?_⟩; clear hs hw; intro a hs; have hw := hw1; clear hw1
    repeat (first | (refine sxv hs hw ?_; clear hs; intro a hs) | refine sxc hs ?_ | (refine sxa hs hw ?_; clear hs hw; intro a b W hw hs) | (refine sxs hs hw ?_; clear hs hw; intro W hs hw))
    have hw := hw.swap2
    refine st_append_b hs hw (l := acc ++ Ph.putI kind) (m := Ph.putT key.data.toList) (hr := src_rd (hw.rd_own (In.tl In.hd)) (bys_one _)) (hb := by first | omega | (simp only [List.length_append]; omega)) (c := ?_); clear hs hw; intro a ad2 cap2 W hs hw
    have hw := hw.drop2
    repeat (first | (refine sxv hs hw ?_; clear hs; intro a hs) | refine sxc hs ?_ | (refine sxa hs hw ?_; clear hs hw; intro a b W hw hs) | (refine sxs hs hw ?_; clear hs hw; intro W hs hw))
    have hlen2 : (acc ++ Ph.putI kind ++ Ph.putT key.data.toList).length ≤ 322000060 := by simp only [List.length_append]; omega
    generalize hA : acc ++ Ph.putI kind ++ Ph.putT key.data.toList = acc2 at *
    by_cases k1 : kind = 1
    · subst k1
      repeat (first | (refine sxv hs hw ?_; clear hs; intro a hs) | refine sxc hs ?_ | (refine sxa hs hw ?_; clear hs hw; intro a b W hw hs) | (refine sxs hs hw ?_; clear hs hw; intro W hs hw))
      refine st_call hs (hc := ref_PutRaw w _ vk vn vs _ hvk.1 hvk.2 hvn.1 hvn.2 (by omega) hw) (k := ?_); rintro e0 W1 ⟨ad, cap, rfl, hw1⟩; refine ⟨_, rfl, ?_⟩; clear hs hw; intro a hs; have hw := hw1; clear hw1
      repeat (first | (refine sxv hs hw ?_; clear hs; intro a hs) | refine sxc hs ?_ | (refine sxa hs hw ?_; clear hs hw; intro a b W hw hs) | (refine sxs hs hw ?_; clear hs hw; intro W hs hw))
      have hw := hw.swap2
      refine st_append_b hs hw (l := acc2) (m := putR vk vn vs) (hr := src_rd (hw.rd_own (In.tl In.hd)) (bys_one _)) (hb := by first | omega | (simp only [List.length_append]; omega)) (c := ?_); clear hs hw; intro a ad2 cap2 W hs hw
      have hw := hw.drop2
      repeat (first | (refine sxv hs hw ?_; clear hs; intro a hs) | refine sxc hs ?_ | (refine sxa hs hw ?_; clear hs hw; intro a b W hw hs) | (refine sxs hs hw ?_; clear hs hw; intro W hs hw))
      have hw := hw.drop2
      repeat (first | (refine sxv hs hw ?_; clear hs; intro a hs) | refine sxc hs ?_ | (refine sxa hs hw ?_; clear hs hw; intro a b W hw hs) | (refine sxs hs hw ?_; clear hs hw; intro W hs hw))
      rw [show acc2 ++ putR vk vn vs = acc ++ opB ⟨1, key, vk, vn, vs, ok, on, os, n⟩ from by rw [← hA]; simp [opB], ← hnext] at hs hw
      refine st_again (_, i + 1) hs hw (by show i + 1 ≤ l.length; omega) (by show l.length - (i + 1) < l.length - i; omega) ⟨rfl, rfl, int_eq (by show IntKind.i64.wrap ((i : Int) + 1) = ((i + 1 : Nat) : Int); rw [IntWalk.i64_in _ (by omega)]; omega), trivial⟩
    have e1 : (kind == 1) = false := by simpa using k1
    rw [e1] at hs
    repeat (first | (refine sxv hs hw ?_; clear hs; intro a hs) | refine sxc hs ?_ | (refine sxa hs hw ?_; clear hs hw; intro a b W hw hs) | (refine sxs hs hw ?_; clear hs hw; intro W hs hw))
    by_cases k3 : kind = 3
    · subst k3
      repeat (first | (refine sxv hs hw ?_; clear hs; intro a hs) | refine sxc hs ?_ | (refine sxa hs hw ?_; clear hs hw; intro a b W hw hs) | (refine sxs hs hw ?_; clear hs hw; intro W hs hw))
      have hw := hw.free.free
      have hw := hw.perm ((List.Perm.cons _ (List.Perm.swap _ _ _)).trans ((List.Perm.swap _ _ _)))
      refine rg_drawU (σ := Option Addr × Nat) (V := fun u => [(.slice ad2 acc2.length cap2), .pointer (some ⟨b4, 0 + 2, none⟩), .agg ⟨[.int .i64 vk, .int .i64 vn, .string vs]⟩, (.slice (u 3).1 (putR vk vn vs).length (u 3).2), (.slice (u 4).1 (acc2 ++ putR vk vn vs).length (u 4).2), .pointer (some ⟨b4, 0 + 5, none⟩), .agg ⟨[.int .i64 ok, .int .i64 on, .string os]⟩, (.slice (u 7).1 (putR ok on os).length (u 7).2), (.slice (u 8).1 (acc2 ++ putR vk vn vs ++ putR ok on os).length (u 8).2), (.slice (u 9).1 (acc2 ++ putR vk vn vs ++ putR ok on os).length (u 9).2)])
        (Rs := fun u D => (if D 9 then Sx.OwnB 5 (.slice (u 9).1 (acc2 ++ putR vk vn vs ++ putR ok on os).length (u 9).2) (acc2 ++ putR vk vn vs ++ putR ok on os) else if D 8 then Sx.OwnB 5 (.slice (u 8).1 (acc2 ++ putR vk vn vs ++ putR ok on os).length (u 8).2) (acc2 ++ putR vk vn vs ++ putR ok on os) else if D 4 then Sx.OwnB 5 (.slice (u 4).1 (acc2 ++ putR vk vn vs).length (u 4).2) (acc2 ++ putR vk vn vs) else Sx.OwnB 5 (.slice ad2 acc2.length cap2) (acc2)) :: (if D 3 then Sx.OwnB 5 (.slice (u 3).1 (putR vk vn vs).length (u 3).2) (putR vk vn vs) else Free) :: (if D 7 then Sx.OwnB 5 (.slice (u 7).1 (putR ok on os).length (u 7).2) (putR ok on os) else Free) :: Cells b4 [.int .i64 3, .string key, .int .i64 vk, .int .i64 vn, .string vs, .int .i64 ok, .int .i64 on, .string os, .int .i64 n] 56 :: Cells b1 [.int .i64 c, .int .i64 q, .slice sad l.length scap] 33 :: Old w 0 :: []) (fun _ => (none, 0)) hs hw (hVu := ?vu_c) (ho := ⟨?_, ?_, ?_, ?c3_c, ?c4_c, ?_, ?_, ?c7_c, ?c8_c, ?c9_c, trivial⟩) (k := ?k_c)
      case vu_c =>
        intro u u' j h
        rcases j with _ | _ | _ | _ | _ | _ | _ | _ | _ | _ | j
        · rfl
        · rfl
        · rfl
        · simp [h]
        · simp [h]
        · rfl
        · rfl
        · simp [h]
        · simp [h]
        · simp [h]
        · rfl
      case c3_c =>
        intro u LD D a W hcl hi hp hs hw
        have h4 := Go.Sx.not_done hcl hi 4 (by kernel_rfl)
        have h8 := Go.Sx.not_done hcl h4 8 (by kernel_rfl)
        have h9 := Go.Sx.not_done hcl h8 9 (by kernel_rfl)
        simp only [hi, h4, h8, h9, Bool.false_eq_true, if_false] at hw
        refine st_call hs (hc := ref_PutRaw w _ vk vn vs _ hvk.1 hvk.2 hvn.1 hvn.2 (by omega) hw) (k := ?_); rintro e0 W1 ⟨ad, cap, rfl, hw1⟩; refine ⟨_, rfl, ?_⟩; clear hs hw; intro a hs; have hw := hw1; clear hw1
        repeat (first | (refine sxv hs hw ?_; clear hs; intro a hs) | refine sxc hs ?_ | (refine sxa hs hw ?_; clear hs hw; intro a b W hw hs) | (refine sxs hs hw ?_; clear hs hw; intro W hs hw))
        refine Or.inr ⟨(ad, cap), hs, ?_⟩
        show Has 0 w _ ((if (Nat.beq 9 3 || D 9) = true then _ else if (Nat.beq 8 3 || D 8) = true then _ else if (Nat.beq 4 3 || D 4) = true then _ else _) :: _)
        rw [h9, h8, h4]
        exact hw.fill (Upd.tl Upd.hd)
      case c4_c =>
        intro u LD D a W hcl hi hp hs hw
        have h3 := Go.Sx.done hp 3 (by kernel_rfl)
        have h8 := Go.Sx.not_done hcl hi 8 (by kernel_rfl)
        have h9 := Go.Sx.not_done hcl h8 9 (by kernel_rfl)
        simp only [hi, h3, h8, h9, Bool.false_eq_true, if_false, if_true] at hw
        refine st_append_b hs hw (l := acc2) (m := putR vk vn vs) (hr := src_rd (hw.rd_own (In.tl In.hd)) (bys_one _)) (hb := by omega) (c := ?_); clear hs hw; intro a ad cap W hs hw
        repeat (first | (refine sxv hs hw ?_; clear hs; intro a hs) | refine sxc hs ?_ | (refine sxa hs hw ?_; clear hs hw; intro a b W hw hs) | (refine sxs hs hw ?_; clear hs hw; intro W hs hw))
        refine Or.inr ⟨(ad, cap), hs, ?_⟩
        show Has 0 w _ ((if (Nat.beq 9 4 || D 9) = true then _ else if (Nat.beq 8 4 || D 8) = true then _ else _) :: (if (Nat.beq 3 4 || D 3) = true then _ else _) :: _)
        rw [h9, h8, h3]
        exact hw
      case c7_c =>
        intro u LD D a W hcl hi hp hs hw
        have h8 := Go.Sx.not_done hcl hi 8 (by kernel_rfl)
        have h9 := Go.Sx.not_done hcl h8 9 (by kernel_rfl)
        simp only [hi, h8, h9, Bool.false_eq_true, if_false] at hw
        refine st_call hs (hc := ref_PutRaw w _ ok on os _ hok'.1 hok'.2 hon.1 hon.2 (by omega) hw) (k := ?_); rintro e0 W1 ⟨ad, cap, rfl, hw1⟩; refine ⟨_, rfl, ?_⟩; clear hs hw; intro a hs; have hw := hw1; clear hw1
        repeat (first | (refine sxv hs hw ?_; clear hs; intro a hs) | refine sxc hs ?_ | (refine sxa hs hw ?_; clear hs hw; intro a b W hw hs) | (refine sxs hs hw ?_; clear hs hw; intro W hs hw))
        refine Or.inr ⟨(ad, cap), hs, ?_⟩
        show Has 0 w _ ((if (Nat.beq 9 7 || D 9) = true then _ else if (Nat.beq 8 7 || D 8) = true then _ else _) :: _)
        rw [h9, h8]
        exact hw.fill (Upd.tl (Upd.tl Upd.hd))
      case c8_c =>
        intro u LD D a W hcl hi hp hs hw
        have h4 := Go.Sx.done hp 4 (by kernel_rfl)
        have h7 := Go.Sx.done hp 7 (by kernel_rfl)
        have h9 := Go.Sx.not_done hcl hi 9 (by kernel_rfl)
        simp only [hi, h4, h7, h9, Bool.false_eq_true, if_false, if_true] at hw
        refine st_append_b hs hw (l := acc2 ++ putR vk vn vs) (m := putR ok on os) (hr := src_rd (hw.rd_own (In.tl (In.tl In.hd))) (bys_one _)) (hb := by first | omega | (simp only [List.length_append]; omega)) (c := ?_); clear hs hw; intro a ad cap W hs hw
        repeat (first | (refine sxv hs hw ?_; clear hs; intro a hs) | refine sxc hs ?_ | (refine sxa hs hw ?_; clear hs hw; intro a b W hw hs) | (refine sxs hs hw ?_; clear hs hw; intro W hs hw))
        refine Or.inr ⟨(ad, cap), hs, ?_⟩
        show Has 0 w _ ((if (Nat.beq 9 8 || D 9) = true then _ else _) :: _ :: (if (Nat.beq 7 8 || D 7) = true then _ else _) :: _)
        rw [h9, h7]
        exact hw
      case c9_c =>
        intro u LD D a W hcl hi hp hs hw
        have h8 := Go.Sx.done hp 8 (by kernel_rfl)
        simp only [hi, h8, Bool.false_eq_true, if_false, if_true] at hw
        repeat (first | (refine sxv hs hw ?_; clear hs; intro a hs) | refine sxc hs ?_ | (refine sxa hs hw ?_; clear hs hw; intro a b W hw hs) | (refine sxs hs hw ?_; clear hs hw; intro W hs hw))
        exact Or.inr ⟨u 8, hs, hw⟩
      case k_c =>
        clear hs hw
        intro u a W hs hw
        replace hw : Has 0 w W (Sx.OwnB 5 (.slice (u 9).1 (acc2 ++ putR vk vn vs ++ putR ok on os).length (u 9).2) (acc2 ++ putR vk vn vs ++ putR ok on os) :: Sx.OwnB 5 (.slice (u 3).1 (putR vk vn vs).length (u 3).2) (putR vk vn vs) :: Sx.OwnB 5 (.slice (u 7).1 (putR ok on os).length (u 7).2) (putR ok on os) :: Cells b4 [.int .i64 3, .string key, .int .i64 vk, .int .i64 vn, .string vs, .int .i64 ok, .int .i64 on, .string os, .int .i64 n] 56 :: Cells b1 [.int .i64 c, .int .i64 q, .slice sad l.length scap] 33 :: Old w 0 :: []) := hw
        replace hw := hw.drop2.drop2
        replace hs : Slots a 70 [(1, .pointer (some ⟨b1, 0, none⟩)), (3, (.slice (u 9).1 (acc2 ++ putR vk vn vs ++ putR ok on os).length (u 9).2)), (4, .int .i64 (i : Int))] := hs.of ⟨rfl, rfl, rfl, trivial⟩
        generalize (u 9).1 = ad1 at *
        generalize (u 9).2 = cap1 at *
        clear u
        have hw := hw.drop2
        repeat (first | (refine sxv hs hw ?_; clear hs; intro a hs) | refine sxc hs ?_ | (refine sxa hs hw ?_; clear hs hw; intro a b W hw hs) | (refine sxs hs hw ?_; clear hs hw; intro W hs hw))
        rw [show acc2 ++ putR vk vn vs ++ putR ok on os = acc ++ opB ⟨3, key, vk, vn, vs, ok, on, os, n⟩ from by rw [← hA]; simp [opB], ← hnext] at hs hw
        refine st_again (_, i + 1) hs hw (by show i + 1 ≤ l.length; omega) (by show l.length - (i + 1) < l.length - i; omega) ⟨rfl, rfl, int_eq (by show IntKind.i64.wrap ((i : Int) + 1) = ((i + 1 : Nat) : Int); rw [IntWalk.i64_in _ (by omega)]; omega), trivial⟩
      all_goals
        intro u LD D a W hcl hi hp hs hw
        repeat (first | (refine sxv hs hw ?_; clear hs; intro a hs) | refine sxc hs ?_ | (refine sxa hs hw ?_; clear hs hw; intro a b W hw hs) | (refine sxs hs hw ?_; clear hs hw; intro W hs hw))
        exact Or.inl ⟨hs, hw⟩
    have e3 : (kind == 3) = false := by simpa using k3
    rw [e3] at hs
    repeat (first | (refine sxv hs hw ?_; clear hs; intro a hs) | refine sxc hs ?_ | (refine sxa hs hw ?_; clear hs hw; intro a b W hw hs) | (refine sxs hs hw ?_; clear hs hw; intro W hs hw))
    by_cases k4 : kind = 4
    · subst k4
      repeat (first | (refine sxv hs hw ?_; clear hs; intro a hs) | refine sxc hs ?_ | (refine sxa hs hw ?_; clear hs hw; intro a b W hw hs) | (refine sxs hs hw ?_; clear hs hw; intro W hs hw))
      refine st_call hs (hc := ref_Put w _ n _ hn.1 hn.2 hw) (k := ?_); rintro e0 W1 ⟨ad, cap, rfl, hw1⟩; refine ⟨_, rfl, ?_⟩; clear hs hw; intro a hs; have hw := hw1; clear hw1
      repeat (first | (refine sxv hs hw ?_; clear hs; intro a hs) | refine sxc hs ?_ | (refine sxa hs hw ?_; clear hs hw; intro a b W hw hs) | (refine sxs hs hw ?_; clear hs hw; intro W hs hw))
      have hw := hw.swap2
      refine st_append_b hs hw (l := acc2) (m := Ph.putI n) (hr := src_rd (hw.rd_own (In.tl In.hd)) (bys_one _)) (hb := by first | omega | (simp only [List.length_append]; omega)) (c := ?_); clear hs hw; intro a ad2 cap2 W hs hw
      have hw := hw.drop2
      repeat (first | (refine sxv hs hw ?_; clear hs; intro a hs) | refine sxc hs ?_ | (refine sxa hs hw ?_; clear hs hw; intro a b W hw hs) | (refine sxs hs hw ?_; clear hs hw; intro W hs hw))
      have hw := hw.drop2
      repeat (first | (refine sxv hs hw ?_; clear hs; intro a hs) | refine sxc hs ?_ | (refine sxa hs hw ?_; clear hs hw; intro a b W hw hs) | (refine sxs hs hw ?_; clear hs hw; intro W hs hw))
      rw [show acc2 ++ Ph.putI n = acc ++ opB ⟨4, key, vk, vn, vs, ok, on, os, n⟩ from by rw [← hA]; simp [opB], ← hnext] at hs hw
      refine st_again (_, i + 1) hs hw (by show i + 1 ≤ l.length; omega) (by show l.length - (i + 1) < l.length - i; omega) ⟨rfl, rfl, int_eq (by show IntKind.i64.wrap ((i : Int) + 1) = ((i + 1 : Nat) : Int); rw [IntWalk.i64_in _ (by omega)]; omega), trivial⟩
    have e4 : (kind == 4) = false := by simpa using k4
    rw [e4] at hs
    repeat (first | (refine sxv hs hw ?_; clear hs; intro a hs) | refine sxc hs ?_ | (refine sxa hs hw ?_; clear hs hw; intro a b W hw hs) | (refine sxs hs hw ?_; clear hs hw; intro W hs hw))
    have hw := hw.drop2
    repeat (first | (refine sxv hs hw ?_; clear hs; intro a hs) | refine sxc hs ?_ | (refine sxa hs hw ?_; clear hs hw; intro a b W hw hs) | (refine sxs hs hw ?_; clear hs hw; intro W hs hw))
    rw [show acc2 = acc ++ opB ⟨kind, key, vk, vn, vs, ok, on, os, n⟩ from by rw [← hA]; simp [opB, k3, k1, k4], ← hnext] at hs hw
    refine st_again (_, i + 1) hs hw (by show i + 1 ≤ l.length; omega) (by show l.length - (i + 1) < l.length - i; omega) ⟨rfl, rfl, int_eq (by show IntKind.i64.wrap ((i : Int) + 1) = ((i + 1 : Nat) : Int); rw [IntWalk.i64_in _ (by omega)]; omega), trivial⟩
  · have hi' : i = l.length := by have h9 := of_decide_eq_false hcc; omega
    subst hi'
    repeat (first | (refine sxv hs hw ?_; clear hs; intro a hs) | refine sxc hs ?_ | (refine sxa hs hw ?_; clear hs hw; intro a b W hw hs) | (refine sxs hs hw ?_; clear hs hw; intro W hs hw))
    rw [List.take_length] at hw
    have hw := hw.drop2
    obtain ⟨ad, cap, e⟩ : ∃ ad cap, v = .slice ad (textB c q l).length cap := hw.own_slice
    subst e
    exact rt1 hs rfl rfl ⟨ad, cap, rfl, hw⟩
end Go.Proofs.YtcfaicomnngegaaDoor.Sw

/-
  The walks of the reference's MayBatch and EncodeBatch.
-/
set_option linter.unusedVariables false
set_option maxRecDepth 10000
namespace Go.Proofs.YtcfaicomnngegaaDoor.Sw
open Go.RowKit Go.Sx
-- pieces

set_option maxHeartbeats 8000000 in
theorem ref_MayBatch (c q : Int) (l : List OpD) (sv : Value) (w : World) (hc : i64 c) (hq : i64 q) (ho : ∀ o ∈ l, OpOk o) (r : Rd w 9 sv l.length (l.flatMap opCells)) :
    Calls Tryd.prog 34 ⟨[.agg ⟨[.int .i64 c, .int .i64 q, sv]⟩]⟩ w fun e w' => e = .returned (.bool (mayBatch c q l)) ∧ Below w.heap.size w w' := by
  have hw := Has.start (G := 0) (w := w) (Nat.zero_le _)
  obtain ⟨sad, scap, rfl⟩ : ∃ ad cap, sv = .slice ad l.length cap := by obtain ⟨_, ad, cap, e, _⟩ := r; exact ⟨ad, cap, e⟩
  have hlen : l.length ≤ 9223372036854775807 := r.len
  refine enter Tryd.func34 Tryd.ntmps34 rfl rfl fun a hs => ?_
  repeat (first | (refine sxv hs hw ?_; clear hs; intro a hs) | refine sxc hs ?_ | (refine sxa hs hw ?_; clear hs hw; intro a b W hw hs) | (refine sxs hs hw ?_; clear hs hw; intro W hs hw))
  cases h0 : decide (c < 1) with
  | true =>
    rw [h0] at hs
    repeat (first | (refine sxv hs hw ?_; clear hs; intro a hs) | refine sxc hs ?_ | (refine sxa hs hw ?_; clear hs hw; intro a b W hw hs) | (refine sxs hs hw ?_; clear hs hw; intro W hs hw))
    exact rt1 hs rfl rfl ⟨by simp [mayBatch, h0], hw.end (by repeat (first | exact In.hd | apply In.tl))⟩
  | false =>
  rw [h0] at hs
  repeat (first | (refine sxv hs hw ?_; clear hs; intro a hs) | refine sxc hs ?_ | (refine sxa hs hw ?_; clear hs hw; intro a b W hw hs) | (refine sxs hs hw ?_; clear hs hw; intro W hs hw))
  cases h1 : decide (c > 5) with
  | true =>
    rw [h1] at hs
    repeat (first | (refine sxv hs hw ?_; clear hs; intro a hs) | refine sxc hs ?_ | (refine sxa hs hw ?_; clear hs hw; intro a b W hw hs) | (refine sxs hs hw ?_; clear hs hw; intro W hs hw))
    exact rt1 hs rfl rfl ⟨by simp [mayBatch, h0, h1], hw.end (by repeat (first | exact In.hd | apply In.tl))⟩
  | false =>
  rw [h1] at hs
  repeat (first | (refine sxv hs hw ?_; clear hs; intro a hs) | refine sxc hs ?_ | (refine sxa hs hw ?_; clear hs hw; intro a b W hw hs) | (refine sxs hs hw ?_; clear hs hw; intro W hs hw))
  cases h2 : decide (q < 1) with
  | true =>
    rw [h2] at hs
    repeat (first | (refine sxv hs hw ?_; clear hs; intro a hs) | refine sxc hs ?_ | (refine sxa hs hw ?_; clear hs hw; intro a b W hw hs) | (refine sxs hs hw ?_; clear hs hw; intro W hs hw))
    exact rt1 hs rfl rfl ⟨by simp [mayBatch, h0, h1, h2], hw.end (by repeat (first | exact In.hd | apply In.tl))⟩
  | false =>
  rw [h2] at hs
  repeat (first | (refine sxv hs hw ?_; clear hs; intro a hs) | refine sxc hs ?_ | (refine sxa hs hw ?_; clear hs hw; intro a b W hw hs) | (refine sxs hs hw ?_; clear hs hw; intro W hs hw))
  cases h3 : decide (q > 1099511627776) with
  | true =>
    rw [h3] at hs
    repeat (first | (refine sxv hs hw ?_; clear hs; intro a hs) | refine sxc hs ?_ | (refine sxa hs hw ?_; clear hs hw; intro a b W hw hs) | (refine sxs hs hw ?_; clear hs hw; intro W hs hw))
    exact rt1 hs rfl rfl ⟨by simp [mayBatch, h0, h1, h2, h3], hw.end (by repeat (first | exact In.hd | apply In.tl))⟩
  | false =>
  rw [h3] at hs
  repeat (first | (refine sxv hs hw ?_; clear hs; intro a hs) | refine sxc hs ?_ | (refine sxa hs hw ?_; clear hs hw; intro a b W hw hs) | (refine sxs hs hw ?_; clear hs hw; intro W hs hw))
  have hmb : mayBatch c q l = (mayAll l && decide (((textB c q l).length : Int) ≤ 1200)) := by unfold mayBatch mayAll; rw [h0, h1, h2, h3]; simp
  rw [hmb]
  clear hmb h0 h1 h2 h3
  refine st_call hs (hc := ref_mayOps l _ _ ho (hw.rd (by repeat (first | exact In.hd | apply In.tl)) hw.ext.size r)) (k := ?_); rintro e0 W1 ⟨rfl, hb⟩; refine ⟨_, rfl, ?_⟩; clear hs; intro a hs; replace hw := hw.below hb; clear hb
  cases hm : mayAll l with
  | false =>
    rw [hm] at hs
    repeat (first | (refine sxv hs hw ?_; clear hs; intro a hs) | refine sxc hs ?_ | (refine sxa hs hw ?_; clear hs hw; intro a b W hw hs) | (refine sxs hs hw ?_; clear hs hw; intro W hs hw))
    exact rt1 hs rfl rfl ⟨by simp, hw.end (by repeat (first | exact In.hd | apply In.tl))⟩
  | true =>
    rw [hm] at hs
    have h8 : l.length ≤ 8 := by
      unfold mayAll at hm
      simp only [Bool.and_eq_true, Bool.not_eq_true', decide_eq_false_iff_not] at hm
      omega
    repeat (first | (refine sxv hs hw ?_; clear hs; intro a hs) | refine sxc hs ?_ | (refine sxa hs hw ?_; clear hs hw; intro a b W hw hs) | (refine sxs hs hw ?_; clear hs hw; intro W hs hw))
    refine st_call hs (hc := ref_bytesOf c q l _ _ hc hq (by omega) ho (hw.rd (by repeat (first | exact In.hd | apply In.tl)) hw.ext.size r)) (k := ?_); rintro e0 W1 ⟨ad, cap, rfl, hw1⟩; refine ⟨_, rfl, ?_⟩; clear hs; intro a hs; replace hw := hw.call hw1; clear hw1
    repeat (first | (refine sxv hs hw ?_; clear hs; intro a hs) | refine sxc hs ?_ | (refine sxa hs hw ?_; clear hs hw; intro a b W hw hs) | (refine sxs hs hw ?_; clear hs hw; intro W hs hw))
    exact rt1 hs rfl rfl ⟨by simp, hw.end (by repeat (first | exact In.hd | apply In.tl))⟩

end Go.Proofs.YtcfaicomnngegaaDoor.Sw

/-
  The reference's fold: Next.
-/
set_option linter.unusedVariables false
set_option maxRecDepth 10000
namespace Go.Sx
theorem abs2 {G : Nat} {w W : World} {q : Res} {R : List Res} {b : Nat} {cs : List Value} {T : TypeId} (h : Has G w W (q :: Cells b cs T :: R)) : ∃ z : List Value, z.length = cs.length ∧ Has G w W (q :: Cells b z T :: R) := ⟨cs, rfl, h⟩
theorem ov_left (ls ts vs : List Value) (o : Nat) (h : o + vs.length ≤ ls.length) : ov (ls ++ ts) o vs = ov ls o vs ++ ts := by
  rw [ov_eq _ _ _ (by simp; omega), ov_eq _ _ _ h, List.take_append_of_le_length (by omega), List.drop_append_of_le_length h]
  simp
theorem ov_right (ls ts vs : List Value) (o : Nat) (h : o + vs.length ≤ ts.length) : ov (ls ++ ts) (ls.length + o) vs = ls ++ ov ts o vs := by
  rw [ov_eq _ _ _ (by simp; omega), ov_eq _ _ _ h]
  rw [List.take_append, List.take_of_length_le (by omega), List.drop_append, List.drop_of_length_le (by omega)]
  rw [show ls.length + o - ls.length = o by omega, show ls.length + o + vs.length - ls.length = o + vs.length by omega]
  simp
end Go.Sx
namespace Go.Proofs.YtcfaicomnngegaaDoor.Sw
open Go.RowKit Go.Sx

instance arL : Ar Tryd.prog 42 6 2 := ⟨by kernel_rfl⟩
instance arR : Ar Tryd.prog 43 6 36 := ⟨by kernel_rfl⟩
abbrev rfC (pl : Int) (dv : Value) (ls ts : List Value) : List Value := .int .i64 pl :: dv :: (ls ++ ts)
def NumIn (x : Int × RowD) (c : List Value) : Prop := c = [.int .i64 x.1]
def ToRow (H : Fh) (x : Int × RowD) (c : List Value) : Prop := RowIn H x.2 c
/-- The reference's fold, its cells. -/
def RfIn (H : Fh) (f : FoldD) (cs : List Value) : Prop := ∃ dv ls ts, cs = rfC f.place dv ls ts ∧ DocH H dv f.d ∧ f.told.length = 6 ∧ Ch NumIn f.told ls ∧ Ch (ToRow H) f.told ts
theorem NumIn.len : ∀ (x : Int × RowD) (c : List Value), NumIn x c → c.length = 1 := by rintro x c rfl; rfl
theorem ToRow.len {H : Fh} : ∀ (x : Int × RowD) (c : List Value), ToRow H x c → c.length = 5 := fun x c h => RowIn.len x.2 c h
theorem rf_len {H : Fh} {told : List (Int × RowD)} {ls ts : List Value} (h6 : told.length = 6) (hl : Ch NumIn told ls) (ht : Ch (ToRow H) told ts) : ls.length = 6 ∧ ts.length = 30 := by
  have h1 := hl.length NumIn.len
  have h2 := ht.length ToRow.len
  rw [h6] at h1 h2
  exact ⟨by omega, by omega⟩
theorem RfIn.len {H : Fh} {f : FoldD} {cs : List Value} (h : RfIn H f cs) : cs.length = 38 := by
  obtain ⟨dv, ls, ts, rfl, _, h6, hl, ht⟩ := h
  obtain ⟨h1, h2⟩ := rf_len h6 hl ht
  simp [h1, h2]
theorem RfIn.one {H : Fh} {f : FoldD} {cs : List Value} (h : RfIn H f cs) : cs.all (·.oneCell') = true := by
  obtain ⟨dv, ls, ts, rfl, hd, h6, hl, ht⟩ := h
  obtain ⟨dad, dcap, rfl⟩ := hd.slice
  rw [List.all_eq_true]
  intro v hv
  simp only [rfC, List.mem_cons, List.mem_append] at hv
  rcases hv with rfl | rfl | hv | hv
  · rfl
  · rfl
  · exact hl.ones (fun x c hc v hv => by cases hc; simp only [List.mem_singleton] at hv; subst hv; rfl) v hv
  · exact ht.ones (fun x c hc => RowIn.ones x.2 c hc) v hv
theorem RfIn.le {H H' : Fh} {f : FoldD} {cs : List Value} (hle : H.le H') (h : RfIn H f cs) : RfIn H' f cs := by
  obtain ⟨dv, ls, ts, rfl, hd, h6, hl, ht⟩ := h
  exact ⟨dv, ls, ts, rfl, RdH.le hd hle, h6, hl, ht.mono fun x c hc => RowIn.le hle x.2 c hc⟩
theorem lastOf_at {f : FoldD} {c : Int} (h1 : 1 ≤ c) (h5 : c ≤ 5) {x : Int × RowD} (hx : f.told[c.toNat]? = some x) : lastOf f c = x.1 := by
  unfold lastOf
  rw [if_pos ⟨h1, h5⟩, hx]; rfl

set_option maxHeartbeats 16000000 in
theorem ref7_Next (w0 W : World) (H : Fh) (f : FoldD) (bt : BatchD) (cs : List Value) (sv : Value) (R : List Res) (hf : RfIn H f cs) (hd : DocOk f.d) (hb : BatOk bt) (hr : OpsH H sv bt.l) (hw : Has 0 w0 W (Fz H :: R)) :
    Calls Tryd.prog 25 ⟨[.agg ⟨cs⟩, .agg ⟨batCells bt sv⟩]⟩ W fun e W' => ∃ cs' sv' H', e = .returned (.tuple ⟨[.agg ⟨cs'⟩, .agg ⟨rowCells (next f bt).2.1 sv'⟩, .bool (next f bt).2.2]⟩) ∧ H.le H' ∧ RfIn H' (next f bt).1 cs' ∧ OpsH H' sv' (next f bt).2.1.b.l ∧ Has 0 w0 W' (Fz H' :: R) := by
  obtain ⟨sad, scap, rfl⟩ := hr.slice
  have hlen0 := hf.len
  have hone0 := hf.one
  refine enter Tryd.func25 Tryd.ntmps25 rfl rfl fun a hs => ?_
  repeat (first | (refine sxv hs hw ?_; clear hs; intro a hs) | refine sxc hs ?_ | (refine sxa hs hw ?_; clear hs hw; intro a b W hw hs) | (refine sxs hs hw ?_; clear hs hw; intro W hs hw))
  obtain ⟨b5, q5⟩ := nm1 hw; subst q5
  obtain ⟨b4, q4⟩ := nm2 hw; subst q4
  obtain ⟨b3, q3⟩ := nm3 hw; subst q3
  obtain ⟨z4, hz4, hw⟩ := abs2 hw
  replace hz4 : z4.length = 38 := hz4
  obtain ⟨b2, q2⟩ : ∃ b2, Has 0 w0 W (Cells b5 zrc 36 :: Cells b4 z4 45 :: Cells b3 (batCells bt (.slice sad bt.l.length scap)) 33 :: Cells b2 cs 45 :: Fz H :: R) ∧ Slots a 58 [(2, .pointer (some ⟨b2, 0, none⟩)), (3, .pointer (some ⟨b3, 0, none⟩)), (4, .pointer (some ⟨b4, 0, none⟩)), (5, .pointer (some ⟨b5, 0, none⟩)), (6, .bool false)] := ⟨_, hw, hs.of ⟨rfl, rfl, rfl, rfl, rfl, trivial⟩⟩
  clear hs hw
  obtain ⟨hw, hs⟩ := q2
  have back : ∀ (a : Act) (W : World), Slots a 58 [(2, .pointer (some ⟨b2, 0, none⟩)), (4, .pointer (some ⟨b4, 0, none⟩)), (5, .pointer (some ⟨b5, 0, none⟩))] → True := fun _ _ _ => trivial
  clear back
  cases hm : mayB bt with
  | false =>
    have hN : next f bt = (f, zeroRow, false) := by unfold next nextB; rw [hm]; rfl
    rw [hN]
    refine rg_draw (V := [.agg ⟨batCells bt (.slice sad bt.l.length scap)⟩, .bool false, .bool true, .bool true, undef, undef, undef, undef, undef, undef, undef, undef, undef, .bool true])
      (Rs := fun D => Cells b5 zrc 36 :: Cells b4 z4 45 :: Cells b3 (batCells bt (.slice sad bt.l.length scap)) 33 :: Cells b2 cs 45 :: Fz H :: R) hs hw (ho := ⟨?_, ?c1_1, ?_, ?_, ?_, ?_, ?_, ?_, ?_, ?_, ?_, ?_, ?_, ?_, trivial⟩) (k := ?k_1)
    case c1_1 =>
      intro LD D a W hcl hi hp hs hw
      repeat (first | (refine sxv hs hw ?_; clear hs; intro a hs) | refine sxc hs ?_ | (refine sxa hs hw ?_; clear hs hw; intro a b W hw hs) | (refine sxs hs hw ?_; clear hs hw; intro W hs hw))
      refine st_call hs (hc := ref_MayBatch bt.c bt.q bt.l _ _ hb.c hb.q hb.ops (hw.rdH (by repeat (first | exact In.hd | apply In.tl)) hr)) (k := ?_); rintro e0 W1 ⟨rfl, hb⟩; refine ⟨_, rfl, ?_⟩; clear hs; intro a hs; replace hw := hw.below hb; clear hb
      rw [show mayBatch bt.c bt.q bt.l = mayB bt from rfl, hm] at hs
      repeat (first | (refine sxv hs hw ?_; clear hs; intro a hs) | refine sxc hs ?_ | (refine sxa hs hw ?_; clear hs hw; intro a b W hw hs) | (refine sxs hs hw ?_; clear hs hw; intro W hs hw))
      exact ⟨hs, hw⟩
    case k_1 =>
      clear hs hw
      intro a W hs hw
      repeat (first | (refine sxv hs hw ?_; clear hs; intro a hs) | refine sxc hs ?_ | (refine sxa hs hw ?_; clear hs hw; intro a b W hw hs) | (refine sxs hs hw ?_; clear hs hw; intro W hs hw))
      refine st_load_agg hs (hw := hw) (hi := In.tl (In.tl (In.tl In.hd))) (hl := by rw [hlen0]; rfl) (k := ?_); clear hs; intro a hs
      replace hs : Slots a 58 [(24, .agg ⟨cs⟩), (2, .pointer (some ⟨b2, 0, none⟩)), (4, .pointer (some ⟨b4, 0, none⟩)), (5, .pointer (some ⟨b5, 0, none⟩))] := hs.of ⟨congrArg (fun x => some (Value.agg ⟨x⟩)) (cut_all _ 38 hlen0), rfl, rfl, rfl, trivial⟩
      repeat (first | (refine sxv hs hw ?_; clear hs; intro a hs) | refine sxc hs ?_ | (refine sxa hs hw ?_; clear hs hw; intro a b W hw hs) | (refine sxs hs hw ?_; clear hs hw; intro W hs hw))
      refine st_store hs (vs := cs) (hw := hw) (hz := by rw [hlen0]; rfl) (h1 := hone0) (hl := by rw [hlen0, hz4]; rfl) (k := ?_); clear hs hw; intro W hs hw
      rw [ov_all _ _ (by rw [hlen0, hz4])] at hw
      repeat (first | (refine sxv hs hw ?_; clear hs; intro a hs) | refine sxc hs ?_ | (refine sxa hs hw ?_; clear hs hw; intro a b W hw hs) | (refine sxs hs hw ?_; clear hs hw; intro W hs hw))
      refine rk3 hs rfl rfl rfl hw (In.tl In.hd) In.hd (by rw [hlen0]; rfl) rfl rfl ?_
      exact ⟨cs, .slice none 0 0, H, by show Ending.returned (Value.tuple #[.agg ⟨cut cs 0 38⟩, _, .bool false]) = _; rw [cut_all _ _ hlen0]; rfl, Fh.le.refl _, hf, ops_nil H, hw.sub (List.Sublist.cons _ (List.Sublist.cons _ (List.Sublist.cons _ (List.Sublist.cons _ (List.Sublist.refl _)))))⟩
    all_goals
      intro LD D a W hcl hi hp hs hw
      repeat (first | (refine sxv hs hw ?_; clear hs; intro a hs) | refine sxc hs ?_ | (refine sxa hs hw ?_; clear hs hw; intro a b W hw hs) | (refine sxs hs hw ?_; clear hs hw; intro W hs hw))
      exact ⟨hs, hw⟩
  | true =>
  obtain ⟨⟨hc1, hc5⟩, ⟨hq1, hq2⟩, hl8⟩ := may_parts hm
  obtain ⟨dv, ls, ts, rfl, hdv, h6, hls, hts⟩ := hf
  obtain ⟨dad, dcap, rfl⟩ := hdv.slice
  obtain ⟨hll, htl⟩ := rf_len h6 hls hts
  obtain ⟨x, hx⟩ : ∃ x, f.told[bt.c.toNat]? = some x := ⟨f.told[bt.c.toNat]'(by rw [h6]; omega), List.getElem?_eq_getElem _⟩
  have hX := lastOf_at hc1 hc5 hx
  have hat : (rfC f.place (.slice dad f.d.length dcap) ls ts)[0 + 2 + bt.c.toNat * 1]? = some (.int .i64 (lastOf f bt.c)) := by
    obtain ⟨c, h1, h2, h3⟩ := hls.get NumIn.len hx
    rw [show 0 + 2 + bt.c.toNat * 1 = bt.c.toNat * 1 + 1 + 1 by omega]
    show (ls ++ ts)[bt.c.toNat * 1]? = _
    rw [List.getElem?_append_left (by omega)]
    have := congrArg (fun t => t[0]?) h3
    rw [show c = [Value.int .i64 x.1] from h1] at this
    simp only [cut_eq, List.getElem?_take, List.getElem?_drop, Nat.add_zero] at this
    rw [hX]
    simpa using this
  refine rg_draw (V := [.agg ⟨batCells bt (.slice sad bt.l.length scap)⟩, .bool true, .bool false, .bool false, .pointer (some ⟨b3, 0 + 1, none⟩), .int .i64 bt.q, .pointer (some ⟨b3, 0 + 0, none⟩), .int .i64 bt.c, .pointer (some ⟨b2, 0 + 2, none⟩), .pointer (some ⟨b2, 0 + 2 + bt.c.toNat * 1, none⟩), .int .i64 (lastOf f bt.c), .int .i64 (IntKind.i64.wrap (lastOf f bt.c + 1)), .bool (bt.q != IntKind.i64.wrap (lastOf f bt.c + 1)), .bool (bt.q != IntKind.i64.wrap (lastOf f bt.c + 1))])
    (Rs := fun D => Cells b5 zrc 36 :: Cells b4 z4 45 :: Cells b3 (batCells bt (.slice sad bt.l.length scap)) 33 :: Cells b2 (rfC f.place (.slice dad f.d.length dcap) ls ts) 45 :: Fz H :: R) hs hw (ho := ⟨?_, ?c1_2, ?_, ?_, ?_, ?_, ?_, ?_, ?_, ?c9_2, ?c10_2, ?_, ?_, ?_, trivial⟩) (k := ?k_2)
  case c1_2 =>
    intro LD D a W hcl hi hp hs hw
    repeat (first | (refine sxv hs hw ?_; clear hs; intro a hs) | refine sxc hs ?_ | (refine sxa hs hw ?_; clear hs hw; intro a b W hw hs) | (refine sxs hs hw ?_; clear hs hw; intro W hs hw))
    refine st_call hs (hc := ref_MayBatch bt.c bt.q bt.l _ _ hb.c hb.q hb.ops (hw.rdH (by repeat (first | exact In.hd | apply In.tl)) hr)) (k := ?_); rintro e0 W1 ⟨rfl, hb⟩; refine ⟨_, rfl, ?_⟩; clear hs; intro a hs; replace hw := hw.below hb; clear hb
    rw [show mayBatch bt.c bt.q bt.l = mayB bt from rfl, hm] at hs
    repeat (first | (refine sxv hs hw ?_; clear hs; intro a hs) | refine sxc hs ?_ | (refine sxa hs hw ?_; clear hs hw; intro a b W hw hs) | (refine sxs hs hw ?_; clear hs hw; intro W hs hw))
    exact ⟨hs, hw⟩
  case c9_2 =>
    intro LD D a W hcl hi hp hs hw
    repeat (first | (refine sxv hs hw ?_; clear hs; intro a hs) | refine sxc hs ?_ | (refine sxa hs hw ?_; clear hs hw; intro a b W hw hs) | (refine sxs hs hw ?_; clear hs hw; intro W hs hw))
    refine st_index_arr hs (h0 := by omega) (h1 := by omega) (c := ?_); clear hs; intro a hs
    repeat (first | (refine sxv hs hw ?_; clear hs; intro a hs) | refine sxc hs ?_ | (refine sxa hs hw ?_; clear hs hw; intro a b W hw hs) | (refine sxs hs hw ?_; clear hs hw; intro W hs hw))
    exact ⟨hs, hw⟩
  case c10_2 =>
    intro LD D a W hcl hi hp hs hw
    repeat (first | (refine sxv hs hw ?_; clear hs; intro a hs) | refine sxc hs ?_ | (refine sxa hs hw ?_; clear hs hw; intro a b W hw hs) | (refine sxs hs hw ?_; clear hs hw; intro W hs hw))
    refine st_load_one hs (hw := hw) (hi := In.tl (In.tl (In.tl In.hd))) (hv := hat) (k := ?_); clear hs; intro a hs
    repeat (first | (refine sxv hs hw ?_; clear hs; intro a hs) | refine sxc hs ?_ | (refine sxa hs hw ?_; clear hs hw; intro a b W hw hs) | (refine sxs hs hw ?_; clear hs hw; intro W hs hw))
    exact ⟨hs, hw⟩
  case k_2 =>
    clear hs hw
    intro a W hs hw
    replace hw : Has 0 w0 W (Cells b5 zrc 36 :: Cells b4 z4 45 :: Cells b3 (batCells bt (.slice sad bt.l.length scap)) 33 :: Cells b2 (rfC f.place (.slice dad f.d.length dcap) ls ts) 45 :: Fz H :: R) := hw
    replace hs : Slots a 58 [(23, .bool (bt.q != IntKind.i64.wrap (lastOf f bt.c + 1))), (2, .pointer (some ⟨b2, 0, none⟩)), (3, .pointer (some ⟨b3, 0, none⟩)), (4, .pointer (some ⟨b4, 0, none⟩)), (5, .pointer (some ⟨b5, 0, none⟩)), (6, .bool false)] := hs.of ⟨rfl, rfl, rfl, rfl, rfl, rfl, trivial⟩
    repeat (first | (refine sxv hs hw ?_; clear hs; intro a hs) | refine sxc hs ?_ | (refine sxa hs hw ?_; clear hs hw; intro a b W hw hs) | (refine sxs hs hw ?_; clear hs hw; intro W hs hw))
    cases hq : (bt.q != IntKind.i64.wrap (lastOf f bt.c + 1)) with
    | true =>
      have hN : next f bt = (f, zeroRow, false) := by
        unfold next nextB
        have : (bt.q == IntKind.i64.wrap (lastOf f bt.c + 1)) = false := by simpa using hq
        rw [hm, this]; rfl
      rw [hN]
      rw [hq] at hs
      repeat (first | (refine sxv hs hw ?_; clear hs; intro a hs) | refine sxc hs ?_ | (refine sxa hs hw ?_; clear hs hw; intro a b W hw hs) | (refine sxs hs hw ?_; clear hs hw; intro W hs hw))
      refine st_load_agg hs (hw := hw) (hi := In.tl (In.tl (In.tl In.hd))) (hl := by rw [hlen0]; rfl) (k := ?_); clear hs; intro a hs
      replace hs : Slots a 58 [(24, .agg ⟨rfC f.place (.slice dad f.d.length dcap) ls ts⟩), (2, .pointer (some ⟨b2, 0, none⟩)), (4, .pointer (some ⟨b4, 0, none⟩)), (5, .pointer (some ⟨b5, 0, none⟩))] := hs.of ⟨congrArg (fun x => some (Value.agg ⟨x⟩)) (cut_all _ 38 hlen0), rfl, rfl, rfl, trivial⟩
      repeat (first | (refine sxv hs hw ?_; clear hs; intro a hs) | refine sxc hs ?_ | (refine sxa hs hw ?_; clear hs hw; intro a b W hw hs) | (refine sxs hs hw ?_; clear hs hw; intro W hs hw))
      refine st_store hs (vs := rfC f.place (.slice dad f.d.length dcap) ls ts) (hw := hw) (hz := by rw [hlen0]; rfl) (h1 := hone0) (hl := by rw [hlen0, hz4]; rfl) (k := ?_); clear hs hw; intro W hs hw
      rw [ov_all _ _ (by rw [hlen0, hz4])] at hw
      repeat (first | (refine sxv hs hw ?_; clear hs; intro a hs) | refine sxc hs ?_ | (refine sxa hs hw ?_; clear hs hw; intro a b W hw hs) | (refine sxs hs hw ?_; clear hs hw; intro W hs hw))
      refine rk3 hs rfl rfl rfl hw (In.tl In.hd) In.hd (by rw [hlen0]; rfl) rfl rfl ?_
      exact ⟨rfC f.place (.slice dad f.d.length dcap) ls ts, .slice none 0 0, H, by show Ending.returned (Value.tuple #[.agg ⟨cut (rfC f.place (.slice dad f.d.length dcap) ls ts) 0 38⟩, _, .bool false]) = _; rw [cut_all _ _ hlen0]; rfl, Fh.le.refl _, ⟨_, ls, ts, rfl, hdv, h6, hls, hts⟩, ops_nil H, hw.sub (List.Sublist.cons _ (List.Sublist.cons _ (List.Sublist.cons _ (List.Sublist.cons _ (List.Sublist.refl _)))))⟩
    | false =>
    have hN : next f bt = (nextF f bt, nextR f bt, true) := by
      unfold next nextB
      have : (bt.q == IntKind.i64.wrap (lastOf f bt.c + 1)) = true := by simpa using hq
      rw [hm, this]; rfl
    rw [hN]
    rw [hq] at hs
    repeat (first | (refine sxv hs hw ?_; clear hs; intro a hs) | refine sxc hs ?_ | (refine sxa hs hw ?_; clear hs hw; intro a b W hw hs) | (refine sxs hs hw ?_; clear hs hw; intro W hs hw))
    have hw : Has 0 w0 W (Fz H :: Cells b5 zrc 36 :: Cells b4 z4 45 :: Cells b3 (batCells bt (.slice sad bt.l.length scap)) 33 :: Cells b2 (rfC f.place (.slice dad f.d.length dcap) ls ts) 45 :: R) := hw.perm (by repeat (first | exact List.Perm.refl _ | refine perm_pick (by repeat (first | exact Pick.hd | apply Pick.tl)) ?_))
    replace hs : Slots a 58 [(28, .agg ⟨[.slice dad f.d.length dcap]⟩), (30, .slice sad bt.l.length scap), (2, .pointer (some ⟨b2, 0, none⟩)), (3, .pointer (some ⟨b3, 0, none⟩)), (4, .pointer (some ⟨b4, 0, none⟩)), (5, .pointer (some ⟨b5, 0, none⟩)), (6, .bool false)] := hs.of ⟨congrArg (fun x => some (Value.agg ⟨x⟩)) (by rw [cut_eq]; rfl), rfl, rfl, rfl, rfl, rfl, rfl, trivial⟩
    refine st_call hs (hc := ref_Apply w0 _ H f.d _ bt.l _ _ hd hb.ops hdv hr hw) (k := ?_); rintro e0 W1 ⟨nv, H1, rfl, hle, hnv, hw1⟩; refine ⟨_, rfl, ?_⟩; clear hs hw; intro a hs; have hw := hw1; clear hw1
    obtain ⟨nad, ncap, rfl⟩ := hnv.slice
    repeat (first | (refine sxv hs hw ?_; clear hs; intro a hs) | refine sxc hs ?_ | (refine sxa hs hw ?_; clear hs hw; intro a b W hw hs) | (refine sxs hs hw ?_; clear hs hw; intro W hs hw))
    obtain ⟨b9, q9⟩ := nm1 hw; subst q9
    obtain ⟨b7, q7⟩ := nm2 hw; subst q7
    replace hw : Has 0 w0 _ (Cells b9 (rowCells (nextR f bt) (.slice sad bt.l.length scap)) 36 :: Cells b7 [.slice nad (applyL f.d bt.l).2.length ncap] 41 :: Fz H1 :: Cells b5 zrc 36 :: Cells b4 z4 45 :: Cells b3 (batCells bt (.slice sad bt.l.length scap)) 33 :: Cells b2 (ov (ov (rfC f.place (.slice dad f.d.length dcap) ls ts) (0 + 1) [.slice nad (applyL f.d bt.l).2.length ncap]) (0 + 0) [.int .i64 (IntKind.i64.wrap (f.place + 1))]) 45 :: R) := hw
    rw [ov_one, ov_one] at hw
    replace hw : Has 0 w0 _ (Cells b9 (rowCells (nextR f bt) (.slice sad bt.l.length scap)) 36 :: Cells b7 [.slice nad (applyL f.d bt.l).2.length ncap] 41 :: Fz H1 :: Cells b5 zrc 36 :: Cells b4 z4 45 :: Cells b3 (batCells bt (.slice sad bt.l.length scap)) 33 :: Cells b2 (rfC (IntKind.i64.wrap (f.place + 1)) (.slice nad (applyL f.d bt.l).2.length ncap) ls ts) 45 :: R) := hw
    refine st_index_arr hs (h0 := by omega) (h1 := by omega) (c := ?_); clear hs; intro a hs
    refine st_store hs (vs := [.int .i64 bt.q]) (hw := hw) (hl := by show Nat.ble (0 + 2 + bt.c.toNat * 1 + 1) ((ls ++ ts).length + 1 + 1) = true; rw [Nat.ble_eq, List.length_append]; omega) (k := ?_); clear hs hw; intro W hs hw
    have e1 : ov (rfC (IntKind.i64.wrap (f.place + 1)) (.slice nad (applyL f.d bt.l).2.length ncap) ls ts) (0 + 2 + bt.c.toNat * 1) [.int .i64 bt.q] = (rfC (IntKind.i64.wrap (f.place + 1)) (.slice nad (applyL f.d bt.l).2.length ncap) (ov ls (bt.c.toNat * 1) [.int .i64 bt.q]) ts) := by
      rw [show 0 + 2 + bt.c.toNat * 1 = bt.c.toNat * 1 + 1 + 1 by omega]
      exact congrArg (fun t => Value.int .i64 (IntKind.i64.wrap (f.place + 1)) :: (.slice nad (applyL f.d bt.l).2.length ncap) :: t) (ov_left ls ts [.int .i64 bt.q] (bt.c.toNat * 1) (by rw [hll]; show bt.c.toNat * 1 + 1 ≤ 6; omega))
    replace hw : Has 0 w0 W (Cells b9 (rowCells (nextR f bt) (.slice sad bt.l.length scap)) 36 :: Cells b7 [.slice nad (applyL f.d bt.l).2.length ncap] 41 :: Fz H1 :: Cells b5 zrc 36 :: Cells b4 z4 45 :: Cells b3 (batCells bt (.slice sad bt.l.length scap)) 33 :: Cells b2 (rfC (IntKind.i64.wrap (f.place + 1)) (.slice nad (applyL f.d bt.l).2.length ncap) (ov ls (bt.c.toNat * 1) [.int .i64 bt.q]) ts) 45 :: R) := e1 ▸ hw
    have hls2 : Ch NumIn (f.told.set bt.c.toNat (bt.q, nextR f bt)) (ov ls (bt.c.toNat * 1) [.int .i64 bt.q]) := hls.set NumIn.len (by rw [h6]; omega) rfl
    have hr1 := hr.le hle
    have hts2 : Ch (ToRow H1) (f.told.set bt.c.toNat (bt.q, nextR f bt)) (ov ts (bt.c.toNat * 5) (rowCells (nextR f bt) (.slice sad bt.l.length scap))) := (hts.mono fun x c hc => RowIn.le hle x.2 c hc).set ToRow.len (by rw [h6]; omega) ⟨_, rfl, hr1⟩
    have h62 : (f.told.set bt.c.toNat (bt.q, nextR f bt)).length = 6 := by rw [List.length_set]; exact h6
    obtain ⟨hll2, htl2⟩ := rf_len h62 hls2 hts2
    repeat (first | (refine sxv hs hw ?_; clear hs; intro a hs) | refine sxc hs ?_ | (refine sxa hs hw ?_; clear hs hw; intro a b W hw hs) | (refine sxs hs hw ?_; clear hs hw; intro W hs hw))
    refine st_index_arr hs (h0 := by omega) (h1 := by omega) (c := ?_); clear hs; intro a hs
    refine st_store hs (vs := (rowCells (nextR f bt) (.slice sad bt.l.length scap))) (hw := hw) (hl := by show Nat.ble (0 + 8 + bt.c.toNat * 5 + 5) (((ov ls (bt.c.toNat * 1) [.int .i64 bt.q]) ++ ts).length + 1 + 1) = true; rw [Nat.ble_eq, List.length_append]; omega) (k := ?_); clear hs hw; intro W hs hw
    have e2 : ov (rfC (IntKind.i64.wrap (f.place + 1)) (.slice nad (applyL f.d bt.l).2.length ncap) (ov ls (bt.c.toNat * 1) [.int .i64 bt.q]) ts) (0 + 8 + bt.c.toNat * 5) (rowCells (nextR f bt) (.slice sad bt.l.length scap)) = (rfC (IntKind.i64.wrap (f.place + 1)) (.slice nad (applyL f.d bt.l).2.length ncap) (ov ls (bt.c.toNat * 1) [.int .i64 bt.q]) (ov ts (bt.c.toNat * 5) (rowCells (nextR f bt) (.slice sad bt.l.length scap)))) := by
      rw [show 0 + 8 + bt.c.toNat * 5 = ((ov ls (bt.c.toNat * 1) [.int .i64 bt.q]).length + bt.c.toNat * 5) + 1 + 1 by omega]
      exact congrArg (fun t => Value.int .i64 (IntKind.i64.wrap (f.place + 1)) :: (.slice nad (applyL f.d bt.l).2.length ncap) :: t) (ov_right (ov ls (bt.c.toNat * 1) [.int .i64 bt.q]) ts (rowCells (nextR f bt) (.slice sad bt.l.length scap)) (bt.c.toNat * 5) (by rw [htl]; show bt.c.toNat * 5 + 5 ≤ 30; omega))
    replace hw : Has 0 w0 W (Cells b9 (rowCells (nextR f bt) (.slice sad bt.l.length scap)) 36 :: Cells b7 [.slice nad (applyL f.d bt.l).2.length ncap] 41 :: Fz H1 :: Cells b5 zrc 36 :: Cells b4 z4 45 :: Cells b3 (batCells bt (.slice sad bt.l.length scap)) 33 :: Cells b2 (rfC (IntKind.i64.wrap (f.place + 1)) (.slice nad (applyL f.d bt.l).2.length ncap) (ov ls (bt.c.toNat * 1) [.int .i64 bt.q]) (ov ts (bt.c.toNat * 5) (rowCells (nextR f bt) (.slice sad bt.l.length scap)))) 45 :: R) := e2 ▸ hw
    have hnew : RfIn H1 (nextF f bt) (rfC (IntKind.i64.wrap (f.place + 1)) (.slice nad (applyL f.d bt.l).2.length ncap) (ov ls (bt.c.toNat * 1) [.int .i64 bt.q]) (ov ts (bt.c.toNat * 5) (rowCells (nextR f bt) (.slice sad bt.l.length scap)))) := ⟨_, _, _, rfl, hnv, h62, hls2, hts2⟩
    have hlenN := hnew.len
    have honeN := hnew.one
    obtain ⟨cN, hcN⟩ : ∃ c, c = (rfC (IntKind.i64.wrap (f.place + 1)) (.slice nad (applyL f.d bt.l).2.length ncap) (ov ls (bt.c.toNat * 1) [.int .i64 bt.q]) (ov ts (bt.c.toNat * 5) (rowCells (nextR f bt) (.slice sad bt.l.length scap)))) := ⟨_, rfl⟩
    rw [← hcN] at hw hnew hlenN honeN
    replace hs : Slots a 58 [(2, .pointer (some ⟨b2, 0, none⟩)), (4, .pointer (some ⟨b4, 0, none⟩)), (5, .pointer (some ⟨b5, 0, none⟩)), (6, .bool false), (9, .pointer (some ⟨b9, 0, none⟩))] := hs.of ⟨rfl, rfl, rfl, rfl, rfl, trivial⟩
    repeat (first | (refine sxv hs hw ?_; clear hs; intro a hs) | refine sxc hs ?_ | (refine sxa hs hw ?_; clear hs hw; intro a b W hw hs) | (refine sxs hs hw ?_; clear hs hw; intro W hs hw))
    refine rg_draw (V := [.agg ⟨cN⟩, .agg ⟨(rowCells (nextR f bt) (.slice sad bt.l.length scap))⟩, .bool true, .bool true, .bool true])
      (Rs := fun D => Cells b9 (rowCells (nextR f bt) (.slice sad bt.l.length scap)) 36 :: Cells b7 [.slice nad (applyL f.d bt.l).2.length ncap] 41 :: Fz H1 :: Cells b5 (if D 3 then (rowCells (nextR f bt) (.slice sad bt.l.length scap)) else zrc) 36 :: Cells b4 (if D 2 then cN else z4) 45 :: Cells b3 (batCells bt (.slice sad bt.l.length scap)) 33 :: Cells b2 cN 45 :: R) hs hw (ho := ⟨?c0_3, ?_, ?c2_3, ?c3_3, ?_, trivial⟩) (k := ?k_3)
    case c0_3 =>
      intro LD D a W hcl hi hp hs hw
      refine st_load_agg hs (hw := hw) (hi := In.tl (In.tl (In.tl (In.tl (In.tl (In.tl In.hd)))))) (hl := by rw [hlenN]; rfl) (k := ?_); clear hs; intro a hs
      have hs2 : Slots a 58 ((56, .agg ⟨cut cN 0 38⟩) :: _) := hs
      rw [cut_all _ _ hlenN] at hs2
      repeat (first | (refine sxv hs hw ?_; clear hs; intro a hs) | refine sxc hs ?_ | (refine sxa hs hw ?_; clear hs hw; intro a b W hw hs) | (refine sxs hs hw ?_; clear hs hw; intro W hs hw))
      exact ⟨hs2, hw⟩
    case c2_3 =>
      intro LD D a W hcl hi hp hs hw
      simp only [hi, Bool.false_eq_true, if_false] at hw
      refine st_store hs (vs := cN) (hw := hw) (hz := by rw [hlenN]; rfl) (h1 := honeN) (hl := by rw [hlenN, hz4]; rfl) (k := ?_); clear hs hw; intro W hs hw
      rw [ov_all _ _ (by rw [hlenN, hz4])] at hw
      repeat (first | (refine sxv hs hw ?_; clear hs; intro a hs) | refine sxc hs ?_ | (refine sxa hs hw ?_; clear hs hw; intro a b W hw hs) | (refine sxs hs hw ?_; clear hs hw; intro W hs hw))
      exact ⟨hs, hw⟩
    case c3_3 =>
      intro LD D a W hcl hi hp hs hw
      simp only [hi, Bool.false_eq_true, if_false] at hw
      repeat (first | (refine sxv hs hw ?_; clear hs; intro a hs) | refine sxc hs ?_ | (refine sxa hs hw ?_; clear hs hw; intro a b W hw hs) | (refine sxs hs hw ?_; clear hs hw; intro W hs hw))
      exact ⟨hs, hw⟩
    case k_3 =>
      clear hs hw
      intro a W hs hw
      replace hw : Has 0 w0 W (Cells b9 (rowCells (nextR f bt) (.slice sad bt.l.length scap)) 36 :: Cells b7 [.slice nad (applyL f.d bt.l).2.length ncap] 41 :: Fz H1 :: Cells b5 (rowCells (nextR f bt) (.slice sad bt.l.length scap)) 36 :: Cells b4 cN 45 :: Cells b3 (batCells bt (.slice sad bt.l.length scap)) 33 :: Cells b2 cN 45 :: R) := hw
      repeat (first | (refine sxv hs hw ?_; clear hs; intro a hs) | refine sxc hs ?_ | (refine sxa hs hw ?_; clear hs hw; intro a b W hw hs) | (refine sxs hs hw ?_; clear hs hw; intro W hs hw))
      refine rk3 hs rfl rfl rfl hw (In.tl (In.tl (In.tl (In.tl In.hd)))) (In.tl (In.tl (In.tl In.hd))) (by rw [hlenN]; rfl) rfl rfl ?_
      refine ⟨cN, .slice sad bt.l.length scap, H1, ?_, hle, hnew, hr1, (hw.perm (B := Fz H1 :: Cells b9 (rowCells (nextR f bt) (.slice sad bt.l.length scap)) 36 :: Cells b7 [.slice nad (applyL f.d bt.l).2.length ncap] 41 :: Cells b5 (rowCells (nextR f bt) (.slice sad bt.l.length scap)) 36 :: Cells b4 cN 45 :: Cells b3 (batCells bt (.slice sad bt.l.length scap)) 33 :: Cells b2 cN 45 :: R) (by repeat (first | exact List.Perm.refl _ | refine perm_pick (by repeat (first | exact Pick.hd | apply Pick.tl)) ?_))).sub (List.Sublist.cons_cons _ (List.Sublist.cons _ (List.Sublist.cons _ (List.Sublist.cons _ (List.Sublist.cons _ (List.Sublist.cons _ (List.Sublist.cons _ (List.Sublist.refl _))))))))⟩
      show Ending.returned (Value.tuple #[.agg ⟨cut cN 0 38⟩, _, .bool true]) = _
      rw [cut_all _ _ hlenN]
      rfl
    all_goals
      intro LD D a W hcl hi hp hs hw
      repeat (first | (refine sxv hs hw ?_; clear hs; intro a hs) | refine sxc hs ?_ | (refine sxa hs hw ?_; clear hs hw; intro a b W hw hs) | (refine sxs hs hw ?_; clear hs hw; intro W hs hw))
      exact ⟨hs, hw⟩
  all_goals
    intro LD D a W hcl hi hp hs hw
    repeat (first | (refine sxv hs hw ?_; clear hs; intro a hs) | refine sxc hs ?_ | (refine sxa hs hw ?_; clear hs hw; intro a b W hw hs) | (refine sxs hs hw ?_; clear hs hw; intro W hs hw))
    exact ⟨hs, hw⟩
end Go.Proofs.YtcfaicomnngegaaDoor.Sw

/-
  The walk of packhorselaw5.CutBatch.
-/
set_option linter.unusedVariables false
set_option maxRecDepth 10000
namespace Go.Proofs.YtcfaicomnngegaaDoor.Sw
open Go.RowKit Go.Sx

set_option maxHeartbeats 4000000 in
theorem law5_CutBatch (c q : Int) (l : List OpD) (sv : Value) (w : World) (hz : ∀ o ∈ l, o.key.size ≤ 9223372036854775807 ∧ o.vs.size ≤ 9223372036854775807 ∧ o.os.size ≤ 9223372036854775807) (r : Rd w 9 sv l.length (l.flatMap opCells)) :
    Calls Tryd.prog 28 ⟨[.agg ⟨[.int .i64 c, .int .i64 q, sv]⟩]⟩ w fun e w' => ∃ ad cap, e = .returned (.agg ⟨[.int .i64 c, .int .i64 q, .slice ad (cutD l).length cap]⟩) ∧ Has 0 w w' (Sx.Own 56 9 (.slice ad (cutD l).length cap) (cutD l).length ((cutD l).flatMap opCells) :: Old w 0 :: []) := by
  have hw := Has.start (G := 0) (w := w) (Nat.zero_le _)
  obtain ⟨sad, scap, rfl⟩ : ∃ ad cap, sv = .slice ad l.length cap := by obtain ⟨_, ad, cap, e, _⟩ := r; exact ⟨ad, cap, e⟩
  refine enter Tryd.func28 Tryd.ntmps28 rfl rfl fun a hs => ?_
  repeat (first | (refine sxv hs hw ?_; clear hs; intro a hs) | refine sxc hs ?_ | (refine sxa hs hw ?_; clear hs hw; intro a b W hw hs) | (refine sxs hs hw ?_; clear hs hw; intro W hs hw))
  refine st_call hs (hc := law5_Cut l _ _ hz (hw.rd (by repeat (first | exact In.hd | apply In.tl)) hw.ext.size r)) (k := ?_); rintro e0 W1 ⟨ad, cap, rfl, hw1⟩; refine ⟨_, rfl, ?_⟩; clear hs; intro a hs; replace hw := hw.call hw1; clear hw1
  repeat (first | (refine sxv hs hw ?_; clear hs; intro a hs) | refine sxc hs ?_ | (refine sxa hs hw ?_; clear hs hw; intro a b W hw hs) | (refine sxs hs hw ?_; clear hs hw; intro W hs hw))
  refine rc1 hs rfl rfl hw (In.tl In.hd) rfl ?_
  exact ⟨ad, cap, rfl, hw.drop2.drop2⟩
end Go.Proofs.YtcfaicomnngegaaDoor.Sw
