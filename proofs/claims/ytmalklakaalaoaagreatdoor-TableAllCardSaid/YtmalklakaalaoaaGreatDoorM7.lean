/-
  Texts of the proof, one behind the other (part 7).
-/
import Derived.Test.YtmalklakaalaoaaGreatDoorM6
import Derived.Test.YtmalklakaalaoaaGreatDoorChecked
import Derived.WalkSpells
import Derived.Lib.Hide
import Derived.IntWalk
set_option linter.unusedVariables false
set_option maxRecDepth 10000
namespace Go.Sx
theorem abs2 {G : Nat} {w W : World} {q : Res} {R : List Res} {b : Nat} {cs : List Value} {T : TypeId} (h : Has G w W (q :: Cells b cs T :: R)) : ∃ z : List Value, z.length = cs.length ∧ Has G w W (q :: Cells b z T :: R) := ⟨cs, rfl, h⟩
theorem ov_left (ls ts vs : List Value) (o : Nat) (h : o + vs.length ≤ ls.length) : ov (ls ++ ts) o vs = ov ls o vs ++ ts := by
  rw [ov_eq _ _ _ (by simp; omega), ov_eq _ _ _ h, List.take_append_of_le_length (by omega), List.drop_append_of_le_length h]
  simp
theorem ov_right (ls ts vs : List Value) (o : Nat) (h : o + vs.length ≤ ts.length) : ov (ls ++ ts) (ls.length + o) vs = ls ++ ov ts o vs := by
  rw [ov_eq _ _ _ (by simp; omega), ov_eq _ _ _ h]
  rw [List.take_append, List.take_of_length_le (by omega), List.drop_append, List.drop_of_length_le (by omega)]
  rw [show ls.length + o - ls.length = o by omega, show ls.length + o + vs.length - ls.length = o + vs.length by omega]
  simp
end Go.Sx
namespace Go.Proofs.YtmalklakaalaoaaGreatDoor.Sw
open Go.RowKit Go.Sx
-- pieces
instance arL : Ar Tryz.prog 33 6 2 := ⟨by kernel_rfl⟩
instance arR : Ar Tryz.prog 40 6 39 := ⟨by kernel_rfl⟩
abbrev rfC (pl : Int) (dv : Value) (ls ts : List Value) : List Value := .int .i64 pl :: dv :: (ls ++ ts)
def NumIn (x : Int × RowD) (c : List Value) : Prop := c = [.int .i64 x.1]
def ToRow (H : Fh) (x : Int × RowD) (c : List Value) : Prop := RowIn H x.2 c
def RfIn (H : Fh) (f : FoldD) (cs : List Value) : Prop := ∃ dv ls ts, cs = rfC f.place dv ls ts ∧ DocH H dv f.d ∧ f.told.length = 6 ∧ Ch NumIn f.told ls ∧ Ch (ToRow H) f.told ts
theorem NumIn.len : ∀ (x : Int × RowD) (c : List Value), NumIn x c → c.length = 1 := by rintro x c rfl; rfl
theorem ToRow.len {H : Fh} : ∀ (x : Int × RowD) (c : List Value), ToRow H x c → c.length = 5 := fun x c h => RowIn.len x.2 c h
theorem rf_len {H : Fh} {told : List (Int × RowD)} {ls ts : List Value} (h6 : told.length = 6) (hl : Ch NumIn told ls) (ht : Ch (ToRow H) told ts) : ls.length = 6 ∧ ts.length = 30 := by
  have h1 := hl.length NumIn.len
  have h2 := ht.length ToRow.len
  rw [h6] at h1 h2
  exact ⟨by omega, by omega⟩
theorem RfIn.len {H : Fh} {f : FoldD} {cs : List Value} (h : RfIn H f cs) : cs.length = 38 := by
  obtain ⟨dv, ls, ts, rfl, _, h6, hl, ht⟩ := h
  obtain ⟨h1, h2⟩ := rf_len h6 hl ht
  simp [h1, h2]
theorem RfIn.one {H : Fh} {f : FoldD} {cs : List Value} (h : RfIn H f cs) : cs.all (·.oneCell') = true := by
  obtain ⟨dv, ls, ts, rfl, hd, h6, hl, ht⟩ := h
  obtain ⟨dad, dcap, rfl⟩ := hd.slice
  rw [List.all_eq_true]
  intro v hv
  simp only [rfC, List.mem_cons, List.mem_append] at hv
  rcases hv with rfl | rfl | hv | hv
  · rfl
  · rfl
  · exact hl.ones (fun x c hc v hv => by cases hc; simp only [List.mem_singleton] at hv; subst hv; rfl) v hv
  · exact ht.ones (fun x c hc => RowIn.ones x.2 c hc) v hv
theorem RfIn.le {H H' : Fh} {f : FoldD} {cs : List Value} (hle : H.le H') (h : RfIn H f cs) : RfIn H' f cs := by
  obtain ⟨dv, ls, ts, rfl, hd, h6, hl, ht⟩ := h
  exact ⟨dv, ls, ts, rfl, RdH.le hd hle, h6, hl, ht.mono fun x c hc => RowIn.le hle x.2 c hc⟩
theorem lastOf_at {f : FoldD} {c : Int} (h1 : 1 ≤ c) (h5 : c ≤ 5) {x : Int × RowD} (hx : f.told[c.toNat]? = some x) : lastOf f c = x.1 := by
  unfold lastOf
  rw [if_pos ⟨h1, h5⟩, hx]; rfl
set_option maxHeartbeats 16000000 in
theorem ref7_Next (w0 W : World) (H : Fh) (f : FoldD) (bt : BatchD) (cs : List Value) (sv : Value) (R : List Res) (hf : RfIn H f cs) (hd : DocOk f.d) (hb : BatOk bt) (hr : OpsH H sv bt.l) (hw : Has 0 w0 W (Fz H :: R)) :
    Calls Tryz.prog 26 ⟨[.agg ⟨cs⟩, .agg ⟨batCells bt sv⟩]⟩ W fun e W' => ∃ cs' sv' H', e = .returned (.tuple ⟨[.agg ⟨cs'⟩, .agg ⟨rowCells (next f bt).2.1 sv'⟩, .bool (next f bt).2.2]⟩) ∧ H.le H' ∧ RfIn H' (next f bt).1 cs' ∧ OpsH H' sv' (next f bt).2.1.b.l ∧ Has 0 w0 W' (Fz H' :: R) := by
  obtain ⟨sad, scap, rfl⟩ := hr.slice
  have hlen0 := hf.len
  have hone0 := hf.one
  refine enter Tryz.func26 Tryz.ntmps26 rfl rfl fun a hs => ?_
  repeat (first | (refine sxv hs hw ?_; clear hs; intro a hs) | refine sxc hs ?_ | (refine sxa hs hw ?_; clear hs hw; intro a b W hw hs) | (refine sxs hs hw ?_; clear hs hw; intro W hs hw))
  obtain ⟨b5, q5⟩ := nm1 hw; subst q5
  obtain ⟨b4, q4⟩ := nm2 hw; subst q4
  obtain ⟨b3, q3⟩ := nm3 hw; subst q3
  obtain ⟨z4, hz4, hw⟩ := abs2 hw
  replace hz4 : z4.length = 38 := hz4
  obtain ⟨b2, q2⟩ : ∃ b2, Has 0 w0 W (Cells b5 zrc 39 :: Cells b4 z4 42 :: Cells b3 (batCells bt (.slice sad bt.l.length scap)) 36 :: Cells b2 cs 42 :: Fz H :: R) ∧ Slots a 58 [(2, .pointer (some ⟨b2, 0, none⟩)), (3, .pointer (some ⟨b3, 0, none⟩)), (4, .pointer (some ⟨b4, 0, none⟩)), (5, .pointer (some ⟨b5, 0, none⟩)), (6, .bool false)] := ⟨_, hw, hs.of ⟨rfl, rfl, rfl, rfl, rfl, trivial⟩⟩
  clear hs hw
  obtain ⟨hw, hs⟩ := q2
  have back : ∀ (a : Act) (W : World), Slots a 58 [(2, .pointer (some ⟨b2, 0, none⟩)), (4, .pointer (some ⟨b4, 0, none⟩)), (5, .pointer (some ⟨b5, 0, none⟩))] → True := fun _ _ _ => trivial
  clear back
  cases hm : mayB bt with
  | false =>
    have hN : next f bt = (f, zeroRow, false) := by unfold next nextB; rw [hm]; rfl
    rw [hN]
    refine rg_draw (V := [.agg ⟨batCells bt (.slice sad bt.l.length scap)⟩, .bool false, .bool true, .bool true, undef, undef, undef, undef, undef, undef, undef, undef, undef, .bool true])
      (Rs := fun D => Cells b5 zrc 39 :: Cells b4 z4 42 :: Cells b3 (batCells bt (.slice sad bt.l.length scap)) 36 :: Cells b2 cs 42 :: Fz H :: R) hs hw (ho := ⟨?_, ?c1_1, ?_, ?_, ?_, ?_, ?_, ?_, ?_, ?_, ?_, ?_, ?_, ?_, trivial⟩) (k := ?k_1)
    case c1_1 =>
      intro LD D a W hcl hi hp hs hw
      repeat (first | (refine sxv hs hw ?_; clear hs; intro a hs) | refine sxc hs ?_ | (refine sxa hs hw ?_; clear hs hw; intro a b W hw hs) | (refine sxs hs hw ?_; clear hs hw; intro W hs hw))
      refine st_call hs (hc := ref_MayBatch bt.c bt.q bt.l _ _ hb.c hb.q hb.ops (hw.rdH (by repeat (first | exact In.hd | apply In.tl)) hr)) (k := ?_); rintro e0 W1 ⟨rfl, hb⟩; refine ⟨_, rfl, ?_⟩; clear hs; intro a hs; replace hw := hw.below hb; clear hb
      rw [show mayBatch bt.c bt.q bt.l = mayB bt from rfl, hm] at hs
      repeat (first | (refine sxv hs hw ?_; clear hs; intro a hs) | refine sxc hs ?_ | (refine sxa hs hw ?_; clear hs hw; intro a b W hw hs) | (refine sxs hs hw ?_; clear hs hw; intro W hs hw))
      exact ⟨hs, hw⟩
    case k_1 =>
      clear hs hw
      intro a W hs hw
      repeat (first | (refine sxv hs hw ?_; clear hs; intro a hs) | refine sxc hs ?_ | (refine sxa hs hw ?_; clear hs hw; intro a b W hw hs) | (refine sxs hs hw ?_; clear hs hw; intro W hs hw))
      refine st_load_agg hs (hw := hw) (hi := In.tl (In.tl (In.tl In.hd))) (hl := by rw [hlen0]; rfl) (k := ?_); clear hs; intro a hs
      replace hs : Slots a 58 [(24, .agg ⟨cs⟩), (2, .pointer (some ⟨b2, 0, none⟩)), (4, .pointer (some ⟨b4, 0, none⟩)), (5, .pointer (some ⟨b5, 0, none⟩))] := hs.of ⟨congrArg (fun x => some (Value.agg ⟨x⟩)) (cut_all _ 38 hlen0), rfl, rfl, rfl, trivial⟩
      repeat (first | (refine sxv hs hw ?_; clear hs; intro a hs) | refine sxc hs ?_ | (refine sxa hs hw ?_; clear hs hw; intro a b W hw hs) | (refine sxs hs hw ?_; clear hs hw; intro W hs hw))
      refine st_store hs (vs := cs) (hw := hw) (hz := by rw [hlen0]; rfl) (h1 := hone0) (hl := by rw [hlen0, hz4]; rfl) (k := ?_); clear hs hw; intro W hs hw
      rw [ov_all _ _ (by rw [hlen0, hz4])] at hw
      repeat (first | (refine sxv hs hw ?_; clear hs; intro a hs) | refine sxc hs ?_ | (refine sxa hs hw ?_; clear hs hw; intro a b W hw hs) | (refine sxs hs hw ?_; clear hs hw; intro W hs hw))
      refine rk3 hs rfl rfl rfl hw (In.tl In.hd) In.hd (by rw [hlen0]; rfl) rfl rfl ?_
      exact ⟨cs, .slice none 0 0, H, by show Ending.returned (Value.tuple #[.agg ⟨cut cs 0 38⟩, _, .bool false]) = _; rw [cut_all _ _ hlen0]; rfl, Fh.le.refl _, hf, ops_nil H, hw.sub (List.Sublist.cons _ (List.Sublist.cons _ (List.Sublist.cons _ (List.Sublist.cons _ (List.Sublist.refl _)))))⟩
    all_goals
      intro LD D a W hcl hi hp hs hw
      repeat (first | (refine sxv hs hw ?_; clear hs; intro a hs) | refine sxc hs ?_ | (refine sxa hs hw ?_; clear hs hw; intro a b W hw hs) | (refine sxs hs hw ?_; clear hs hw; intro W hs hw))
      exact ⟨hs, hw⟩
  | true =>
  obtain ⟨⟨hc1, hc5⟩, ⟨hq1, hq2⟩, hl8⟩ := may_parts hm
  obtain ⟨dv, ls, ts, rfl, hdv, h6, hls, hts⟩ := hf
  obtain ⟨dad, dcap, rfl⟩ := hdv.slice
  obtain ⟨hll, htl⟩ := rf_len h6 hls hts
  obtain ⟨x, hx⟩ : ∃ x, f.told[bt.c.toNat]? = some x := ⟨f.told[bt.c.toNat]'(by rw [h6]; omega), List.getElem?_eq_getElem _⟩
  have hX := lastOf_at hc1 hc5 hx
  have hat : (rfC f.place (.slice dad f.d.length dcap) ls ts)[0 + 2 + bt.c.toNat * 1]? = some (.int .i64 (lastOf f bt.c)) := by
    obtain ⟨c, h1, h2, h3⟩ := hls.get NumIn.len hx
    rw [show 0 + 2 + bt.c.toNat * 1 = bt.c.toNat * 1 + 1 + 1 by omega]
    show (ls ++ ts)[bt.c.toNat * 1]? = _
    rw [List.getElem?_append_left (by omega)]
    have := congrArg (fun t => t[0]?) h3
    rw [show c = [Value.int .i64 x.1] from h1] at this
    simp only [cut_eq, List.getElem?_take, List.getElem?_drop, Nat.add_zero] at this
    rw [hX]
    simpa using this
  refine rg_draw (V := [.agg ⟨batCells bt (.slice sad bt.l.length scap)⟩, .bool true, .bool false, .bool false, .pointer (some ⟨b3, 0 + 1, none⟩), .int .i64 bt.q, .pointer (some ⟨b3, 0 + 0, none⟩), .int .i64 bt.c, .pointer (some ⟨b2, 0 + 2, none⟩), .pointer (some ⟨b2, 0 + 2 + bt.c.toNat * 1, none⟩), .int .i64 (lastOf f bt.c), .int .i64 (IntKind.i64.wrap (lastOf f bt.c + 1)), .bool (bt.q != IntKind.i64.wrap (lastOf f bt.c + 1)), .bool (bt.q != IntKind.i64.wrap (lastOf f bt.c + 1))])
    (Rs := fun D => Cells b5 zrc 39 :: Cells b4 z4 42 :: Cells b3 (batCells bt (.slice sad bt.l.length scap)) 36 :: Cells b2 (rfC f.place (.slice dad f.d.length dcap) ls ts) 42 :: Fz H :: R) hs hw (ho := ⟨?_, ?c1_2, ?_, ?_, ?_, ?_, ?_, ?_, ?_, ?c9_2, ?c10_2, ?_, ?_, ?_, trivial⟩) (k := ?k_2)
  case c1_2 =>
    intro LD D a W hcl hi hp hs hw
    repeat (first | (refine sxv hs hw ?_; clear hs; intro a hs) | refine sxc hs ?_ | (refine sxa hs hw ?_; clear hs hw; intro a b W hw hs) | (refine sxs hs hw ?_; clear hs hw; intro W hs hw))
    refine st_call hs (hc := ref_MayBatch bt.c bt.q bt.l _ _ hb.c hb.q hb.ops (hw.rdH (by repeat (first | exact In.hd | apply In.tl)) hr)) (k := ?_); rintro e0 W1 ⟨rfl, hb⟩; refine ⟨_, rfl, ?_⟩; clear hs; intro a hs; replace hw := hw.below hb; clear hb
    rw [show mayBatch bt.c bt.q bt.l = mayB bt from rfl, hm] at hs
    repeat (first | (refine sxv hs hw ?_; clear hs; intro a hs) | refine sxc hs ?_ | (refine sxa hs hw ?_; clear hs hw; intro a b W hw hs) | (refine sxs hs hw ?_; clear hs hw; intro W hs hw))
    exact ⟨hs, hw⟩
  case c9_2 =>
    intro LD D a W hcl hi hp hs hw
    repeat (first | (refine sxv hs hw ?_; clear hs; intro a hs) | refine sxc hs ?_ | (refine sxa hs hw ?_; clear hs hw; intro a b W hw hs) | (refine sxs hs hw ?_; clear hs hw; intro W hs hw))
    refine st_index_arr hs (h0 := by omega) (h1 := by omega) (c := ?_); clear hs; intro a hs
    repeat (first | (refine sxv hs hw ?_; clear hs; intro a hs) | refine sxc hs ?_ | (refine sxa hs hw ?_; clear hs hw; intro a b W hw hs) | (refine sxs hs hw ?_; clear hs hw; intro W hs hw))
    exact ⟨hs, hw⟩
  case c10_2 =>
    intro LD D a W hcl hi hp hs hw
    repeat (first | (refine sxv hs hw ?_; clear hs; intro a hs) | refine sxc hs ?_ | (refine sxa hs hw ?_; clear hs hw; intro a b W hw hs) | (refine sxs hs hw ?_; clear hs hw; intro W hs hw))
    refine st_load_one hs (hw := hw) (hi := In.tl (In.tl (In.tl In.hd))) (hv := hat) (k := ?_); clear hs; intro a hs
    repeat (first | (refine sxv hs hw ?_; clear hs; intro a hs) | refine sxc hs ?_ | (refine sxa hs hw ?_; clear hs hw; intro a b W hw hs) | (refine sxs hs hw ?_; clear hs hw; intro W hs hw))
    exact ⟨hs, hw⟩
  case k_2 =>
    clear hs hw
    intro a W hs hw
    replace hw : Has 0 w0 W (Cells b5 zrc 39 :: Cells b4 z4 42 :: Cells b3 (batCells bt (.slice sad bt.l.length scap)) 36 :: Cells b2 (rfC f.place (.slice dad f.d.length dcap) ls ts) 42 :: Fz H :: R) := hw
    replace hs : Slots a 58 [(23, .bool (bt.q != IntKind.i64.wrap (lastOf f bt.c + 1))), (2, .pointer (some ⟨b2, 0, none⟩)), (3, .pointer (some ⟨b3, 0, none⟩)), (4, .pointer (some ⟨b4, 0, none⟩)), (5, .pointer (some ⟨b5, 0, none⟩)), (6, .bool false)] := hs.of ⟨rfl, rfl, rfl, rfl, rfl, rfl, trivial⟩
    repeat (first | (refine sxv hs hw ?_; clear hs; intro a hs) | refine sxc hs ?_ | (refine sxa hs hw ?_; clear hs hw; intro a b W hw hs) | (refine sxs hs hw ?_; clear hs hw; intro W hs hw))
    cases hq : (bt.q != IntKind.i64.wrap (lastOf f bt.c + 1)) with
    | true =>
      have hN : next f bt = (f, zeroRow, false) := by
        unfold next nextB
        have : (bt.q == IntKind.i64.wrap (lastOf f bt.c + 1)) = false := by simpa using hq
        rw [hm, this]; rfl
      rw [hN]
      rw [hq] at hs
      repeat (first | (refine sxv hs hw ?_; clear hs; intro a hs) | refine sxc hs ?_ | (refine sxa hs hw ?_; clear hs hw; intro a b W hw hs) | (refine sxs hs hw ?_; clear hs hw; intro W hs hw))
      refine st_load_agg hs (hw := hw) (hi := In.tl (In.tl (In.tl In.hd))) (hl := by rw [hlen0]; rfl) (k := ?_); clear hs; intro a hs
      replace hs : Slots a 58 [(24, .agg ⟨rfC f.place (.slice dad f.d.length dcap) ls ts⟩), (2, .pointer (some ⟨b2, 0, none⟩)), (4, .pointer (some ⟨b4, 0, none⟩)), (5, .pointer (some ⟨b5, 0, none⟩))] := hs.of ⟨congrArg (fun x => some (Value.agg ⟨x⟩)) (cut_all _ 38 hlen0), rfl, rfl, rfl, trivial⟩
      repeat (first | (refine sxv hs hw ?_; clear hs; intro a hs) | refine sxc hs ?_ | (refine sxa hs hw ?_; clear hs hw; intro a b W hw hs) | (refine sxs hs hw ?_; clear hs hw; intro W hs hw))
      refine st_store hs (vs := rfC f.place (.slice dad f.d.length dcap) ls ts) (hw := hw) (hz := by rw [hlen0]; rfl) (h1 := hone0) (hl := by rw [hlen0, hz4]; rfl) (k := ?_); clear hs hw; intro W hs hw
      rw [ov_all _ _ (by rw [hlen0, hz4])] at hw
      repeat (first | (refine sxv hs hw ?_; clear hs; intro a hs) | refine sxc hs ?_ | (refine sxa hs hw ?_; clear hs hw; intro a b W hw hs) | (refine sxs hs hw ?_; clear hs hw; intro W hs hw))
      refine rk3 hs rfl rfl rfl hw (In.tl In.hd) In.hd (by rw [hlen0]; rfl) rfl rfl ?_
      exact ⟨rfC f.place (.slice dad f.d.length dcap) ls ts, .slice none 0 0, H, by show Ending.returned (Value.tuple #[.agg ⟨cut (rfC f.place (.slice dad f.d.length dcap) ls ts) 0 38⟩, _, .bool false]) = _; rw [cut_all _ _ hlen0]; rfl, Fh.le.refl _, ⟨_, ls, ts, rfl, hdv, h6, hls, hts⟩, ops_nil H, hw.sub (List.Sublist.cons _ (List.Sublist.cons _ (List.Sublist.cons _ (List.Sublist.cons _ (List.Sublist.refl _)))))⟩
    | false =>
    have hN : next f bt = (nextF f bt, nextR f bt, true) := by
      unfold next nextB
      have : (bt.q == IntKind.i64.wrap (lastOf f bt.c + 1)) = true := by simpa using hq
      rw [hm, this]; rfl
    rw [hN]
    rw [hq] at hs
    repeat (first | (refine sxv hs hw ?_; clear hs; intro a hs) | refine sxc hs ?_ | (refine sxa hs hw ?_; clear hs hw; intro a b W hw hs) | (refine sxs hs hw ?_; clear hs hw; intro W hs hw))
    have hw : Has 0 w0 W (Fz H :: Cells b5 zrc 39 :: Cells b4 z4 42 :: Cells b3 (batCells bt (.slice sad bt.l.length scap)) 36 :: Cells b2 (rfC f.place (.slice dad f.d.length dcap) ls ts) 42 :: R) := hw.perm (by repeat (first | exact List.Perm.refl _ | refine perm_pick (by repeat (first | exact Pick.hd | apply Pick.tl)) ?_))
    replace hs : Slots a 58 [(28, .agg ⟨[.slice dad f.d.length dcap]⟩), (30, .slice sad bt.l.length scap), (2, .pointer (some ⟨b2, 0, none⟩)), (3, .pointer (some ⟨b3, 0, none⟩)), (4, .pointer (some ⟨b4, 0, none⟩)), (5, .pointer (some ⟨b5, 0, none⟩)), (6, .bool false)] := hs.of ⟨congrArg (fun x => some (Value.agg ⟨x⟩)) (by rw [cut_eq]; rfl), rfl, rfl, rfl, rfl, rfl, rfl, trivial⟩
    refine st_call hs (hc := ref_Apply w0 _ H f.d _ bt.l _ _ hd hb.ops hdv hr hw) (k := ?_); rintro e0 W1 ⟨nv, H1, rfl, hle, hnv, hw1⟩; refine ⟨_, rfl, ?_⟩; clear hs hw; intro a hs; have hw := hw1; clear hw1
    obtain ⟨nad, ncap, rfl⟩ := hnv.slice
    repeat (first | (refine sxv hs hw ?_; clear hs; intro a hs) | refine sxc hs ?_ | (refine sxa hs hw ?_; clear hs hw; intro a b W hw hs) | (refine sxs hs hw ?_; clear hs hw; intro W hs hw))
    obtain ⟨b9, q9⟩ := nm1 hw; subst q9
    obtain ⟨b7, q7⟩ := nm2 hw; subst q7
    replace hw : Has 0 w0 _ (Cells b9 (rowCells (nextR f bt) (.slice sad bt.l.length scap)) 39 :: Cells b7 [.slice nad (applyL f.d bt.l).2.length ncap] 32 :: Fz H1 :: Cells b5 zrc 39 :: Cells b4 z4 42 :: Cells b3 (batCells bt (.slice sad bt.l.length scap)) 36 :: Cells b2 (ov (ov (rfC f.place (.slice dad f.d.length dcap) ls ts) (0 + 1) [.slice nad (applyL f.d bt.l).2.length ncap]) (0 + 0) [.int .i64 (IntKind.i64.wrap (f.place + 1))]) 42 :: R) := hw
    rw [ov_one, ov_one] at hw
    replace hw : Has 0 w0 _ (Cells b9 (rowCells (nextR f bt) (.slice sad bt.l.length scap)) 39 :: Cells b7 [.slice nad (applyL f.d bt.l).2.length ncap] 32 :: Fz H1 :: Cells b5 zrc 39 :: Cells b4 z4 42 :: Cells b3 (batCells bt (.slice sad bt.l.length scap)) 36 :: Cells b2 (rfC (IntKind.i64.wrap (f.place + 1)) (.slice nad (applyL f.d bt.l).2.length ncap) ls ts) 42 :: R) := hw
    refine st_index_arr hs (h0 := by omega) (h1 := by omega) (c := ?_); clear hs; intro a hs
    refine st_store hs (vs := [.int .i64 bt.q]) (hw := hw) (hl := by show Nat.ble (0 + 2 + bt.c.toNat * 1 + 1) ((ls ++ ts).length + 1 + 1) = true; rw [Nat.ble_eq, List.length_append]; omega) (k := ?_); clear hs hw; intro W hs hw
    have e1 : ov (rfC (IntKind.i64.wrap (f.place + 1)) (.slice nad (applyL f.d bt.l).2.length ncap) ls ts) (0 + 2 + bt.c.toNat * 1) [.int .i64 bt.q] = (rfC (IntKind.i64.wrap (f.place + 1)) (.slice nad (applyL f.d bt.l).2.length ncap) (ov ls (bt.c.toNat * 1) [.int .i64 bt.q]) ts) := by
      rw [show 0 + 2 + bt.c.toNat * 1 = bt.c.toNat * 1 + 1 + 1 by omega]
      exact congrArg (fun t => Value.int .i64 (IntKind.i64.wrap (f.place + 1)) :: (.slice nad (applyL f.d bt.l).2.length ncap) :: t) (ov_left ls ts [.int .i64 bt.q] (bt.c.toNat * 1) (by rw [hll]; show bt.c.toNat * 1 + 1 ≤ 6; omega))
    replace hw : Has 0 w0 W (Cells b9 (rowCells (nextR f bt) (.slice sad bt.l.length scap)) 39 :: Cells b7 [.slice nad (applyL f.d bt.l).2.length ncap] 32 :: Fz H1 :: Cells b5 zrc 39 :: Cells b4 z4 42 :: Cells b3 (batCells bt (.slice sad bt.l.length scap)) 36 :: Cells b2 (rfC (IntKind.i64.wrap (f.place + 1)) (.slice nad (applyL f.d bt.l).2.length ncap) (ov ls (bt.c.toNat * 1) [.int .i64 bt.q]) ts) 42 :: R) := e1 ▸ hw
    have hls2 : Ch NumIn (f.told.set bt.c.toNat (bt.q, nextR f bt)) (ov ls (bt.c.toNat * 1) [.int .i64 bt.q]) := hls.set NumIn.len (by rw [h6]; omega) rfl
    have hr1 := hr.le hle
    have hts2 : Ch (ToRow H1) (f.told.set bt.c.toNat (bt.q, nextR f bt)) (ov ts (bt.c.toNat * 5) (rowCells (nextR f bt) (.slice sad bt.l.length scap))) := (hts.mono fun x c hc => RowIn.le hle x.2 c hc).set ToRow.len (by rw [h6]; omega) ⟨_, rfl, hr1⟩
    have h62 : (f.told.set bt.c.toNat (bt.q, nextR f bt)).length = 6 := by rw [List.length_set]; exact h6
    obtain ⟨hll2, htl2⟩ := rf_len h62 hls2 hts2
    repeat (first | (refine sxv hs hw ?_; clear hs; intro a hs) | refine sxc hs ?_ | (refine sxa hs hw ?_; clear hs hw; intro a b W hw hs) | (refine sxs hs hw ?_; clear hs hw; intro W hs hw))
    refine st_index_arr hs (h0 := by omega) (h1 := by omega) (c := ?_); clear hs; intro a hs
    refine st_store hs (vs := (rowCells (nextR f bt) (.slice sad bt.l.length scap))) (hw := hw) (hl := by show Nat.ble (0 + 8 + bt.c.toNat * 5 + 5) (((ov ls (bt.c.toNat * 1) [.int .i64 bt.q]) ++ ts).length + 1 + 1) = true; rw [Nat.ble_eq, List.length_append]; omega) (k := ?_); clear hs hw; intro W hs hw
    have e2 : ov (rfC (IntKind.i64.wrap (f.place + 1)) (.slice nad (applyL f.d bt.l).2.length ncap) (ov ls (bt.c.toNat * 1) [.int .i64 bt.q]) ts) (0 + 8 + bt.c.toNat * 5) (rowCells (nextR f bt) (.slice sad bt.l.length scap)) = (rfC (IntKind.i64.wrap (f.place + 1)) (.slice nad (applyL f.d bt.l).2.length ncap) (ov ls (bt.c.toNat * 1) [.int .i64 bt.q]) (ov ts (bt.c.toNat * 5) (rowCells (nextR f bt) (.slice sad bt.l.length scap)))) := by
      rw [show 0 + 8 + bt.c.toNat * 5 = ((ov ls (bt.c.toNat * 1) [.int .i64 bt.q]).length + bt.c.toNat * 5) + 1 + 1 by omega]
      exact congrArg (fun t => Value.int .i64 (IntKind.i64.wrap (f.place + 1)) :: (.slice nad (applyL f.d bt.l).2.length ncap) :: t) (ov_right (ov ls (bt.c.toNat * 1) [.int .i64 bt.q]) ts (rowCells (nextR f bt) (.slice sad bt.l.length scap)) (bt.c.toNat * 5) (by rw [htl]; show bt.c.toNat * 5 + 5 ≤ 30; omega))
    replace hw : Has 0 w0 W (Cells b9 (rowCells (nextR f bt) (.slice sad bt.l.length scap)) 39 :: Cells b7 [.slice nad (applyL f.d bt.l).2.length ncap] 32 :: Fz H1 :: Cells b5 zrc 39 :: Cells b4 z4 42 :: Cells b3 (batCells bt (.slice sad bt.l.length scap)) 36 :: Cells b2 (rfC (IntKind.i64.wrap (f.place + 1)) (.slice nad (applyL f.d bt.l).2.length ncap) (ov ls (bt.c.toNat * 1) [.int .i64 bt.q]) (ov ts (bt.c.toNat * 5) (rowCells (nextR f bt) (.slice sad bt.l.length scap)))) 42 :: R) := e2 ▸ hw
    have hnew : RfIn H1 (nextF f bt) (rfC (IntKind.i64.wrap (f.place + 1)) (.slice nad (applyL f.d bt.l).2.length ncap) (ov ls (bt.c.toNat * 1) [.int .i64 bt.q]) (ov ts (bt.c.toNat * 5) (rowCells (nextR f bt) (.slice sad bt.l.length scap)))) := ⟨_, _, _, rfl, hnv, h62, hls2, hts2⟩
    have hlenN := hnew.len
    have honeN := hnew.one
    obtain ⟨cN, hcN⟩ : ∃ c, c = (rfC (IntKind.i64.wrap (f.place + 1)) (.slice nad (applyL f.d bt.l).2.length ncap) (ov ls (bt.c.toNat * 1) [.int .i64 bt.q]) (ov ts (bt.c.toNat * 5) (rowCells (nextR f bt) (.slice sad bt.l.length scap)))) := ⟨_, rfl⟩
    rw [← hcN] at hw hnew hlenN honeN
    replace hs : Slots a 58 [(2, .pointer (some ⟨b2, 0, none⟩)), (4, .pointer (some ⟨b4, 0, none⟩)), (5, .pointer (some ⟨b5, 0, none⟩)), (6, .bool false), (9, .pointer (some ⟨b9, 0, none⟩))] := hs.of ⟨rfl, rfl, rfl, rfl, rfl, trivial⟩
    repeat (first | (refine sxv hs hw ?_; clear hs; intro a hs) | refine sxc hs ?_ | (refine sxa hs hw ?_; clear hs hw; intro a b W hw hs) | (refine sxs hs hw ?_; clear hs hw; intro W hs hw))
    refine rg_draw (V := [.agg ⟨cN⟩, .agg ⟨(rowCells (nextR f bt) (.slice sad bt.l.length scap))⟩, .bool true, .bool true, .bool true])
      (Rs := fun D => Cells b9 (rowCells (nextR f bt) (.slice sad bt.l.length scap)) 39 :: Cells b7 [.slice nad (applyL f.d bt.l).2.length ncap] 32 :: Fz H1 :: Cells b5 (if D 3 then (rowCells (nextR f bt) (.slice sad bt.l.length scap)) else zrc) 39 :: Cells b4 (if D 2 then cN else z4) 42 :: Cells b3 (batCells bt (.slice sad bt.l.length scap)) 36 :: Cells b2 cN 42 :: R) hs hw (ho := ⟨?c0_3, ?_, ?c2_3, ?c3_3, ?_, trivial⟩) (k := ?k_3)
    case c0_3 =>
      intro LD D a W hcl hi hp hs hw
      refine st_load_agg hs (hw := hw) (hi := In.tl (In.tl (In.tl (In.tl (In.tl (In.tl In.hd)))))) (hl := by rw [hlenN]; rfl) (k := ?_); clear hs; intro a hs
      have hs2 : Slots a 58 ((56, .agg ⟨cut cN 0 38⟩) :: _) := hs
      rw [cut_all _ _ hlenN] at hs2
      repeat (first | (refine sxv hs hw ?_; clear hs; intro a hs) | refine sxc hs ?_ | (refine sxa hs hw ?_; clear hs hw; intro a b W hw hs) | (refine sxs hs hw ?_; clear hs hw; intro W hs hw))
      exact ⟨hs2, hw⟩
    case c2_3 =>
      intro LD D a W hcl hi hp hs hw
      simp only [hi, Bool.false_eq_true, if_false] at hw
      refine st_store hs (vs := cN) (hw := hw) (hz := by rw [hlenN]; rfl) (h1 := honeN) (hl := by rw [hlenN, hz4]; rfl) (k := ?_); clear hs hw; intro W hs hw
      rw [ov_all _ _ (by rw [hlenN, hz4])] at hw
      repeat (first | (refine sxv hs hw ?_; clear hs; intro a hs) | refine sxc hs ?_ | (refine sxa hs hw ?_; clear hs hw; intro a b W hw hs) | (refine sxs hs hw ?_; clear hs hw; intro W hs hw))
      exact ⟨hs, hw⟩
    case c3_3 =>
      intro LD D a W hcl hi hp hs hw
      simp only [hi, Bool.false_eq_true, if_false] at hw
      repeat (first | (refine sxv hs hw ?_; clear hs; intro a hs) | refine sxc hs ?_ | (refine sxa hs hw ?_; clear hs hw; intro a b W hw hs) | (refine sxs hs hw ?_; clear hs hw; intro W hs hw))
      exact ⟨hs, hw⟩
    case k_3 =>
      clear hs hw
      intro a W hs hw
      replace hw : Has 0 w0 W (Cells b9 (rowCells (nextR f bt) (.slice sad bt.l.length scap)) 39 :: Cells b7 [.slice nad (applyL f.d bt.l).2.length ncap] 32 :: Fz H1 :: Cells b5 (rowCells (nextR f bt) (.slice sad bt.l.length scap)) 39 :: Cells b4 cN 42 :: Cells b3 (batCells bt (.slice sad bt.l.length scap)) 36 :: Cells b2 cN 42 :: R) := hw
      repeat (first | (refine sxv hs hw ?_; clear hs; intro a hs) | refine sxc hs ?_ | (refine sxa hs hw ?_; clear hs hw; intro a b W hw hs) | (refine sxs hs hw ?_; clear hs hw; intro W hs hw))
      refine rk3 hs rfl rfl rfl hw (In.tl (In.tl (In.tl (In.tl In.hd)))) (In.tl (In.tl (In.tl In.hd))) (by rw [hlenN]; rfl) rfl rfl ?_
      refine ⟨cN, .slice sad bt.l.length scap, H1, ?_, hle, hnew, hr1, (hw.perm (B := Fz H1 :: Cells b9 (rowCells (nextR f bt) (.slice sad bt.l.length scap)) 39 :: Cells b7 [.slice nad (applyL f.d bt.l).2.length ncap] 32 :: Cells b5 (rowCells (nextR f bt) (.slice sad bt.l.length scap)) 39 :: Cells b4 cN 42 :: Cells b3 (batCells bt (.slice sad bt.l.length scap)) 36 :: Cells b2 cN 42 :: R) (by repeat (first | exact List.Perm.refl _ | refine perm_pick (by repeat (first | exact Pick.hd | apply Pick.tl)) ?_))).sub (List.Sublist.cons_cons _ (List.Sublist.cons _ (List.Sublist.cons _ (List.Sublist.cons _ (List.Sublist.cons _ (List.Sublist.cons _ (List.Sublist.cons _ (List.Sublist.refl _))))))))⟩
      show Ending.returned (Value.tuple #[.agg ⟨cut cN 0 38⟩, _, .bool true]) = _
      rw [cut_all _ _ hlenN]
      rfl
    all_goals
      intro LD D a W hcl hi hp hs hw
      repeat (first | (refine sxv hs hw ?_; clear hs; intro a hs) | refine sxc hs ?_ | (refine sxa hs hw ?_; clear hs hw; intro a b W hw hs) | (refine sxs hs hw ?_; clear hs hw; intro W hs hw))
      exact ⟨hs, hw⟩
  all_goals
    intro LD D a W hcl hi hp hs hw
    repeat (first | (refine sxv hs hw ?_; clear hs; intro a hs) | refine sxc hs ?_ | (refine sxa hs hw ?_; clear hs hw; intro a b W hw hs) | (refine sxs hs hw ?_; clear hs hw; intro W hs hw))
    exact ⟨hs, hw⟩
end Go.Proofs.YtmalklakaalaoaaGreatDoor.Sw

set_option linter.unusedVariables false
set_option maxRecDepth 10000
namespace Go.Proofs.YtmalklakaalaoaaGreatDoor.Sw
open Go.RowKit Go.Sx
-- pieces
set_option maxHeartbeats 4000000 in
theorem law5_CutBatch (c q : Int) (l : List OpD) (sv : Value) (w : World) (hz : ∀ o ∈ l, o.key.size ≤ 9223372036854775807 ∧ o.vs.size ≤ 9223372036854775807 ∧ o.os.size ≤ 9223372036854775807) (r : Rd w 9 sv l.length (l.flatMap opCells)) :
    Calls Tryz.prog 51 ⟨[.agg ⟨[.int .i64 c, .int .i64 q, sv]⟩]⟩ w fun e w' => ∃ ad cap, e = .returned (.agg ⟨[.int .i64 c, .int .i64 q, .slice ad (cutD l).length cap]⟩) ∧ Has 0 w w' (Sx.Own 95 9 (.slice ad (cutD l).length cap) (cutD l).length ((cutD l).flatMap opCells) :: Old w 0 :: []) := by
  have hw := Has.start (G := 0) (w := w) (Nat.zero_le _)
  obtain ⟨sad, scap, rfl⟩ : ∃ ad cap, sv = .slice ad l.length cap := by obtain ⟨_, ad, cap, e, _⟩ := r; exact ⟨ad, cap, e⟩
  refine enter Tryz.func51 Tryz.ntmps51 rfl rfl fun a hs => ?_
  repeat (first | (refine sxv hs hw ?_; clear hs; intro a hs) | refine sxc hs ?_ | (refine sxa hs hw ?_; clear hs hw; intro a b W hw hs) | (refine sxs hs hw ?_; clear hs hw; intro W hs hw))
  refine st_call hs (hc := law5_Cut l _ _ hz (hw.rd (by repeat (first | exact In.hd | apply In.tl)) hw.ext.size r)) (k := ?_); rintro e0 W1 ⟨ad, cap, rfl, hw1⟩; refine ⟨_, rfl, ?_⟩; clear hs; intro a hs; replace hw := hw.call hw1; clear hw1
  repeat (first | (refine sxv hs hw ?_; clear hs; intro a hs) | refine sxc hs ?_ | (refine sxa hs hw ?_; clear hs hw; intro a b W hw hs) | (refine sxs hs hw ?_; clear hs hw; intro W hs hw))
  refine rc1 hs rfl rfl hw (In.tl In.hd) rfl ?_
  exact ⟨ad, cap, rfl, hw.drop2.drop2⟩
end Go.Proofs.YtmalklakaalaoaaGreatDoor.Sw

set_option linter.unusedVariables false
set_option maxRecDepth 10000
namespace Go.Sx
end Go.Sx
namespace Go.Proofs.YtmalklakaalaoaaGreatDoor.Sw
open Go.RowKit Go.Sx
-- pieces
structure BatWf (b : BatchD) : Prop where
  c : (Lit.int .i64 b.c).wf = true
  q : (Lit.int .i64 b.q).wf = true
  ops : ∀ o ∈ b.l, OpWf o
def cutB (b : BatchD) : BatchD := ⟨b.c, b.q, cutD b.l⟩
def batsB (l : List BatchD) (n : Nat) : List BatchD := (l.take n).map cutB
theorem cutB_ok {b : BatchD} (h : BatWf b) : BatOk (cutB b) := ⟨wf_i64 h.c, wf_i64 h.q, cutD_ok h.ops⟩
def BatsH (H : Fh) (v : Value) (l : List BatchD) : Prop := ∃ xs, RdH H 3 v l.length xs ∧ Ch (BatIn H) l xs
set_option maxHeartbeats 8000000 in
theorem law7_Batches (w0 W : World) (H : Fh) (l : List BatchD) (v : Value) (n : Nat) (R : List Res) (hn : n ≤ 1000) (hb : ∀ b ∈ l, BatWf b) (hr : BatsH H v l) (hw : Has 0 w0 W (Fz H :: R)) :
    Calls Tryz.prog 21 ⟨[v, .int .i64 (n : Int)]⟩ W fun e W' => ∃ v' H', e = .returned v' ∧ H.le H' ∧ BatsH H' v' (batsB l n) ∧ Has 0 w0 W' (Fz H' :: R) := by
  obtain ⟨xs, hr, hch⟩ := hr
  obtain ⟨sad, scap, rfl⟩ := hr.slice
  have hlen := hr.len
  refine enter Tryz.func21 Tryz.ntmps21 rfl rfl fun a hs => ?_
  repeat (first | (refine sxv hs hw ?_; clear hs; intro a hs) | refine sxc hs ?_ | (refine sxa hs hw ?_; clear hs hw; intro a b W hw hs) | (refine sxs hs hw ?_; clear hs hw; intro W hs hw))
  have hw := hw.nilOwn 36 3
  refine st_loop (σ := Nat × Option Addr × Nat × List Value × Fh) (fun t => [(0, .slice sad l.length scap), (1, .int .i64 (n : Int)), (6, .int .i64 (t.1 : Int)), (5, .slice t.2.1 (batsB l t.1).length t.2.2.1)]) (fun t => Sx.Own 36 3 (.slice t.2.1 (batsB l t.1).length t.2.2.1) (batsB l t.1).length t.2.2.2.1 :: Fz t.2.2.2.2 :: R) (fun t => t.1 ≤ l.length ∧ t.1 ≤ n ∧ H.le t.2.2.2.2 ∧ Ch (BatIn t.2.2.2.2) (batsB l t.1) t.2.2.2.1) (fun t => l.length - t.1) (0, none, 0, [], H) ⟨Nat.zero_le _, Nat.zero_le _, Fh.le.refl _, rfl⟩ hs ⟨rfl, rfl, rfl, rfl, trivial⟩ hw ?_
  clear hs hw
  rintro ⟨j, oad, ocap, ys, H'⟩ a W ⟨hj, hjn, hH', hch2⟩ hs hw
  simp only at hj hjn hH' hch2 hs hw
  have fin : batsB l j = batsB l n → ∀ (a : Act) (W : World), Slots a 27 [(5, .slice oad (batsB l j).length ocap)] → Has 0 w0 W (Sx.Own 36 3 (.slice oad (batsB l j).length ocap) (batsB l j).length ys :: Fz H' :: R) → ∃ H2, H.le H2 ∧ BatsH H2 (.slice oad (batsB l j).length ocap) (batsB l n) ∧ Has 0 w0 W (Fz H2 :: R) := by
    intro he a W hs hw
    obtain ⟨H2, h1, h2, h3⟩ := hw.freeze_own
    refine ⟨H2, hH'.trans h1, ⟨ys, he ▸ h3, he ▸ (hch2.mono (BatIn.le h1))⟩, h2⟩
  repeat (first | (refine sxv hs hw ?_; clear hs; intro a hs) | refine sxc hs ?_ | (refine sxa hs hw ?_; clear hs hw; intro a b W hw hs) | (refine sxs hs hw ?_; clear hs hw; intro W hs hw))
  cases hc1 : decide ((j : Int) < (l.length : Int)) with
  | false =>
    rw [hc1] at hs
    have hj' : j = l.length := by have := of_decide_eq_false hc1; omega
    repeat (first | (refine sxv hs hw ?_; clear hs; intro a hs) | refine sxc hs ?_ | (refine sxa hs hw ?_; clear hs hw; intro a b W hw hs) | (refine sxs hs hw ?_; clear hs hw; intro W hs hw))
    obtain ⟨H2, h1, h2, h3⟩ := fin (by unfold batsB; rw [List.take_of_length_le (by omega), List.take_of_length_le (by omega)]) a W (hs.of ⟨rfl, trivial⟩) hw
    exact rt1 hs rfl rfl ⟨_, H2, rfl, h1, h2, h3⟩
  | true =>
  rw [hc1] at hs
  have hj' : j < l.length := by have := of_decide_eq_true hc1; omega
  repeat (first | (refine sxv hs hw ?_; clear hs; intro a hs) | refine sxc hs ?_ | (refine sxa hs hw ?_; clear hs hw; intro a b W hw hs) | (refine sxs hs hw ?_; clear hs hw; intro W hs hw))
  cases hc2 : decide ((j : Int) < (n : Int)) with
  | false =>
    rw [hc2] at hs
    have hjn' : j = n := by have := of_decide_eq_false hc2; omega
    repeat (first | (refine sxv hs hw ?_; clear hs; intro a hs) | refine sxc hs ?_ | (refine sxa hs hw ?_; clear hs hw; intro a b W hw hs) | (refine sxs hs hw ?_; clear hs hw; intro W hs hw))
    obtain ⟨H2, h1, h2, h3⟩ := fin (by rw [hjn']) a W (hs.of ⟨rfl, trivial⟩) hw
    exact rt1 hs rfl rfl ⟨_, H2, rfl, h1, h2, h3⟩
  | true =>
  rw [hc2] at hs
  have hjn' : j < n := by have := of_decide_eq_true hc2; omega
  clear fin
  obtain ⟨bt, hbi⟩ : ∃ o, l[j]? = some o := ⟨l[j], List.getElem?_eq_getElem hj'⟩
  have hok := hb bt (List.mem_of_getElem? hbi)
  have hnext : batsB l (j + 1) = batsB l j ++ [cutB bt] := by
    unfold batsB
    rw [take_of hbi, List.map_append]; rfl
  have htk : (batsB l j).length ≤ 1000 := by unfold batsB; rw [List.length_map, List.length_take]; omega
  repeat (first | (refine sxv hs hw ?_; clear hs; intro a hs) | refine sxc hs ?_ | (refine sxa hs hw ?_; clear hs hw; intro a b W hw hs) | (refine sxs hs hw ?_; clear hs hw; intro W hs hw))
  refine st_index_ch hs (r := hw.rdH (by repeat (first | exact In.hd | apply In.tl)) (hr.le hH')) (hk := BatIn.len) (ch := hch.mono (BatIn.le hH')) (ho := hbi) (hlen := rfl) (c := ?_); clear hs; intro a g off c hc hcl hpc hlt hs
  obtain ⟨bv, rfl, hbv⟩ := hc
  refine st_load_ats hs (cs := batCells bt bv) (hc := hpc) (hl := by rfl) (c := ?_); clear hs; intro a hs
  clear hpc
  refine st_call hs (hc := law5_CutBatch bt.c bt.q bt.l bv _ (wf_sizes hok.ops) (hw.rdH (by repeat (first | exact In.hd | apply In.tl)) hbv)) (k := ?_); rintro e0 W1 ⟨nad, ncap, rfl, hw1⟩; refine ⟨_, rfl, ?_⟩; clear hs; intro a hs; replace hw := hw.call hw1; clear hw1
  have hw : Has 0 w0 _ (Sx.Own 95 9 (.slice nad (cutD bt.l).length ncap) (cutD bt.l).length ((cutD bt.l).flatMap opCells) :: Fz H' :: Sx.Own 36 3 (.slice oad (batsB l j).length ocap) (batsB l j).length ys :: R) := hw.perm (by repeat (first | exact List.Perm.refl _ | refine perm_pick (by repeat (first | exact Pick.hd | apply Pick.tl)) ?_))
  obtain ⟨H2, hle, hw, hnv⟩ := hw.freeze_own
  repeat (first | (refine sxv hs hw ?_; clear hs; intro a hs) | refine sxc hs ?_ | (refine sxa hs hw ?_; clear hs hw; intro a b W hw hs) | (refine sxs hs hw ?_; clear hs hw; intro W hs hw))
  obtain ⟨bx, qx⟩ := nm1 hw; subst qx
  have hw : Has 0 w0 _ (Sx.Own 36 3 (.slice oad (batsB l j).length ocap) (batsB l j).length ys :: Cells bx (batCells (cutB bt) (.slice nad (cutD bt.l).length ncap)) 36 :: Fz H2 :: R) := hw.perm (by repeat (first | exact List.Perm.refl _ | refine perm_pick (by repeat (first | exact Pick.hd | apply Pick.tl)) ?_))
  refine st_append1 hs (hw := hw) (hi := In.hd) (ch := hch2.mono (BatIn.le hle)) (ha := (⟨_, rfl, hnv⟩ : BatIn H2 (cutB bt) (batCells (cutB bt) (.slice nad (cutD bt.l).length ncap)))) (hl := rfl) (h1 := rfl) (hb := by omega) (h63 := by omega) (k := ?_)
  clear hs hw; intro a ad2 cap2 W hs hw hc2
  rw [← hnext] at hs hw hc2
  repeat (first | (refine sxv hs hw ?_; clear hs; intro a hs) | refine sxc hs ?_ | (refine sxa hs hw ?_; clear hs hw; intro a b W hw hs) | (refine sxs hs hw ?_; clear hs hw; intro W hs hw))
  exact st_again (j + 1, ad2, cap2, ys ++ batCells (cutB bt) (.slice nad (cutD bt.l).length ncap), H2) hs hw.drop2 ⟨hj', hjn', hH'.trans hle, hc2⟩ (by show l.length - (j + 1) < l.length - j; omega) ⟨rfl, rfl, int_eq (by show IntKind.i64.wrap ((j : Int) + 1) = ((j + 1 : Nat) : Int); rw [IntWalk.i64_in _ (by omega)]; omega), rfl, trivial⟩
abbrev zrf : List Value := [.int .i64 0, .slice none 0 0, .int .i64 0, .int .i64 0, .int .i64 0, .int .i64 0, .int .i64 0, .int .i64 0, .int .i64 0, .int .i64 0, .int .i64 0, .slice none 0 0, .int .i64 0, .int .i64 0, .int .i64 0, .int .i64 0, .slice none 0 0, .int .i64 0, .int .i64 0, .int .i64 0, .int .i64 0, .slice none 0 0, .int .i64 0, .int .i64 0, .int .i64 0, .int .i64 0, .slice none 0 0, .int .i64 0, .int .i64 0, .int .i64 0, .int .i64 0, .slice none 0 0, .int .i64 0, .int .i64 0, .int .i64 0, .int .i64 0, .slice none 0 0, .int .i64 0]
theorem rf_empty (H : Fh) : RfIn H emptyF zrf := by
  have z : ToRow H (0, zeroRow) zrc := ⟨_, rfl, ops_nil H⟩
  have y : NumIn (0, zeroRow) [.int .i64 0] := rfl
  refine ⟨.slice none 0 0, List.replicate 6 (.int .i64 0), zrc ++ (zrc ++ (zrc ++ (zrc ++ (zrc ++ (zrc ++ []))))), by with_unfolding_all exact rfl, RdH.nil H 4 0 (by omega), rfl, ?_, ?_⟩
  · exact ⟨_, _, rfl, y, _, _, rfl, y, _, _, rfl, y, _, _, rfl, y, _, _, rfl, y, _, _, rfl, y, rfl⟩
  · exact ⟨_, _, rfl, z, _, _, rfl, z, _, _, rfl, z, _, _, rfl, z, _, _, rfl, z, _, _, rfl, z, rfl⟩
theorem next_no {f : FoldD} {b : BatchD} (h : (next f b).2.2 = false) : (next f b).1 = f := by
  unfold next at *
  cases hb : nextB f b with
  | true => rw [hb] at h; cases h
  | false => rfl
end Go.Proofs.YtmalklakaalaoaaGreatDoor.Sw

set_option linter.unusedVariables false
namespace Go.Proofs.YtmalklakaalaoaaGreatDoor.Sw
open Go.RowKit Go.Sx
def BatRd (W : World) (b : BatchD) (cs : List Value) : Prop := ∃ sv, cs = batCells b sv ∧ Rd W 9 sv b.l.length (b.l.flatMap opCells)
end Go.Proofs.YtmalklakaalaoaaGreatDoor.Sw

set_option linter.unusedVariables false
set_option maxRecDepth 10000
namespace Go.Proofs.YtmalklakaalaoaaGreatDoor
open Go.ChangeShapes Go.WideShapes Go.ChangeAt Go.RowKit Go.Lib Go.Sx Go.Proofs Go.Deep
open Sw Go.Joins
section
variable {H : Type} {enc : TypeId × Value → H} {w : World} {spare : Nat → Bool} {held : Bool}
theorem ch_map {α : Type} {Rr : α → List Value → Prop} (O : Nat → α) (C : Nat → List Value) : ∀ l : List Nat, (∀ i ∈ l, Rr (O i) (C i)) → Ch Rr (l.map O) (l.flatMap C)
  | [], _ => rfl
  | i :: l, h => ⟨C i, l.flatMap C, rfl, h i (by simp), ch_map O C l fun j hj => h j (by simp [hj])⟩
theorem flatMap_get {C : Nat → List Value} {k : Nat} : ∀ (n b : Nat) (j : Nat) (x : Value), (∀ i, b ≤ i → i < b + n → (C i).length = k) → ((List.range' b n).flatMap C)[j]? = some x → ∃ i kk, b ≤ i ∧ i < b + n ∧ (C i)[kk]? = some x ∧ j = (i - b) * k + kk ∧ kk < k
  | 0, b, j, x, _, h => by simp at h
  | n + 1, b, j, x, hk, h => by
    rw [List.range'_succ, List.flatMap_cons, List.getElem?_append] at h
    have hb := hk b (Nat.le_refl _) (by omega)
    split at h
    · rename_i hj
      exact ⟨b, j, Nat.le_refl _, by omega, h, by simp, by omega⟩
    · rename_i hj
      obtain ⟨i, kk, h1, h2, h3, h4, h5⟩ := flatMap_get n (b + 1) _ x (fun i h1 h2 => hk i (by omega) (by omega)) h
      refine ⟨i, kk, by omega, by omega, h3, ?_, h5⟩
      have e : (i - b) * k = (i - (b + 1)) * k + k := by
        rw [show i - b = (i - (b + 1)) + 1 by omega, Nat.add_mul, Nat.one_mul]
      omega
theorem flatMap_len {C : Nat → List Value} {k : Nat} : ∀ (n b : Nat), (∀ i, b ≤ i → i < b + n → (C i).length = k) → ((List.range' b n).flatMap C).length = n * k
  | 0, b, _ => by simp
  | n + 1, b, hk => by
    rw [List.range'_succ, List.flatMap_cons, List.length_append, hk b (Nat.le_refl _) (by omega), flatMap_len n (b + 1) fun i h1 h2 => hk i (by omega) (by omega), Nat.add_mul]
    omega
theorem open_list {α : Type} [Inhabited α] {t e : TypeId} {k : Nat} (ht : Tryz.prog.underlying t = some (.slice e)) (hc : Tryz.prog.cellsOf e = k) (hk0 : 0 < k) {Rr : α → List Value → Prop} {Wf : α → Prop}
    (op : ∀ {fuel : Nat} {cs : List Value} {x : DataW H × List MemPlace}, DataW.trod enc Tryz.prog w 0 spare held fuel e cs = some x → ∃ o, Rr o cs ∧ Wf o)
    {fuel : Nat} {cs : List Value} {x : DataW H × List MemPlace} (h : DataW.trod enc Tryz.prog w 0 spare held fuel t cs = some x) :
    ∃ (sv : Value) (l : List α), cs = [sv] ∧ (∀ o ∈ l, Wf o) ∧ ∃ xs, Rd w k sv l.length xs ∧ Ch Rr l xs := by
  have hlt := DataW.trod_lt _ _ _ _ h
  rcases open_slice ht h with ⟨rfl, -⟩ | ⟨a, len, cap, m, n, D, Pl, rfl, -, hl, hm, hmm, rfl, hx⟩
  · exact ⟨_, [], rfl, by simp, [], Rd.nil w k 0 (by omega), rfl⟩
  · have hlm : len ≤ m := by rw [hmm]; split <;> omega
    obtain ⟨O, hO⟩ := choose_lt (n := len) (α := α × List Value) (p := fun i o => Rr o.1 o.2 ∧ Wf o.1 ∧ o.2.length = k ∧ ∀ j u, o.2[j]? = some u → w.cell? ((a.add (i * k)).add j) = some u) fun i hi => by
      obtain ⟨cs', h1, h2⟩ := hx i (by omega)
      obtain ⟨o, ho1, ho2⟩ := op h2
      rw [hc] at h1
      obtain ⟨_, hlen, h3⟩ := World.cells?_some h1
      refine ⟨(o, cs'), ho1, ho2, by simpa using hlen, fun j u hj => ?_⟩
      have hjk : j < k := by
        have h9 : j < cs'.length := (List.getElem?_eq_some_iff.1 hj).1
        have e : cs'.length = k := by simpa using hlen
        omega
      rw [h3 j hjk]; exact hj
    have hcap : cap ≤ 9223372036854775807 := max63 hm
    have hL : ((List.range len).map fun i => (O i).1).length = len := by simp
    have hr : List.range len = List.range' 0 len := List.range_eq_range'
    have hks : ∀ i, 0 ≤ i → i < 0 + len → (O i).2.length = k := fun i _ hi => (hO i (by omega)).2.2.1
    refine ⟨_, (List.range len).map fun i => (O i).1, rfl, fun o ho => ?_, (List.range len).flatMap fun i => (O i).2, ?_, ch_map _ _ _ fun i hi => (hO i (List.mem_range.1 hi)).1⟩
    · obtain ⟨i, hi, rfl⟩ := List.mem_map.1 ho
      exact (hO i (List.mem_range.1 hi)).2.1
    · rw [hL]
      refine ⟨by rw [hr]; exact flatMap_len len 0 hks, some a, cap, rfl, hl, hcap, ?_⟩
      rcases Nat.eq_zero_or_pos len with h0 | h0
      · exact .inl h0
      · right
        obtain ⟨b, off, spot⟩ := a
        have h00 : ∃ u, (O 0).2[0]? = some u := ⟨_, List.getElem?_eq_getElem (by rw [hks 0 (Nat.zero_le _) (by omega)]; exact hk0)⟩
        obtain ⟨u0, hu0⟩ := h00
        have h00 := (hO 0 h0).2.2.2 0 u0 hu0
        have hspot : spot = none := by simpa [Addr.add] using World.cell?_spot h00
        subst hspot
        refine ⟨b, off, rfl, ?_, fun j x hj => ?_⟩
        · have hpos : 0 < m * k := Nat.mul_pos (by omega) hk0
          exact hlt (.cell b off) (List.mem_append_left _ (MemPlace.mem_row.2 ⟨0, by rw [hc]; exact hpos, rfl⟩))
        · rw [hr] at hj
          obtain ⟨i, kk, h1, h2, h3, rfl, h5⟩ := flatMap_get len 0 j x hks hj
          have := (hO i (by omega)).2.2.2 kk x h3
          rw [add_add, add_plain] at this
          exact this
theorem open_bat_cells {fuel : Nat} {cs : List Value} {x : DataW H × List MemPlace} (h : DataW.trod enc Tryz.prog w 0 spare held fuel 36 cs = some x) : ∃ b, BatRd w b cs ∧ BatWf b := by
  obtain ⟨xs, n, _, rfl, hl, hlen, hf⟩ := DataW.trod_struct Tryz.underlying36 h
  have c0 : Tryz.prog.cellsOf 36 = 3 := by kernel_rfl
  have c1 : Tryz.prog.cellsOf 3 = 1 := by kernel_rfl
  have c2 : Tryz.prog.cellsOf 2 = 1 := by kernel_rfl
  have c3 : Tryz.prog.cellsOf 34 = 1 := by kernel_rfl
  rw [c0] at hl
  match cs, hl, xs, hlen with
  | [v0, v1, v2], _, [y0, y1, y2], _ =>
    have h0 := hf 0 _ rfl
    have h1 := hf 1 _ rfl
    have h2 := hf 2 _ rfl
    change DataW.trod enc _ w 0 spare held n 3 (([v0, v1, v2].drop 0).take (Tryz.prog.cellsOf 3)) = some y0 at h0
    change DataW.trod enc _ w 0 spare held n 2 (([v0, v1, v2].drop 1).take (Tryz.prog.cellsOf 2)) = some y1 at h1
    change DataW.trod enc _ w 0 spare held n 34 (([v0, v1, v2].drop 2).take (Tryz.prog.cellsOf 34)) = some y2 at h2
    rw [c1] at h0
    rw [c2] at h1
    rw [c3] at h2
    obtain ⟨k, e0, _, w0⟩ := DataW.trod_int Tryz.underlying3 h0
    obtain ⟨m, e1, _, w1⟩ := DataW.trod_int Tryz.underlying2 h1
    obtain ⟨sv, l, e2, ho, hr⟩ := open_ops h2
    simp at e0 e1 e2
    subst e0 e1 e2
    exact ⟨⟨k, m, l⟩, ⟨v2, rfl, hr⟩, w0, w1, ho⟩
instance : Inhabited BatchD := ⟨⟨0, 0, []⟩⟩
instance : Inhabited RowD := ⟨zeroRow⟩ -- 39
end
end Go.Proofs.YtmalklakaalaoaaGreatDoor

set_option linter.unusedVariables false
namespace Go.Proofs.YtmalklakaalaoaaGreatDoor.Sw
open Go.RowKit Go.Sx
structure TopD where
  kind : Int
  b : BatchD
  data : ByteArray
  off : Int
def tcells (o : TopD) (sv : Value) : List Value := [.int .i64 o.kind, .int .i64 o.b.c, .int .i64 o.b.q, sv, .string o.data, .int .i64 o.off]
structure TopWf (o : TopD) : Prop where
  kind : (Lit.int .i64 o.kind).wf = true
  b : BatWf o.b
  data : o.data.size ≤ 9223372036854775807
  off : (Lit.int .i64 o.off).wf = true
def TopRd (W : World) (o : TopD) (cs : List Value) : Prop := ∃ sv, cs = tcells o sv ∧ Rd W 9 sv o.b.l.length (o.b.l.flatMap opCells)
def TopsRd (W : World) (v : Value) (l : List TopD) : Prop := ∃ xs, Rd W 6 v l.length xs ∧ Ch (TopRd W) l xs
def TopIn (H : Fh) (o : TopD) (cs : List Value) : Prop := ∃ sv, cs = tcells o sv ∧ OpsH H sv o.b.l
def TopsH (H : Fh) (v : Value) (l : List TopD) : Prop := ∃ xs, RdH H 6 v l.length xs ∧ Ch (TopIn H) l xs
theorem TopsRd.h {W : World} {v : Value} {l : List TopD} (r : TopsRd W v l) : TopsH (fr W) v l := by
  obtain ⟨xs, h1, h2⟩ := r
  exact ⟨xs, RdH.of_rd h1 (Fh.le.refl _) (by decide), h2.mono fun b c ⟨sv, e, h⟩ => ⟨sv, e, RdH.of_rd h (Fh.le.refl _) (by decide)⟩⟩
theorem TopIn.len {H : Fh} : ∀ (b : TopD) (c : List Value), TopIn H b c → c.length = 6 := by rintro b c ⟨sv, rfl, _⟩; rfl
theorem TopIn.le {H H' : Fh} (h : H.le H') : ∀ (b : TopD) (c : List Value), TopIn H b c → TopIn H' b c := by rintro b c ⟨sv, rfl, h1⟩; exact ⟨sv, rfl, h1.le h⟩
def BoolIn (x : Bool) (c : List Value) : Prop := c = [.bool x]
theorem BoolIn.len : ∀ (x : Bool) (c : List Value), BoolIn x c → c.length = 1 := by rintro x c rfl; rfl
def BoolsRd (W : World) (v : Value) (l : List Bool) : Prop := ∃ xs, Rd W 1 v l.length xs ∧ Ch BoolIn l xs
end Go.Proofs.YtmalklakaalaoaaGreatDoor.Sw

set_option linter.unusedVariables false
set_option maxRecDepth 10000
namespace Go.Proofs.YtmalklakaalaoaaGreatDoor
open Go.ChangeShapes Go.WideShapes Go.ChangeAt Go.RowKit Go.Lib Go.Sx Go.Proofs Go.Deep
open Sw Go.Joins
section
variable {H : Type} {enc : TypeId × Value → H} {w : World} {spare : Nat → Bool} {held : Bool}
instance : Inhabited TopD := ⟨⟨0, ⟨0, 0, []⟩, ⟨#[]⟩, 0⟩⟩
theorem open_top_cells {fuel : Nat} {cs : List Value} {x : DataW H × List MemPlace} (h : DataW.trod enc Tryz.prog w 0 spare held fuel 59 cs = some x) : ∃ o, TopRd w o cs ∧ TopWf o := by
  obtain ⟨xs, n, _, rfl, hl, hlen, hf⟩ := DataW.trod_struct Tryz.underlying59 h
  have c0 : Tryz.prog.cellsOf 59 = 6 := by kernel_rfl
  have c1 : Tryz.prog.cellsOf 3 = 1 := by kernel_rfl
  have c2 : Tryz.prog.cellsOf 2 = 1 := by kernel_rfl
  have c3 : Tryz.prog.cellsOf 36 = 3 := by kernel_rfl
  have c4 : Tryz.prog.cellsOf 9 = 1 := by kernel_rfl
  rw [c0] at hl
  match cs, hl, xs, hlen with
  | [v0, v1, v2, v3, v4, v5], _, [y0, y1, y2, y3], _ =>
    have h0 := hf 0 _ rfl
    have h1 := hf 1 _ rfl
    have h2 := hf 2 _ rfl
    have h3 := hf 3 _ rfl
    change DataW.trod enc _ w 0 spare held n 3 (([v0, v1, v2, v3, v4, v5].drop 0).take (Tryz.prog.cellsOf 3)) = some y0 at h0
    change DataW.trod enc _ w 0 spare held n 36 (([v0, v1, v2, v3, v4, v5].drop 1).take (Tryz.prog.cellsOf 36)) = some y1 at h1
    change DataW.trod enc _ w 0 spare held n 9 (([v0, v1, v2, v3, v4, v5].drop 4).take (Tryz.prog.cellsOf 9)) = some y2 at h2
    change DataW.trod enc _ w 0 spare held n 2 (([v0, v1, v2, v3, v4, v5].drop 5).take (Tryz.prog.cellsOf 2)) = some y3 at h3
    rw [c1] at h0
    rw [c3] at h1
    rw [c4] at h2
    rw [c2] at h3
    obtain ⟨k, e0, _, w0⟩ := DataW.trod_int Tryz.underlying3 h0
    obtain ⟨b, ⟨sv, e1, hr⟩, hb⟩ := open_bat_cells h1
    obtain ⟨s, e2, _, w2⟩ := DataW.trod_string Tryz.underlying9 h2
    obtain ⟨m, e3, _, w3⟩ := DataW.trod_int Tryz.underlying2 h3
    simp [batCells] at e0 e1 e2 e3
    obtain ⟨e11, e12, e13⟩ := e1
    subst e0 e11 e12 e13 e2 e3
    exact ⟨⟨k, b, s, m⟩, ⟨v3, rfl, hr⟩, w0, hb, w2, w3⟩
theorem open_bool_cells {fuel : Nat} {cs : List Value} {x : DataW H × List MemPlace} (h : DataW.trod enc Tryz.prog w 0 spare held fuel 4 cs = some x) : ∃ k, BoolIn k cs ∧ True := by
  obtain ⟨k, e0, _⟩ := DataW.trod_bool Tryz.underlying4 h
  exact ⟨k, (by simpa using e0 : cs = [.bool k]), trivial⟩
theorem open_tops {r : Reach} {b0 : Nat} {v : Value} {d : DataW H} {p : List MemPlace} (hv : Value.okWide Tryz.prog w r b0 54 v) (h : DataW.Trod enc Tryz.prog w 0 spare held 54 v d p) : ∃ l, (∀ b ∈ l, TopWf b) ∧ TopsRd w v l := by
  obtain ⟨b, len, cap, rfl⟩ := okWide_slice Tryz.underlying54 hv
  obtain ⟨fuel, hf⟩ := h
  obtain ⟨sv, l, e, h1, h2⟩ := open_list Tryz.underlying54 (by kernel_rfl : _ = 6) (by decide) open_top_cells hf
  simp [Value.cells] at e
  subst e
  exact ⟨l, h1, h2⟩
theorem open_bools {r : Reach} {b0 : Nat} {v : Value} {d : DataW H} {p : List MemPlace} (hv : Value.okWide Tryz.prog w r b0 55 v) (h : DataW.Trod enc Tryz.prog w 0 spare held 55 v d p) : ∃ l, (∀ b ∈ l, True) ∧ BoolsRd w v l := by
  obtain ⟨b, len, cap, rfl⟩ := okWide_slice Tryz.underlying55 hv
  obtain ⟨fuel, hf⟩ := h
  obtain ⟨sv, l, e, h1, h2⟩ := open_list Tryz.underlying55 (by kernel_rfl : _ = 1) (by decide) open_bool_cells hf
  simp [Value.cells] at e
  subst e
  exact ⟨l, h1, h2⟩
end
end Go.Proofs.YtmalklakaalaoaaGreatDoor

set_option linter.unusedVariables false
set_option maxRecDepth 10000
namespace Go.Proofs.YtmalklakaalaoaaGreatDoor.Sw
open Go.RowKit Go.Sx
-- pieces
def Play : FoldD → List RowD → FoldD → Prop
  | f, [], f' => f = f'
  | f, r :: rs, f' => (next f r.b).2.2 = true ∧ (next f r.b).2.1 = r ∧ Play (next f r.b).1 rs f'
theorem Play.app : ∀ {f f' f'' : FoldD} {a b : List RowD}, Play f a f' → Play f' b f'' → Play f (a ++ b) f''
  | f, f', f'', [], b, h1, h2 => by
    have h1 : f = f' := h1
    subst h1; exact h2
  | f, f', f'', r :: a, b, ⟨h1, h2, h3⟩, h4 => ⟨h1, h2, h3.app h4⟩
theorem next_ok {f : FoldD} {b : BatchD} (h : (next f b).2.2 = true) : nextB f b = true ∧ next f b = (nextF f b, nextR f b, true) := by
  unfold next at *
  cases hb : nextB f b with
  | true => exact ⟨rfl, rfl⟩
  | false => rw [hb] at h; cases h
theorem next_row {f : FoldD} {b : BatchD} (h : (next f b).2.2 = true) : (next f b).2.1.b = b := by rw [(next_ok h).2]; rfl
theorem play_mem : ∀ {rows : List RowD} {f f' : FoldD}, Play f rows f' → ∀ r ∈ rows, mayB r.b = true
  | [], _, _, _, r, h => by simp at h
  | x :: rows, f, f', ⟨h1, h2, h3⟩, r, h => by
    rcases List.mem_cons.1 h with rfl | h
    · have := (next_ok h1).1
      unfold nextB at this
      exact (Bool.and_eq_true _ _ |>.mp this).1
    · exact play_mem h3 r h
theorem setRL_err (d : Dm) (k : ByteArray) (x : Option DV) : (setRL d k x).1 = 0 ∨ (setRL d k x).1 = 6 := by
  cases x with
  | none => exact .inl rfl
  | some v => unfold setRL; simp only; split <;> simp
theorem doL_err (d : Dm) (o : OpD) : 0 ≤ (doL d o).1 ∧ (doL d o).1 ≤ 8 := by
  have h : ∀ k x, 0 ≤ (setRL d k x).1 ∧ (setRL d k x).1 ≤ 8 := fun k x => by
    rcases setRL_err d k x with h' | h' <;> (rw [h']; exact ⟨by decide, by decide⟩)
  have c : ∀ n : Int, 0 ≤ n → n ≤ 8 → 0 ≤ ((n, d) : Int × Dm).1 ∧ ((n, d) : Int × Dm).1 ≤ 8 := fun n h1 h2 => ⟨h1, h2⟩
  unfold doL
  split
  · split
    · exact h _ _
    · exact c 8 (by decide) (by decide)
  · split
    · split
      · exact c 7 (by decide) (by decide)
      · split
        · exact c 4 (by decide) (by decide)
        · exact h _ _
    · exact h _ _
theorem goL_err : ∀ (l : List OpD) (d : Dm), 0 ≤ (goL l d).1 ∧ (goL l d).1 ≤ 8
  | [], d => ⟨by show (0 : Int) ≤ 0; decide, by show (0 : Int) ≤ 8; decide⟩
  | o :: l, d => by
    unfold goL
    split
    · exact ⟨by show (0 : Int) ≤ 1; decide, by show (1 : Int) ≤ 8; decide⟩
    · split
      · exact goL_err l _
      · exact doL_err d o
theorem applyL_err (d : Dm) (l : List OpD) : 0 ≤ (applyL d l).1 ∧ (applyL d l).1 ≤ 8 := by
  unfold applyL
  split
  · exact ⟨by show (0 : Int) ≤ 1; decide, by show (1 : Int) ≤ 8; decide⟩
  · split
    · exact ⟨by show (0 : Int) ≤ 0; decide, by show (0 : Int) ≤ 8; decide⟩
    · exact goL_err l d
end Go.Proofs.YtmalklakaalaoaaGreatDoor.Sw

set_option linter.unusedVariables false
namespace Go.Proofs.YtmalklakaalaoaaGreatDoor
open Go.RowKit
theorem info_byte : (Tryz.prog.info? 5).map (fun i => (i.zero, i.size, i.bytes)) = some (some (.int .u8 0), 1, 1) := by kernel_rfl
theorem ret_int3 {a a' b b' c c' : Int} (h1 : a = a') (h2 : b = b') (h3 : c = c') : Ending.returned (.tuple #[.int .i64 a, .int .i64 b, .int .i64 c]) = .returned (.tuple #[.int .i64 a', .int .i64 b', .int .i64 c']) := by rw [h1, h2, h3]
def OwnB (w : World) (B : Nat) (v : Value) (l : List UInt8) : Prop := w.ownsRow B 5 1 v l.length (Lib.byteCells l)
theorem u8w (x : Nat) (h : x < 128) : IntKind.u8.wrap (x : Int) = ((x.toUInt8).toNat : Int) := by
  rw [IntKind.wrap_u8, Ph.u8n x (by omega)]; omega
theorem u8p (x : Nat) (h : x < 128) : (x : Int) = ((x.toUInt8).toNat : Int) := by rw [Ph.u8n x (by omega)]
theorem u8o (x : Nat) : bits .or .u8 (IntKind.u8.wrap (x : Int)) 128 = (((x % 128 + 128).toUInt8).toNat : Int) := by
  have e : IntKind.u8.wrap (x : Int) = ((x % 256 : Nat) : Int) := by rw [IntKind.wrap_u8]; omega
  rw [e, Ph.or128_at _ (by omega), Ph.u8n _ (by omega)]; omega
set_option maxRecDepth 100000 in
set_option maxHeartbeats 2000000 in
theorem num_Put_pos (B : Nat) (v : Value) (l : List UInt8) (n : Int) (w : World) (h0 : -9223372036854775808 ≤ n) (h1 : n ≤ 9223372036854775807) (hn : 0 ≤ n) (ho : OwnB w B v l) (hl : l.length ≤ 1000000000) (hB : B ≤ w.heap.size) :
    Calls Tryz.prog 61 #[v, .int .i64 n] w fun e w' => ∃ v', e = .returned v' ∧ OwnB w' B v' (l ++ Ph.putI n) ∧ Below B w w' ∧ B ≤ w'.heap.size := by
  obtain ⟨ib, hib, hbz, hbs, hbb⟩ := info_parts info_byte
  have HO : Hid (w.ownsRow B 5 1 v l.length (Lib.byteCells l)) := ho
  have HZ := Lib.hid (Ph.zig_small h0 h1).1
  clear ho
  go_enter Tryz.func61, Tryz.ntmps61
  go_wp2
  go_loopw [0, 5] (fun b u wr => ∃ (acc : List UInt8) (f x : Nat), u = .int .u64 x ∧ Hid (x < 128 ^ f) ∧ 1 ≤ f ∧ f ≤ 10 ∧ acc.length + f ≤ l.length + 10 ∧ Hid (wr.ownsRow B 5 1 b acc.length (Lib.byteCells acc)) ∧ Below B w wr ∧ B ≤ wr.heap.size ∧ Hid (acc ++ Ph.putN f x = l ++ Ph.putI n)) (fun _ u _ => (intOf u).toNat)
  case atStart => exact ⟨l, 10, Ph.zig n, by rw [Ph.zig_pos n hn], HZ.out, by omega, by omega, by omega, HO.out, Below.refl _ _, hB, rfl⟩
  case round =>
    obtain ⟨acc, f, x, rfl, HX, hf1, hf2, hal, HR, hbw, hBw, HE⟩ := hrel
    have hr := HR.out
    by_cases hx : x < 128
    · have hx' : (x : Int) ≤ 127 := by omega
      go_wp2_with (at_builtin; refine wpList_append_own _ rfl (.tmp 23) (.tmp 26) 61 rfl (B) 5 ib (.int .u8 0) 1 1 Tryz.underlying61 hib hbz hbs hbb rfl (by decide) _ acc.length _ rfl (hr.alloc _) ⟨wr.heap.size, 0, none⟩ 1 1 [?xv] rfl rfl ?c1 ?c2 ?c3 ?c4 ?c5 ?_)
      case c1 => exact (cell_one_new _ _ _)
      case c2 => simp [Value.oneCell']
      case c3 => unfold maxLen; omega
      case c4 => omega
      case c5 => simp; omega
      intro b1 w1 hr1 hg1 _
      have hb1 : Below (B) w w1 := (hbw.alloc hBw _).grown hg1 (by simp; omega) (fun g hg => (hr.lt g hg).1)
      have hB1 : B ≤ w1.heap.size := by have := hg1.size; simp at this; omega
      have hr2 := own_snoc (c := x.toUInt8) hr1 (u8p x hx)
      have HF : Hid (acc ++ [x.toUInt8] = l ++ Ph.putI n) := by
        show _ = _
        rw [← HE.out]
        obtain ⟨g, rfl⟩ : ∃ g, f = g + 1 := ⟨f - 1, by omega⟩
        rw [Ph.putN_last g x hx]
      clear hr hr1
      go_wp2
      go_ret
      refine ⟨_, rfl, ?_, hb1, hB1⟩
      unfold OwnB
      rw [← HF.out]
      exact hr2
    · have hx' : (127 : Int) < (x : Int) := by omega
      obtain ⟨g, hfg, hg1', hxg, hpn⟩ := Ph.putN_split f x hx HX.out
      have HPN := Lib.hid hpn
      have HXG := Lib.hid hxg
      clear hpn hxg
      go_wp2_with (at_builtin; refine wpList_append_own _ rfl (.tmp 15) (.tmp 19) 61 rfl (B) 5 ib (.int .u8 0) 1 1 Tryz.underlying61 hib hbz hbs hbb rfl (by decide) _ acc.length _ rfl (hr.alloc _) ⟨wr.heap.size, 0, none⟩ 1 1 [?yv] rfl rfl ?d1 ?d2 ?d3 ?d4 ?d5 ?_)
      case d1 => exact (cell_one_new _ _ _)
      case d2 => simp [Value.oneCell']
      case d3 => unfold maxLen; omega
      case d4 => omega
      case d5 => simp; omega
      intro b1 w1 hr1 hg1 _
      have hb1 : Below (B) w w1 := (hbw.alloc hBw _).grown hg1 (by simp; omega) (fun g hg => (hr.lt g hg).1)
      have hB1 : B ≤ w1.heap.size := by have := hg1.size; simp at this; omega
      have hr2 := own_snoc (c := (x % 128 + 128).toUInt8) hr1 (u8o x)
      have HF : Hid (acc ++ [(x % 128 + 128).toUInt8] ++ Ph.putN g (x / 128) = l ++ Ph.putI n) := by
        show _ = _
        rw [← HE.out, HPN.out]
        simp
      have HR2 := Lib.hid hr2
      clear hr hr1 hr2
      go_wp2
      go_roundw
      case rel => exact ⟨acc ++ [(x % 128 + 128).toUInt8], g, x / 128, by go_num, HXG.out, hg1', by omega, by simp; omega, HR2.out, hb1, hB1, HF.out⟩
      case measure => simp [intOf]; omega
set_option maxRecDepth 100000 in
set_option maxHeartbeats 2000000 in
theorem num_Put_neg (B : Nat) (v : Value) (l : List UInt8) (n : Int) (w : World) (h0 : -9223372036854775808 ≤ n) (h1 : n ≤ 9223372036854775807) (hn : n < 0) (ho : OwnB w B v l) (hl : l.length ≤ 1000000000) (hB : B ≤ w.heap.size) :
    Calls Tryz.prog 61 #[v, .int .i64 n] w fun e w' => ∃ v', e = .returned v' ∧ OwnB w' B v' (l ++ Ph.putI n) ∧ Below B w w' ∧ B ≤ w'.heap.size := by
  obtain ⟨ib, hib, hbz, hbs, hbb⟩ := info_parts info_byte
  have HO : Hid (w.ownsRow B 5 1 v l.length (Lib.byteCells l)) := ho
  have HZ := Lib.hid (Ph.zig_small h0 h1).1
  clear ho
  go_enter Tryz.func61, Tryz.ntmps61
  go_wp2
  go_loopw [0, 5] (fun b u wr => ∃ (acc : List UInt8) (f x : Nat), u = .int .u64 x ∧ Hid (x < 128 ^ f) ∧ 1 ≤ f ∧ f ≤ 10 ∧ acc.length + f ≤ l.length + 10 ∧ Hid (wr.ownsRow B 5 1 b acc.length (Lib.byteCells acc)) ∧ Below B w wr ∧ B ≤ wr.heap.size ∧ Hid (acc ++ Ph.putN f x = l ++ Ph.putI n)) (fun _ u _ => (intOf u).toNat)
  case atStart => exact ⟨l, 10, Ph.zig n, by rw [Ph.zig_neg n h0 hn], HZ.out, by omega, by omega, by omega, HO.out, Below.refl _ _, hB, rfl⟩
  case round =>
    obtain ⟨acc, f, x, rfl, HX, hf1, hf2, hal, HR, hbw, hBw, HE⟩ := hrel
    have hr := HR.out
    by_cases hx : x < 128
    · have hx' : (x : Int) ≤ 127 := by omega
      go_wp2_with (at_builtin; refine wpList_append_own _ rfl (.tmp 23) (.tmp 26) 61 rfl (B) 5 ib (.int .u8 0) 1 1 Tryz.underlying61 hib hbz hbs hbb rfl (by decide) _ acc.length _ rfl (hr.alloc _) ⟨wr.heap.size, 0, none⟩ 1 1 [?xv] rfl rfl ?c1 ?c2 ?c3 ?c4 ?c5 ?_)
      case c1 => exact (cell_one_new _ _ _)
      case c2 => simp [Value.oneCell']
      case c3 => unfold maxLen; omega
      case c4 => omega
      case c5 => simp; omega
      intro b1 w1 hr1 hg1 _
      have hb1 : Below (B) w w1 := (hbw.alloc hBw _).grown hg1 (by simp; omega) (fun g hg => (hr.lt g hg).1)
      have hB1 : B ≤ w1.heap.size := by have := hg1.size; simp at this; omega
      have hr2 := own_snoc (c := x.toUInt8) hr1 (u8p x hx)
      have HF : Hid (acc ++ [x.toUInt8] = l ++ Ph.putI n) := by
        show _ = _
        rw [← HE.out]
        obtain ⟨g, rfl⟩ : ∃ g, f = g + 1 := ⟨f - 1, by omega⟩
        rw [Ph.putN_last g x hx]
      clear hr hr1
      go_wp2
      go_ret
      refine ⟨_, rfl, ?_, hb1, hB1⟩
      unfold OwnB
      rw [← HF.out]
      exact hr2
    · have hx' : (127 : Int) < (x : Int) := by omega
      obtain ⟨g, hfg, hg1', hxg, hpn⟩ := Ph.putN_split f x hx HX.out
      have HPN := Lib.hid hpn
      have HXG := Lib.hid hxg
      clear hpn hxg
      go_wp2_with (at_builtin; refine wpList_append_own _ rfl (.tmp 15) (.tmp 19) 61 rfl (B) 5 ib (.int .u8 0) 1 1 Tryz.underlying61 hib hbz hbs hbb rfl (by decide) _ acc.length _ rfl (hr.alloc _) ⟨wr.heap.size, 0, none⟩ 1 1 [?yv] rfl rfl ?d1 ?d2 ?d3 ?d4 ?d5 ?_)
      case d1 => exact (cell_one_new _ _ _)
      case d2 => simp [Value.oneCell']
      case d3 => unfold maxLen; omega
      case d4 => omega
      case d5 => simp; omega
      intro b1 w1 hr1 hg1 _
      have hb1 : Below (B) w w1 := (hbw.alloc hBw _).grown hg1 (by simp; omega) (fun g hg => (hr.lt g hg).1)
      have hB1 : B ≤ w1.heap.size := by have := hg1.size; simp at this; omega
      have hr2 := own_snoc (c := (x % 128 + 128).toUInt8) hr1 (u8o x)
      have HF : Hid (acc ++ [(x % 128 + 128).toUInt8] ++ Ph.putN g (x / 128) = l ++ Ph.putI n) := by
        show _ = _
        rw [← HE.out, HPN.out]
        simp
      have HR2 := Lib.hid hr2
      clear hr hr1 hr2
      go_wp2
      go_roundw
      case rel => exact ⟨acc ++ [(x % 128 + 128).toUInt8], g, x / 128, by go_num, HXG.out, hg1', by omega, by simp; omega, HR2.out, hb1, hB1, HF.out⟩
      case measure => simp [intOf]; omega
theorem num_Put (B : Nat) (v : Value) (l : List UInt8) (n : Int) (w : World) (h0 : -9223372036854775808 ≤ n) (h1 : n ≤ 9223372036854775807) (ho : OwnB w B v l) (hl : l.length ≤ 1000000000) (hB : B ≤ w.heap.size) :
    Calls Tryz.prog 61 #[v, .int .i64 n] w fun e w' => ∃ v', e = .returned v' ∧ OwnB w' B v' (l ++ Ph.putI n) ∧ Below B w w' ∧ B ≤ w'.heap.size := by
  by_cases hn : n < 0
  · exact num_Put_neg B v l n w h0 h1 hn ho hl hB
  · exact num_Put_pos B v l n w h0 h1 (by omega) ho hl hB
end Go.Proofs.YtmalklakaalaoaaGreatDoor

set_option linter.unusedVariables false
namespace Go.Proofs.YtmalklakaalaoaaGreatDoor
open Go.RowKit
-- pieces
theorem get_ret {l : List UInt8} {a b c : Int} (h : Ph.getI l = (a, b.toNat, c)) (hb : 0 ≤ b) : Ending.returned (.tuple #[.int .i64 a, .int .i64 b, .int .i64 c]) = .returned (.tuple #[.int .i64 (Ph.getI l).1, .int .i64 (Ph.getI l).2.1, .int .i64 (Ph.getI l).2.2]) := by
  rw [h]
  exact ret_int3 rfl (by simp; omega) rfl
theorem get_ret2 {l : List UInt8} {a b c a' c' : Int} {b' : Nat} (h : Ph.getI l = (a', b', c')) (h1 : a = a') (h2 : b = b') (h3 : c = c') : Ending.returned (.tuple #[.int .i64 a, .int .i64 b, .int .i64 c]) = .returned (.tuple #[.int .i64 (Ph.getI l).1, .int .i64 (Ph.getI l).2.1, .int .i64 (Ph.getI l).2.2]) := by
  rw [h, h1, h2, h3]
theorem num_Get_nil (c : Nat) (w : World) :
    Calls Tryz.prog 58 #[.slice none 0 c] w fun e w' => e = .returned (.tuple #[.int .i64 (Ph.getI []).1, .int .i64 (Ph.getI []).2.1, .int .i64 (Ph.getI []).2.2]) ∧ w = w' := by
  go_enter Tryz.func58, Tryz.ntmps58
  go_wp2
  go_loop [5, 11] (fun u i => u = .int .u64 0 ∧ i = .int .i64 0) (fun _ i => 0)
  case atStart => exact ⟨rfl, rfl⟩
  case round =>
    obtain ⟨rfl, rfl⟩ := hrel
    go_wp2
    go_ret3
    exact ⟨rfl, rfl⟩
set_option maxRecDepth 100000 in
set_option maxHeartbeats 4000000 in
theorem num_Get_some (b off cap : Nat) (l : List UInt8) (w : World) (hl : l.length ≤ cap) (hm : cap ≤ 9223372036854775807) (hc : ∀ j (h : j < l.length), w.cell? ⟨b, off + j, none⟩ = some (.int .u8 (l[j].toNat : Int))) :
    Calls Tryz.prog 58 #[.slice (some ⟨b, off, none⟩) l.length cap] w fun e w' => e = .returned (.tuple #[.int .i64 (Ph.getI l).1, .int .i64 (Ph.getI l).2.1, .int .i64 (Ph.getI l).2.2]) ∧ w = w' := by
  have HC := Lib.hid hc
  clear hc
  go_enter Tryz.func58, Tryz.ntmps58
  go_wp2
  go_loop [5, 11] (fun u i => ∃ k x : Nat, k ≤ l.length ∧ k ≤ 9 ∧ i = .int .i64 k ∧ u = .int .u64 x ∧ Hid (x < 128 ^ k) ∧ Hid (Ph.getI l = Ph.getN k x (l.drop k))) (fun _ i => l.length - (intOf i).toNat)
  case atStart => exact ⟨0, 0, by omega, by omega, rfl, rfl, by show 0 < 128 ^ 0; decide, rfl⟩
  case round =>
    obtain ⟨k, x, hk, hk9, rfl, rfl, HX, HK⟩ := hrel
    by_cases hlt : k < l.length
    · have hlt' : (k : Int) < (l.length : Int) := by omega
      have hcell := HC.out k hlt
      have HD : Hid (l.drop k = l[k] :: l.drop (k + 1)) := List.drop_eq_getElem_cons hlt
      have hcb := (l[k]).toNat_lt
      generalize l[k] = c at *
      by_cases h9 : k = 9
      · subst h9
        have e9 : (128 : Nat) ^ 9 = 9223372036854775808 := by decide
        by_cases hc1 : 1 < c.toNat
        · have hc1' : (1 : Int) < (c.toNat : Int) := by omega
          have HF : Hid (Ph.getI l = (0, 0, 1)) := by show _ = _; rw [HK.out, HD.out, Ph.getN_big _ _ _ _ rfl hc1]
          clear e9
          go_wp2
          go_ret3
          exact ⟨get_ret HF.out (by omega), rfl⟩
        · have hc1' : (c.toNat : Int) ≤ 1 := by omega
          have hc2' : (c.toNat : Int) ≤ 127 := by omega
          have hor := Ph.or_last x c.toNat HX.out (by omega)
          have hy : x + c.toNat % 128 * 128 ^ 9 < 18446744073709551616 := by have := HX.out; omega
          clear e9
          by_cases hz : c.toNat = 0
          · have hz' : ((c.toNat : Int) == 0) = true := by rw [beq_iff_eq]; omega
            have HF : Hid (Ph.getI l = (0, 0, 1)) := by show _ = _; rw [HK.out, HD.out, Ph.getN_zero _ _ _ _ (by omega) hz]
            have HYY := Lib.hid hy
            clear hz hy
            go_wp2
            go_ret3
            exact ⟨get_ret HF.out (by omega), rfl⟩
          · have hz' : ((c.toNat : Int) == 0) = false := by rw [beq_eq_false_iff_ne]; omega
            have HF : Hid (Ph.getI l = (Ph.unzig (x + c.toNat % 128 * 128 ^ 9), 9 + 1, 0)) := by show _ = _; rw [HK.out, HD.out, Ph.getN_last _ _ _ _ (by omega) (by omega) (by omega)]
            clear hz
            generalize x + c.toNat % 128 * 128 ^ 9 = y at *
            have HYY := Lib.hid hy
            have hod := and_one_u64 (y : Int) (by omega) (by omega)
            have hnt := i64_not (y / 2) (by omega)
            have hdv : (0 : Int) ≤ (y : Int) / 2 := by omega
            have hdv2 : (y : Int) / 2 ≤ 9223372036854775807 := by omega
            clear hy
            by_cases ho : y % 2 = 1
            · have ho' : ((y : Int) % 2 == 1) = true := by rw [beq_iff_eq]; omega
              have HU := Lib.hid (Ph.unzig_odd y ho)
              clear ho
              go_wp2
              go_ret3
              refine ⟨get_ret2 HF.out ?_ rfl rfl, rfl⟩
              have e : (y : Int) / 2 = ((y / 2 : Nat) : Int) := by omega
              show bits BinOp.xor IntKind.i64 (-1) ((y : Int) / 2) = _
              rw [e, i64_not _ (by have := HYY.out; omega), HU.out]
            · have ho' : ((y : Int) % 2 == 1) = false := by rw [beq_eq_false_iff_ne]; omega
              have HU := Lib.hid (Ph.unzig_even y (by omega))
              clear ho
              go_wp2
              go_ret3
              refine ⟨get_ret2 HF.out ?_ rfl rfl, rfl⟩
              show (y : Int) / 2 = _
              rw [HU.out]
              omega
      · have h9' : ((k : Int) == 9) = false := by rw [beq_eq_false_iff_ne]; omega
        have hsm := Ph.sum_small x c.toNat k HX.out (by omega) hcb
        have hor := Ph.or_seven x c.toNat k HX.out hcb hsm.1 (by omega)
        have hy : x + c.toNat % 128 * 128 ^ k < 9223372036854775808 := by
          have h1 := hsm.2
          have h2 : (128 : Nat) ^ (k + 1) ≤ 128 ^ 9 := Nat.pow_le_pow_right (by omega) (by omega)
          have e9 : (128 : Nat) ^ 9 = 9223372036854775808 := by decide
          omega
        have HSM := Lib.hid hsm.2
        clear hsm
        by_cases hc1 : 127 < c.toNat
        · have hc1' : (127 : Int) < (c.toNat : Int) := by omega
          have HF : Hid (Ph.getI l = Ph.getN (k + 1) (x + c.toNat % 128 * 128 ^ k) (l.drop (k + 1))) := by show _ = _; rw [HK.out, HD.out, Ph.getN_more _ _ _ _ h9 (by omega)]
          generalize x + c.toNat % 128 * 128 ^ k = y at *
          have HYY := Lib.hid hy
          clear hy
          go_wp2
          go_round
          case rel => exact ⟨k + 1, y, by omega, by omega, by go_num, rfl, HSM.out, HF.out⟩
          case measure => simp [intOf]; omega
        · have hc1' : (c.toNat : Int) ≤ 127 := by omega
          by_cases hz : 0 < k ∧ c.toNat = 0
          · obtain ⟨hz1, hz2⟩ := hz
            have hk0 : (0 : Int) < (k : Int) := by omega
            have hz' : ((c.toNat : Int) == 0) = true := by rw [beq_iff_eq]; omega
            have HF : Hid (Ph.getI l = (0, 0, 1)) := by show _ = _; rw [HK.out, HD.out, Ph.getN_zero _ _ _ _ hz1 hz2]
            have HYY := Lib.hid hy
            clear hy hz2
            go_wp2
            go_ret3
            exact ⟨get_ret HF.out (by omega), rfl⟩
          · have HF : Hid (Ph.getI l = (Ph.unzig (x + c.toNat % 128 * 128 ^ k), k + 1, 0)) := by show _ = _; rw [HK.out, HD.out, Ph.getN_last _ _ _ _ (by omega) (by omega) hz]
            have HZZ := Lib.hid hz
            clear hz
            generalize x + c.toNat % 128 * 128 ^ k = y at *
            have HYY := Lib.hid hy
            have hod := and_one_u64 (y : Int) (by omega) (by omega)
            have hdv : (0 : Int) ≤ (y : Int) / 2 := by omega
            have hdv2 : (y : Int) / 2 ≤ 9223372036854775807 := by omega
            clear hy
            by_cases hk0 : 0 < k
            all_goals
              by_cases ho : y % 2 = 1
              · have hz' : 0 < k → ((c.toNat : Int) == 0) = false := fun h => by rw [beq_eq_false_iff_ne]; have := HZZ.out; omega
                have hzk : Hid True := trivial
                first | (have hz2 := hz' hk0; clear hz') | clear hz'
                have ho' : ((y : Int) % 2 == 1) = true := by rw [beq_iff_eq]; omega
                have HU := Lib.hid (Ph.unzig_odd y ho)
                clear ho
                go_wp2
                go_ret3
                refine ⟨get_ret2 HF.out ?_ rfl rfl, rfl⟩
                have e : (y : Int) / 2 = ((y / 2 : Nat) : Int) := by omega
                show bits BinOp.xor IntKind.i64 (-1) ((y : Int) / 2) = _
                rw [e, i64_not _ (by have := HYY.out; omega), HU.out]
              · have hz' : 0 < k → ((c.toNat : Int) == 0) = false := fun h => by rw [beq_eq_false_iff_ne]; have := HZZ.out; omega
                have hzk : Hid True := trivial
                first | (have hz2 := hz' hk0; clear hz') | clear hz'
                have ho' : ((y : Int) % 2 == 1) = false := by rw [beq_eq_false_iff_ne]; omega
                have HU := Lib.hid (Ph.unzig_even y (by omega))
                clear ho
                go_wp2
                go_ret3
                refine ⟨get_ret2 HF.out ?_ rfl rfl, rfl⟩
                show (y : Int) / 2 = _
                rw [HU.out]
                omega
    · have hlt' : (l.length : Int) ≤ (k : Int) := by omega
      have HF : Hid (Ph.getI l = (0, 0, 2)) := by show _ = _; rw [HK.out, List.drop_eq_nil_of_le (by omega), Ph.getN_end]
      go_wp2
      go_ret3
      exact ⟨get_ret HF.out (by omega), rfl⟩
end Go.Proofs.YtmalklakaalaoaaGreatDoor

set_option linter.unusedVariables false
-- pieces
namespace Go.Proofs.YtmalklakaalaoaaGreatDoor.Sw
open Go.RowKit Go.Sx
theorem num_Get_empty (ad : Option Addr) (cap : Nat) (w : World) :
    Calls Tryz.prog 58 ⟨[.slice ad 0 cap]⟩ w fun e W' => e = .returned (.tuple #[.int .i64 (Ph.getI []).1, .int .i64 (Ph.getI []).2.1, .int .i64 (Ph.getI []).2.2]) ∧ w = W' := by
  cases ad with
  | none => exact num_Get_nil cap w
  | some a =>
    go_enter Tryz.func58, Tryz.ntmps58
    go_wp2
    go_loop [5, 11] (fun u i => u = .int .u64 0 ∧ i = .int .i64 0) (fun _ i => 0)
    case atStart => exact ⟨rfl, rfl⟩
    case round =>
      obtain ⟨rfl, rfl⟩ := hrel
      go_wp2
      go_ret3
      exact ⟨rfl, rfl⟩
theorem num_Get (W : World) (v : Value) (l : List UInt8) (r : RdB W v l) :
    Calls Tryz.prog 58 ⟨[v]⟩ W fun e W' => e = .returned (.tuple #[.int .i64 (Ph.getI l).1, .int .i64 (Ph.getI l).2.1, .int .i64 (Ph.getI l).2.2]) ∧ W = W' := by
  obtain ⟨ad, cap, rfl, h3, h4, rfl | ⟨b, o, rfl, hc⟩⟩ := r.cells
  · exact num_Get_empty ad cap W
  · exact num_Get_some b o cap l W h3 h4 hc
theorem i64s {x : Int} (h0 : -9223372036854775808 ≤ x) (h1 : x ≤ 9223372036854775807) : IntKind.i64.wrap x = x := IntWalk.i64_in _ (by omega)
set_option maxHeartbeats 4000000 in
theorem num_GetText (W : World) (v : Value) (l : List UInt8) (r : RdB W v l) :
    Calls Tryz.prog 59 ⟨[v]⟩ W fun e W' => e = .returned (.tuple #[.string ⟨(Ph.getT l).1.toArray⟩, .int .i64 (Ph.getT l).2.1, .int .i64 (Ph.getT l).2.2]) ∧ W = W' := by
  have hlen : l.length ≤ 9223372036854775807 := by have := r.len; exact this
  have hle := Ph.getI_le l
  have hG := num_Get W v l r
  obtain ⟨ad, cap, rfl, -⟩ := r.cells
  have hw := Has.start (G := 0) (w := W) (Nat.zero_le _)
  refine enter Tryz.func59 Tryz.ntmps59 rfl rfl fun a hs => ?_
  repeat (first | (refine sxv hs hw ?_; clear hs; intro a hs) | refine sxc hs ?_ | (refine sxa hs hw ?_; clear hs hw; intro a b W hw hs) | (refine sxs hs hw ?_; clear hs hw; intro W hs hw))
  refine st_call hs (hc := hG) (k := ?_); rintro e0 W1 ⟨rfl, rfl⟩; refine ⟨_, rfl, ?_⟩; clear hs hG; intro a hs
  generalize hg : Ph.getI l = g at *
  obtain ⟨n, k, e⟩ := g
  simp only at hle hs
  by_cases he : e = 0
  · subst he
    by_cases hn : n < 0
    · have e1 : decide (n < 0) = true := by simpa using hn
      have hT : Ph.getT l = ([], 0, 1) := by simp [Ph.getT, hg, hn]
      repeat (first | (refine sxv hs hw ?_; clear hs; intro a hs) | refine sxc hs ?_ | (refine sxa hs hw ?_; clear hs hw; intro a b W hw hs) | (refine sxs hs hw ?_; clear hs hw; intro W hs hw))
      rw [e1] at hs
      repeat (first | (refine sxv hs hw ?_; clear hs; intro a hs) | refine sxc hs ?_ | (refine sxa hs hw ?_; clear hs hw; intro a b W hw hs) | (refine sxs hs hw ?_; clear hs hw; intro W hs hw))
      exact rt3 hs rfl rfl rfl rfl ⟨by rw [hT]; rfl, rfl⟩
    · have e1 : decide (n < 0) = false := by simpa using hn
      repeat (first | (refine sxv hs hw ?_; clear hs; intro a hs) | refine sxc hs ?_ | (refine sxa hs hw ?_; clear hs hw; intro a b W hw hs) | (refine sxs hs hw ?_; clear hs hw; intro W hs hw))
      rw [e1] at hs
      repeat (first | (refine sxv hs hw ?_; clear hs; intro a hs) | refine sxc hs ?_ | (refine sxa hs hw ?_; clear hs hw; intro a b W hw hs) | (refine sxs hs hw ?_; clear hs hw; intro W hs hw))
      by_cases hb : n > 1048576
      · have e2 : decide (n > 1048576) = true := by simpa using hb
        have hT : Ph.getT l = ([], 0, 1) := by simp [Ph.getT, hg, hb]
        rw [e2] at hs
        repeat (first | (refine sxv hs hw ?_; clear hs; intro a hs) | refine sxc hs ?_ | (refine sxa hs hw ?_; clear hs hw; intro a b W hw hs) | (refine sxs hs hw ?_; clear hs hw; intro W hs hw))
        exact rt3 hs rfl rfl rfl rfl ⟨by rw [hT]; rfl, rfl⟩
      · have e2 : decide (n > 1048576) = false := by simpa using hb
        rw [e2] at hs
        repeat (first | (refine sxv hs hw ?_; clear hs; intro a hs) | refine sxc hs ?_ | (refine sxa hs hw ?_; clear hs hw; intro a b W hw hs) | (refine sxs hs hw ?_; clear hs hw; intro W hs hw))
        have e3 : IntKind.i64.wrap ((l.length : Int) - (k : Int)) = (l.length : Int) - k := i64s (by omega) (by omega)
        rw [e3] at hs
        by_cases hm : n > (l.length : Int) - k
        · have e4 : decide (n > (l.length : Int) - k) = true := by simpa using hm
          have hT : Ph.getT l = ([], 0, 2) := by
            simp only [Ph.getT, hg]
            rw [if_neg (by simp), if_neg (by omega), if_pos (by omega)]
          rw [e4] at hs
          repeat (first | (refine sxv hs hw ?_; clear hs; intro a hs) | refine sxc hs ?_ | (refine sxa hs hw ?_; clear hs hw; intro a b W hw hs) | (refine sxs hs hw ?_; clear hs hw; intro W hs hw))
          exact rt3 hs rfl rfl rfl rfl ⟨by rw [hT]; rfl, rfl⟩
        · have e4 : decide (n > (l.length : Int) - k) = false := by simpa using hm
          have hT : Ph.getT l = ((l.drop k).take n.toNat, k + n.toNat, 0) := by
            simp only [Ph.getT, hg]
            rw [if_neg (by simp), if_neg (by omega), if_neg (by omega)]
          rw [e4] at hs
          repeat (first | (refine sxv hs hw ?_; clear hs; intro a hs) | refine sxc hs ?_ | (refine sxa hs hw ?_; clear hs hw; intro a b W hw hs) | (refine sxs hs hw ?_; clear hs hw; intro W hs hw))
          have e5 : IntKind.i64.wrap ((k : Int) + n) = (k : Int) + n := i64s (by omega) (by omega)
          rw [e5] at hs
          refine st_slice_lh_b (hs := hs) (r := r) (h0 := by omega) (h1 := by omega) (h2 := by omega) (m := (l.drop k).take n.toNat) (hm := by rw [show ((k : Int) + n).toNat - (k : Int).toNat = n.toNat by omega, show (k : Int).toNat = k by omega]) (c := ?_)
          clear hs; intro a ad2 cap2 hr2 hs
          refine st_string_b hs (r := hr2) (k := ?_)
          clear hs; intro a hs
          repeat (first | (refine sxv hs hw ?_; clear hs; intro a hs) | refine sxc hs ?_ | (refine sxa hs hw ?_; clear hs hw; intro a b W hw hs) | (refine sxs hs hw ?_; clear hs hw; intro W hs hw))
          rw [e5] at hs
          repeat (first | (refine sxv hs hw ?_; clear hs; intro a hs) | refine sxc hs ?_ | (refine sxa hs hw ?_; clear hs hw; intro a b W hw hs) | (refine sxs hs hw ?_; clear hs hw; intro W hs hw))
          refine rt3 hs rfl rfl rfl rfl ⟨?_, rfl⟩
          rw [hT]
          simp only
          rw [show (((k + n.toNat : Nat) : Int)) = (k : Int) + n by omega]
  · have e1 : (e != 0) = true := by simpa using he
    have hT : Ph.getT l = ([], 0, e) := by simp [Ph.getT, hg, he]
    repeat (first | (refine sxv hs hw ?_; clear hs; intro a hs) | refine sxc hs ?_ | (refine sxa hs hw ?_; clear hs hw; intro a b W hw hs) | (refine sxs hs hw ?_; clear hs hw; intro W hs hw))
    rw [e1] at hs
    repeat (first | (refine sxv hs hw ?_; clear hs; intro a hs) | refine sxc hs ?_ | (refine sxa hs hw ?_; clear hs hw; intro a b W hw hs) | (refine sxs hs hw ?_; clear hs hw; intro W hs hw))
    exact rt3 hs rfl rfl rfl rfl ⟨by rw [hT]; rfl, rfl⟩
def getR (l : List UInt8) : (Int × Int × ByteArray) × Nat × Int :=
  let g := Ph.getI l
  if g.2.2 ≠ 0 then ((0, 0, ⟨#[]⟩), 0, g.2.2)
  else if g.1 = 0 then ((0, 0, ⟨#[]⟩), g.2.1, 0)
  else if g.1 = 1 then
    let h := Ph.getI (l.drop g.2.1)
    if h.2.2 ≠ 0 then ((0, 0, ⟨#[]⟩), 0, h.2.2) else ((1, h.1, ⟨#[]⟩), g.2.1 + h.2.1, 0)
  else if g.1 = 2 then
    let h := Ph.getT (l.drop g.2.1)
    if h.2.2 ≠ 0 then ((0, 0, ⟨#[]⟩), 0, h.2.2)
    else if (ofRaw 2 0 ⟨h.1.toArray⟩).2 ≠ 0 then ((0, 0, ⟨#[]⟩), 0, 1)
    else ((2, 0, ⟨h.1.toArray⟩), g.2.1 + h.2.1, 0)
  else ((0, 0, ⟨#[]⟩), 0, 1)
theorem ofRaw_err (k n : Int) (s : ByteArray) : (ofRaw k n s).2 = 0 ∨ (ofRaw k n s).2 = 1 := by
  unfold ofRaw
  split
  · exact .inl rfl
  · split
    · exact .inl rfl
    · split
      · exact .inl rfl
      · exact .inr rfl
theorem ofRaw_int (n : Int) : (ofRaw 1 n ⟨#[]⟩).2 = 0 := by
  unfold ofRaw
  rw [if_neg (fun h => by have := h.1; omega), if_pos ⟨rfl, rfl⟩]
theorem ofRaw_zero : (ofRaw 0 0 ⟨#[]⟩).2 = 0 := by
  unfold ofRaw
  rw [if_pos ⟨rfl, rfl, rfl⟩]
theorem ofRaw_other (k : Int) (h0 : k ≠ 0) (h1 : k ≠ 1) (h2 : k ≠ 2) : (ofRaw k 0 ⟨#[]⟩).2 = 1 := by
  unfold ofRaw
  rw [if_neg (fun h => h0 h.1), if_neg (fun h => h1 h.1), if_neg (fun h => h2 h.1)]
theorem getT_size (l : List UInt8) : (⟨(Ph.getT l).1.toArray⟩ : ByteArray).size ≤ l.length := by
  show (Ph.getT l).1.toArray.size ≤ _
  unfold Ph.getT
  simp only
  split
  · simp
  · split
    · simp
    · split
      · simp
      · simp; omega
theorem getT_le (l : List UInt8) : (Ph.getT l).2.1 ≤ l.length := by
  have := Ph.getI_le l
  unfold Ph.getT
  simp only
  split
  · simp
  · split
    · simp
    · split
      · simp
      · simp only; omega
set_option maxHeartbeats 8000000 in
theorem value_Get (w : World) (v : Value) (l : List UInt8) (r : RdB w v l) (hT : Tabs w) :
    Calls Tryz.prog 101 ⟨[v]⟩ w fun e W' => e = .returned (.tuple #[.agg #[.int .i64 (getR l).1.1, .int .i64 (getR l).1.2.1, .string (getR l).1.2.2], .int .i64 (getR l).2.1, .int .i64 (getR l).2.2]) ∧ Below w.heap.size w W' := by
  have hlen : l.length ≤ 9223372036854775807 := by have := r.len; exact this
  have hw := Has.start (G := 0) (w := w) (Nat.zero_le _)
  obtain ⟨ad, cap, rfl, -⟩ := r.cells
  have hle := Ph.getI_le l
  refine enter Tryz.func101 Tryz.ntmps101 rfl rfl fun a hs => ?_
  repeat (first | (refine sxv hs hw ?_; clear hs; intro a hs) | refine sxc hs ?_ | (refine sxa hs hw ?_; clear hs hw; intro a b W hw hs) | (refine sxs hs hw ?_; clear hs hw; intro W hs hw))
  have hG := num_Get _ _ l (hw.rd (by repeat (first | exact In.hd | apply In.tl)) hw.ext.size r)
  refine st_call hs (hc := hG) (k := ?_); rintro e0 W1 ⟨rfl, rfl⟩; refine ⟨_, rfl, ?_⟩; clear hs hG; intro a hs
  have gR := getR.eq_1 l
  generalize hg : Ph.getI l = g at *
  obtain ⟨k, m, e⟩ := g
  simp only at hle hs gR
  by_cases he : e = 0
  · subst he
    simp only [ne_eq, not_true_eq_false, if_false] at gR
    by_cases k1 : k = 1
    · subst k1
      simp only [if_neg (show ¬ ((1 : Int) = 0) by decide), if_true] at gR
      repeat (first | (refine sxv hs hw ?_; clear hs; intro a hs) | refine sxc hs ?_ | (refine sxa hs hw ?_; clear hs hw; intro a b W hw hs) | (refine sxs hs hw ?_; clear hs hw; intro W hs hw))
      refine st_slice_lo_b (hs := hs) (r := r) (h0 := by omega) (h1 := by omega) (c := ?_)
      clear hs; intro a ad2 cap2 hr hs
      have hr2 := hw.rd (by repeat (first | exact In.hd | apply In.tl)) hw.ext.size hr
      rw [show (m : Int).toNat = m by omega] at hr hs hr2
      have hle2 := Ph.getI_le (l.drop m)
      rw [List.length_drop] at hle2
      have hG := num_Get _ _ _ hr2
      refine st_call hs (hc := hG) (k := ?_); rintro e0 W1 ⟨rfl, rfl⟩; refine ⟨_, rfl, ?_⟩; clear hs hG hr hr2; intro a hs
      generalize Ph.getI (l.drop m) = g at *
      obtain ⟨n, m2, e2⟩ := g
      simp only at hle2 hs gR
      by_cases he2 : e2 = 0
      · subst he2
        simp only [not_true_eq_false, if_false] at gR
        repeat (first | (refine sxv hs hw ?_; clear hs; intro a hs) | refine sxc hs ?_ | (refine sxa hs hw ?_; clear hs hw; intro a b W hw hs) | (refine sxs hs hw ?_; clear hs hw; intro W hs hw))
        have hO := ofRaw_int n
        refine st_call hs (hc := value_Of 1 n ⟨#[]⟩ _ (by decide) (hT.keep (hw.end (by repeat (first | exact In.hd | apply In.tl))))) (k := ?_); rintro e0 W1 ⟨rfl, hb⟩; refine ⟨_, rfl, ?_⟩; clear hs; intro a hs; replace hw := hw.below hb; clear hb
        rw [hO] at hs
        repeat (first | (refine sxv hs hw ?_; clear hs; intro a hs) | refine sxc hs ?_ | (refine sxa hs hw ?_; clear hs hw; intro a b W hw hs) | (refine sxs hs hw ?_; clear hs hw; intro W hs hw))
        rw [i64s (x := (m : Int) + (m2 : Int)) (by omega) (by omega)] at hs
        repeat (first | (refine sxv hs hw ?_; clear hs; intro a hs) | refine sxc hs ?_ | (refine sxa hs hw ?_; clear hs hw; intro a b W hw hs) | (refine sxs hs hw ?_; clear hs hw; intro W hs hw))
        exact rc3 hs rfl rfl hw (by repeat (first | exact In.hd | apply In.tl)) rfl rfl rfl ⟨by rw [gR]; rfl, hw.end (by repeat (first | exact In.hd | apply In.tl))⟩
      · have e1 : (e2 != 0) = true := by simpa using he2
        rw [if_pos he2] at gR
        repeat (first | (refine sxv hs hw ?_; clear hs; intro a hs) | refine sxc hs ?_ | (refine sxa hs hw ?_; clear hs hw; intro a b W hw hs) | (refine sxs hs hw ?_; clear hs hw; intro W hs hw))
        rw [e1] at hs
        repeat (first | (refine sxv hs hw ?_; clear hs; intro a hs) | refine sxc hs ?_ | (refine sxa hs hw ?_; clear hs hw; intro a b W hw hs) | (refine sxs hs hw ?_; clear hs hw; intro W hs hw))
        exact rc3 hs rfl rfl hw (by repeat (first | exact In.hd | apply In.tl)) rfl rfl rfl ⟨by rw [gR]; rfl, hw.end (by repeat (first | exact In.hd | apply In.tl))⟩
    · by_cases k2 : k = 2
      · subst k2
        simp only [if_neg (show ¬ ((2 : Int) = 0) by decide), if_neg (show ¬ ((2 : Int) = 1) by decide), if_true] at gR
        repeat (first | (refine sxv hs hw ?_; clear hs; intro a hs) | refine sxc hs ?_ | (refine sxa hs hw ?_; clear hs hw; intro a b W hw hs) | (refine sxs hs hw ?_; clear hs hw; intro W hs hw))
        refine st_slice_lo_b (hs := hs) (r := r) (h0 := by omega) (h1 := by omega) (c := ?_)
        clear hs; intro a ad2 cap2 hr hs
        have hr2 := hw.rd (by repeat (first | exact In.hd | apply In.tl)) hw.ext.size hr
        rw [show (m : Int).toNat = m by omega] at hr hs hr2
        have hle2 := getT_le (l.drop m)
        have hsz := getT_size (l.drop m)
        rw [List.length_drop] at hle2 hsz
        have hG := num_GetText _ _ _ hr2
        refine st_call hs (hc := hG) (k := ?_); rintro e0 W1 ⟨rfl, rfl⟩; refine ⟨_, rfl, ?_⟩; clear hs hG hr hr2; intro a hs
        generalize Ph.getT (l.drop m) = g at *
        obtain ⟨s, m2, e2⟩ := g
        simp only at hle2 hsz hs gR
        generalize (⟨s.toArray⟩ : ByteArray) = s at *
        by_cases he2 : e2 = 0
        · subst he2
          simp only [not_true_eq_false, if_false] at gR
          repeat (first | (refine sxv hs hw ?_; clear hs; intro a hs) | refine sxc hs ?_ | (refine sxa hs hw ?_; clear hs hw; intro a b W hw hs) | (refine sxs hs hw ?_; clear hs hw; intro W hs hw))
          refine st_call hs (hc := value_Of 2 0 s _ (by omega) (hT.keep (hw.end (by repeat (first | exact In.hd | apply In.tl))))) (k := ?_); rintro e0 W1 ⟨rfl, hb⟩; refine ⟨_, rfl, ?_⟩; clear hs; intro a hs; replace hw := hw.below hb; clear hb
          rcases ofRaw_err 2 0 s with hO | hO
          · rw [hO] at hs gR
            repeat (first | (refine sxv hs hw ?_; clear hs; intro a hs) | refine sxc hs ?_ | (refine sxa hs hw ?_; clear hs hw; intro a b W hw hs) | (refine sxs hs hw ?_; clear hs hw; intro W hs hw))
            rw [i64s (x := (m : Int) + (m2 : Int)) (by omega) (by omega)] at hs
            repeat (first | (refine sxv hs hw ?_; clear hs; intro a hs) | refine sxc hs ?_ | (refine sxa hs hw ?_; clear hs hw; intro a b W hw hs) | (refine sxs hs hw ?_; clear hs hw; intro W hs hw))
            exact rc3 hs rfl rfl hw (by repeat (first | exact In.hd | apply In.tl)) rfl rfl rfl ⟨by rw [gR]; rfl, hw.end (by repeat (first | exact In.hd | apply In.tl))⟩
          · rw [hO] at hs gR
            repeat (first | (refine sxv hs hw ?_; clear hs; intro a hs) | refine sxc hs ?_ | (refine sxa hs hw ?_; clear hs hw; intro a b W hw hs) | (refine sxs hs hw ?_; clear hs hw; intro W hs hw))
            exact rc3 hs rfl rfl hw (by repeat (first | exact In.hd | apply In.tl)) rfl rfl rfl ⟨by rw [gR]; rfl, hw.end (by repeat (first | exact In.hd | apply In.tl))⟩
        · have e1 : (e2 != 0) = true := by simpa using he2
          rw [if_pos he2] at gR
          repeat (first | (refine sxv hs hw ?_; clear hs; intro a hs) | refine sxc hs ?_ | (refine sxa hs hw ?_; clear hs hw; intro a b W hw hs) | (refine sxs hs hw ?_; clear hs hw; intro W hs hw))
          rw [e1] at hs
          repeat (first | (refine sxv hs hw ?_; clear hs; intro a hs) | refine sxc hs ?_ | (refine sxa hs hw ?_; clear hs hw; intro a b W hw hs) | (refine sxs hs hw ?_; clear hs hw; intro W hs hw))
          exact rc3 hs rfl rfl hw (by repeat (first | exact In.hd | apply In.tl)) rfl rfl rfl ⟨by rw [gR]; rfl, hw.end (by repeat (first | exact In.hd | apply In.tl))⟩
      · have e1 : (k == 1) = false := by simpa using k1
        have e2 : (k == 2) = false := by simpa using k2
        repeat (first | (refine sxv hs hw ?_; clear hs; intro a hs) | refine sxc hs ?_ | (refine sxa hs hw ?_; clear hs hw; intro a b W hw hs) | (refine sxs hs hw ?_; clear hs hw; intro W hs hw))
        rw [e1] at hs
        repeat (first | (refine sxv hs hw ?_; clear hs; intro a hs) | refine sxc hs ?_ | (refine sxa hs hw ?_; clear hs hw; intro a b W hw hs) | (refine sxs hs hw ?_; clear hs hw; intro W hs hw))
        rw [e2] at hs
        repeat (first | (refine sxv hs hw ?_; clear hs; intro a hs) | refine sxc hs ?_ | (refine sxa hs hw ?_; clear hs hw; intro a b W hw hs) | (refine sxs hs hw ?_; clear hs hw; intro W hs hw))
        refine st_call hs (hc := value_Of k 0 ⟨#[]⟩ _ (by decide) (hT.keep (hw.end (by repeat (first | exact In.hd | apply In.tl))))) (k := ?_); rintro e0 W1 ⟨rfl, hb⟩; refine ⟨_, rfl, ?_⟩; clear hs; intro a hs; replace hw := hw.below hb; clear hb
        by_cases k0 : k = 0
        · subst k0
          have hO := ofRaw_zero
          rw [hO] at hs
          repeat (first | (refine sxv hs hw ?_; clear hs; intro a hs) | refine sxc hs ?_ | (refine sxa hs hw ?_; clear hs hw; intro a b W hw hs) | (refine sxs hs hw ?_; clear hs hw; intro W hs hw))
          rw [i64s (x := (m : Int) + 0) (by omega) (by omega), Int.add_zero] at hs
          repeat (first | (refine sxv hs hw ?_; clear hs; intro a hs) | refine sxc hs ?_ | (refine sxa hs hw ?_; clear hs hw; intro a b W hw hs) | (refine sxs hs hw ?_; clear hs hw; intro W hs hw))
          exact rc3 hs rfl rfl hw (by repeat (first | exact In.hd | apply In.tl)) rfl rfl rfl ⟨by rw [gR]; rfl, hw.end (by repeat (first | exact In.hd | apply In.tl))⟩
        · have hO := ofRaw_other k k0 k1 k2
          rw [if_neg k0, if_neg k1, if_neg k2] at gR
          rw [hO] at hs
          repeat (first | (refine sxv hs hw ?_; clear hs; intro a hs) | refine sxc hs ?_ | (refine sxa hs hw ?_; clear hs hw; intro a b W hw hs) | (refine sxs hs hw ?_; clear hs hw; intro W hs hw))
          exact rc3 hs rfl rfl hw (by repeat (first | exact In.hd | apply In.tl)) rfl rfl rfl ⟨by rw [gR]; rfl, hw.end (by repeat (first | exact In.hd | apply In.tl))⟩
  · have e1 : (e != 0) = true := by simpa using he
    rw [if_pos he] at gR
    repeat (first | (refine sxv hs hw ?_; clear hs; intro a hs) | refine sxc hs ?_ | (refine sxa hs hw ?_; clear hs hw; intro a b W hw hs) | (refine sxs hs hw ?_; clear hs hw; intro W hs hw))
    rw [e1] at hs
    repeat (first | (refine sxv hs hw ?_; clear hs; intro a hs) | refine sxc hs ?_ | (refine sxa hs hw ?_; clear hs hw; intro a b W hw hs) | (refine sxs hs hw ?_; clear hs hw; intro W hs hw))
    exact rc3 hs rfl rfl hw (by repeat (first | exact In.hd | apply In.tl)) rfl rfl rfl ⟨by rw [gR]; rfl, hw.end (by repeat (first | exact In.hd | apply In.tl))⟩
end Go.Proofs.YtmalklakaalaoaaGreatDoor.Sw

set_option linter.unusedVariables false
set_option maxRecDepth 10000
namespace Go.Proofs.YtmalklakaalaoaaGreatDoor.Sw
open Go.RowKit Go.Sx
-- pieces
def tk (s : List UInt8 × Bool) (n : Nat) (err : Int) : List UInt8 × Bool := (if s.2 || err != 0 then s.1 else s.1.drop n, s.2 || err != 0)
set_option maxHeartbeats 4000000 in
theorem op_took (w0 W : World) (p : Nat) (sv : Value) (s : List UInt8 × Bool) (n : Nat) (err : Int) (R : List Res) (i : In (Old w0 0) R) (r : RdB w0 sv s.1) (hn : n ≤ s.1.length) (hw : Has 0 w0 W (Cells p [sv, .bool s.2] 152 :: R)) :
    Calls Tryz.prog 116 ⟨[.pointer (some ⟨p, 0, none⟩), .int .i64 (n : Int), .int .i64 err]⟩ W fun e W' => e = .returned (.tuple #[]) ∧ ∃ sv', RdB w0 sv' (tk s n err).1 ∧ Has 0 w0 W' (Cells p [sv', .bool (tk s n err).2] 152 :: R) := by
  obtain ⟨l, bad⟩ := s
  simp only at r hn hw
  obtain ⟨ad, cap, rfl, -⟩ := r.cells
  refine enter Tryz.func116 Tryz.ntmps116 rfl rfl fun a hs => ?_
  cases bad with
  | true =>
    repeat (first | (refine sxv hs hw ?_; clear hs; intro a hs) | refine sxc hs ?_ | (refine sxa hs hw ?_; clear hs hw; intro a b W hw hs) | (refine sxs hs hw ?_; clear hs hw; intro W hs hw))
    exact rt0n hs rfl ⟨rfl, _, r, hw⟩
  | false =>
    repeat (first | (refine sxv hs hw ?_; clear hs; intro a hs) | refine sxc hs ?_ | (refine sxa hs hw ?_; clear hs hw; intro a b W hw hs) | (refine sxs hs hw ?_; clear hs hw; intro W hs hw))
    cases he : (err != 0) with
    | true =>
      rw [he] at hs hw
      repeat (first | (refine sxv hs hw ?_; clear hs; intro a hs) | refine sxc hs ?_ | (refine sxa hs hw ?_; clear hs hw; intro a b W hw hs) | (refine sxs hs hw ?_; clear hs hw; intro W hs hw))
      exact rt0n hs rfl ⟨rfl, _, by simp only [tk, he]; exact r, by simp only [tk, he]; exact hw⟩
    | false =>
      rw [he] at hs hw
      repeat (first | (refine sxv hs hw ?_; clear hs; intro a hs) | refine sxc hs ?_ | (refine sxa hs hw ?_; clear hs hw; intro a b W hw hs) | (refine sxs hs hw ?_; clear hs hw; intro W hs hw))
      refine st_slice_lo_b (hs := hs) (r := r) (h0 := by omega) (h1 := by omega) (c := ?_); clear hs; intro a ad' cap' r' hs
      repeat (first | (refine sxv hs hw ?_; clear hs; intro a hs) | refine sxc hs ?_ | (refine sxa hs hw ?_; clear hs hw; intro a b W hw hs) | (refine sxs hs hw ?_; clear hs hw; intro W hs hw))
      rw [Int.toNat_natCast] at r' hw
      exact rt0n hs rfl ⟨rfl, _, by simp only [tk, he]; exact r', by simp only [tk, he]; exact hw⟩
theorem getR_le (l : List UInt8) : (getR l).2.1 ≤ l.length := by
  have h1 := Ph.getI_le l
  unfold getR
  simp only
  split
  · simp
  · split
    · exact h1
    · split
      · split
        · simp
        · have := Ph.getI_le (l.drop (Ph.getI l).2.1)
          rw [List.length_drop] at this
          simp only; omega
      · split
        · split
          · simp
          · have := getT_le (l.drop (Ph.getI l).2.1)
            rw [List.length_drop] at this
            split <;> simp only <;> omega
        · simp
set_option maxHeartbeats 4000000 in
theorem op_num (w0 W : World) (p : Nat) (sv : Value) (s : List UInt8 × Bool) (R : List Res) (i : In (Old w0 0) R) (r : RdB w0 sv s.1) (hw : Has 0 w0 W (Cells p [sv, .bool s.2] 152 :: R)) :
    Calls Tryz.prog 88 ⟨[.pointer (some ⟨p, 0, none⟩)]⟩ W fun e W' => e = .returned (.int .i64 (Ph.getI s.1).1) ∧ ∃ sv', RdB w0 sv' (tk s (Ph.getI s.1).2.1 (Ph.getI s.1).2.2).1 ∧ Has 0 w0 W' (Cells p [sv', .bool (tk s (Ph.getI s.1).2.1 (Ph.getI s.1).2.2).2] 152 :: R) := by
  refine enter Tryz.func88 Tryz.ntmps88 rfl rfl fun a hs => ?_
  repeat (first | (refine sxv hs hw ?_; clear hs; intro a hs) | refine sxc hs ?_ | (refine sxa hs hw ?_; clear hs hw; intro a b W hw hs) | (refine sxs hs hw ?_; clear hs hw; intro W hs hw))
  refine st_call hs (hc := num_Get _ sv s.1 (hw.rd (In.tl i) hw.ext.size r)) (k := ?_); rintro e0 W1 ⟨rfl, rfl⟩; refine ⟨_, rfl, ?_⟩; clear hs; intro a hs
  repeat (first | (refine sxv hs hw ?_; clear hs; intro a hs) | refine sxc hs ?_ | (refine sxa hs hw ?_; clear hs hw; intro a b W hw hs) | (refine sxs hs hw ?_; clear hs hw; intro W hs hw))
  refine st_call hs (hc := op_took w0 _ p sv s _ _ R i r (Ph.getI_le s.1) hw) (k := ?_); rintro e0 W1 ⟨rfl, sv', r', hw'⟩; refine ⟨_, rfl, ?_⟩; clear hs hw; intro a hs
  have hw := hw'; clear hw'
  repeat (first | (refine sxv hs hw ?_; clear hs; intro a hs) | refine sxc hs ?_ | (refine sxa hs hw ?_; clear hs hw; intro a b W hw hs) | (refine sxs hs hw ?_; clear hs hw; intro W hs hw))
  exact rt1 hs rfl rfl ⟨rfl, sv', r', hw⟩
theorem Has_rot3 {G : Nat} {w W : World} {x y q : Res} {R : List Res} (h : Has G w W (x :: y :: q :: R)) : Has G w W (q :: x :: y :: R) :=
  ⟨h.ext, h.glob, HasIn.swap (let ⟨F1, h1, h2, h3⟩ := h.has; ⟨F1, h1, h2, HasIn.swap h3⟩)⟩
set_option maxHeartbeats 4000000 in
theorem op_value (w0 W : World) (p : Nat) (sv : Value) (s : List UInt8 × Bool) (R : List Res) (i : In (Old w0 0) R) (r : RdB w0 sv s.1) (hT : Tabs w0) (hw : Has 0 w0 W (Cells p [sv, .bool s.2] 152 :: R)) :
    Calls Tryz.prog 117 ⟨[.pointer (some ⟨p, 0, none⟩)]⟩ W fun e W' => e = .returned (.agg ⟨[.int .i64 (getR s.1).1.1, .int .i64 (getR s.1).1.2.1, .string (getR s.1).1.2.2]⟩) ∧ ∃ sv', RdB w0 sv' (tk s (getR s.1).2.1 (getR s.1).2.2).1 ∧ Has 0 w0 W' (Cells p [sv', .bool (tk s (getR s.1).2.1 (getR s.1).2.2).2] 152 :: R) := by
  refine enter Tryz.func117 Tryz.ntmps117 rfl rfl fun a hs => ?_
  repeat (first | (refine sxv hs hw ?_; clear hs; intro a hs) | refine sxc hs ?_ | (refine sxa hs hw ?_; clear hs hw; intro a b W hw hs) | (refine sxs hs hw ?_; clear hs hw; intro W hs hw))
  refine st_call hs (hc := value_Get _ sv s.1 (hw.rd (In.tl (In.tl i)) hw.ext.size r) (hT.keep (hw.end (In.tl (In.tl i))))) (k := ?_); rintro e0 W1 ⟨rfl, hb⟩; refine ⟨_, rfl, ?_⟩; clear hs; intro a hs; replace hw := hw.below hb; clear hb
  repeat (first | (refine sxv hs hw ?_; clear hs; intro a hs) | refine sxc hs ?_ | (refine sxa hs hw ?_; clear hs hw; intro a b W hw hs) | (refine sxs hs hw ?_; clear hs hw; intro W hs hw))
  have hw := Has_rot3 hw
  refine st_call hs (hc := op_took w0 _ p sv s _ _ _ (In.tl (In.tl i)) r (getR_le s.1) hw) (k := ?_); rintro e0 W1 ⟨rfl, sv', r', hw'⟩; refine ⟨_, rfl, ?_⟩; clear hs hw; intro a hs
  have hw := hw'; clear hw'
  repeat (first | (refine sxv hs hw ?_; clear hs; intro a hs) | refine sxc hs ?_ | (refine sxa hs hw ?_; clear hs hw; intro a b W hw hs) | (refine sxs hs hw ?_; clear hs hw; intro W hs hw))
  have hw' := hw.sub (List.Sublist.cons_cons _ (List.Sublist.cons _ (List.Sublist.cons _ (List.Sublist.refl _))))
  refine rc1 hs rfl rfl hw (In.tl (In.tl In.hd)) rfl ?_
  exact ⟨rfl, sv', r', hw'⟩
end Go.Proofs.YtmalklakaalaoaaGreatDoor.Sw

set_option linter.unusedVariables false
set_option maxRecDepth 10000
namespace Go.Proofs.YtmalklakaalaoaaGreatDoor.Sw
open Go.RowKit Go.Sx
-- pieces
def rdNum (s : List UInt8 × Bool) : List UInt8 × Bool := tk s (Ph.getI s.1).2.1 (Ph.getI s.1).2.2
def rdTxt (s : List UInt8 × Bool) : List UInt8 × Bool := tk s (Ph.getT s.1).2.1 (Ph.getT s.1).2.2
def rdVal (s : List UInt8 × Bool) : List UInt8 × Bool := tk s (getR s.1).2.1 (getR s.1).2.2
def rdOp (s : List UInt8 × Bool) : OpD × (List UInt8 × Bool) :=
  let kind := (Ph.getI s.1).1
  let s1 := rdNum s
  let key : ByteArray := ⟨(Ph.getT s1.1).1.toArray⟩
  let s2 := rdTxt s1
  if kind = 3 then
    let s3 := rdVal s2
    (⟨kind, key, (getR s2.1).1.1, (getR s2.1).1.2.1, (getR s2.1).1.2.2, (getR s3.1).1.1, (getR s3.1).1.2.1, (getR s3.1).1.2.2, 0⟩, rdVal s3)
  else if kind = 1 then (⟨kind, key, (getR s2.1).1.1, (getR s2.1).1.2.1, (getR s2.1).1.2.2, 0, 0, ⟨#[]⟩, 0⟩, rdVal s2)
  else if kind = 4 then (⟨kind, key, 0, 0, ⟨#[]⟩, 0, 0, ⟨#[]⟩, (Ph.getI s2.1).1⟩, rdNum s2)
  else (⟨kind, key, 0, 0, ⟨#[]⟩, 0, 0, ⟨#[]⟩, 0⟩, s2)
set_option maxHeartbeats 8000000 in
theorem op_op (w0 W : World) (p : Nat) (sv : Value) (s : List UInt8 × Bool) (R : List Res) (i : In (Old w0 0) R) (r : RdB w0 sv s.1) (hT : Tabs w0) (hw : Has 0 w0 W (Cells p [sv, .bool s.2] 152 :: R)) :
    Calls Tryz.prog 89 ⟨[.pointer (some ⟨p, 0, none⟩)]⟩ W fun e W' => e = .returned (.agg ⟨opCells (rdOp s).1⟩) ∧ ∃ sv', RdB w0 sv' (rdOp s).2.1 ∧ Has 0 w0 W' (Cells p [sv', .bool (rdOp s).2.2] 152 :: R) := by
  refine enter Tryz.func89 Tryz.ntmps89 rfl rfl fun a hs => ?_
  repeat (first | (refine sxv hs hw ?_; clear hs; intro a hs) | refine sxc hs ?_ | (refine sxa hs hw ?_; clear hs hw; intro a b W hw hs) | (refine sxs hs hw ?_; clear hs hw; intro W hs hw))
  have hw := hw.swap2
  refine st_call hs (hc := op_num w0 _ p sv s _ (In.tl i) r hw) (k := ?_); rintro e0 W1 ⟨rfl, sv1, r1, hw'⟩; refine ⟨_, rfl, ?_⟩; clear hs hw; intro a hs
  have hw := hw'; clear hw'
  rw [show tk s (Ph.getI s.1).2.1 (Ph.getI s.1).2.2 = rdNum s from rfl] at hw r1
  repeat (first | (refine sxv hs hw ?_; clear hs; intro a hs) | refine sxc hs ?_ | (refine sxa hs hw ?_; clear hs hw; intro a b W hw hs) | (refine sxs hs hw ?_; clear hs hw; intro W hs hw))
  have hw := hw.swap2
  refine st_call hs (hc := num_GetText _ sv1 (rdNum s).1 (hw.rd (In.tl (In.tl (In.tl i))) hw.ext.size r1)) (k := ?_); rintro e0 W1 ⟨rfl, rfl⟩; refine ⟨_, rfl, ?_⟩; clear hs; intro a hs
  repeat (first | (refine sxv hs hw ?_; clear hs; intro a hs) | refine sxc hs ?_ | (refine sxa hs hw ?_; clear hs hw; intro a b W hw hs) | (refine sxs hs hw ?_; clear hs hw; intro W hs hw))
  refine st_call hs (hc := op_took w0 _ p sv1 (rdNum s) _ _ _ (In.tl (In.tl i)) r1 (getT_le (rdNum s).1) hw) (k := ?_); rintro e0 W1 ⟨rfl, sv2, r2, hw'⟩; refine ⟨_, rfl, ?_⟩; clear hs hw; intro a hs
  have hw := hw'; clear hw'
  rw [show tk (rdNum s) (Ph.getT (rdNum s).1).2.1 (Ph.getT (rdNum s).1).2.2 = rdTxt (rdNum s) from rfl] at hw r2
  obtain ⟨key, hkey⟩ : ∃ key : ByteArray, (⟨(Ph.getT (rdNum s).1).1.toArray⟩ : ByteArray) = key := ⟨_, rfl⟩
  rw [hkey] at hs
  obtain ⟨K, hK⟩ : ∃ K, (Ph.getI s.1).1 = K := ⟨_, rfl⟩
  have hD : rdOp s = (if K = 3 then (⟨K, key, (getR (rdTxt (rdNum s)).1).1.1, (getR (rdTxt (rdNum s)).1).1.2.1, (getR (rdTxt (rdNum s)).1).1.2.2, (getR (rdVal (rdTxt (rdNum s))).1).1.1, (getR (rdVal (rdTxt (rdNum s))).1).1.2.1, (getR (rdVal (rdTxt (rdNum s))).1).1.2.2, 0⟩, rdVal (rdVal (rdTxt (rdNum s))))
      else if K = 1 then (⟨K, key, (getR (rdTxt (rdNum s)).1).1.1, (getR (rdTxt (rdNum s)).1).1.2.1, (getR (rdTxt (rdNum s)).1).1.2.2, 0, 0, ⟨#[]⟩, 0⟩, rdVal (rdTxt (rdNum s)))
      else if K = 4 then (⟨K, key, 0, 0, ⟨#[]⟩, 0, 0, ⟨#[]⟩, (Ph.getI (rdTxt (rdNum s)).1).1⟩, rdNum (rdTxt (rdNum s)))
      else (⟨K, key, 0, 0, ⟨#[]⟩, 0, 0, ⟨#[]⟩, 0⟩, rdTxt (rdNum s))) := by unfold rdOp; simp only; rw [hkey, hK]
  rw [hK] at hs hw
  clear hkey hK
  generalize rdTxt (rdNum s) = s2 at *
  rw [hD]
  clear hD
  repeat (first | (refine sxv hs hw ?_; clear hs; intro a hs) | refine sxc hs ?_ | (refine sxa hs hw ?_; clear hs hw; intro a b W hw hs) | (refine sxs hs hw ?_; clear hs hw; intro W hs hw))
  by_cases k3 : K = 3
  · subst k3
    repeat (first | (refine sxv hs hw ?_; clear hs; intro a hs) | refine sxc hs ?_ | (refine sxa hs hw ?_; clear hs hw; intro a b W hw hs) | (refine sxs hs hw ?_; clear hs hw; intro W hs hw))
    refine st_call hs (hc := op_value w0 _ p sv2 s2 _ (In.tl (In.tl i)) r2 hT hw) (k := ?_); rintro e0 W1 ⟨rfl, sv3, r3, hw'⟩; refine ⟨_, rfl, ?_⟩; clear hs hw; intro a hs
    have hw := hw'; clear hw'
    rw [show tk (s2) (getR (s2).1).2.1 (getR (s2).1).2.2 = rdVal (s2) from rfl] at hw r3
    repeat (first | (refine sxv hs hw ?_; clear hs; intro a hs) | refine sxc hs ?_ | (refine sxa hs hw ?_; clear hs hw; intro a b W hw hs) | (refine sxs hs hw ?_; clear hs hw; intro W hs hw))
    refine st_call hs (hc := op_value w0 _ p sv3 (rdVal s2) _ (In.tl (In.tl i)) r3 hT hw) (k := ?_); rintro e0 W1 ⟨rfl, sv4, RR, hw'⟩; refine ⟨_, rfl, ?_⟩; clear hs hw; intro a hs
    have hw := hw'; clear hw'
    rw [show tk ((rdVal s2)) (getR ((rdVal s2)).1).2.1 (getR ((rdVal s2)).1).2.2 = rdVal ((rdVal s2)) from rfl] at hw RR
    repeat (first | (refine sxv hs hw ?_; clear hs; intro a hs) | refine sxc hs ?_ | (refine sxa hs hw ?_; clear hs hw; intro a b W hw hs) | (refine sxs hs hw ?_; clear hs hw; intro W hs hw))
    have hw' := hw.sub (List.Sublist.cons_cons _ (List.Sublist.cons _ (List.Sublist.cons _ (List.Sublist.refl _))))
    refine rc1 hs rfl rfl hw (In.tl (In.tl In.hd)) rfl ?_
    rw [if_pos rfl]
    exact ⟨rfl, _, RR, hw'⟩
  have e3 : (K == 3) = false := by simpa using k3
  rw [e3] at hs
  repeat (first | (refine sxv hs hw ?_; clear hs; intro a hs) | refine sxc hs ?_ | (refine sxa hs hw ?_; clear hs hw; intro a b W hw hs) | (refine sxs hs hw ?_; clear hs hw; intro W hs hw))
  by_cases k1 : K = 1
  · subst k1
    repeat (first | (refine sxv hs hw ?_; clear hs; intro a hs) | refine sxc hs ?_ | (refine sxa hs hw ?_; clear hs hw; intro a b W hw hs) | (refine sxs hs hw ?_; clear hs hw; intro W hs hw))
    refine st_call hs (hc := op_value w0 _ p sv2 s2 _ (In.tl (In.tl i)) r2 hT hw) (k := ?_); rintro e0 W1 ⟨rfl, sv3, RR, hw'⟩; refine ⟨_, rfl, ?_⟩; clear hs hw; intro a hs
    have hw := hw'; clear hw'
    rw [show tk (s2) (getR (s2).1).2.1 (getR (s2).1).2.2 = rdVal (s2) from rfl] at hw RR
    repeat (first | (refine sxv hs hw ?_; clear hs; intro a hs) | refine sxc hs ?_ | (refine sxa hs hw ?_; clear hs hw; intro a b W hw hs) | (refine sxs hs hw ?_; clear hs hw; intro W hs hw))
    have hw' := hw.sub (List.Sublist.cons_cons _ (List.Sublist.cons _ (List.Sublist.cons _ (List.Sublist.refl _))))
    refine rc1 hs rfl rfl hw (In.tl (In.tl In.hd)) rfl ?_
    rw [if_neg k3, if_pos rfl]
    exact ⟨rfl, _, RR, hw'⟩
  have e1 : (K == 1) = false := by simpa using k1
  rw [e1] at hs
  repeat (first | (refine sxv hs hw ?_; clear hs; intro a hs) | refine sxc hs ?_ | (refine sxa hs hw ?_; clear hs hw; intro a b W hw hs) | (refine sxs hs hw ?_; clear hs hw; intro W hs hw))
  by_cases k4 : K = 4
  · subst k4
    repeat (first | (refine sxv hs hw ?_; clear hs; intro a hs) | refine sxc hs ?_ | (refine sxa hs hw ?_; clear hs hw; intro a b W hw hs) | (refine sxs hs hw ?_; clear hs hw; intro W hs hw))
    refine st_call hs (hc := op_num w0 _ p sv2 s2 _ (In.tl (In.tl i)) r2 hw) (k := ?_); rintro e0 W1 ⟨rfl, sv3, RR, hw'⟩; refine ⟨_, rfl, ?_⟩; clear hs hw; intro a hs
    have hw := hw'; clear hw'
    rw [show tk s2 (Ph.getI s2.1).2.1 (Ph.getI s2.1).2.2 = rdNum s2 from rfl] at hw RR
    repeat (first | (refine sxv hs hw ?_; clear hs; intro a hs) | refine sxc hs ?_ | (refine sxa hs hw ?_; clear hs hw; intro a b W hw hs) | (refine sxs hs hw ?_; clear hs hw; intro W hs hw))
    have hw' := hw.sub (List.Sublist.cons_cons _ (List.Sublist.cons _ (List.Sublist.cons _ (List.Sublist.refl _))))
    refine rc1 hs rfl rfl hw (In.tl (In.tl In.hd)) rfl ?_
    rw [if_neg k3, if_neg k1, if_pos rfl]
    exact ⟨rfl, _, RR, hw'⟩
  have e4 : (K == 4) = false := by simpa using k4
  rw [e4] at hs
  have RR := r2
  repeat (first | (refine sxv hs hw ?_; clear hs; intro a hs) | refine sxc hs ?_ | (refine sxa hs hw ?_; clear hs hw; intro a b W hw hs) | (refine sxs hs hw ?_; clear hs hw; intro W hs hw))
  have hw' := hw.sub (List.Sublist.cons_cons _ (List.Sublist.cons _ (List.Sublist.cons _ (List.Sublist.refl _))))
  refine rc1 hs rfl rfl hw (In.tl (In.tl In.hd)) rfl ?_
  rw [if_neg k3, if_neg k1, if_neg k4]
  exact ⟨rfl, _, RR, hw'⟩
end Go.Proofs.YtmalklakaalaoaaGreatDoor.Sw

set_option linter.unusedVariables false
set_option maxRecDepth 10000
namespace Go.Proofs.YtmalklakaalaoaaGreatDoor.Sw
open Go.RowKit Go.Sx
theorem getR_putR {k n : Int} {s : ByteArray} (t : List UInt8) (h : (ofRaw k n s).2 = 0) (h0 : -9223372036854775808 ≤ n) (h1 : n ≤ 9223372036854775807) (hs : s.size ≤ 1000000) :
    getR (putR k n s ++ t) = ((k, n, s), (putR k n s).length, 0) := by
  have hd : s.data.toList.length = s.size := by rw [Array.length_toList]; rfl
  have hO := h
  unfold ofRaw at h
  have he : s.size = 0 → s = ⟨#[]⟩ := fun h => by
    apply ByteArray.ext
    exact Array.eq_empty_of_size_eq_zero h
  split at h
  · rename_i c
    obtain ⟨rfl, rfl, hz⟩ := c
    have g := Ph.getI_putI 0 t (by omega) (by omega)
    have e : putR 0 0 s = Ph.putI 0 := by simp [putR]
    rw [e, getR.eq_1, g, he hz]
    simp
  · split at h
    · rename_i c
      obtain ⟨rfl, hz⟩ := c
      have e : putR 1 n s = Ph.putI 1 ++ Ph.putI n := by simp [putR]
      have g := Ph.getI_putI 1 (Ph.putI n ++ t) (by omega) (by omega)
      have g2 := Ph.getI_putI n t h0 h1
      rw [e, List.append_assoc, getR.eq_1, g, he hz]
      simp only [List.drop_left, g2, List.length_append]
      simp
    · split at h
      · rename_i c
        obtain ⟨rfl, rfl, hz, hv⟩ := c
        have e : putR 2 0 s = Ph.putI 2 ++ Ph.putT s.data.toList := by simp [putR]
        have g := Ph.getI_putI 2 (Ph.putT s.data.toList ++ t) (by omega) (by omega)
        have g2 := Ph.getT_putT s.data.toList t (by omega)
        rw [e, List.append_assoc, getR.eq_1, g]
        simp only [List.drop_left, g2, List.length_append, ba_mk, hO]
        simp
      · cases h
def rdOps : Nat → Int → List OpD → (List UInt8 × Bool) → List OpD × (List UInt8 × Bool)
  | 0, _, l, s => (l, s)
  | f + 1, n, l, s => if 0 < n ∧ s.2 = false ∧ l.length ≤ 8 then rdOps f (n - 1) (l ++ [(rdOp s).1]) (rdOp s).2 else (l, s)
def parse (b : List UInt8) : (Int × Int × List OpD) × (List UInt8 × Bool) :=
  let s1 := rdNum (b, false)
  let s2 := rdNum s1
  let r := rdOps 10 (Ph.getI s2.1).1 [] (rdNum s2)
  (((Ph.getI b).1, (Ph.getI s1.1).1, r.1), r.2)
def decode (b : List UInt8) : Option (Int × Int × List OpD) :=
  let p := parse b
  if p.2.2 = false ∧ mayBatch p.1.1 p.1.2.1 p.1.2.2 = true ∧ textB p.1.1 p.1.2.1 p.1.2.2 = b then some p.1 else none
theorem rdNum_put (n : Int) (t : List UInt8) (h : i64 n) : rdNum (Ph.putI n ++ t, false) = (t, false) ∧ (Ph.getI (Ph.putI n ++ t)).1 = n := by
  unfold rdNum tk
  simp only
  rw [Ph.getI_putI n t h.1 h.2]
  simp
theorem rdTxt_put (s : ByteArray) (t : List UInt8) (h : s.size ≤ 1000000) : rdTxt (Ph.putT s.data.toList ++ t, false) = (t, false) ∧ (⟨(Ph.getT (Ph.putT s.data.toList ++ t)).1.toArray⟩ : ByteArray) = s := by
  have hd : s.data.toList.length = s.size := by rw [Array.length_toList]; rfl
  unfold rdTxt tk
  simp only
  rw [Ph.getT_putT s.data.toList t (by omega)]
  refine ⟨?_, ba_mk s⟩
  simp
theorem rdVal_put {k n : Int} {s : ByteArray} (t : List UInt8) (h : (ofRaw k n s).2 = 0) (hn : i64 n) (hs : s.size ≤ 1000000) : rdVal (putR k n s ++ t, false) = (t, false) ∧ (getR (putR k n s ++ t)).1 = (k, n, s) := by
  unfold rdVal tk
  simp only
  rw [getR_putR t h hn.1 hn.2 hs]
  simp
theorem rdOp_put (o : OpD) (t : List UInt8) (hm : mayD o = true) (ho : OpOk o) : rdOp (opB o ++ t, false) = (o, (t, false)) := by
  obtain ⟨kind, key, vk, vn, vs, ok, on, os, n⟩ := o
  obtain ⟨hk, hvk, hvn, hok, hon, hn, hkey, hvs, hos⟩ := ho
  simp only at hk hvk hvn hok hon hn hkey hvs hos
  simp only [mayD, mayOp, Bool.and_eq_true, beq_iff_eq] at hm
  obtain ⟨⟨⟨-, hv⟩, hO⟩, hm⟩ := hm
  have key0 : ∀ x : List UInt8, rdNum (Ph.putI kind ++ (Ph.putT key.data.toList ++ x), false) = (Ph.putT key.data.toList ++ x, false) ∧ (Ph.getI (Ph.putI kind ++ (Ph.putT key.data.toList ++ x))).1 = kind := fun x => rdNum_put kind _ hk
  have key1 : ∀ x : List UInt8, rdTxt (Ph.putT key.data.toList ++ x, false) = (x, false) ∧ (⟨(Ph.getT (Ph.putT key.data.toList ++ x)).1.toArray⟩ : ByteArray) = key := fun x => rdTxt_put key x hkey
  have main : ∀ x : List UInt8, rdOp (Ph.putI kind ++ (Ph.putT key.data.toList ++ x), false) = (if kind = 3 then
      (⟨kind, key, (getR x).1.1, (getR x).1.2.1, (getR x).1.2.2, (getR (rdVal (x, false)).1).1.1, (getR (rdVal (x, false)).1).1.2.1, (getR (rdVal (x, false)).1).1.2.2, 0⟩, rdVal (rdVal (x, false)))
      else if kind = 1 then (⟨kind, key, (getR x).1.1, (getR x).1.2.1, (getR x).1.2.2, 0, 0, ⟨#[]⟩, 0⟩, rdVal (x, false))
      else if kind = 4 then (⟨kind, key, 0, 0, ⟨#[]⟩, 0, 0, ⟨#[]⟩, (Ph.getI x).1⟩, rdNum (x, false))
      else (⟨kind, key, 0, 0, ⟨#[]⟩, 0, 0, ⟨#[]⟩, 0⟩, (x, false))) := fun x => by
    unfold rdOp
    simp only
    rw [(key0 x).1, (key0 x).2]
    simp only
    rw [(key1 x).1, (key1 x).2]
  have hA : opB ⟨kind, key, vk, vn, vs, ok, on, os, n⟩ ++ t = Ph.putI kind ++ (Ph.putT key.data.toList ++ ((if kind = 3 then putR vk vn vs ++ putR ok on os else if kind = 1 then putR vk vn vs else if kind = 4 then Ph.putI n else []) ++ t)) := by
    unfold opB
    simp only [List.append_assoc]
  rw [hA, main]
  clear main hA key0 key1
  split at hm
  · rename_i k1
    subst k1
    simp only [Bool.and_eq_true, beq_iff_eq] at hm
    obtain ⟨⟨-, h2⟩, rfl⟩ := hm
    obtain ⟨rfl, rfl, rfl⟩ := rawEq_iff.1 h2
    obtain ⟨g1, g2⟩ := rdVal_put t hv hvn hvs
    rw [if_neg (by decide), if_pos rfl, if_neg (by decide), if_pos rfl, g1, g2]
  · rename_i k1
    split at hm
    · rename_i k2
      subst k2
      simp only [Bool.and_eq_true, beq_iff_eq] at hm
      obtain ⟨⟨h1, h2⟩, rfl⟩ := hm
      obtain ⟨rfl, rfl, rfl⟩ := rawEq_iff.1 h1
      obtain ⟨rfl, rfl, rfl⟩ := rawEq_iff.1 h2
      rw [if_neg (by decide), if_neg (by decide), if_neg (by decide), if_neg (by decide), if_neg (by decide), if_neg (by decide), List.nil_append]
    · split at hm
      · rename_i k3
        subst k3
        simp only [Bool.and_eq_true, beq_iff_eq] at hm
        obtain ⟨-, rfl⟩ := hm
        obtain ⟨g1, g2⟩ := rdVal_put (putR ok on os ++ t) hv hvn hvs
        obtain ⟨g3, g4⟩ := rdVal_put t hO hon hos
        rw [if_pos rfl, if_pos rfl, List.append_assoc, g1, g2]
        simp only
        rw [g3, g4]
      · split at hm
        · rename_i k4
          subst k4
          simp only [Bool.and_eq_true] at hm
          obtain ⟨⟨⟨h1, h2⟩, -⟩, -⟩ := hm
          obtain ⟨rfl, rfl, rfl⟩ := rawEq_iff.1 h1
          obtain ⟨rfl, rfl, rfl⟩ := rawEq_iff.1 h2
          obtain ⟨g1, g2⟩ := rdNum_put n t hn
          rw [if_neg (by decide), if_neg (by decide), if_pos rfl, if_neg (by decide), if_neg (by decide), if_pos rfl, g1, g2]
        · cases hm
theorem rdOps_zero (f : Nat) (acc : List OpD) (s : List UInt8 × Bool) : rdOps f 0 acc s = (acc, s) := by
  cases f with
  | zero => rfl
  | succ f => rw [rdOps, if_neg (by omega)]
theorem rdOps_put : ∀ (l : List OpD) (f : Nat) (acc : List OpD) (t : List UInt8), acc.length + l.length ≤ 8 → l.length ≤ f → l.all mayD = true → (∀ o ∈ l, OpOk o) → rdOps f (l.length : Int) acc (l.flatMap opB ++ t, false) = (acc ++ l, (t, false))
  | [], f, acc, t, _, _, _, _ => by
    rw [show (([] : List OpD).length : Int) = 0 from rfl, rdOps_zero]; simp
  | o :: l, 0, acc, t, _, hf, _, _ => by simp at hf
  | o :: l, f + 1, acc, t, h8, hf, hm, ho => by
    simp only [List.length_cons] at h8 hf
    rw [List.all_cons, Bool.and_eq_true] at hm
    rw [rdOps, if_pos ⟨by simp only [List.length_cons]; omega, rfl, by omega⟩, List.flatMap_cons, List.append_assoc, rdOp_put o _ hm.1 (ho o (by simp))]
    simp only
    have e : ((o :: l).length : Int) - 1 = (l.length : Int) := by simp only [List.length_cons]; omega
    rw [e, rdOps_put l f (acc ++ [o]) t (by simp; omega) (by omega) hm.2 fun x hx => ho x (by simp [hx])]
    simp
theorem parse_text {c q : Int} {l : List OpD} (t : List UInt8) (h : mayBatch c q l = true) (ho : ∀ o ∈ l, OpOk o) : parse (textB c q l ++ t) = ((c, q, l), (t, false)) := by
  obtain ⟨hc, hq, hl, hm, -⟩ := mayBatch_parts h
  have e : textB c q l ++ t = Ph.putI c ++ (Ph.putI q ++ (Ph.putI l.length ++ (l.flatMap opB ++ t))) := by
    unfold textB headB; simp only [List.append_assoc]
  obtain ⟨g1, g2⟩ := rdNum_put c (Ph.putI q ++ (Ph.putI l.length ++ (l.flatMap opB ++ t))) ⟨by omega, by omega⟩
  obtain ⟨g3, g4⟩ := rdNum_put q (Ph.putI l.length ++ (l.flatMap opB ++ t)) ⟨by omega, by omega⟩
  obtain ⟨g5, g6⟩ := rdNum_put l.length (l.flatMap opB ++ t) ⟨by omega, by omega⟩
  unfold parse
  simp only
  rw [e, g1, g2]
  simp only
  rw [g3, g4]
  simp only
  rw [g5, g6, rdOps_put l 10 [] t (by simp; omega) (by omega) hm ho]
  rfl
theorem decode_text {c q : Int} {l : List OpD} (h : mayBatch c q l = true) (ho : ∀ o ∈ l, OpOk o) : decode (textB c q l) = some (c, q, l) := by
  have := parse_text [] h ho
  rw [List.append_nil] at this
  unfold decode
  simp only
  rw [this, if_pos ⟨rfl, h, rfl⟩]
theorem decode_some {b : List UInt8} {c q : Int} {l : List OpD} (h : decode b = some (c, q, l)) : mayBatch c q l = true ∧ textB c q l = b ∧ (parse b).1 = (c, q, l) := by
  unfold decode at h
  simp only at h
  split at h
  · rename_i hh
    have e := Option.some.inj h
    rw [e] at hh
    exact ⟨hh.2.1, hh.2.2, e⟩
  · cases h
theorem unzig_range (y : Nat) (h : y < 18446744073709551616) : i64 (Ph.unzig y) := by
  unfold Ph.unzig i64
  split <;> omega
theorem getN_range : ∀ (l : List UInt8) (i u : Nat), u < 128 ^ i → i ≤ 9 → i64 (Ph.getN i u l).1
  | [], i, u, _, _ => by rw [Ph.getN_end]; simp [i64]
  | c :: t, i, u, hu, hi => by
    have hc := c.toNat_lt
    rw [Ph.getN]
    split
    · simp [i64]
    · rename_i c1
      split
      · rename_i c2
        have h8 : i ≤ 8 := by omega
        exact getN_range t (i + 1) _ (Ph.sum_small u c.toNat i hu h8 (by omega)).2 (by omega)
      · rename_i c2
        split
        · simp [i64]
        · refine unzig_range _ ?_
          by_cases h8 : i ≤ 8
          · have h1 := (Ph.sum_small u c.toNat i hu h8 (by omega)).2
            have h2 : 128 ^ (i + 1) ≤ 128 ^ 9 := Nat.pow_le_pow_right (by omega) (by omega)
            have h3 : (128 : Nat) ^ 9 = 9223372036854775808 := by decide
            omega
          · obtain rfl : i = 9 := by omega
            have h3 : (128 : Nat) ^ 9 = 9223372036854775808 := by decide
            rw [h3] at hu
            have : c.toNat ≤ 1 := by omega
            have h4 : c.toNat % 128 * 128 ^ 9 ≤ 9223372036854775808 := by
              rw [h3, Nat.mod_eq_of_lt (by omega)]
              omega
            omega
theorem getI_range (l : List UInt8) : i64 (Ph.getI l).1 := getN_range l 0 0 (by simp) (by omega)
theorem getR_range (l : List UInt8) : i64 (getR l).1.1 ∧ i64 (getR l).1.2.1 ∧ (getR l).1.2.2.size ≤ l.length := by
  have h1 := getI_range (l.drop (Ph.getI l).2.1)
  have z : i64 0 := ⟨by omega, by omega⟩
  have e0 : (⟨#[]⟩ : ByteArray).size = 0 := rfl
  unfold getR
  simp only
  split
  · exact ⟨z, z, by simp [e0]⟩
  · split
    · exact ⟨z, z, by simp [e0]⟩
    · split
      · split
        · exact ⟨z, z, by simp [e0]⟩
        · exact ⟨⟨by simp, by simp⟩, h1, by simp [e0]⟩
      · split
        · split
          · exact ⟨z, z, by simp [e0]⟩
          · have := getT_size (l.drop (Ph.getI l).2.1)
            rw [List.length_drop] at this
            split
            · exact ⟨z, z, by simp [e0]⟩
            · exact ⟨⟨by simp, by simp⟩, z, by simp only; omega⟩
        · exact ⟨z, z, by simp [e0]⟩
theorem tk_le (s : List UInt8 × Bool) (n : Nat) (err : Int) : (tk s n err).1.length ≤ s.1.length := by
  unfold tk
  simp only
  split
  · exact Nat.le_refl _
  · rw [List.length_drop]; omega
theorem rdOp_ok (s : List UInt8 × Bool) (h : s.1.length ≤ 1000000) : OpOk (rdOp s).1 ∧ (rdOp s).2.1.length ≤ s.1.length := by
  have h1 : (rdNum s).1.length ≤ s.1.length := tk_le _ _ _
  have h2 : (rdTxt (rdNum s)).1.length ≤ (rdNum s).1.length := tk_le _ _ _
  have k0 := getI_range s.1
  have hkey := getT_size (rdNum s).1
  unfold rdOp
  simp only
  generalize rdTxt (rdNum s) = s2 at *
  have h3 : (rdVal s2).1.length ≤ s2.1.length := tk_le _ _ _
  have h4 : (rdVal (rdVal s2)).1.length ≤ (rdVal s2).1.length := tk_le _ _ _
  have h5 : (rdNum s2).1.length ≤ s2.1.length := tk_le _ _ _
  obtain ⟨a1, a2, a3⟩ := getR_range s2.1
  obtain ⟨b1, b2, b3⟩ := getR_range (rdVal s2).1
  have c1 := getI_range s2.1
  have z : i64 0 := ⟨by omega, by omega⟩
  have e0 : (⟨#[]⟩ : ByteArray).size ≤ 1000000 := by show 0 ≤ _; omega
  split
  · exact ⟨⟨k0, a1, a2, b1, b2, z, by simp only; omega, by simp only; omega, by simp only; omega⟩, by simp only; omega⟩
  · split
    · exact ⟨⟨k0, a1, a2, z, z, z, by simp only; omega, by simp only; omega, e0⟩, by simp only; omega⟩
    · split
      · exact ⟨⟨k0, z, z, z, z, c1, by simp only; omega, e0, e0⟩, by simp only; omega⟩
      · exact ⟨⟨k0, z, z, z, z, z, by simp only; omega, e0, e0⟩, by simp only; omega⟩
theorem rdOps_ok : ∀ (f : Nat) (n : Int) (l : List OpD) (s : List UInt8 × Bool), s.1.length ≤ 1000000 → l.length ≤ 9 → (∀ o ∈ l, OpOk o) → (rdOps f n l s).1.length ≤ 9 ∧ ∀ o ∈ (rdOps f n l s).1, OpOk o
  | 0, n, l, s, _, h9, ho => ⟨h9, ho⟩
  | f + 1, n, l, s, hs, h9, ho => by
    rw [rdOps]
    split
    · rename_i c
      obtain ⟨g1, g2⟩ := rdOp_ok s hs
      refine rdOps_ok f (n - 1) _ _ (by omega) (by simp; omega) fun o h => ?_
      rcases List.mem_append.1 h with h | h
      · exact ho o h
      · rw [List.mem_singleton] at h; rw [h]; exact g1
    · exact ⟨h9, ho⟩
theorem parse_ok (b : List UInt8) (h : b.length ≤ 1000000) : i64 (parse b).1.1 ∧ i64 (parse b).1.2.1 ∧ (parse b).1.2.2.length ≤ 9 ∧ ∀ o ∈ (parse b).1.2.2, OpOk o := by
  have h1 : (rdNum (b, false)).1.length ≤ b.length := tk_le _ _ _
  have h2 : (rdNum (rdNum (b, false))).1.length ≤ (rdNum (b, false)).1.length := tk_le _ _ _
  have h3 : (rdNum (rdNum (rdNum (b, false)))).1.length ≤ (rdNum (rdNum (b, false))).1.length := tk_le _ _ _
  have := rdOps_ok 10 (Ph.getI (rdNum (rdNum (b, false))).1).1 [] (rdNum (rdNum (rdNum (b, false)))) (by omega) (by simp) (by simp)
  exact ⟨getI_range _, getI_range _, this.1, this.2⟩
theorem decode_ok {b : List UInt8} {c q : Int} {l : List OpD} (hb : b.length ≤ 1000000) (h : decode b = some (c, q, l)) : i64 c ∧ i64 q ∧ l.length ≤ 9 ∧ ∀ o ∈ l, OpOk o := by
  have := parse_ok b hb
  rw [(decode_some h).2.2] at this
  exact this
end Go.Proofs.YtmalklakaalaoaaGreatDoor.Sw

set_option linter.unusedVariables false
set_option maxRecDepth 10000
namespace Go.Proofs.YtmalklakaalaoaaGreatDoor.Sw
open Go.RowKit Go.Sx
structure TabD where
  ix : Int
  f : FoldD
  rows : List RowD
structure EntD where
  ix : Int
  term : Int
  kind : Int
  data : ByteArray
def entCells (e : EntD) : List Value := [.int .i64 e.ix, .int .i64 e.term, .int .i64 e.kind, .string e.data]
def playT (ix : Int) (t : TabD) (b : BatchD) : TabD × RowD × Bool :=
  match (next t.f b).2.2 with
  | true => (⟨ix, (next t.f b).1, t.rows ++ [(next t.f b).2.1]⟩, (next t.f b).2.1, true)
  | false => (⟨ix, t.f, t.rows⟩, zeroRow, false)
def applyT (t : TabD) (e : EntD) : TabD × RowD × Bool :=
  if e.ix = IntKind.i64.wrap (t.ix + 1) then
    (match e.kind == 2, decode e.data.data.toList with
     | true, some p => playT (IntKind.i64.wrap (t.ix + 1)) t ⟨p.1, p.2.1, p.2.2⟩
     | _, _ => (⟨IntKind.i64.wrap (t.ix + 1), t.f, t.rows⟩, zeroRow, false))
  else (t, zeroRow, false)
def encB (b : BatchD) : List UInt8 := textB b.c b.q b.l
def rowB (r : RowD) : List UInt8 := Ph.putT (encB r.b)
def dataT (t : TabD) : List UInt8 := Ph.putI t.ix ++ (Ph.putI (t.rows.length : Int) ++ t.rows.flatMap rowB)
def batOf (p : Int × Int × List OpD) : BatchD := ⟨p.1, p.2.1, p.2.2⟩
def loadRows : Nat → FoldD → List RowD → List UInt8 → Option (FoldD × List RowD)
  | 0, f, rs, _ => some (f, rs)
  | n + 1, f, rs, s =>
    match (Ph.getT s).2.2 == 0, decode (Ph.getT s).1 with
    | true, some p =>
      (match (next f (batOf p)).2.2 with
       | true => loadRows n (next f (batOf p)).1 (rs ++ [(next f (batOf p)).2.1]) (s.drop (Ph.getT s).2.1)
       | false => none)
    | _, _ => none
def headT (s : List UInt8) : Option (Int × Nat × List UInt8) :=
  if (Ph.getI s).2.2 = 0 ∧ 0 ≤ (Ph.getI s).1 ∧ (Ph.getI s).1 ≤ 1099511627776 then
    (if (Ph.getI (s.drop (Ph.getI s).2.1)).2.2 = 0 ∧ 0 ≤ (Ph.getI (s.drop (Ph.getI s).2.1)).1 ∧ (Ph.getI (s.drop (Ph.getI s).2.1)).1 ≤ (Ph.getI s).1 ∧ (Ph.getI (s.drop (Ph.getI s).2.1)).1 ≤ s.length then
      some ((Ph.getI s).1, (Ph.getI (s.drop (Ph.getI s).2.1)).1.toNat, s.drop ((Ph.getI s).2.1 + (Ph.getI (s.drop (Ph.getI s).2.1)).2.1)) else none)
  else none
def loadT (s : List UInt8) : Option TabD :=
  match headT s with
  | none => none
  | some (ix, n, t) =>
    match loadRows n emptyF [] t with
    | none => none
    | some (f, rs) => if dataT ⟨ix, f, rs⟩ = s then some ⟨ix, f, rs⟩ else none
structure TabOk (t : TabD) : Prop where
  play : Play emptyF t.rows t.f
  ok : ∀ r ∈ t.rows, RowOk r
  ix : (t.rows.length : Int) ≤ t.ix ∧ t.ix ≤ 1099511627776
  len : t.rows.length ≤ 100000
theorem putT_len (s : List UInt8) : s.length < (Ph.putT s).length := by
  unfold Ph.putT
  rw [List.length_append]
  have : 0 < (Ph.putI (s.length : Int)).length := List.length_pos_iff.2 (Ph.putI_ne_nil _)
  omega
theorem nextB_may {f : FoldD} {b : BatchD} (h : nextB f b = true) : mayB b = true := by
  unfold nextB at h
  exact (Bool.and_eq_true_iff.1 h).1
theorem loadRows_put : ∀ (rows : List RowD) (f f' : FoldD) (rs : List RowD) (t : List UInt8), Play f rows f' → (∀ r ∈ rows, RowOk r) → loadRows rows.length f rs (rows.flatMap rowB ++ t) = some (f', rs ++ rows)
  | [], f, f', rs, t, h, _ => by
    have h : f = f' := h
    subst h
    simp [loadRows]
  | r :: rows, f, f', rs, t, ⟨h1, h2, h3⟩, hok => by
    have hm : mayB r.b = true := (nextB_may (next_ok h1).1)
    have hbo := hok r (by simp)
    have h12 : (encB r.b).length ≤ 1200 := (mayBatch_parts hm).2.2.2.2
    have hg := Ph.getT_putT (encB r.b) (rows.flatMap rowB ++ t) (by omega)
    have hd : decode (encB r.b) = some (r.b.c, r.b.q, r.b.l) := decode_text hm hbo.b.ops
    have e : (r :: rows).flatMap rowB ++ t = Ph.putT (encB r.b) ++ (rows.flatMap rowB ++ t) := by
      simp [rowB]
    rw [e]
    have hb : batOf (r.b.c, r.b.q, r.b.l) = r.b := rfl
    show (match (Ph.getT (Ph.putT (encB r.b) ++ (rows.flatMap rowB ++ t))).2.2 == 0, decode (Ph.getT (Ph.putT (encB r.b) ++ (rows.flatMap rowB ++ t))).1 with
      | true, some p => _
      | _, _ => _) = _
    rw [hg]
    simp only [hd, hb, beq_self_eq_true, h1, h2]
    rw [List.drop_left, loadRows_put rows _ f' _ t h3 fun q hq => hok q (by simp [hq])]
    simp
theorem headT_put (ix : Int) (n : Nat) (t : List UInt8) (h1 : (n : Int) ≤ ix) (h2 : ix ≤ 1099511627776) (h3 : n ≤ t.length) : headT (Ph.putI ix ++ (Ph.putI (n : Int) ++ t)) = some (ix, n, t) := by
  have g1 := Ph.getI_putI ix (Ph.putI (n : Int) ++ t) (by omega) (by omega)
  have g2 := Ph.getI_putI (n : Int) t (by omega) (by omega)
  unfold headT
  rw [g1]
  simp only [List.drop_left]
  rw [g2]
  simp only
  rw [if_pos ⟨by trivial, by omega, h2⟩, if_pos ⟨by trivial, by omega, h1, by simp only [List.length_append]; omega⟩, ← List.drop_drop, List.drop_left, List.drop_left]
  simp
theorem rowB_pos : ∀ rows : List RowD, rows.length ≤ (rows.flatMap rowB).length
  | [] => by simp
  | r :: rows => by
    have h := rowB_pos rows
    have h2 := putT_len (encB r.b)
    simp only [List.flatMap_cons, List.length_append, List.length_cons]
    unfold rowB
    unfold rowB at h
    omega
theorem load_data {t : TabD} (h : TabOk t) : loadT (dataT t) = some t := by
  unfold loadT dataT
  rw [headT_put _ _ _ h.ix.1 h.ix.2 (rowB_pos _)]
  have := loadRows_put t.rows emptyF t.f [] [] h.play h.ok
  rw [List.append_nil, List.nil_append] at this
  simp only [this]
  rw [if_pos (by trivial)]
end Go.Proofs.YtmalklakaalaoaaGreatDoor.Sw

set_option linter.unusedVariables false
set_option maxRecDepth 10000
namespace Go.Proofs.YtmalklakaalaoaaGreatDoor.Sw
open Go.RowKit Go.Sx
def decR (b : List UInt8) : (Int × Int × List OpD) × Int := match decode b with | none => ((0, 0, []), 1) | some p => (p, 0)
theorem rdOps_go {n : Int} {l : List OpD} {s : List UInt8 × Bool} (h0 : 0 < n) (h1 : s.2 = false) (h2 : l.length ≤ 8) : rdOps (10 - l.length) n l s = rdOps (10 - (l.length + 1)) (n - 1) (l ++ [(rdOp s).1]) (rdOp s).2 := by
  rw [show 10 - l.length = (10 - (l.length + 1)) + 1 by omega, rdOps, if_pos ⟨h0, h1, h2⟩]
theorem rdOps_stop {n : Int} {l : List OpD} {s : List UInt8 × Bool} (h : (decide (n > 0) && !s.2 && decide ((l.length : Int) ≤ 8)) = false) (f : Nat) : rdOps f n l s = (l, s) := by
  cases f with
  | zero => rfl
  | succ f =>
    rw [rdOps, if_neg]
    rintro ⟨h0, h1, h2⟩
    rw [h1] at h
    simp at h
    omega
structure DecS where
  n : Int
  v : Value
  l : List OpD
  sv : Value
  s : List UInt8 × Bool
set_option maxRecDepth 10000 in
set_option maxHeartbeats 16000000 in
theorem op_Decode (b : List UInt8) (sv : Value) (w : World) (hb : b.length ≤ 1000000) (r : RdB w sv b) (hT : Tabs w) :
    Calls Tryz.prog 54 ⟨[sv]⟩ w fun e w' => ∃ ad cap, e = .returned (.tuple #[.agg ⟨[.int .i64 (decR b).1.1, .int .i64 (decR b).1.2.1, .slice ad (decR b).1.2.2.length cap]⟩, .int .i64 (decR b).2]) ∧ Has 0 w w' (Sx.Own 95 9 (.slice ad (decR b).1.2.2.length cap) (decR b).1.2.2.length ((decR b).1.2.2.flatMap opCells) :: Old w 0 :: []) := by
  have hw := Has.start (G := 0) (w := w) (Nat.zero_le _)
  have hok := parse_ok b hb
  obtain ⟨sad, scap, rfl⟩ : ∃ ad cap, sv = .slice ad b.length cap := by obtain ⟨_, ad, cap, e, _⟩ := r; exact ⟨ad, cap, e⟩
  refine enter Tryz.func54 Tryz.ntmps54 rfl rfl fun a hs => ?_
  repeat (first | (refine sxv hs hw ?_; clear hs; intro a hs) | refine sxc hs ?_ | (refine sxa hs hw ?_; clear hs hw; intro a b W hw hs) | (refine sxs hs hw ?_; clear hs hw; intro W hs hw))
  obtain ⟨bp, q1⟩ := nm1 hw; subst q1
  obtain ⟨b0, q2⟩ := nm2 hw; subst q2
  have hw : Has 0 w _ (Cells bp [.slice sad b.length scap, .bool (b, false).2] 152 :: Cells b0 [.int .i64 0, .int .i64 0, .slice none 0 0] 36 :: Old w 0 :: []) := hw
  refine st_call hs (hc := op_num w _ bp _ (b, false) _ (In.tl In.hd) r hw) (k := ?_); rintro e0 W1 ⟨rfl, sv1, r1, hw'⟩; refine ⟨_, rfl, ?_⟩; clear hs hw; intro a hs
  have hw := hw'; clear hw'
  rw [show tk (b, false) (Ph.getI (b, false).1).2.1 (Ph.getI (b, false).1).2.2 = rdNum (b, false) from rfl] at hw r1
  repeat (first | (refine sxv hs hw ?_; clear hs; intro a hs) | refine sxc hs ?_ | (refine sxa hs hw ?_; clear hs hw; intro a b W hw hs) | (refine sxs hs hw ?_; clear hs hw; intro W hs hw))
  obtain ⟨bx, q3⟩ := nm1 hw; subst q3
  have hw := hw.swap2
  refine st_call hs (hc := op_num w _ bp sv1 (rdNum (b, false)) _ (In.tl (In.tl In.hd)) r1 hw) (k := ?_); rintro e0 W1 ⟨rfl, sv2, r2, hw'⟩; refine ⟨_, rfl, ?_⟩; clear hs hw; intro a hs
  have hw := hw'; clear hw'
  rw [show tk (rdNum (b, false)) (Ph.getI (rdNum (b, false)).1).2.1 (Ph.getI (rdNum (b, false)).1).2.2 = rdNum (rdNum (b, false)) from rfl] at hw r2
  repeat (first | (refine sxv hs hw ?_; clear hs; intro a hs) | refine sxc hs ?_ | (refine sxa hs hw ?_; clear hs hw; intro a b W hw hs) | (refine sxs hs hw ?_; clear hs hw; intro W hs hw))
  refine st_call hs (hc := op_num w _ bp sv2 (rdNum (rdNum (b, false))) _ (In.tl (In.tl In.hd)) r2 hw) (k := ?_); rintro e0 W1 ⟨rfl, sv3, r3, hw'⟩; refine ⟨_, rfl, ?_⟩; clear hs hw; intro a hs
  have hw := hw'; clear hw'
  rw [show tk (rdNum (rdNum (b, false))) (Ph.getI (rdNum (rdNum (b, false))).1).2.1 (Ph.getI (rdNum (rdNum (b, false))).1).2.2 = rdNum (rdNum (rdNum (b, false))) from rfl] at hw r3
  repeat (first | (refine sxv hs hw ?_; clear hs; intro a hs) | refine sxc hs ?_ | (refine sxa hs hw ?_; clear hs hw; intro a b W hw hs) | (refine sxs hs hw ?_; clear hs hw; intro W hs hw))
  have hN := getI_range (rdNum (rdNum (b, false))).1
  have hdec : parse b = (((Ph.getI (b, false).1).1, (Ph.getI (rdNum (b, false)).1).1, (rdOps 10 (Ph.getI (rdNum (rdNum (b, false))).1).1 [] (rdNum (rdNum (rdNum (b, false))))).1), (rdOps 10 (Ph.getI (rdNum (rdNum (b, false))).1).1 [] (rdNum (rdNum (rdNum (b, false))))).2) := rfl
  clear r1 r2
  generalize (Ph.getI (rdNum (rdNum (b, false))).1).1 = N at *
  generalize rdNum (rdNum (rdNum (b, false))) = s3 at *
  generalize (Ph.getI (rdNum (b, false)).1).1 = q at *
  generalize (Ph.getI (b, false).1).1 = c at *
  replace hw := (hw.nilOwn 95 9).swap2
  have hw : Has 0 w W1 (Cells bp [sv3, .bool s3.2] 152 :: Sx.Own 95 9 (.slice none 0 0) ([] : List OpD).length (([] : List OpD).flatMap opCells) :: Cells bx [.int .i64 c, .int .i64 q, .slice none 0 0] 36 :: Cells b0 [.int .i64 0, .int .i64 0, .slice none 0 0] 36 :: Old w 0 :: []) := hw
  refine st_loop (σ := DecS) (fun t => [(0, .slice sad b.length scap), (2, .pointer (some ⟨b0, 0, none⟩)), (4, .pointer (some ⟨bp, 0, none⟩)), (5, .pointer (some ⟨bx, 0, none⟩)), (6, .int .i64 t.n)])
    (fun t => Cells bp [t.sv, .bool t.s.2] 152 :: Sx.Own 95 9 t.v t.l.length (t.l.flatMap opCells) :: Cells bx [.int .i64 c, .int .i64 q, t.v] 36 :: Cells b0 [.int .i64 0, .int .i64 0, .slice none 0 0] 36 :: Old w 0 :: [])
    (fun t => RdB w t.sv t.s.1 ∧ i64 t.n ∧ t.l.length ≤ 9 ∧ rdOps (10 - t.l.length) t.n t.l t.s = rdOps 10 N [] s3) (fun t => 10 - t.l.length) ⟨N, .slice none 0 0, [], sv3, s3⟩ ⟨r3, hN, by simp, rfl⟩ hs ⟨rfl, rfl, rfl, rfl, rfl, trivial⟩ hw ?_
  clear hs hw r3 hN
  rintro ⟨n, v, l, sv, s⟩ a W ⟨hr, hn, hl, hrd⟩ hs hw
  simp only at hr hn hl hrd hs hw
  obtain ⟨vad, vcap, rfl⟩ : ∃ ad cap, v = .slice ad l.length cap := by
    obtain ⟨_, ad, cap, e, _⟩ := hw.rd_own (In.tl In.hd); exact ⟨ad, cap, e⟩
  refine sq ?_
  refine sq ?_
  refine merge (M := fun a W => Slots a 61 [(0, .slice sad b.length scap), (2, .pointer (some ⟨b0, 0, none⟩)), (4, .pointer (some ⟨bp, 0, none⟩)), (5, .pointer (some ⟨bx, 0, none⟩)), (6, .int .i64 n), (33, .bool (decide (n > 0) && !s.2 && decide ((l.length : Int) ≤ 8)))] ∧ Has 0 w W (Cells bp [sv, .bool s.2] 152 :: Sx.Own 95 9 (.slice vad l.length vcap) l.length (l.flatMap opCells) :: Cells bx [.int .i64 c, .int .i64 q, .slice vad l.length vcap] 36 :: Cells b0 [.int .i64 0, .int .i64 0, .slice none 0 0] 36 :: Old w 0 :: [])) ?_ ?_
  · repeat (first | (refine sxv hs hw ?_; clear hs; intro a hs) | refine sxc hs ?_ | (refine sxa hs hw ?_; clear hs hw; intro a b W hw hs) | (refine sxs hs hw ?_; clear hs hw; intro W hs hw))
    cases k0 : decide (n > 0) with
    | false =>
      rw [k0] at hs
      repeat (first | (refine sxv hs hw ?_; clear hs; intro a hs) | refine sxc hs ?_ | (refine sxa hs hw ?_; clear hs hw; intro a b W hw hs) | (refine sxs hs hw ?_; clear hs hw; intro W hs hw))
      exact ⟨hs.of ⟨rfl, rfl, rfl, rfl, rfl, rfl, trivial⟩, hw⟩
    | true =>
    rw [k0] at hs
    repeat (first | (refine sxv hs hw ?_; clear hs; intro a hs) | refine sxc hs ?_ | (refine sxa hs hw ?_; clear hs hw; intro a b W hw hs) | (refine sxs hs hw ?_; clear hs hw; intro W hs hw))
    cases k1 : s.2 with
    | true =>
      rw [k1] at hs hw
      repeat (first | (refine sxv hs hw ?_; clear hs; intro a hs) | refine sxc hs ?_ | (refine sxa hs hw ?_; clear hs hw; intro a b W hw hs) | (refine sxs hs hw ?_; clear hs hw; intro W hs hw))
      exact ⟨hs.of ⟨rfl, rfl, rfl, rfl, rfl, rfl, trivial⟩, hw⟩
    | false =>
    rw [k1] at hs hw
    repeat (first | (refine sxv hs hw ?_; clear hs; intro a hs) | refine sxc hs ?_ | (refine sxa hs hw ?_; clear hs hw; intro a b W hw hs) | (refine sxs hs hw ?_; clear hs hw; intro W hs hw))
    exact ⟨hs.of ⟨rfl, rfl, rfl, rfl, rfl, bool_eq (by simp), trivial⟩, hw⟩
  clear hs hw
  rintro a W ⟨hs, hw⟩
  refine cd_split hs (kt := fun hcc => ?_) (kf := fun hcc => ?_)
  · obtain ⟨h0, h1, h2⟩ : 0 < n ∧ s.2 = false ∧ l.length ≤ 8 := by
      simp only [Bool.and_eq_true, decide_eq_true_eq, Bool.not_eq_true'] at hcc
      exact ⟨by omega, hcc.1.2, by omega⟩
    rw [rdOps_go h0 h1 h2] at hrd
    replace hs : Slots a 61 [(0, .slice sad b.length scap), (2, .pointer (some ⟨b0, 0, none⟩)), (4, .pointer (some ⟨bp, 0, none⟩)), (5, .pointer (some ⟨bx, 0, none⟩)), (6, .int .i64 n)] := hs.of ⟨rfl, rfl, rfl, rfl, rfl, trivial⟩
    repeat (first | (refine sxv hs hw ?_; clear hs; intro a hs) | refine sxc hs ?_ | (refine sxa hs hw ?_; clear hs hw; intro a b W hw hs) | (refine sxs hs hw ?_; clear hs hw; intro W hs hw))
    have hw : Has 0 w W (Cells bp [sv, .bool s.2] 152 :: Sx.Own 95 9 (.slice vad l.length vcap) l.length (l.flatMap opCells) :: Free :: Free :: Cells bx [.int .i64 c, .int .i64 q, .slice vad l.length vcap] 36 :: Cells b0 [.int .i64 0, .int .i64 0, .slice none 0 0] 36 :: Old w 0 :: []) := hw.free.free.perm (((List.Perm.cons _ (List.Perm.swap _ _ _)).trans (List.Perm.swap _ _ _)).trans (List.Perm.cons _ ((List.Perm.cons _ (List.Perm.swap _ _ _)).trans (List.Perm.swap _ _ _))))
    refine rg_drawU (σ := Value × Option Addr × Nat) (V := fun u => [.pointer (some ⟨bx, 0 + 2, none⟩), .slice vad l.length vcap, .pointer (some ⟨bp, 0, none⟩), .agg ⟨opCells (rdOp s).1⟩, .slice (some ⟨(u 4).2.2, 0, none⟩) 1 1, .slice (u 5).2.1 (l.length + 1) (u 5).2.2, .pointer (some ⟨bx, 0 + 2, none⟩), .bool true])
      (Rs := fun u D => (if D 3 then Cells bp [(u 3).1, .bool (rdOp s).2.2] 152 else Cells bp [sv, .bool s.2] 152) :: (if D 5 then Sx.Own 95 9 (.slice (u 5).2.1 (l.length + 1) (u 5).2.2) (l.length + 1) (l.flatMap opCells ++ opCells (rdOp s).1) else Sx.Own 95 9 (.slice vad l.length vcap) l.length (l.flatMap opCells)) :: (if D 4 then Cells (u 4).2.2 (opCells (rdOp s).1) 95 else Free) :: (if D 3 then Fact (RdB w (u 3).1 (rdOp s).2.1) else Free) :: (if D 7 then Cells bx [.int .i64 c, .int .i64 q, .slice (u 5).2.1 (l.length + 1) (u 5).2.2] 36 else Cells bx [.int .i64 c, .int .i64 q, .slice vad l.length vcap] 36) :: Cells b0 [.int .i64 0, .int .i64 0, .slice none 0 0] 36 :: Old w 0 :: []) (fun _ => (.bool true, none, 0)) hs hw (hVu := ?vu_c) (ho := ⟨?_, ?c1_c, ?_, ?c3_c, ?c4_c, ?c5_c, ?_, ?c7_c, trivial⟩) (k := ?k_c)
    case vu_c =>
      intro u u' j h
      rcases j with _ | _ | _ | _ | _ | _ | j
      all_goals first | rfl | simp [h]
    case c1_c =>
      intro u LD D a W hcl hi hp hs hw
      have h5 := Go.Sx.not_done hcl hi 5 (by kernel_rfl)
      have h7 := Go.Sx.not_done hcl h5 7 (by kernel_rfl)
      have hw0 := hw
      simp only [h7, Bool.false_eq_true, if_false] at hw
      repeat (first | (refine sxv hs hw ?_; clear hs; intro a hs) | refine sxc hs ?_ | (refine sxa hs hw ?_; clear hs hw; intro a b W hw hs) | (refine sxs hs hw ?_; clear hs hw; intro W hs hw))
      exact Or.inl ⟨hs, hw0⟩
    case c3_c =>
      intro u LD D a W hcl hi hp hs hw
      have h4 := Go.Sx.not_done hcl hi 4 (by kernel_rfl)
      have h5 := Go.Sx.not_done hcl h4 5 (by kernel_rfl)
      have h7 := Go.Sx.not_done hcl h5 7 (by kernel_rfl)
      simp only [hi, h4, h5, h7, Bool.false_eq_true, if_false] at hw
      refine st_call hs (hc := op_op w _ bp sv s _ (by repeat (first | exact In.hd | apply In.tl)) hr hT hw) (k := ?_); rintro e0 W1 ⟨rfl, sv2, r2, hw'⟩; refine ⟨_, rfl, ?_⟩; clear hs hw; intro a hs
      repeat (first | (refine sxv hs hw ?_; clear hs; intro a hs) | refine sxc hs ?_ | (refine sxa hs hw ?_; clear hs hw; intro a b W hw hs) | (refine sxs hs hw ?_; clear hs hw; intro W hs hw))
      refine Or.inr ⟨(sv2, none, 0), hs, ?_⟩
      show Has 0 w _ (_ :: (if (Nat.beq 5 3 || D 5) = true then _ else _) :: (if (Nat.beq 4 3 || D 4) = true then _ else _) :: _ :: (if (Nat.beq 7 3 || D 7) = true then _ else _) :: _)
      rw [h4, h5, h7]
      exact (hw'.fact r2).fill (Upd.tl (Upd.tl (Upd.tl Upd.hd)))
    case c4_c =>
      intro u LD D a W hcl hi hp hs hw
      have h3 := Go.Sx.done hp 3 (by kernel_rfl)
      have h5 := Go.Sx.not_done hcl hi 5 (by kernel_rfl)
      have h7 := Go.Sx.not_done hcl h5 7 (by kernel_rfl)
      simp only [hi, h3, h5, h7, Bool.false_eq_true, if_false, if_true] at hw
      repeat (first | (refine sxv hs hw ?_; clear hs; intro a hs) | refine sxc hs ?_ | (refine sxa hs hw ?_; clear hs hw; intro a b W hw hs) | (refine sxs hs hw ?_; clear hs hw; intro W hs hw))
      refine Or.inr ⟨(.bool true, none, _), hs, ?_⟩
      show Has 0 w _ ((if (Nat.beq 3 4 || D 3) = true then _ else _) :: (if (Nat.beq 5 4 || D 5) = true then _ else _) :: _ :: (if (Nat.beq 3 4 || D 3) = true then _ else _) :: (if (Nat.beq 7 4 || D 7) = true then _ else _) :: _)
      rw [h3, h5, h7]
      exact hw.fill (Upd.tl (Upd.tl Upd.hd))
    case c5_c =>
      intro u LD D a W hcl hi hp hs hw
      have h4 := Go.Sx.done hp 4 (by kernel_rfl)
      have h7 := Go.Sx.not_done hcl hi 7 (by kernel_rfl)
      simp only [hi, h4, h7, Bool.false_eq_true, if_false, if_true] at hw
      refine st_append_lit hs hw (k := l.length) (h63 := by omega) (hb := by omega) (c := ?_)
      clear hs hw; intro a ad cap W hs hw
      repeat (first | (refine sxv hs hw ?_; clear hs; intro a hs) | refine sxc hs ?_ | (refine sxa hs hw ?_; clear hs hw; intro a b W hw hs) | (refine sxs hs hw ?_; clear hs hw; intro W hs hw))
      refine Or.inr ⟨(.bool true, ad, cap), hs, ?_⟩
      show Has 0 w _ (_ :: _ :: (if (Nat.beq 4 5 || D 4) = true then _ else _) :: _ :: (if (Nat.beq 7 5 || D 7) = true then _ else _) :: _)
      rw [h4, h7]
      exact hw
    case c7_c =>
      intro u LD D a W hcl hi hp hs hw
      have h5 := Go.Sx.done hp 5 (by kernel_rfl)
      simp only [hi, h5, Bool.false_eq_true, if_false, if_true] at hw
      repeat (first | (refine sxv hs hw ?_; clear hs; intro a hs) | refine sxc hs ?_ | (refine sxa hs hw ?_; clear hs hw; intro a b W hw hs) | (refine sxs hs hw ?_; clear hs hw; intro W hs hw))
      refine Or.inl ⟨hs, ?_⟩
      show Has 0 w _ (_ :: (if (Nat.beq 5 7 || D 5) = true then _ else _) :: _ :: _ :: _ :: _)
      rw [h5]
      exact hw
    case k_c =>
      clear hs hw
      intro u a W hs hw
      replace hw : Has 0 w W (Cells bp [(u 3).1, .bool (rdOp s).2.2] 152 :: Sx.Own 95 9 (.slice (u 5).2.1 (l.length + 1) (u 5).2.2) (l.length + 1) (l.flatMap opCells ++ opCells (rdOp s).1) :: Cells (u 4).2.2 (opCells (rdOp s).1) 95 :: Fact (RdB w (u 3).1 (rdOp s).2.1) :: Cells bx [.int .i64 c, .int .i64 q, .slice (u 5).2.1 (l.length + 1) (u 5).2.2] 36 :: Cells b0 [.int .i64 0, .int .i64 0, .slice none 0 0] 36 :: Old w 0 :: []) := hw
      have hr' := hw.told (In.tl (In.tl (In.tl In.hd)))
      replace hw := hw.sub (L' := Cells bp [(u 3).1, .bool (rdOp s).2.2] 152 :: Sx.Own 95 9 (.slice (u 5).2.1 (l.length + 1) (u 5).2.2) (l.length + 1) (l.flatMap opCells ++ opCells (rdOp s).1) :: Cells bx [.int .i64 c, .int .i64 q, .slice (u 5).2.1 (l.length + 1) (u 5).2.2] 36 :: Cells b0 [.int .i64 0, .int .i64 0, .slice none 0 0] 36 :: Old w 0 :: []) (List.Sublist.cons_cons _ (List.Sublist.cons_cons _ (List.Sublist.cons _ (List.Sublist.cons _ (List.Sublist.refl _)))))
      replace hs : Slots a 61 [(0, .slice sad b.length scap), (2, .pointer (some ⟨b0, 0, none⟩)), (4, .pointer (some ⟨bp, 0, none⟩)), (5, .pointer (some ⟨bx, 0, none⟩)), (6, .int .i64 n)] := hs.of ⟨rfl, rfl, rfl, rfl, rfl, trivial⟩
      generalize (u 3).1 = sv2 at *
      generalize (u 5).2.1 = ad2 at *
      generalize (u 5).2.2 = cap2 at *
      clear u
      repeat (first | (refine sxv hs hw ?_; clear hs; intro a hs) | refine sxc hs ?_ | (refine sxa hs hw ?_; clear hs hw; intro a b W hw hs) | (refine sxs hs hw ?_; clear hs hw; intro W hs hw))
      have e1 : IntKind.i64.wrap (n - 1) = n - 1 := i64s (by have := hn.1; omega) (by have := hn.2; omega)
      rw [e1] at hs
      have e2 : l.length + 1 = (l ++ [(rdOp s).1]).length := by simp
      have e3 : l.flatMap opCells ++ opCells (rdOp s).1 = (l ++ [(rdOp s).1]).flatMap opCells := by simp
      rw [e2, e3] at hw
      rw [e2] at hrd
      exact st_again ⟨n - 1, _, l ++ [(rdOp s).1], sv2, (rdOp s).2⟩ hs hw ⟨hr', ⟨by have := hn.1; show _ ≤ n - 1; omega, by have := hn.2; show n - 1 ≤ _; omega⟩, by simp; omega, hrd⟩ (by simp only [List.length_append, List.length_singleton]; omega) ⟨rfl, rfl, rfl, rfl, rfl, trivial⟩
    all_goals
      intro u LD D a W hcl hi hp hs hw
      repeat (first | (refine sxv hs hw ?_; clear hs; intro a hs) | refine sxc hs ?_ | (refine sxa hs hw ?_; clear hs hw; intro a b W hw hs) | (refine sxs hs hw ?_; clear hs hw; intro W hs hw))
      exact Or.inl ⟨hs, hw⟩
  · rw [rdOps_stop hcc] at hrd
    rw [← hrd] at hdec
    clear hrd
    rw [hdec] at hok
    obtain ⟨hc, hq, -, ho⟩ := hok
    simp only at hc hq ho
    have hD : ∀ p : Prop, (s.2 = false ∧ mayBatch c q l = true ∧ textB c q l = b ↔ p) → ((p → decR b = ((c, q, l), 0)) ∧ (¬ p → decR b = ((0, 0, []), 1))) := fun p hp => by
      constructor
      · intro h
        have : decode b = some (c, q, l) := by unfold decode; simp only [hdec]; rw [if_pos (hp.2 h)]
        unfold decR; rw [this]
      · intro h
        have : decode b = none := by unfold decode; simp only [hdec]; rw [if_neg fun k => h (hp.1 k)]
        unfold decR; rw [this]
    have hZ := (hD _ Iff.rfl).2
    have hY := (hD _ Iff.rfl).1
    clear hD hdec
    repeat (first | (refine sxv hs hw ?_; clear hs; intro a hs) | refine sxc hs ?_ | (refine sxa hs hw ?_; clear hs hw; intro a b W hw hs) | (refine sxs hs hw ?_; clear hs hw; intro W hs hw))
    refine st_call hs (hc := op_Encode c q l _ _ hc hq ho (hw.rd_own (In.tl In.hd)) (hT.keep (hw.end (by repeat (first | exact In.hd | apply In.tl))))) (k := ?_); rintro e0 W1 ⟨ad, cap, rfl, hnil, hw1⟩; refine ⟨_, rfl, ?_⟩; clear hs; intro a hs; replace hw := hw.call hw1; clear hw1
    repeat (first | (refine sxv hs hw ?_; clear hs; intro a hs) | refine sxc hs ?_ | (refine sxa hs hw ?_; clear hs hw; intro a b W hw hs) | (refine sxs hs hw ?_; clear hs hw; intro W hs hw))
    cases k1 : s.2 with
    | true =>
      rw [k1] at hs hw
      repeat (first | (refine sxv hs hw ?_; clear hs; intro a hs) | refine sxc hs ?_ | (refine sxa hs hw ?_; clear hs hw; intro a b W hw hs) | (refine sxs hs hw ?_; clear hs hw; intro W hs hw))
      refine rc2 hs rfl rfl hw (In.tl (In.tl (In.tl (In.tl In.hd)))) rfl rfl ?_
      rw [hZ (by rw [k1]; simp)]
      exact ⟨none, 0, rfl, (hw.nilOwn 95 9).sub (List.Sublist.cons_cons _ (List.Sublist.cons _ (List.Sublist.cons _ (List.Sublist.cons _ (List.Sublist.cons _ (List.Sublist.cons _ (List.Sublist.refl _)))))))⟩
    | false =>
    rw [k1] at hs hw
    repeat (first | (refine sxv hs hw ?_; clear hs; intro a hs) | refine sxc hs ?_ | (refine sxa hs hw ?_; clear hs hw; intro a b W hw hs) | (refine sxs hs hw ?_; clear hs hw; intro W hs hw))
    cases hm : mayBatch c q l with
    | false =>
      obtain ⟨rfl, rfl⟩ := hnil hm
      refine st_eqnil hs (c := ?_); clear hs; intro a hs
      repeat (first | (refine sxv hs hw ?_; clear hs; intro a hs) | refine sxc hs ?_ | (refine sxa hs hw ?_; clear hs hw; intro a b W hw hs) | (refine sxs hs hw ?_; clear hs hw; intro W hs hw))
      refine rc2 hs rfl rfl hw (In.tl (In.tl (In.tl (In.tl In.hd)))) rfl rfl ?_
      rw [hZ (by rw [hm]; simp)]
      exact ⟨none, 0, rfl, (hw.nilOwn 95 9).sub (List.Sublist.cons_cons _ (List.Sublist.cons _ (List.Sublist.cons _ (List.Sublist.cons _ (List.Sublist.cons _ (List.Sublist.cons _ (List.Sublist.refl _)))))))⟩
    | true =>
    rw [hm] at hs hw
    simp only [if_true] at hs hw
    obtain ⟨A, rfl⟩ : ∃ A, ad = some A := by
      obtain ⟨_, ad', cap', e, _, _, h | ⟨g, o, h, _⟩⟩ := hw.rd_own In.hd
      · have := textB_pos c q l; omega
      · injection e with e1 _ _; exact ⟨_, e1.trans h⟩
    refine st_eqnil hs (c := ?_); clear hs; intro a hs
    rw [show (some A).isNone = false from rfl] at hs
    repeat (first | (refine sxv hs hw ?_; clear hs; intro a hs) | refine sxc hs ?_ | (refine sxa hs hw ?_; clear hs hw; intro a b W hw hs) | (refine sxs hs hw ?_; clear hs hw; intro W hs hw))
    refine st_call hs (hc := bytes_Equal (textB c q l) b _ _ _ (hw.rd_own In.hd) (hw.rd (by repeat (first | exact In.hd | apply In.tl)) hw.ext.size r)) (k := ?_); rintro e0 W1 ⟨rfl, hb⟩; refine ⟨_, rfl, ?_⟩; clear hs; intro a hs; replace hw := hw.below hb; clear hb
    cases he : (textB c q l == b) with
    | false =>
      rw [he] at hs
      repeat (first | (refine sxv hs hw ?_; clear hs; intro a hs) | refine sxc hs ?_ | (refine sxa hs hw ?_; clear hs hw; intro a b W hw hs) | (refine sxs hs hw ?_; clear hs hw; intro W hs hw))
      refine rc2 hs rfl rfl hw (In.tl (In.tl (In.tl (In.tl In.hd)))) rfl rfl ?_
      rw [hZ (by rw [beq_eq_false_iff_ne] at he; exact fun h => he h.2.2)]
      exact ⟨none, 0, rfl, (hw.nilOwn 95 9).sub (List.Sublist.cons_cons _ (List.Sublist.cons _ (List.Sublist.cons _ (List.Sublist.cons _ (List.Sublist.cons _ (List.Sublist.cons _ (List.Sublist.refl _)))))))⟩
    | true =>
      rw [he] at hs
      repeat (first | (refine sxv hs hw ?_; clear hs; intro a hs) | refine sxc hs ?_ | (refine sxa hs hw ?_; clear hs hw; intro a b W hw hs) | (refine sxs hs hw ?_; clear hs hw; intro W hs hw))
      refine rc2 hs rfl rfl hw (In.tl (In.tl (In.tl (In.tl In.hd)))) rfl rfl ?_
      rw [hY ⟨k1, hm, by simpa using he⟩]
      exact ⟨_, _, rfl, hw.sub (List.Sublist.cons _ (List.Sublist.cons _ (List.Sublist.cons_cons _ (List.Sublist.cons _ (List.Sublist.cons _ (List.Sublist.refl _))))))⟩
end Go.Proofs.YtmalklakaalaoaaGreatDoor.Sw

set_option linter.unusedVariables false
set_option maxRecDepth 10000
namespace Go.Sx
end Go.Sx
