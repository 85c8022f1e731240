/-
  Texts of the proof, one behind the other (part 7).
-/
import Derived.Test.YtmalklakaalaoaaGreatDoorM6
import Derived.Laws.Small
set_option linter.unusedVariables false
set_option maxRecDepth 10000
namespace Go.Sx
theorem abs2 {G : Nat} {w W : World} {q : Res} {R : List Res} {b : Nat} {cs : List Value} {T : TypeId} (h : Has G w W (q :: Cells b cs T :: R)) : ∃ z : List Value, z.length = cs.length ∧ Has G w W (q :: Cells b z T :: R) := ⟨cs, rfl, h⟩
theorem ov_left (ls ts vs : List Value) (o : Nat) (h : o + vs.length ≤ ls.length) : ov (ls ++ ts) o vs = ov ls o vs ++ ts := by
  rw [ov_eq _ _ _ (by simp; omega), ov_eq _ _ _ h, List.take_append_of_le_length (by omega), List.drop_append_of_le_length h]
  simp
theorem ov_right (ls ts vs : List Value) (o : Nat) (h : o + vs.length ≤ ts.length) : ov (ls ++ ts) (ls.length + o) vs = ls ++ ov ts o vs := by
  rw [ov_eq _ _ _ (by simp; omega), ov_eq _ _ _ h]
  rw [List.take_append, List.take_of_length_le (by omega), List.drop_append, List.drop_of_length_le (by omega)]
  rw [show ls.length + o - ls.length = o by omega, show ls.length + o + vs.length - ls.length = o + vs.length by omega]
  simp
end Go.Sx
namespace Go.Proofs.YtmalklakaalaoaaGreatDoor.Sw
open Go.RowKit Go.Sx
-- pieces
instance arL : Ar Tryz.prog 33 6 2 := ⟨by kernel_rfl⟩
instance arR : Ar Tryz.prog 40 6 39 := ⟨by kernel_rfl⟩
abbrev rfC (pl : Int) (dv : Value) (ls ts : List Value) : List Value := .int .i64 pl :: dv :: (ls ++ ts)
def NumIn (x : Int × RowD) (c : List Value) : Prop := c = [.int .i64 x.1]
def ToRow (H : Fh) (x : Int × RowD) (c : List Value) : Prop := RowIn H x.2 c
def RfIn (H : Fh) (f : FoldD) (cs : List Value) : Prop := ∃ dv ls ts, cs = rfC f.place dv ls ts ∧ DocH H dv f.d ∧ f.told.length = 6 ∧ Ch NumIn f.told ls ∧ Ch (ToRow H) f.told ts
theorem NumIn.len : ∀ (x : Int × RowD) (c : List Value), NumIn x c → c.length = 1 := by rintro x c rfl; rfl
theorem ToRow.len {H : Fh} : ∀ (x : Int × RowD) (c : List Value), ToRow H x c → c.length = 5 := fun x c h => RowIn.len x.2 c h
theorem rf_len {H : Fh} {told : List (Int × RowD)} {ls ts : List Value} (h6 : told.length = 6) (hl : Ch NumIn told ls) (ht : Ch (ToRow H) told ts) : ls.length = 6 ∧ ts.length = 30 := by
  have h1 := hl.length NumIn.len
  have h2 := ht.length ToRow.len
  rw [h6] at h1 h2
  exact ⟨by omega, by omega⟩
theorem RfIn.len {H : Fh} {f : FoldD} {cs : List Value} (h : RfIn H f cs) : cs.length = 38 := by
  obtain ⟨dv, ls, ts, rfl, _, h6, hl, ht⟩ := h
  obtain ⟨h1, h2⟩ := rf_len h6 hl ht
  simp [h1, h2]
theorem RfIn.one {H : Fh} {f : FoldD} {cs : List Value} (h : RfIn H f cs) : cs.all (·.oneCell') = true := by
  obtain ⟨dv, ls, ts, rfl, hd, h6, hl, ht⟩ := h
  obtain ⟨dad, dcap, rfl⟩ := hd.slice
  rw [List.all_eq_true]
  intro v hv
  simp only [rfC, List.mem_cons, List.mem_append] at hv
  rcases hv with rfl | rfl | hv | hv
  · rfl
  · rfl
  · exact hl.ones (fun x c hc v hv => by cases hc; simp only [List.mem_singleton] at hv; subst hv; rfl) v hv
  · exact ht.ones (fun x c hc => RowIn.ones x.2 c hc) v hv
theorem RfIn.le {H H' : Fh} {f : FoldD} {cs : List Value} (hle : H.le H') (h : RfIn H f cs) : RfIn H' f cs := by
  obtain ⟨dv, ls, ts, rfl, hd, h6, hl, ht⟩ := h
  exact ⟨dv, ls, ts, rfl, RdH.le hd hle, h6, hl, ht.mono fun x c hc => RowIn.le hle x.2 c hc⟩
theorem lastOf_at {f : FoldD} {c : Int} (h1 : 1 ≤ c) (h5 : c ≤ 5) {x : Int × RowD} (hx : f.told[c.toNat]? = some x) : lastOf f c = x.1 := by
  unfold lastOf
  rw [if_pos ⟨h1, h5⟩, hx]; rfl
set_option maxHeartbeats 16000000 in
theorem ref7_Next (w0 W : World) (H : Fh) (f : FoldD) (bt : BatchD) (cs : List Value) (sv : Value) (R : List Res) (hf : RfIn H f cs) (hd : DocOk f.d) (hb : BatOk bt) (hr : OpsH H sv bt.l) (hw : Has 0 w0 W (Fz H :: R)) :
    Calls Tryz.prog 26 ⟨[.agg ⟨cs⟩, .agg ⟨batCells bt sv⟩]⟩ W fun e W' => ∃ cs' sv' H', e = .returned (.tuple ⟨[.agg ⟨cs'⟩, .agg ⟨rowCells (next f bt).2.1 sv'⟩, .bool (next f bt).2.2]⟩) ∧ H.le H' ∧ RfIn H' (next f bt).1 cs' ∧ OpsH H' sv' (next f bt).2.1.b.l ∧ Has 0 w0 W' (Fz H' :: R) := by
  obtain ⟨sad, scap, rfl⟩ := hr.slice
  have hlen0 := hf.len
  have hone0 := hf.one
  refine enter Tryz.func26 Tryz.ntmps26 rfl rfl fun a hs => ?_
  repeat (first | (refine sxv hs hw ?_; clear hs; intro a hs) | refine sxc hs ?_ | (refine sxa hs hw ?_; clear hs hw; intro a b W hw hs) | (refine sxs hs hw ?_; clear hs hw; intro W hs hw))
  obtain ⟨b5, q5⟩ := nm1 hw; subst q5
  obtain ⟨b4, q4⟩ := nm2 hw; subst q4
  obtain ⟨b3, q3⟩ := nm3 hw; subst q3
  obtain ⟨z4, hz4, hw⟩ := abs2 hw
  replace hz4 : z4.length = 38 := hz4
  obtain ⟨b2, q2⟩ : ∃ b2, Has 0 w0 W (Cells b5 zrc 39 :: Cells b4 z4 42 :: Cells b3 (batCells bt (.slice sad bt.l.length scap)) 36 :: Cells b2 cs 42 :: Fz H :: R) ∧ Slots a 58 [(2, .pointer (some ⟨b2, 0, none⟩)), (3, .pointer (some ⟨b3, 0, none⟩)), (4, .pointer (some ⟨b4, 0, none⟩)), (5, .pointer (some ⟨b5, 0, none⟩)), (6, .bool false)] := ⟨_, hw, hs.of ⟨rfl, rfl, rfl, rfl, rfl, trivial⟩⟩
  clear hs hw
  obtain ⟨hw, hs⟩ := q2
  have back : ∀ (a : Act) (W : World), Slots a 58 [(2, .pointer (some ⟨b2, 0, none⟩)), (4, .pointer (some ⟨b4, 0, none⟩)), (5, .pointer (some ⟨b5, 0, none⟩))] → True := fun _ _ _ => trivial
  clear back
  cases hm : mayB bt with
  | false =>
    have hN : next f bt = (f, zeroRow, false) := by unfold next nextB; rw [hm]; rfl
    rw [hN]
    refine rg_draw (V := [.agg ⟨batCells bt (.slice sad bt.l.length scap)⟩, .bool false, .bool true, .bool true, undef, undef, undef, undef, undef, undef, undef, undef, undef, .bool true])
      (Rs := fun D => Cells b5 zrc 39 :: Cells b4 z4 42 :: Cells b3 (batCells bt (.slice sad bt.l.length scap)) 36 :: Cells b2 cs 42 :: Fz H :: R) hs hw (ho := ⟨?_, ?c1_1, ?_, ?_, ?_, ?_, ?_, ?_, ?_, ?_, ?_, ?_, ?_, ?_, trivial⟩) (k := ?k_1)
    case c1_1 =>
      intro LD D a W hcl hi hp hs hw
      repeat (first | (refine sxv hs hw ?_; clear hs; intro a hs) | refine sxc hs ?_ | (refine sxa hs hw ?_; clear hs hw; intro a b W hw hs) | (refine sxs hs hw ?_; clear hs hw; intro W hs hw))
      refine st_call hs (hc := ref_MayBatch bt.c bt.q bt.l _ _ hb.c hb.q hb.ops (hw.rdH (by repeat (first | exact In.hd | apply In.tl)) hr)) (k := ?_); rintro e0 W1 ⟨rfl, hb⟩; refine ⟨_, rfl, ?_⟩; clear hs; intro a hs; replace hw := hw.below hb; clear hb
      rw [show mayBatch bt.c bt.q bt.l = mayB bt from rfl, hm] at hs
      repeat (first | (refine sxv hs hw ?_; clear hs; intro a hs) | refine sxc hs ?_ | (refine sxa hs hw ?_; clear hs hw; intro a b W hw hs) | (refine sxs hs hw ?_; clear hs hw; intro W hs hw))
      exact ⟨hs, hw⟩
    case k_1 =>
      clear hs hw
      intro a W hs hw
      repeat (first | (refine sxv hs hw ?_; clear hs; intro a hs) | refine sxc hs ?_ | (refine sxa hs hw ?_; clear hs hw; intro a b W hw hs) | (refine sxs hs hw ?_; clear hs hw; intro W hs hw))
      refine st_load_agg hs (hw := hw) (hi := In.tl (In.tl (In.tl In.hd))) (hl := by rw [hlen0]; rfl) (k := ?_); clear hs; intro a hs
      replace hs : Slots a 58 [(24, .agg ⟨cs⟩), (2, .pointer (some ⟨b2, 0, none⟩)), (4, .pointer (some ⟨b4, 0, none⟩)), (5, .pointer (some ⟨b5, 0, none⟩))] := hs.of ⟨congrArg (fun x => some (Value.agg ⟨x⟩)) (cut_all _ 38 hlen0), rfl, rfl, rfl, trivial⟩
      repeat (first | (refine sxv hs hw ?_; clear hs; intro a hs) | refine sxc hs ?_ | (refine sxa hs hw ?_; clear hs hw; intro a b W hw hs) | (refine sxs hs hw ?_; clear hs hw; intro W hs hw))
      refine st_store hs (vs := cs) (hw := hw) (hz := by rw [hlen0]; rfl) (h1 := hone0) (hl := by rw [hlen0, hz4]; rfl) (k := ?_); clear hs hw; intro W hs hw
      rw [ov_all _ _ (by rw [hlen0, hz4])] at hw
      repeat (first | (refine sxv hs hw ?_; clear hs; intro a hs) | refine sxc hs ?_ | (refine sxa hs hw ?_; clear hs hw; intro a b W hw hs) | (refine sxs hs hw ?_; clear hs hw; intro W hs hw))
      refine rk3 hs rfl rfl rfl hw (In.tl In.hd) In.hd (by rw [hlen0]; rfl) rfl rfl ?_
      exact ⟨cs, .slice none 0 0, H, by show Ending.returned (Value.tuple #[.agg ⟨cut cs 0 38⟩, _, .bool false]) = _; rw [cut_all _ _ hlen0]; rfl, Fh.le.refl _, hf, ops_nil H, hw.sub (List.Sublist.cons _ (List.Sublist.cons _ (List.Sublist.cons _ (List.Sublist.cons _ (List.Sublist.refl _)))))⟩
    all_goals
      intro LD D a W hcl hi hp hs hw
      repeat (first | (refine sxv hs hw ?_; clear hs; intro a hs) | refine sxc hs ?_ | (refine sxa hs hw ?_; clear hs hw; intro a b W hw hs) | (refine sxs hs hw ?_; clear hs hw; intro W hs hw))
      exact ⟨hs, hw⟩
  | true =>
  obtain ⟨⟨hc1, hc5⟩, ⟨hq1, hq2⟩, hl8⟩ := may_parts hm
  obtain ⟨dv, ls, ts, rfl, hdv, h6, hls, hts⟩ := hf
  obtain ⟨dad, dcap, rfl⟩ := hdv.slice
  obtain ⟨hll, htl⟩ := rf_len h6 hls hts
  obtain ⟨x, hx⟩ : ∃ x, f.told[bt.c.toNat]? = some x := ⟨f.told[bt.c.toNat]'(by rw [h6]; omega), List.getElem?_eq_getElem _⟩
  have hX := lastOf_at hc1 hc5 hx
  have hat : (rfC f.place (.slice dad f.d.length dcap) ls ts)[0 + 2 + bt.c.toNat * 1]? = some (.int .i64 (lastOf f bt.c)) := by
    obtain ⟨c, h1, h2, h3⟩ := hls.get NumIn.len hx
    rw [show 0 + 2 + bt.c.toNat * 1 = bt.c.toNat * 1 + 1 + 1 by omega]
    show (ls ++ ts)[bt.c.toNat * 1]? = _
    rw [List.getElem?_append_left (by omega)]
    have := congrArg (fun t => t[0]?) h3
    rw [show c = [Value.int .i64 x.1] from h1] at this
    simp only [cut_eq, List.getElem?_take, List.getElem?_drop, Nat.add_zero] at this
    rw [hX]
    simpa using this
  refine rg_draw (V := [.agg ⟨batCells bt (.slice sad bt.l.length scap)⟩, .bool true, .bool false, .bool false, .pointer (some ⟨b3, 0 + 1, none⟩), .int .i64 bt.q, .pointer (some ⟨b3, 0 + 0, none⟩), .int .i64 bt.c, .pointer (some ⟨b2, 0 + 2, none⟩), .pointer (some ⟨b2, 0 + 2 + bt.c.toNat * 1, none⟩), .int .i64 (lastOf f bt.c), .int .i64 (IntKind.i64.wrap (lastOf f bt.c + 1)), .bool (bt.q != IntKind.i64.wrap (lastOf f bt.c + 1)), .bool (bt.q != IntKind.i64.wrap (lastOf f bt.c + 1))])
    (Rs := fun D => Cells b5 zrc 39 :: Cells b4 z4 42 :: Cells b3 (batCells bt (.slice sad bt.l.length scap)) 36 :: Cells b2 (rfC f.place (.slice dad f.d.length dcap) ls ts) 42 :: Fz H :: R) hs hw (ho := ⟨?_, ?c1_2, ?_, ?_, ?_, ?_, ?_, ?_, ?_, ?c9_2, ?c10_2, ?_, ?_, ?_, trivial⟩) (k := ?k_2)
  case c1_2 =>
    intro LD D a W hcl hi hp hs hw
    repeat (first | (refine sxv hs hw ?_; clear hs; intro a hs) | refine sxc hs ?_ | (refine sxa hs hw ?_; clear hs hw; intro a b W hw hs) | (refine sxs hs hw ?_; clear hs hw; intro W hs hw))
    refine st_call hs (hc := ref_MayBatch bt.c bt.q bt.l _ _ hb.c hb.q hb.ops (hw.rdH (by repeat (first | exact In.hd | apply In.tl)) hr)) (k := ?_); rintro e0 W1 ⟨rfl, hb⟩; refine ⟨_, rfl, ?_⟩; clear hs; intro a hs; replace hw := hw.below hb; clear hb
    rw [show mayBatch bt.c bt.q bt.l = mayB bt from rfl, hm] at hs
    repeat (first | (refine sxv hs hw ?_; clear hs; intro a hs) | refine sxc hs ?_ | (refine sxa hs hw ?_; clear hs hw; intro a b W hw hs) | (refine sxs hs hw ?_; clear hs hw; intro W hs hw))
    exact ⟨hs, hw⟩
  case c9_2 =>
    intro LD D a W hcl hi hp hs hw
    repeat (first | (refine sxv hs hw ?_; clear hs; intro a hs) | refine sxc hs ?_ | (refine sxa hs hw ?_; clear hs hw; intro a b W hw hs) | (refine sxs hs hw ?_; clear hs hw; intro W hs hw))
    refine st_index_arr hs (h0 := by omega) (h1 := by omega) (c := ?_); clear hs; intro a hs
    repeat (first | (refine sxv hs hw ?_; clear hs; intro a hs) | refine sxc hs ?_ | (refine sxa hs hw ?_; clear hs hw; intro a b W hw hs) | (refine sxs hs hw ?_; clear hs hw; intro W hs hw))
    exact ⟨hs, hw⟩
  case c10_2 =>
    intro LD D a W hcl hi hp hs hw
    repeat (first | (refine sxv hs hw ?_; clear hs; intro a hs) | refine sxc hs ?_ | (refine sxa hs hw ?_; clear hs hw; intro a b W hw hs) | (refine sxs hs hw ?_; clear hs hw; intro W hs hw))
    refine st_load_one hs (hw := hw) (hi := In.tl (In.tl (In.tl In.hd))) (hv := hat) (k := ?_); clear hs; intro a hs
    repeat (first | (refine sxv hs hw ?_; clear hs; intro a hs) | refine sxc hs ?_ | (refine sxa hs hw ?_; clear hs hw; intro a b W hw hs) | (refine sxs hs hw ?_; clear hs hw; intro W hs hw))
    exact ⟨hs, hw⟩
  case k_2 =>
    clear hs hw
    intro a W hs hw
    replace hw : Has 0 w0 W (Cells b5 zrc 39 :: Cells b4 z4 42 :: Cells b3 (batCells bt (.slice sad bt.l.length scap)) 36 :: Cells b2 (rfC f.place (.slice dad f.d.length dcap) ls ts) 42 :: Fz H :: R) := hw
    replace hs : Slots a 58 [(23, .bool (bt.q != IntKind.i64.wrap (lastOf f bt.c + 1))), (2, .pointer (some ⟨b2, 0, none⟩)), (3, .pointer (some ⟨b3, 0, none⟩)), (4, .pointer (some ⟨b4, 0, none⟩)), (5, .pointer (some ⟨b5, 0, none⟩)), (6, .bool false)] := hs.of ⟨rfl, rfl, rfl, rfl, rfl, rfl, trivial⟩
    repeat (first | (refine sxv hs hw ?_; clear hs; intro a hs) | refine sxc hs ?_ | (refine sxa hs hw ?_; clear hs hw; intro a b W hw hs) | (refine sxs hs hw ?_; clear hs hw; intro W hs hw))
    cases hq : (bt.q != IntKind.i64.wrap (lastOf f bt.c + 1)) with
    | true =>
      have hN : next f bt = (f, zeroRow, false) := by
        unfold next nextB
        have : (bt.q == IntKind.i64.wrap (lastOf f bt.c + 1)) = false := by simpa using hq
        rw [hm, this]; rfl
      rw [hN]
      rw [hq] at hs
      repeat (first | (refine sxv hs hw ?_; clear hs; intro a hs) | refine sxc hs ?_ | (refine sxa hs hw ?_; clear hs hw; intro a b W hw hs) | (refine sxs hs hw ?_; clear hs hw; intro W hs hw))
      refine st_load_agg hs (hw := hw) (hi := In.tl (In.tl (In.tl In.hd))) (hl := by rw [hlen0]; rfl) (k := ?_); clear hs; intro a hs
      replace hs : Slots a 58 [(24, .agg ⟨rfC f.place (.slice dad f.d.length dcap) ls ts⟩), (2, .pointer (some ⟨b2, 0, none⟩)), (4, .pointer (some ⟨b4, 0, none⟩)), (5, .pointer (some ⟨b5, 0, none⟩))] := hs.of ⟨congrArg (fun x => some (Value.agg ⟨x⟩)) (cut_all _ 38 hlen0), rfl, rfl, rfl, trivial⟩
      repeat (first | (refine sxv hs hw ?_; clear hs; intro a hs) | refine sxc hs ?_ | (refine sxa hs hw ?_; clear hs hw; intro a b W hw hs) | (refine sxs hs hw ?_; clear hs hw; intro W hs hw))
      refine st_store hs (vs := rfC f.place (.slice dad f.d.length dcap) ls ts) (hw := hw) (hz := by rw [hlen0]; rfl) (h1 := hone0) (hl := by rw [hlen0, hz4]; rfl) (k := ?_); clear hs hw; intro W hs hw
      rw [ov_all _ _ (by rw [hlen0, hz4])] at hw
      repeat (first | (refine sxv hs hw ?_; clear hs; intro a hs) | refine sxc hs ?_ | (refine sxa hs hw ?_; clear hs hw; intro a b W hw hs) | (refine sxs hs hw ?_; clear hs hw; intro W hs hw))
      refine rk3 hs rfl rfl rfl hw (In.tl In.hd) In.hd (by rw [hlen0]; rfl) rfl rfl ?_
      exact ⟨rfC f.place (.slice dad f.d.length dcap) ls ts, .slice none 0 0, H, by show Ending.returned (Value.tuple #[.agg ⟨cut (rfC f.place (.slice dad f.d.length dcap) ls ts) 0 38⟩, _, .bool false]) = _; rw [cut_all _ _ hlen0]; rfl, Fh.le.refl _, ⟨_, ls, ts, rfl, hdv, h6, hls, hts⟩, ops_nil H, hw.sub (List.Sublist.cons _ (List.Sublist.cons _ (List.Sublist.cons _ (List.Sublist.cons _ (List.Sublist.refl _)))))⟩
    | false =>
    have hN : next f bt = (nextF f bt, nextR f bt, true) := by
      unfold next nextB
      have : (bt.q == IntKind.i64.wrap (lastOf f bt.c + 1)) = true := by simpa using hq
      rw [hm, this]; rfl
    rw [hN]
    rw [hq] at hs
    repeat (first | (refine sxv hs hw ?_; clear hs; intro a hs) | refine sxc hs ?_ | (refine sxa hs hw ?_; clear hs hw; intro a b W hw hs) | (refine sxs hs hw ?_; clear hs hw; intro W hs hw))
    have hw : Has 0 w0 W (Fz H :: Cells b5 zrc 39 :: Cells b4 z4 42 :: Cells b3 (batCells bt (.slice sad bt.l.length scap)) 36 :: Cells b2 (rfC f.place (.slice dad f.d.length dcap) ls ts) 42 :: R) := hw.perm (by repeat (first | exact List.Perm.refl _ | refine perm_pick (by repeat (first | exact Pick.hd | apply Pick.tl)) ?_))
    replace hs : Slots a 58 [(28, .agg ⟨[.slice dad f.d.length dcap]⟩), (30, .slice sad bt.l.length scap), (2, .pointer (some ⟨b2, 0, none⟩)), (3, .pointer (some ⟨b3, 0, none⟩)), (4, .pointer (some ⟨b4, 0, none⟩)), (5, .pointer (some ⟨b5, 0, none⟩)), (6, .bool false)] := hs.of ⟨congrArg (fun x => some (Value.agg ⟨x⟩)) (by rw [cut_eq]; rfl), rfl, rfl, rfl, rfl, rfl, rfl, trivial⟩
    refine st_call hs (hc := ref_Apply w0 _ H f.d _ bt.l _ _ hd hb.ops hdv hr hw) (k := ?_); rintro e0 W1 ⟨nv, H1, rfl, hle, hnv, hw1⟩; refine ⟨_, rfl, ?_⟩; clear hs hw; intro a hs; have hw := hw1; clear hw1
    obtain ⟨nad, ncap, rfl⟩ := hnv.slice
    repeat (first | (refine sxv hs hw ?_; clear hs; intro a hs) | refine sxc hs ?_ | (refine sxa hs hw ?_; clear hs hw; intro a b W hw hs) | (refine sxs hs hw ?_; clear hs hw; intro W hs hw))
    obtain ⟨b9, q9⟩ := nm1 hw; subst q9
    obtain ⟨b7, q7⟩ := nm2 hw; subst q7
    replace hw : Has 0 w0 _ (Cells b9 (rowCells (nextR f bt) (.slice sad bt.l.length scap)) 39 :: Cells b7 [.slice nad (applyL f.d bt.l).2.length ncap] 32 :: Fz H1 :: Cells b5 zrc 39 :: Cells b4 z4 42 :: Cells b3 (batCells bt (.slice sad bt.l.length scap)) 36 :: Cells b2 (ov (ov (rfC f.place (.slice dad f.d.length dcap) ls ts) (0 + 1) [.slice nad (applyL f.d bt.l).2.length ncap]) (0 + 0) [.int .i64 (IntKind.i64.wrap (f.place + 1))]) 42 :: R) := hw
    rw [ov_one, ov_one] at hw
    replace hw : Has 0 w0 _ (Cells b9 (rowCells (nextR f bt) (.slice sad bt.l.length scap)) 39 :: Cells b7 [.slice nad (applyL f.d bt.l).2.length ncap] 32 :: Fz H1 :: Cells b5 zrc 39 :: Cells b4 z4 42 :: Cells b3 (batCells bt (.slice sad bt.l.length scap)) 36 :: Cells b2 (rfC (IntKind.i64.wrap (f.place + 1)) (.slice nad (applyL f.d bt.l).2.length ncap) ls ts) 42 :: R) := hw
    refine st_index_arr hs (h0 := by omega) (h1 := by omega) (c := ?_); clear hs; intro a hs
    refine st_store hs (vs := [.int .i64 bt.q]) (hw := hw) (hl := by show Nat.ble (0 + 2 + bt.c.toNat * 1 + 1) ((ls ++ ts).length + 1 + 1) = true; rw [Nat.ble_eq, List.length_append]; omega) (k := ?_); clear hs hw; intro W hs hw
    have e1 : ov (rfC (IntKind.i64.wrap (f.place + 1)) (.slice nad (applyL f.d bt.l).2.length ncap) ls ts) (0 + 2 + bt.c.toNat * 1) [.int .i64 bt.q] = (rfC (IntKind.i64.wrap (f.place + 1)) (.slice nad (applyL f.d bt.l).2.length ncap) (ov ls (bt.c.toNat * 1) [.int .i64 bt.q]) ts) := by
      rw [show 0 + 2 + bt.c.toNat * 1 = bt.c.toNat * 1 + 1 + 1 by omega]
      exact congrArg (fun t => Value.int .i64 (IntKind.i64.wrap (f.place + 1)) :: (.slice nad (applyL f.d bt.l).2.length ncap) :: t) (ov_left ls ts [.int .i64 bt.q] (bt.c.toNat * 1) (by rw [hll]; show bt.c.toNat * 1 + 1 ≤ 6; omega))
    replace hw : Has 0 w0 W (Cells b9 (rowCells (nextR f bt) (.slice sad bt.l.length scap)) 39 :: Cells b7 [.slice nad (applyL f.d bt.l).2.length ncap] 32 :: Fz H1 :: Cells b5 zrc 39 :: Cells b4 z4 42 :: Cells b3 (batCells bt (.slice sad bt.l.length scap)) 36 :: Cells b2 (rfC (IntKind.i64.wrap (f.place + 1)) (.slice nad (applyL f.d bt.l).2.length ncap) (ov ls (bt.c.toNat * 1) [.int .i64 bt.q]) ts) 42 :: R) := e1 ▸ hw
    have hls2 : Ch NumIn (f.told.set bt.c.toNat (bt.q, nextR f bt)) (ov ls (bt.c.toNat * 1) [.int .i64 bt.q]) := hls.set NumIn.len (by rw [h6]; omega) rfl
    have hr1 := hr.le hle
    have hts2 : Ch (ToRow H1) (f.told.set bt.c.toNat (bt.q, nextR f bt)) (ov ts (bt.c.toNat * 5) (rowCells (nextR f bt) (.slice sad bt.l.length scap))) := (hts.mono fun x c hc => RowIn.le hle x.2 c hc).set ToRow.len (by rw [h6]; omega) ⟨_, rfl, hr1⟩
    have h62 : (f.told.set bt.c.toNat (bt.q, nextR f bt)).length = 6 := by rw [List.length_set]; exact h6
    obtain ⟨hll2, htl2⟩ := rf_len h62 hls2 hts2
    repeat (first | (refine sxv hs hw ?_; clear hs; intro a hs) | refine sxc hs ?_ | (refine sxa hs hw ?_; clear hs hw; intro a b W hw hs) | (refine sxs hs hw ?_; clear hs hw; intro W hs hw))
    refine st_index_arr hs (h0 := by omega) (h1 := by omega) (c := ?_); clear hs; intro a hs
    refine st_store hs (vs := (rowCells (nextR f bt) (.slice sad bt.l.length scap))) (hw := hw) (hl := by show Nat.ble (0 + 8 + bt.c.toNat * 5 + 5) (((ov ls (bt.c.toNat * 1) [.int .i64 bt.q]) ++ ts).length + 1 + 1) = true; rw [Nat.ble_eq, List.length_append]; omega) (k := ?_); clear hs hw; intro W hs hw
    have e2 : ov (rfC (IntKind.i64.wrap (f.place + 1)) (.slice nad (applyL f.d bt.l).2.length ncap) (ov ls (bt.c.toNat * 1) [.int .i64 bt.q]) ts) (0 + 8 + bt.c.toNat * 5) (rowCells (nextR f bt) (.slice sad bt.l.length scap)) = (rfC (IntKind.i64.wrap (f.place + 1)) (.slice nad (applyL f.d bt.l).2.length ncap) (ov ls (bt.c.toNat * 1) [.int .i64 bt.q]) (ov ts (bt.c.toNat * 5) (rowCells (nextR f bt) (.slice sad bt.l.length scap)))) := by
      rw [show 0 + 8 + bt.c.toNat * 5 = ((ov ls (bt.c.toNat * 1) [.int .i64 bt.q]).length + bt.c.toNat * 5) + 1 + 1 by omega]
      exact congrArg (fun t => Value.int .i64 (IntKind.i64.wrap (f.place + 1)) :: (.slice nad (applyL f.d bt.l).2.length ncap) :: t) (ov_right (ov ls (bt.c.toNat * 1) [.int .i64 bt.q]) ts (rowCells (nextR f bt) (.slice sad bt.l.length scap)) (bt.c.toNat * 5) (by rw [htl]; show bt.c.toNat * 5 + 5 ≤ 30; omega))
    replace hw : Has 0 w0 W (Cells b9 (rowCells (nextR f bt) (.slice sad bt.l.length scap)) 39 :: Cells b7 [.slice nad (applyL f.d bt.l).2.length ncap] 32 :: Fz H1 :: Cells b5 zrc 39 :: Cells b4 z4 42 :: Cells b3 (batCells bt (.slice sad bt.l.length scap)) 36 :: Cells b2 (rfC (IntKind.i64.wrap (f.place + 1)) (.slice nad (applyL f.d bt.l).2.length ncap) (ov ls (bt.c.toNat * 1) [.int .i64 bt.q]) (ov ts (bt.c.toNat * 5) (rowCells (nextR f bt) (.slice sad bt.l.length scap)))) 42 :: R) := e2 ▸ hw
    have hnew : RfIn H1 (nextF f bt) (rfC (IntKind.i64.wrap (f.place + 1)) (.slice nad (applyL f.d bt.l).2.length ncap) (ov ls (bt.c.toNat * 1) [.int .i64 bt.q]) (ov ts (bt.c.toNat * 5) (rowCells (nextR f bt) (.slice sad bt.l.length scap)))) := ⟨_, _, _, rfl, hnv, h62, hls2, hts2⟩
    have hlenN := hnew.len
    have honeN := hnew.one
    obtain ⟨cN, hcN⟩ : ∃ c, c = (rfC (IntKind.i64.wrap (f.place + 1)) (.slice nad (applyL f.d bt.l).2.length ncap) (ov ls (bt.c.toNat * 1) [.int .i64 bt.q]) (ov ts (bt.c.toNat * 5) (rowCells (nextR f bt) (.slice sad bt.l.length scap)))) := ⟨_, rfl⟩
    rw [← hcN] at hw hnew hlenN honeN
    replace hs : Slots a 58 [(2, .pointer (some ⟨b2, 0, none⟩)), (4, .pointer (some ⟨b4, 0, none⟩)), (5, .pointer (some ⟨b5, 0, none⟩)), (6, .bool false), (9, .pointer (some ⟨b9, 0, none⟩))] := hs.of ⟨rfl, rfl, rfl, rfl, rfl, trivial⟩
    repeat (first | (refine sxv hs hw ?_; clear hs; intro a hs) | refine sxc hs ?_ | (refine sxa hs hw ?_; clear hs hw; intro a b W hw hs) | (refine sxs hs hw ?_; clear hs hw; intro W hs hw))
    refine rg_draw (V := [.agg ⟨cN⟩, .agg ⟨(rowCells (nextR f bt) (.slice sad bt.l.length scap))⟩, .bool true, .bool true, .bool true])
      (Rs := fun D => Cells b9 (rowCells (nextR f bt) (.slice sad bt.l.length scap)) 39 :: Cells b7 [.slice nad (applyL f.d bt.l).2.length ncap] 32 :: Fz H1 :: Cells b5 (if D 3 then (rowCells (nextR f bt) (.slice sad bt.l.length scap)) else zrc) 39 :: Cells b4 (if D 2 then cN else z4) 42 :: Cells b3 (batCells bt (.slice sad bt.l.length scap)) 36 :: Cells b2 cN 42 :: R) hs hw (ho := ⟨?c0_3, ?_, ?c2_3, ?c3_3, ?_, trivial⟩) (k := ?k_3)
    case c0_3 =>
      intro LD D a W hcl hi hp hs hw
      refine st_load_agg hs (hw := hw) (hi := In.tl (In.tl (In.tl (In.tl (In.tl (In.tl In.hd)))))) (hl := by rw [hlenN]; rfl) (k := ?_); clear hs; intro a hs
      have hs2 : Slots a 58 ((56, .agg ⟨cut cN 0 38⟩) :: _) := hs
      rw [cut_all _ _ hlenN] at hs2
      repeat (first | (refine sxv hs hw ?_; clear hs; intro a hs) | refine sxc hs ?_ | (refine sxa hs hw ?_; clear hs hw; intro a b W hw hs) | (refine sxs hs hw ?_; clear hs hw; intro W hs hw))
      exact ⟨hs2, hw⟩
    case c2_3 =>
      intro LD D a W hcl hi hp hs hw
      simp only [hi, Bool.false_eq_true, if_false] at hw
      refine st_store hs (vs := cN) (hw := hw) (hz := by rw [hlenN]; rfl) (h1 := honeN) (hl := by rw [hlenN, hz4]; rfl) (k := ?_); clear hs hw; intro W hs hw
      rw [ov_all _ _ (by rw [hlenN, hz4])] at hw
      repeat (first | (refine sxv hs hw ?_; clear hs; intro a hs) | refine sxc hs ?_ | (refine sxa hs hw ?_; clear hs hw; intro a b W hw hs) | (refine sxs hs hw ?_; clear hs hw; intro W hs hw))
      exact ⟨hs, hw⟩
    case c3_3 =>
      intro LD D a W hcl hi hp hs hw
      simp only [hi, Bool.false_eq_true, if_false] at hw
      repeat (first | (refine sxv hs hw ?_; clear hs; intro a hs) | refine sxc hs ?_ | (refine sxa hs hw ?_; clear hs hw; intro a b W hw hs) | (refine sxs hs hw ?_; clear hs hw; intro W hs hw))
      exact ⟨hs, hw⟩
    case k_3 =>
      clear hs hw
      intro a W hs hw
      replace hw : Has 0 w0 W (Cells b9 (rowCells (nextR f bt) (.slice sad bt.l.length scap)) 39 :: Cells b7 [.slice nad (applyL f.d bt.l).2.length ncap] 32 :: Fz H1 :: Cells b5 (rowCells (nextR f bt) (.slice sad bt.l.length scap)) 39 :: Cells b4 cN 42 :: Cells b3 (batCells bt (.slice sad bt.l.length scap)) 36 :: Cells b2 cN 42 :: R) := hw
      repeat (first | (refine sxv hs hw ?_; clear hs; intro a hs) | refine sxc hs ?_ | (refine sxa hs hw ?_; clear hs hw; intro a b W hw hs) | (refine sxs hs hw ?_; clear hs hw; intro W hs hw))
      refine rk3 hs rfl rfl rfl hw (In.tl (In.tl (In.tl (In.tl In.hd)))) (In.tl (In.tl (In.tl In.hd))) (by rw [hlenN]; rfl) rfl rfl ?_
      refine ⟨cN, .slice sad bt.l.length scap, H1, ?_, hle, hnew, hr1, (hw.perm (B := Fz H1 :: Cells b9 (rowCells (nextR f bt) (.slice sad bt.l.length scap)) 39 :: Cells b7 [.slice nad (applyL f.d bt.l).2.length ncap] 32 :: Cells b5 (rowCells (nextR f bt) (.slice sad bt.l.length scap)) 39 :: Cells b4 cN 42 :: Cells b3 (batCells bt (.slice sad bt.l.length scap)) 36 :: Cells b2 cN 42 :: R) (by repeat (first | exact List.Perm.refl _ | refine perm_pick (by repeat (first | exact Pick.hd | apply Pick.tl)) ?_))).sub (List.Sublist.cons_cons _ (List.Sublist.cons _ (List.Sublist.cons _ (List.Sublist.cons _ (List.Sublist.cons _ (List.Sublist.cons _ (List.Sublist.cons _ (List.Sublist.refl _))))))))⟩
      show Ending.returned (Value.tuple #[.agg ⟨cut cN 0 38⟩, _, .bool true]) = _
      rw [cut_all _ _ hlenN]
      rfl
    all_goals
      intro LD D a W hcl hi hp hs hw
      repeat (first | (refine sxv hs hw ?_; clear hs; intro a hs) | refine sxc hs ?_ | (refine sxa hs hw ?_; clear hs hw; intro a b W hw hs) | (refine sxs hs hw ?_; clear hs hw; intro W hs hw))
      exact ⟨hs, hw⟩
  all_goals
    intro LD D a W hcl hi hp hs hw
    repeat (first | (refine sxv hs hw ?_; clear hs; intro a hs) | refine sxc hs ?_ | (refine sxa hs hw ?_; clear hs hw; intro a b W hw hs) | (refine sxs hs hw ?_; clear hs hw; intro W hs hw))
    exact ⟨hs, hw⟩
end Go.Proofs.YtmalklakaalaoaaGreatDoor.Sw

set_option linter.unusedVariables false
set_option maxRecDepth 10000
namespace Go.Proofs.YtmalklakaalaoaaGreatDoor.Sw
open Go.RowKit Go.Sx
-- pieces
set_option maxHeartbeats 4000000 in
theorem law5_CutBatch (c q : Int) (l : List OpD) (sv : Value) (w : World) (hz : ∀ o ∈ l, o.key.size ≤ 9223372036854775807 ∧ o.vs.size ≤ 9223372036854775807 ∧ o.os.size ≤ 9223372036854775807) (r : Rd w 9 sv l.length (l.flatMap opCells)) :
    Calls Tryz.prog 51 ⟨[.agg ⟨[.int .i64 c, .int .i64 q, sv]⟩]⟩ w fun e w' => ∃ ad cap, e = .returned (.agg ⟨[.int .i64 c, .int .i64 q, .slice ad (cutD l).length cap]⟩) ∧ Has 0 w w' (Sx.Own 95 9 (.slice ad (cutD l).length cap) (cutD l).length ((cutD l).flatMap opCells) :: Old w 0 :: []) := by
  have hw := Has.start (G := 0) (w := w) (Nat.zero_le _)
  obtain ⟨sad, scap, rfl⟩ : ∃ ad cap, sv = .slice ad l.length cap := by obtain ⟨_, ad, cap, e, _⟩ := r; exact ⟨ad, cap, e⟩
  refine enter Tryz.func51 Tryz.ntmps51 rfl rfl fun a hs => ?_
  repeat (first | (refine sxv hs hw ?_; clear hs; intro a hs) | refine sxc hs ?_ | (refine sxa hs hw ?_; clear hs hw; intro a b W hw hs) | (refine sxs hs hw ?_; clear hs hw; intro W hs hw))
  refine st_call hs (hc := law5_Cut l _ _ hz (hw.rd (by repeat (first | exact In.hd | apply In.tl)) hw.ext.size r)) (k := ?_); rintro e0 W1 ⟨ad, cap, rfl, hw1⟩; refine ⟨_, rfl, ?_⟩; clear hs; intro a hs; replace hw := hw.call hw1; clear hw1
  repeat (first | (refine sxv hs hw ?_; clear hs; intro a hs) | refine sxc hs ?_ | (refine sxa hs hw ?_; clear hs hw; intro a b W hw hs) | (refine sxs hs hw ?_; clear hs hw; intro W hs hw))
  refine rc1 hs rfl rfl hw (In.tl In.hd) rfl ?_
  exact ⟨ad, cap, rfl, hw.drop2.drop2⟩
end Go.Proofs.YtmalklakaalaoaaGreatDoor.Sw

set_option linter.unusedVariables false
set_option maxRecDepth 10000
namespace Go.Sx
theorem ch_atH {α : Type} {Rr : α → List Value → Prop} {H : Fh} {sad : Option Addr} {scap n k : Nat} {l : List α} {xs : List Value} {i : Nat} {o : α} (hk : ∀ a c, Rr a c → c.length = k) (r : RdH H k (.slice sad n scap) n xs) (hc : Ch Rr l xs) (hn : l.length = n) (h : l[i]? = some o) :
    ∃ g off c, sad = some ⟨g, off, none⟩ ∧ Rr o c ∧ ∀ {G : Nat} {w0 W : World} {L : List Res}, In (Fz H) L → Has G w0 W L → ∀ j u, c[j]? = some u → W.cell? ⟨g, off + i * k + j, none⟩ = some u := by
  have hi : i < l.length := (List.getElem?_eq_some_iff.1 h).1
  obtain ⟨c, h1, h2, h3⟩ := hc.get hk h
  obtain ⟨_, ad, cap, e, h4, h5, h6⟩ := r
  injection e with e1 e2 e3
  subst e1
  rcases h6 with h6 | ⟨b, off, cs, T, z, rfl, hb, hcell⟩
  · omega
  · refine ⟨b, off, c, rfl, h1, fun {G w0 W L} hin hw j u hu => ?_⟩
    obtain ⟨F, hF, hfz⟩ := hw.of_in hin
    have hbl := (hfz b _ hb).2
    unfold World.cell?
    rw [hbl]
    rw [← h3, cut_eq, List.getElem?_take] at hu
    split at hu
    · rw [List.getElem?_drop] at hu
      have := hcell _ _ hu
      rw [← Nat.add_assoc] at this
      simpa using this
    · cases hu
end Go.Sx
namespace Go.Proofs.YtmalklakaalaoaaGreatDoor.Sw
open Go.RowKit Go.Sx
-- pieces
structure BatWf (b : BatchD) : Prop where
  c : (Lit.int .i64 b.c).wf = true
  q : (Lit.int .i64 b.q).wf = true
  ops : ∀ o ∈ b.l, OpWf o
def cutB (b : BatchD) : BatchD := ⟨b.c, b.q, cutD b.l⟩
def batsB (l : List BatchD) (n : Nat) : List BatchD := (l.take n).map cutB
theorem cutB_ok {b : BatchD} (h : BatWf b) : BatOk (cutB b) := ⟨wf_i64 h.c, wf_i64 h.q, cutD_ok h.ops⟩
theorem batsB_ok {l : List BatchD} (h : ∀ b ∈ l, BatWf b) (n : Nat) : ∀ b ∈ batsB l n, BatOk b := by
  intro b hb
  obtain ⟨x, hx, rfl⟩ := List.mem_map.1 hb
  exact cutB_ok (h x (List.mem_of_mem_take hx))
def BatsH (H : Fh) (v : Value) (l : List BatchD) : Prop := ∃ xs, RdH H 3 v l.length xs ∧ Ch (BatIn H) l xs
set_option maxHeartbeats 8000000 in
theorem law7_Batches (w0 W : World) (H : Fh) (l : List BatchD) (v : Value) (n : Nat) (R : List Res) (hn : n ≤ 1000) (hb : ∀ b ∈ l, BatWf b) (hr : BatsH H v l) (hw : Has 0 w0 W (Fz H :: R)) :
    Calls Tryz.prog 21 ⟨[v, .int .i64 (n : Int)]⟩ W fun e W' => ∃ v' H', e = .returned v' ∧ H.le H' ∧ BatsH H' v' (batsB l n) ∧ Has 0 w0 W' (Fz H' :: R) := by
  obtain ⟨xs, hr, hch⟩ := hr
  obtain ⟨sad, scap, rfl⟩ := hr.slice
  have hlen := hr.len
  refine enter Tryz.func21 Tryz.ntmps21 rfl rfl fun a hs => ?_
  repeat (first | (refine sxv hs hw ?_; clear hs; intro a hs) | refine sxc hs ?_ | (refine sxa hs hw ?_; clear hs hw; intro a b W hw hs) | (refine sxs hs hw ?_; clear hs hw; intro W hs hw))
  have hw := hw.nilOwn 36 3
  refine st_loop (σ := Nat × Option Addr × Nat × List Value × Fh) (fun t => [(0, .slice sad l.length scap), (1, .int .i64 (n : Int)), (6, .int .i64 (t.1 : Int)), (5, .slice t.2.1 (batsB l t.1).length t.2.2.1)]) (fun t => Sx.Own 36 3 (.slice t.2.1 (batsB l t.1).length t.2.2.1) (batsB l t.1).length t.2.2.2.1 :: Fz t.2.2.2.2 :: R) (fun t => t.1 ≤ l.length ∧ t.1 ≤ n ∧ H.le t.2.2.2.2 ∧ Ch (BatIn t.2.2.2.2) (batsB l t.1) t.2.2.2.1) (fun t => l.length - t.1) (0, none, 0, [], H) ⟨Nat.zero_le _, Nat.zero_le _, Fh.le.refl _, rfl⟩ hs ⟨rfl, rfl, rfl, rfl, trivial⟩ hw ?_
  clear hs hw
  rintro ⟨j, oad, ocap, ys, H'⟩ a W ⟨hj, hjn, hH', hch2⟩ hs hw
  simp only at hj hjn hH' hch2 hs hw
  have fin : batsB l j = batsB l n → ∀ (a : Act) (W : World), Slots a 27 [(5, .slice oad (batsB l j).length ocap)] → Has 0 w0 W (Sx.Own 36 3 (.slice oad (batsB l j).length ocap) (batsB l j).length ys :: Fz H' :: R) → ∃ H2, H.le H2 ∧ BatsH H2 (.slice oad (batsB l j).length ocap) (batsB l n) ∧ Has 0 w0 W (Fz H2 :: R) := by
    intro he a W hs hw
    obtain ⟨H2, h1, h2, h3⟩ := hw.freeze_own
    refine ⟨H2, hH'.trans h1, ⟨ys, he ▸ h3, he ▸ (hch2.mono (BatIn.le h1))⟩, h2⟩
  repeat (first | (refine sxv hs hw ?_; clear hs; intro a hs) | refine sxc hs ?_ | (refine sxa hs hw ?_; clear hs hw; intro a b W hw hs) | (refine sxs hs hw ?_; clear hs hw; intro W hs hw))
  cases hc1 : decide ((j : Int) < (l.length : Int)) with
  | false =>
    rw [hc1] at hs
    have hj' : j = l.length := by have := of_decide_eq_false hc1; omega
    repeat (first | (refine sxv hs hw ?_; clear hs; intro a hs) | refine sxc hs ?_ | (refine sxa hs hw ?_; clear hs hw; intro a b W hw hs) | (refine sxs hs hw ?_; clear hs hw; intro W hs hw))
    obtain ⟨H2, h1, h2, h3⟩ := fin (by unfold batsB; rw [List.take_of_length_le (by omega), List.take_of_length_le (by omega)]) a W (hs.of ⟨rfl, trivial⟩) hw
    exact rt1 hs rfl rfl ⟨_, H2, rfl, h1, h2, h3⟩
  | true =>
  rw [hc1] at hs
  have hj' : j < l.length := by have := of_decide_eq_true hc1; omega
  repeat (first | (refine sxv hs hw ?_; clear hs; intro a hs) | refine sxc hs ?_ | (refine sxa hs hw ?_; clear hs hw; intro a b W hw hs) | (refine sxs hs hw ?_; clear hs hw; intro W hs hw))
  cases hc2 : decide ((j : Int) < (n : Int)) with
  | false =>
    rw [hc2] at hs
    have hjn' : j = n := by have := of_decide_eq_false hc2; omega
    repeat (first | (refine sxv hs hw ?_; clear hs; intro a hs) | refine sxc hs ?_ | (refine sxa hs hw ?_; clear hs hw; intro a b W hw hs) | (refine sxs hs hw ?_; clear hs hw; intro W hs hw))
    obtain ⟨H2, h1, h2, h3⟩ := fin (by rw [hjn']) a W (hs.of ⟨rfl, trivial⟩) hw
    exact rt1 hs rfl rfl ⟨_, H2, rfl, h1, h2, h3⟩
  | true =>
  rw [hc2] at hs
  have hjn' : j < n := by have := of_decide_eq_true hc2; omega
  clear fin
  obtain ⟨bt, hbi⟩ : ∃ o, l[j]? = some o := ⟨l[j], List.getElem?_eq_getElem hj'⟩
  have hok := hb bt (List.mem_of_getElem? hbi)
  have hnext : batsB l (j + 1) = batsB l j ++ [cutB bt] := by
    unfold batsB
    rw [take_of hbi, List.map_append]; rfl
  have htk : (batsB l j).length ≤ 1000 := by unfold batsB; rw [List.length_map, List.length_take]; omega
  repeat (first | (refine sxv hs hw ?_; clear hs; intro a hs) | refine sxc hs ?_ | (refine sxa hs hw ?_; clear hs hw; intro a b W hw hs) | (refine sxs hs hw ?_; clear hs hw; intro W hs hw))
  refine st_index_ch hs (r := hw.rdH (by repeat (first | exact In.hd | apply In.tl)) (hr.le hH')) (hk := BatIn.len) (ch := hch.mono (BatIn.le hH')) (ho := hbi) (hlen := rfl) (c := ?_); clear hs; intro a g off c hc hcl hpc hlt hs
  obtain ⟨bv, rfl, hbv⟩ := hc
  refine st_load_ats hs (cs := batCells bt bv) (hc := hpc) (hl := by rfl) (c := ?_); clear hs; intro a hs
  clear hpc
  refine st_call hs (hc := law5_CutBatch bt.c bt.q bt.l bv _ (wf_sizes hok.ops) (hw.rdH (by repeat (first | exact In.hd | apply In.tl)) hbv)) (k := ?_); rintro e0 W1 ⟨nad, ncap, rfl, hw1⟩; refine ⟨_, rfl, ?_⟩; clear hs; intro a hs; replace hw := hw.call hw1; clear hw1
  have hw : Has 0 w0 _ (Sx.Own 95 9 (.slice nad (cutD bt.l).length ncap) (cutD bt.l).length ((cutD bt.l).flatMap opCells) :: Fz H' :: Sx.Own 36 3 (.slice oad (batsB l j).length ocap) (batsB l j).length ys :: R) := hw.perm (by repeat (first | exact List.Perm.refl _ | refine perm_pick (by repeat (first | exact Pick.hd | apply Pick.tl)) ?_))
  obtain ⟨H2, hle, hw, hnv⟩ := hw.freeze_own
  repeat (first | (refine sxv hs hw ?_; clear hs; intro a hs) | refine sxc hs ?_ | (refine sxa hs hw ?_; clear hs hw; intro a b W hw hs) | (refine sxs hs hw ?_; clear hs hw; intro W hs hw))
  obtain ⟨bx, qx⟩ := nm1 hw; subst qx
  have hw : Has 0 w0 _ (Sx.Own 36 3 (.slice oad (batsB l j).length ocap) (batsB l j).length ys :: Cells bx (batCells (cutB bt) (.slice nad (cutD bt.l).length ncap)) 36 :: Fz H2 :: R) := hw.perm (by repeat (first | exact List.Perm.refl _ | refine perm_pick (by repeat (first | exact Pick.hd | apply Pick.tl)) ?_))
  refine st_append1 hs (hw := hw) (hi := In.hd) (ch := hch2.mono (BatIn.le hle)) (ha := (⟨_, rfl, hnv⟩ : BatIn H2 (cutB bt) (batCells (cutB bt) (.slice nad (cutD bt.l).length ncap)))) (hl := rfl) (h1 := rfl) (hb := by omega) (h63 := by omega) (k := ?_)
  clear hs hw; intro a ad2 cap2 W hs hw hc2
  rw [← hnext] at hs hw hc2
  repeat (first | (refine sxv hs hw ?_; clear hs; intro a hs) | refine sxc hs ?_ | (refine sxa hs hw ?_; clear hs hw; intro a b W hw hs) | (refine sxs hs hw ?_; clear hs hw; intro W hs hw))
  exact st_again (j + 1, ad2, cap2, ys ++ batCells (cutB bt) (.slice nad (cutD bt.l).length ncap), H2) hs hw.drop2 ⟨hj', hjn', hH'.trans hle, hc2⟩ (by show l.length - (j + 1) < l.length - j; omega) ⟨rfl, rfl, int_eq (by show IntKind.i64.wrap ((j : Int) + 1) = ((j + 1 : Nat) : Int); rw [IntWalk.i64_in _ (by omega)]; omega), rfl, trivial⟩
abbrev zrf : List Value := [.int .i64 0, .slice none 0 0, .int .i64 0, .int .i64 0, .int .i64 0, .int .i64 0, .int .i64 0, .int .i64 0, .int .i64 0, .int .i64 0, .int .i64 0, .slice none 0 0, .int .i64 0, .int .i64 0, .int .i64 0, .int .i64 0, .slice none 0 0, .int .i64 0, .int .i64 0, .int .i64 0, .int .i64 0, .slice none 0 0, .int .i64 0, .int .i64 0, .int .i64 0, .int .i64 0, .slice none 0 0, .int .i64 0, .int .i64 0, .int .i64 0, .int .i64 0, .slice none 0 0, .int .i64 0, .int .i64 0, .int .i64 0, .int .i64 0, .slice none 0 0, .int .i64 0]
theorem rf_empty (H : Fh) : RfIn H emptyF zrf := by
  have z : ToRow H (0, zeroRow) zrc := ⟨_, rfl, ops_nil H⟩
  have y : NumIn (0, zeroRow) [.int .i64 0] := rfl
  refine ⟨.slice none 0 0, List.replicate 6 (.int .i64 0), zrc ++ (zrc ++ (zrc ++ (zrc ++ (zrc ++ (zrc ++ []))))), by with_unfolding_all exact rfl, RdH.nil H 4 0 (by omega), rfl, ?_, ?_⟩
  · exact ⟨_, _, rfl, y, _, _, rfl, y, _, _, rfl, y, _, _, rfl, y, _, _, rfl, y, _, _, rfl, y, rfl⟩
  · exact ⟨_, _, rfl, z, _, _, rfl, z, _, _, rfl, z, _, _, rfl, z, _, _, rfl, z, _, _, rfl, z, rfl⟩
def allF (f : FoldD) (rows : List RowD) : List BatchD → FoldD × List RowD
  | [] => (f, rows)
  | b :: l => match (next f b).2.2 with | true => allF (next f b).1 (rows ++ [(next f b).2.1]) l | false => allF f rows l
theorem next_doc {f : FoldD} {b : BatchD} (h : DocOk f.d) (hb : BatOk b) : DocOk (next f b).1.d := by
  unfold next
  cases nextB f b with
  | true => exact applyL_ok h hb.ops
  | false => exact h
theorem next_no {f : FoldD} {b : BatchD} (h : (next f b).2.2 = false) : (next f b).1 = f := by
  unfold next at *
  cases hb : nextB f b with
  | true => rw [hb] at h; cases h
  | false => rfl
set_option maxHeartbeats 16000000 in
theorem ref7_All (w0 W : World) (H : Fh) (l : List BatchD) (v : Value) (R : List Res) (hl : l.length ≤ 1000) (hb : ∀ b ∈ l, BatOk b) (hr : BatsH H v l) (hw : Has 0 w0 W (Fz H :: R)) :
    Calls Tryz.prog 37 ⟨[v]⟩ W fun e W' => ∃ cs ad cap ys H', e = .returned (.tuple ⟨[.agg ⟨cs⟩, .slice ad (allF emptyF [] l).2.length cap]⟩) ∧ H.le H' ∧ RfIn H' (allF emptyF [] l).1 cs ∧ Ch (RowIn H') (allF emptyF [] l).2 ys ∧ Has 0 w0 W' (Sx.Own 39 5 (.slice ad (allF emptyF [] l).2.length cap) (allF emptyF [] l).2.length ys :: Fz H' :: R) := by
  obtain ⟨xs, hr, hch⟩ := hr
  obtain ⟨sad, scap, rfl⟩ := hr.slice
  have hlen := hr.len
  refine enter Tryz.func37 Tryz.ntmps37 rfl rfl fun a hs => ?_
  repeat (first | (refine sxv hs hw ?_; clear hs; intro a hs) | refine sxc hs ?_ | (refine sxa hs hw ?_; clear hs hw; intro a b W hw hs) | (refine sxs hs hw ?_; clear hs hw; intro W hs hw))
  have hw := hw.nilOwn 39 5
  obtain ⟨b4, q4⟩ := nm2 hw; subst q4
  obtain ⟨b2, q2⟩ := nm3 hw; subst q2
  replace hw : Has 0 w0 W (Sx.Own 39 5 (.slice none 0 0) 0 [] :: Cells b4 zrf 42 :: Cells b2 zrf 42 :: Fz H :: R) := by with_unfolding_all exact hw
  refine st_loop (σ := Nat × FoldD × List Value × List RowD × Option Addr × Nat × List Value × Fh) (fun t => [(0, .slice sad l.length scap), (2, .pointer (some ⟨b2, 0, none⟩)), (4, .pointer (some ⟨b4, 0, none⟩)), (6, .int .i64 (t.1 : Int)), (5, .slice t.2.2.2.2.1 t.2.2.2.1.length t.2.2.2.2.2.1)]) (fun t => Sx.Own 39 5 (.slice t.2.2.2.2.1 t.2.2.2.1.length t.2.2.2.2.2.1) t.2.2.2.1.length t.2.2.2.2.2.2.1 :: Cells b4 t.2.2.1 42 :: Cells b2 zrf 42 :: Fz t.2.2.2.2.2.2.2 :: R) (fun t => t.1 ≤ l.length ∧ t.2.2.2.1.length ≤ t.1 ∧ DocOk t.2.1.d ∧ H.le t.2.2.2.2.2.2.2 ∧ RfIn t.2.2.2.2.2.2.2 t.2.1 t.2.2.1 ∧ Ch (RowIn t.2.2.2.2.2.2.2) t.2.2.2.1 t.2.2.2.2.2.2.1 ∧ allF t.2.1 t.2.2.2.1 (l.drop t.1) = allF emptyF [] l) (fun t => l.length - t.1) (0, emptyF, zrf, [], none, 0, [], H) ⟨Nat.zero_le _, Nat.zero_le _, DocOk.nil, Fh.le.refl _, rf_empty H, rfl, rfl⟩ hs ⟨rfl, rfl, rfl, rfl, rfl, trivial⟩ hw ?_
  clear hs hw
  rintro ⟨j, f, cs, rows, oad, ocap, ys, H'⟩ a W ⟨hj, hrl, hd, hH', hf, hch2, hgo⟩ hs hw
  simp only at hj hrl hd hH' hf hch2 hgo hs hw
  have hlen0 := hf.len
  have hone0 := hf.one
  repeat (first | (refine sxv hs hw ?_; clear hs; intro a hs) | refine sxc hs ?_ | (refine sxa hs hw ?_; clear hs hw; intro a b W hw hs) | (refine sxs hs hw ?_; clear hs hw; intro W hs hw))
  refine cd_split hs (kt := fun hcc => ?_) (kf := fun hcc => ?_)
  · have hj' : j < l.length := by simpa using hcc
    obtain ⟨bt, hbi⟩ : ∃ o, l[j]? = some o := ⟨l[j], List.getElem?_eq_getElem hj'⟩
    have hok := hb bt (List.mem_of_getElem? hbi)
    rw [drop_of hbi] at hgo
    simp only [allF] at hgo
    obtain ⟨g1, f1, c1, rfl, ⟨bv, rfl, hbv⟩, hrow⟩ := ch_atH BatIn.len (hr.le hH') (hch.mono (BatIn.le hH')) rfl hbi
    obtain ⟨N, hN⟩ : ∃ N, next f bt = N := ⟨_, rfl⟩
    have hdn := next_doc hd hok
    have hno := fun h => next_no (f := f) (b := bt) h
    rw [hN] at hgo hdn hno
    repeat (first | (refine sxv hs hw ?_; clear hs; intro a hs) | refine sxc hs ?_ | (refine sxa hs hw ?_; clear hs hw; intro a b W hw hs) | (refine sxs hs hw ?_; clear hs hw; intro W hs hw))
    have hw : Has 0 w0 W (Fz H' :: Cells b4 cs 42 :: Free :: Free :: Free :: Free :: Free :: Sx.Own 39 5 (.slice oad rows.length ocap) rows.length ys :: Cells b2 zrf 42 :: R) := (hw.free.free.free.free.free).perm (by repeat (first | exact List.Perm.refl _ | refine perm_pick (by repeat (first | exact Pick.hd | apply Pick.tl)) ?_))
    refine rg_drawU (σ := List Value × Value × Fh × Nat) (V := fun u => [.agg ⟨cs⟩, .slice (some ⟨g1, f1, none⟩) l.length scap, .int .i64 (j : Int), .pointer (some ⟨g1, f1 + j * 3, none⟩), .agg ⟨batCells bt bv⟩, .tuple ⟨[.agg ⟨(u 5).1⟩, .agg ⟨rowCells N.2.1 (u 5).2.1⟩, .bool N.2.2]⟩, .tuple ⟨[.agg ⟨(u 6).1⟩, .agg ⟨rowCells N.2.1 (u 6).2.1⟩, .bool N.2.2]⟩, .agg ⟨(u 7).1⟩, .agg ⟨rowCells N.2.1 (u 8).2.1⟩, .bool N.2.2, .pointer (some ⟨(u 10).2.2.2, 0, none⟩), .pointer (some ⟨(u 11).2.2.2, 0, none⟩), .bool true, .bool true, .bool N.2.2])
      (Rs := fun u D => (if D 5 then FzF (u 5).2.2.1 (H'.le (u 5).2.2.1 ∧ RfIn (u 5).2.2.1 N.1 (u 5).1 ∧ OpsH (u 5).2.2.1 (u 5).2.1 N.2.1.b.l) else Fz H') :: Cells b4 cs 42 :: (if D 10 then Cells (u 10).2.2.2 (if D 12 then (u 5).1 else zrf) 42 else Free) :: (if D 11 then Cells (u 11).2.2.2 (if D 13 then rowCells N.2.1 (u 5).2.1 else zrc) 39 else Free) :: (if D 6 then Fact (u 6 = u 5) else Free) :: (if D 7 then Fact (u 7 = u 6) else Free) :: (if D 8 then Fact (u 8 = u 6) else Free) :: Sx.Own 39 5 (.slice oad rows.length ocap) rows.length ys :: Cells b2 zrf 42 :: R) (fun _ => ([], .nilIface, H, 0)) hs hw (hVu := ?vu_6) (ho := ⟨?c0_6, ?_, ?_, ?c3_6, ?c4_6, ?c5_6, ?c6_6, ?c7_6, ?c8_6, ?_, ?c10_6, ?c11_6, ?c12_6, ?c13_6, ?_, trivial⟩) (k := ?k_6)
    case vu_6 =>
      intro u u' j h
      rcases j with _ | _ | _ | _ | _ | _ | _ | _ | _ | _ | _ | _ | _ | _ | _ | j
      all_goals first | rfl | simp [h] | skip
    case c0_6 =>
      intro u LD D a W hcl hi hp hs hw
      refine st_load_agg hs (hw := hw) (hi := In.tl In.hd) (hl := by rw [hlen0]; rfl) (k := ?_); clear hs; intro a hs
      have hs2 : Slots a 35 ((18, .agg ⟨cut cs 0 38⟩) :: _) := hs
      rw [cut_all _ _ hlen0] at hs2
      repeat (first | (refine sxv hs hw ?_; clear hs; intro a hs) | refine sxc hs ?_ | (refine sxa hs hw ?_; clear hs hw; intro a b W hw hs) | (refine sxs hs hw ?_; clear hs hw; intro W hs hw))
      exact Or.inl ⟨hs2, hw⟩
    case c3_6 =>
      intro u LD D a W hcl hi hp hs hw
      refine st_index_at hs (z := [.int .i64 0, .int .i64 0, .slice none 0 0]) (h0 := by omega) (h1 := by omega) (c := ?_); clear hs; intro a hs
      repeat (first | (refine sxv hs hw ?_; clear hs; intro a hs) | refine sxc hs ?_ | (refine sxa hs hw ?_; clear hs hw; intro a b W hw hs) | (refine sxs hs hw ?_; clear hs hw; intro W hs hw))
      exact Or.inl ⟨hs, hw⟩
    case c4_6 =>
      intro u LD D a W hcl hi hp hs hw
      have h5 := Go.Sx.not_done hcl hi 5 (by kernel_rfl)
      have hw0 := hw
      simp only [h5, Bool.false_eq_true, if_false] at hw
      refine st_load_ats hs (z := [.int .i64 0, .int .i64 0, .slice none 0 0]) (cs := batCells bt bv) (hc := fun j u h => hrow In.hd hw j u h) (hl := rfl) (c := ?_); clear hs; intro a hs
      repeat (first | (refine sxv hs hw ?_; clear hs; intro a hs) | refine sxc hs ?_ | (refine sxa hs hw ?_; clear hs hw; intro a b W hw hs) | (refine sxs hs hw ?_; clear hs hw; intro W hs hw))
      exact Or.inl ⟨hs, hw0⟩
    case c5_6 =>
      intro u LD D a W hcl hi hp hs hw
      have h12 := Go.Sx.not_done hcl (Go.Sx.not_done hcl (Go.Sx.not_done hcl hi 6 (by kernel_rfl)) 7 (by kernel_rfl)) 12 (by kernel_rfl)
      have h13 := Go.Sx.not_done hcl (Go.Sx.not_done hcl (Go.Sx.not_done hcl hi 6 (by kernel_rfl)) 8 (by kernel_rfl)) 13 (by kernel_rfl)
      have h6 := Go.Sx.not_done hcl hi 6 (by kernel_rfl)
      simp only [hi, h6, h12, h13, Bool.false_eq_true, if_false] at hw
      refine st_call hs (hc := ref7_Next w0 _ H' f bt cs bv _ hf hd hok hbv hw) (k := ?_); rw [hN]; rintro e0 W1 ⟨cs', sv', H2, rfl, hle, hf2, hsv, hw1⟩; refine ⟨_, rfl, ?_⟩; clear hs hw; intro a hs; have hw := hw1; clear hw1
      repeat (first | (refine sxv hs hw ?_; clear hs; intro a hs) | refine sxc hs ?_ | (refine sxa hs hw ?_; clear hs hw; intro a b W hw hs) | (refine sxs hs hw ?_; clear hs hw; intro W hs hw))
      refine Or.inr ⟨(cs', sv', H2, 0), hs, ?_⟩
      have hw := hw.fzf (q := H'.le H2 ∧ RfIn H2 N.1 cs' ∧ OpsH H2 sv' N.2.1.b.l) ⟨hle, hf2, hsv⟩
      show Has 0 w0 _ (_ :: _ :: (if D 10 then Cells (u 10).2.2.2 (if (Nat.beq 12 5 || D 12) = true then _ else _) _ else Free) :: (if D 11 then Cells (u 11).2.2.2 (if (Nat.beq 13 5 || D 13) = true then _ else _) _ else Free) :: (if (Nat.beq 6 5 || D 6) = true then _ else _) :: _)
      rw [h6, h12, h13]
      exact hw
    case c6_6 =>
      intro u LD D a W hcl hi hp hs hw
      have h7 := Go.Sx.not_done hcl hi 7 (by kernel_rfl)
      have h8 := Go.Sx.not_done hcl hi 8 (by kernel_rfl)
      simp only [hi, h7, h8, Bool.false_eq_true, if_false] at hw
      repeat (first | (refine sxv hs hw ?_; clear hs; intro a hs) | refine sxc hs ?_ | (refine sxa hs hw ?_; clear hs hw; intro a b W hw hs) | (refine sxs hs hw ?_; clear hs hw; intro W hs hw))
      refine Or.inr ⟨u 5, hs, ?_⟩
      show Has 0 w0 _ (_ :: _ :: _ :: _ :: Fact (u 5 = u 5) :: (if (Nat.beq 7 6 || D 7) = true then _ else _) :: (if (Nat.beq 8 6 || D 8) = true then _ else _) :: _)
      rw [h7, h8]
      exact (hw.fact rfl).fill (Upd.tl (Upd.tl (Upd.tl (Upd.tl Upd.hd))))
    case c7_6 =>
      intro u LD D a W hcl hi hp hs hw
      have h12 := Go.Sx.not_done hcl hi 12 (by kernel_rfl)
      simp only [hi, Bool.false_eq_true, if_false] at hw
      repeat (first | (refine sxv hs hw ?_; clear hs; intro a hs) | refine sxc hs ?_ | (refine sxa hs hw ?_; clear hs hw; intro a b W hw hs) | (refine sxs hs hw ?_; clear hs hw; intro W hs hw))
      refine Or.inr ⟨u 6, hs, ?_⟩
      show Has 0 w0 _ (_ :: _ :: _ :: _ :: _ :: Fact (u 6 = u 6) :: _)
      exact (hw.fact rfl).fill (Upd.tl (Upd.tl (Upd.tl (Upd.tl (Upd.tl Upd.hd)))))
    case c8_6 =>
      intro u LD D a W hcl hi hp hs hw
      simp only [hi, Bool.false_eq_true, if_false] at hw
      repeat (first | (refine sxv hs hw ?_; clear hs; intro a hs) | refine sxc hs ?_ | (refine sxa hs hw ?_; clear hs hw; intro a b W hw hs) | (refine sxs hs hw ?_; clear hs hw; intro W hs hw))
      refine Or.inr ⟨u 6, hs, ?_⟩
      show Has 0 w0 _ (_ :: _ :: _ :: _ :: _ :: _ :: Fact (u 6 = u 6) :: _)
      exact (hw.fact rfl).fill (Upd.tl (Upd.tl (Upd.tl (Upd.tl (Upd.tl (Upd.tl Upd.hd))))))
    case c10_6 =>
      intro u LD D a W hcl hi hp hs hw
      have h12 := Go.Sx.not_done hcl hi 12 (by kernel_rfl)
      simp only [hi, Bool.false_eq_true, if_false] at hw
      repeat (first | (refine sxv hs hw ?_; clear hs; intro a hs) | refine sxc hs ?_ | (refine sxa hs hw ?_; clear hs hw; intro a b W hw hs) | (refine sxs hs hw ?_; clear hs hw; intro W hs hw))
      refine Or.inr ⟨([], .nilIface, H, _), hs, ?_⟩
      show Has 0 w0 _ (_ :: _ :: Cells _ (if (Nat.beq 12 10 || D 12) = true then _ else _) _ :: _ :: _)
      rw [h12]
      exact hw.fill (Upd.tl (Upd.tl Upd.hd))
    case c11_6 =>
      intro u LD D a W hcl hi hp hs hw
      have h13 := Go.Sx.not_done hcl hi 13 (by kernel_rfl)
      simp only [hi, Bool.false_eq_true, if_false] at hw
      repeat (first | (refine sxv hs hw ?_; clear hs; intro a hs) | refine sxc hs ?_ | (refine sxa hs hw ?_; clear hs hw; intro a b W hw hs) | (refine sxs hs hw ?_; clear hs hw; intro W hs hw))
      refine Or.inr ⟨([], .nilIface, H, _), hs, ?_⟩
      show Has 0 w0 _ (_ :: _ :: _ :: Cells _ (if (Nat.beq 13 11 || D 13) = true then _ else _) _ :: _)
      rw [h13]
      exact hw.fill (Upd.tl (Upd.tl (Upd.tl Upd.hd)))
    case c12_6 =>
      intro u LD D a W hcl hi hp hs hw
      have h7 := Go.Sx.done hp 7 (by kernel_rfl)
      have h10 := Go.Sx.done hp 10 (by kernel_rfl)
      have h6 := Go.Sx.done (hcl 7 _ rfl h7) 6 (by kernel_rfl)
      have h5 := Go.Sx.done (hcl 6 _ rfl h6) 5 (by kernel_rfl)
      have e1 : (if D 7 = true then Fact (u 7 = u 6) else Free) = Fact (u 7 = u 6) := by rw [h7]; rfl
      have e2 : (if D 6 = true then Fact (u 6 = u 5) else Free) = Fact (u 6 = u 5) := by rw [h6]; rfl
      have g7 : u 7 = u 5 := by
        have hw2 := hw
        simp only [e1, e2] at hw2
        exact (hw2.told (In.tl (In.tl (In.tl (In.tl (In.tl In.hd)))))).trans (hw2.told (In.tl (In.tl (In.tl (In.tl In.hd)))))
      simp only [hi, h5, h10, Bool.false_eq_true, if_false, if_true] at hw
      obtain ⟨⟨_, hf2, _⟩, _⟩ := hw.unfzf
      rw [← g7] at hf2
      refine st_store hs (vs := (u 7).1) (hw := hw) (hz := by rw [hf2.len]; rfl) (h1 := hf2.one) (hl := by rw [hf2.len]; rfl) (k := ?_); clear hs hw; intro W hs hw
      rw [ov_all _ _ (by rw [hf2.len]; rfl)] at hw
      rw [show (u 7).1 = (u 5).1 from by rw [g7]] at hw
      repeat (first | (refine sxv hs hw ?_; clear hs; intro a hs) | refine sxc hs ?_ | (refine sxa hs hw ?_; clear hs hw; intro a b W hw hs) | (refine sxs hs hw ?_; clear hs hw; intro W hs hw))
      refine Or.inl ⟨hs, ?_⟩
      show Has 0 w0 _ ((if (Nat.beq 5 12 || D 5) = true then _ else _) :: _ :: (if (Nat.beq 10 12 || D 10) = true then _ else _) :: _ :: _)
      rw [h5, h10]
      exact hw
    case c13_6 =>
      intro u LD D a W hcl hi hp hs hw
      have h8 := Go.Sx.done hp 8 (by kernel_rfl)
      have h11 := Go.Sx.done hp 11 (by kernel_rfl)
      have h6 := Go.Sx.done (hcl 8 _ rfl h8) 6 (by kernel_rfl)
      have h5 := Go.Sx.done (hcl 6 _ rfl h6) 5 (by kernel_rfl)
      have e1 : (if D 8 = true then Fact (u 8 = u 6) else Free) = Fact (u 8 = u 6) := by rw [h8]; rfl
      have e2 : (if D 6 = true then Fact (u 6 = u 5) else Free) = Fact (u 6 = u 5) := by rw [h6]; rfl
      have g8 : u 8 = u 5 := by
        have hw2 := hw
        simp only [e1, e2] at hw2
        exact (hw2.told (In.tl (In.tl (In.tl (In.tl (In.tl (In.tl In.hd))))))).trans (hw2.told (In.tl (In.tl (In.tl (In.tl In.hd)))))
      simp only [hi, h5, h11, Bool.false_eq_true, if_false, if_true] at hw
      obtain ⟨⟨_, _, hsv⟩, _⟩ := hw.unfzf
      obtain ⟨tad, tcap, e13⟩ := hsv.slice
      refine st_store hs (hw := hw) (vs := rowCells N.2.1 (u 8).2.1) (h1 := by rw [g8, e13]; rfl) (k := ?_); clear hs hw; intro W hs hw
      rw [show (u 8).2.1 = (u 5).2.1 from by rw [g8]] at hw
      repeat (first | (refine sxv hs hw ?_; clear hs; intro a hs) | refine sxc hs ?_ | (refine sxa hs hw ?_; clear hs hw; intro a b W hw hs) | (refine sxs hs hw ?_; clear hs hw; intro W hs hw))
      refine Or.inl ⟨hs, ?_⟩
      show Has 0 w0 _ ((if (Nat.beq 5 13 || D 5) = true then _ else _) :: _ :: _ :: (if (Nat.beq 11 13 || D 11) = true then _ else _) :: _)
      rw [h5, h11]
      exact hw
    case k_6 =>
      clear hs hw
      intro u a W hs hw
      replace hw : Has 0 w0 W (FzF (u 5).2.2.1 (H'.le (u 5).2.2.1 ∧ RfIn (u 5).2.2.1 N.1 (u 5).1 ∧ OpsH (u 5).2.2.1 (u 5).2.1 N.2.1.b.l) :: Cells b4 cs 42 :: Cells (u 10).2.2.2 (u 5).1 42 :: Cells (u 11).2.2.2 (rowCells N.2.1 (u 5).2.1) 39 :: Fact (u 6 = u 5) :: Fact (u 7 = u 6) :: Fact (u 8 = u 6) :: Sx.Own 39 5 (.slice oad rows.length ocap) rows.length ys :: Cells b2 zrf 42 :: R) := hw
      replace hw := hw.sub (L' := FzF (u 5).2.2.1 (H'.le (u 5).2.2.1 ∧ RfIn (u 5).2.2.1 N.1 (u 5).1 ∧ OpsH (u 5).2.2.1 (u 5).2.1 N.2.1.b.l) :: Cells b4 cs 42 :: Cells (u 10).2.2.2 (u 5).1 42 :: Cells (u 11).2.2.2 (rowCells N.2.1 (u 5).2.1) 39 :: Sx.Own 39 5 (.slice oad rows.length ocap) rows.length ys :: Cells b2 zrf 42 :: R) (List.Sublist.cons_cons _ (List.Sublist.cons_cons _ (List.Sublist.cons_cons _ (List.Sublist.cons_cons _ (List.Sublist.cons _ (List.Sublist.cons _ (List.Sublist.cons _ (List.Sublist.refl _))))))))
      replace hs : Slots a 35 [(0, .slice (some ⟨g1, f1, none⟩) l.length scap), (2, .pointer (some ⟨b2, 0, none⟩)), (4, .pointer (some ⟨b4, 0, none⟩)), (6, .int .i64 (j : Int)), (5, .slice oad rows.length ocap), (7, .pointer (some ⟨(u 10).2.2.2, 0, none⟩)), (8, .pointer (some ⟨(u 11).2.2.2, 0, none⟩)), (9, .bool N.2.2)] := hs.of ⟨rfl, rfl, rfl, rfl, rfl, rfl, rfl, rfl, trivial⟩
      generalize (u 10).2.2.2 = b7 at *
      generalize (u 11).2.2.2 = b8 at *
      generalize (u 5).2.2.1 = H2 at *
      generalize (u 5).2.1 = sv2 at *
      generalize (u 5).1 = cs2 at *
      clear u
      obtain ⟨⟨hle, hf2, hsv⟩, hw⟩ := hw.unfzf
      have hlen2 := hf2.len
      have hone2 := hf2.one
      obtain ⟨uad, ucap, rfl⟩ := hsv.slice
      have hw : Has 0 w0 W (Sx.Own 39 5 (.slice oad rows.length ocap) rows.length ys :: Cells b4 cs 42 :: Cells b2 zrf 42 :: Fz H2 :: Cells b7 cs2 42 :: Cells b8 (rowCells N.2.1 (.slice uad N.2.1.b.l.length ucap)) 39 :: R) := hw.perm (by repeat (first | exact List.Perm.refl _ | refine perm_pick (by repeat (first | exact Pick.hd | apply Pick.tl)) ?_))
      repeat (first | (refine sxv hs hw ?_; clear hs; intro a hs) | refine sxc hs ?_ | (refine sxa hs hw ?_; clear hs hw; intro a b W hw hs) | (refine sxs hs hw ?_; clear hs hw; intro W hs hw))
      cases hok2 : N.2.2 with
      | false =>
        rw [hok2] at hs hgo
        have hNf := hno hok2
        rw [hNf] at hf2
        repeat (first | (refine sxv hs hw ?_; clear hs; intro a hs) | refine sxc hs ?_ | (refine sxa hs hw ?_; clear hs hw; intro a b W hw hs) | (refine sxs hs hw ?_; clear hs hw; intro W hs hw))
        have hw := hw.sub (L' := Sx.Own 39 5 (.slice oad rows.length ocap) rows.length ys :: Cells b4 cs 42 :: Cells b2 zrf 42 :: Fz H2 :: R) (List.Sublist.cons_cons _ (List.Sublist.cons_cons _ (List.Sublist.cons_cons _ (List.Sublist.cons_cons _ (List.Sublist.cons _ (List.Sublist.cons _ (List.Sublist.refl _)))))))
        exact st_again (j + 1, f, cs, rows, oad, ocap, ys, H2) hs hw ⟨hj', by show rows.length ≤ j + 1; omega, hd, hH'.trans hle, hf.le hle, hch2.mono (RowIn.le hle), hgo⟩ (by show l.length - (j + 1) < l.length - j; omega) ⟨rfl, rfl, rfl, int_eq (by show IntKind.i64.wrap ((j : Int) + 1) = ((j + 1 : Nat) : Int); rw [IntWalk.i64_in _ (by omega)]; omega), rfl, trivial⟩
      | true =>
        rw [hok2] at hs hgo
        repeat (first | (refine sxv hs hw ?_; clear hs; intro a hs) | refine sxc hs ?_ | (refine sxa hs hw ?_; clear hs hw; intro a b W hw hs) | (refine sxs hs hw ?_; clear hs hw; intro W hs hw))
        refine st_load_agg hs (hw := hw) (hi := In.tl (In.tl (In.tl (In.tl In.hd)))) (hl := by rw [hlen2]; rfl) (k := ?_); clear hs; intro a hs
        have hs2 : Slots a 35 ((28, .agg ⟨cut cs2 0 38⟩) :: _) := hs
        rw [cut_all _ _ hlen2] at hs2
        clear hs
        have hs := hs2
        clear hs2
        refine st_store hs (vs := cs2) (hw := hw) (hz := by rw [hlen2]; rfl) (h1 := hone2) (hl := by rw [hlen2, hlen0]; rfl) (k := ?_); clear hs hw; intro W hs hw
        rw [ov_all _ _ (by rw [hlen2, hlen0])] at hw
        repeat (first | (refine sxv hs hw ?_; clear hs; intro a hs) | refine sxc hs ?_ | (refine sxa hs hw ?_; clear hs hw; intro a b W hw hs) | (refine sxs hs hw ?_; clear hs hw; intro W hs hw))
        obtain ⟨bx, qx⟩ := nm1 hw; subst qx
        have hw : Has 0 w0 _ (Sx.Own 39 5 (.slice oad rows.length ocap) rows.length ys :: Cells bx (rowCells N.2.1 (.slice uad N.2.1.b.l.length ucap)) 39 :: Cells b4 cs2 42 :: Cells b2 zrf 42 :: Fz H2 :: Cells b7 cs2 42 :: Cells b8 (rowCells N.2.1 (.slice uad N.2.1.b.l.length ucap)) 39 :: R) := hw.perm (by repeat (first | exact List.Perm.refl _ | refine perm_pick (by repeat (first | exact Pick.hd | apply Pick.tl)) ?_))
        refine st_append1 hs (hw := hw) (hi := In.hd) (ch := hch2.mono (RowIn.le hle)) (ha := (⟨_, rfl, hsv⟩ : RowIn H2 N.2.1 (rowCells N.2.1 (.slice uad N.2.1.b.l.length ucap)))) (hl := rfl) (h1 := rfl) (hb := by omega) (h63 := by omega) (k := ?_)
        clear hs hw; intro a ad2 cap2 W hs hw hc2
        repeat (first | (refine sxv hs hw ?_; clear hs; intro a hs) | refine sxc hs ?_ | (refine sxa hs hw ?_; clear hs hw; intro a b W hw hs) | (refine sxs hs hw ?_; clear hs hw; intro W hs hw))
        have hw := hw.sub (L' := Sx.Own 39 5 (.slice ad2 (rows ++ [N.2.1]).length cap2) (rows ++ [N.2.1]).length (ys ++ rowCells N.2.1 (.slice uad N.2.1.b.l.length ucap)) :: Cells b4 cs2 42 :: Cells b2 zrf 42 :: Fz H2 :: R) (List.Sublist.cons_cons _ (List.Sublist.cons _ (List.Sublist.cons_cons _ (List.Sublist.cons_cons _ (List.Sublist.cons_cons _ (List.Sublist.cons _ (List.Sublist.cons _ (List.Sublist.refl _))))))))
        exact st_again (j + 1, N.1, cs2, rows ++ [N.2.1], ad2, cap2, ys ++ rowCells N.2.1 (.slice uad N.2.1.b.l.length ucap), H2) hs hw ⟨hj', by show (rows ++ [N.2.1]).length ≤ j + 1; rw [List.length_append]; show rows.length + 1 ≤ j + 1; omega, hdn, hH'.trans hle, hf2, hc2, hgo⟩ (by show l.length - (j + 1) < l.length - j; omega) ⟨rfl, rfl, rfl, int_eq (by show IntKind.i64.wrap ((j : Int) + 1) = ((j + 1 : Nat) : Int); rw [IntWalk.i64_in _ (by omega)]; omega), rfl, trivial⟩
    all_goals
      intro u LD D a W hcl hi hp hs hw
      repeat (first | (refine sxv hs hw ?_; clear hs; intro a hs) | refine sxc hs ?_ | (refine sxa hs hw ?_; clear hs hw; intro a b W hw hs) | (refine sxs hs hw ?_; clear hs hw; intro W hs hw))
      exact Or.inl ⟨hs, hw⟩
  · have hj' : j = l.length := by have : ¬ j < l.length := by simpa using hcc
                                  omega
    subst hj'
    rw [List.drop_length] at hgo
    simp only [allF] at hgo
    repeat (first | (refine sxv hs hw ?_; clear hs; intro a hs) | refine sxc hs ?_ | (refine sxa hs hw ?_; clear hs hw; intro a b W hw hs) | (refine sxs hs hw ?_; clear hs hw; intro W hs hw))
    refine st_load_agg hs (hw := hw) (hi := In.tl In.hd) (hl := by rw [hlen0]; rfl) (k := ?_); clear hs; intro a hs
    have hs2 : Slots a 35 ((33, .agg ⟨cut cs 0 38⟩) :: _) := hs
    rw [cut_all _ _ hlen0] at hs2
    clear hs
    have hs := hs2
    clear hs2
    repeat (first | (refine sxv hs hw ?_; clear hs; intro a hs) | refine sxc hs ?_ | (refine sxa hs hw ?_; clear hs hw; intro a b W hw hs) | (refine sxs hs hw ?_; clear hs hw; intro W hs hw))
    refine st_store hs (vs := cs) (hw := hw) (hz := by rw [hlen0]; rfl) (h1 := hone0) (hl := by rw [hlen0]; rfl) (k := ?_); clear hs hw; intro W hs hw
    rw [ov_all _ _ (by rw [hlen0]; rfl)] at hw
    repeat (first | (refine sxv hs hw ?_; clear hs; intro a hs) | refine sxc hs ?_ | (refine sxa hs hw ?_; clear hs hw; intro a b W hw hs) | (refine sxs hs hw ?_; clear hs hw; intro W hs hw))
    refine rc2 hs rfl rfl hw (In.tl (In.tl In.hd)) (by rw [hlen0]; rfl) rfl ?_
    rw [← hgo]
    refine ⟨cs, oad, ocap, ys, H', ?_, hH', hf, hch2, hw.sub (List.Sublist.cons_cons _ (List.Sublist.cons _ (List.Sublist.cons _ (List.Sublist.refl _))))⟩
    show Ending.returned (Value.tuple #[.agg ⟨cut cs 0 38⟩, _]) = _
    rw [cut_all _ _ hlen0]
end Go.Proofs.YtmalklakaalaoaaGreatDoor.Sw

set_option linter.unusedVariables false
namespace Go.Proofs.YtmalklakaalaoaaGreatDoor.Sw
open Go.RowKit Go.Sx
def BatRd (W : World) (b : BatchD) (cs : List Value) : Prop := ∃ sv, cs = batCells b sv ∧ Rd W 9 sv b.l.length (b.l.flatMap opCells)
def BatsRd (W : World) (v : Value) (l : List BatchD) : Prop := ∃ xs, Rd W 3 v l.length xs ∧ Ch (BatRd W) l xs
theorem BatsRd.h {W : World} {v : Value} {l : List BatchD} (r : BatsRd W v l) : BatsH (fr W) v l := by
  obtain ⟨xs, h1, h2⟩ := r
  exact ⟨xs, RdH.of_rd h1 (Fh.le.refl _) (by decide), h2.mono fun b c ⟨sv, e, h⟩ => ⟨sv, e, RdH.of_rd h (Fh.le.refl _) (by decide)⟩⟩
def IntIn (x : Int) (c : List Value) : Prop := c = [.int .i64 x]
theorem IntIn.len : ∀ (x : Int) (c : List Value), IntIn x c → c.length = 1 := by rintro x c rfl; rfl
def IntsRd (W : World) (v : Value) (l : List Int) : Prop := ∃ xs, Rd W 1 v l.length xs ∧ Ch IntIn l xs
end Go.Proofs.YtmalklakaalaoaaGreatDoor.Sw

set_option linter.unusedVariables false
set_option maxRecDepth 10000
namespace Go.Proofs.YtmalklakaalaoaaGreatDoor
open Go.ChangeShapes Go.WideShapes Go.ChangeAt Go.RowKit Go.Lib Go.Sx Go.Proofs Go.Deep
open Sw Go.Joins
section
variable {H : Type} {enc : TypeId × Value → H} {w : World} {spare : Nat → Bool} {held : Bool}
theorem ch_map {α : Type} {Rr : α → List Value → Prop} (O : Nat → α) (C : Nat → List Value) : ∀ l : List Nat, (∀ i ∈ l, Rr (O i) (C i)) → Ch Rr (l.map O) (l.flatMap C)
  | [], _ => rfl
  | i :: l, h => ⟨C i, l.flatMap C, rfl, h i (by simp), ch_map O C l fun j hj => h j (by simp [hj])⟩
theorem flatMap_get {C : Nat → List Value} {k : Nat} : ∀ (n b : Nat) (j : Nat) (x : Value), (∀ i, b ≤ i → i < b + n → (C i).length = k) → ((List.range' b n).flatMap C)[j]? = some x → ∃ i kk, b ≤ i ∧ i < b + n ∧ (C i)[kk]? = some x ∧ j = (i - b) * k + kk ∧ kk < k
  | 0, b, j, x, _, h => by simp at h
  | n + 1, b, j, x, hk, h => by
    rw [List.range'_succ, List.flatMap_cons, List.getElem?_append] at h
    have hb := hk b (Nat.le_refl _) (by omega)
    split at h
    · rename_i hj
      exact ⟨b, j, Nat.le_refl _, by omega, h, by simp, by omega⟩
    · rename_i hj
      obtain ⟨i, kk, h1, h2, h3, h4, h5⟩ := flatMap_get n (b + 1) _ x (fun i h1 h2 => hk i (by omega) (by omega)) h
      refine ⟨i, kk, by omega, by omega, h3, ?_, h5⟩
      have e : (i - b) * k = (i - (b + 1)) * k + k := by
        rw [show i - b = (i - (b + 1)) + 1 by omega, Nat.add_mul, Nat.one_mul]
      omega
theorem flatMap_len {C : Nat → List Value} {k : Nat} : ∀ (n b : Nat), (∀ i, b ≤ i → i < b + n → (C i).length = k) → ((List.range' b n).flatMap C).length = n * k
  | 0, b, _ => by simp
  | n + 1, b, hk => by
    rw [List.range'_succ, List.flatMap_cons, List.length_append, hk b (Nat.le_refl _) (by omega), flatMap_len n (b + 1) fun i h1 h2 => hk i (by omega) (by omega), Nat.add_mul]
    omega
theorem open_list {α : Type} [Inhabited α] {t e : TypeId} {k : Nat} (ht : Tryz.prog.underlying t = some (.slice e)) (hc : Tryz.prog.cellsOf e = k) (hk0 : 0 < k) {Rr : α → List Value → Prop} {Wf : α → Prop}
    (op : ∀ {fuel : Nat} {cs : List Value} {x : DataW H × List MemPlace}, DataW.trod enc Tryz.prog w 0 spare held fuel e cs = some x → ∃ o, Rr o cs ∧ Wf o)
    {fuel : Nat} {cs : List Value} {x : DataW H × List MemPlace} (h : DataW.trod enc Tryz.prog w 0 spare held fuel t cs = some x) :
    ∃ (sv : Value) (l : List α), cs = [sv] ∧ (∀ o ∈ l, Wf o) ∧ ∃ xs, Rd w k sv l.length xs ∧ Ch Rr l xs := by
  have hlt := DataW.trod_lt _ _ _ _ h
  rcases open_slice ht h with ⟨rfl, -⟩ | ⟨a, len, cap, m, n, D, Pl, rfl, -, hl, hm, hmm, rfl, hx⟩
  · exact ⟨_, [], rfl, by simp, [], Rd.nil w k 0 (by omega), rfl⟩
  · have hlm : len ≤ m := by rw [hmm]; split <;> omega
    obtain ⟨O, hO⟩ := choose_lt (n := len) (α := α × List Value) (p := fun i o => Rr o.1 o.2 ∧ Wf o.1 ∧ o.2.length = k ∧ ∀ j u, o.2[j]? = some u → w.cell? ((a.add (i * k)).add j) = some u) fun i hi => by
      obtain ⟨cs', h1, h2⟩ := hx i (by omega)
      obtain ⟨o, ho1, ho2⟩ := op h2
      rw [hc] at h1
      obtain ⟨_, hlen, h3⟩ := World.cells?_some h1
      refine ⟨(o, cs'), ho1, ho2, by simpa using hlen, fun j u hj => ?_⟩
      have hjk : j < k := by
        have h9 : j < cs'.length := (List.getElem?_eq_some_iff.1 hj).1
        have e : cs'.length = k := by simpa using hlen
        omega
      rw [h3 j hjk]; exact hj
    have hcap : cap ≤ 9223372036854775807 := max63 hm
    have hL : ((List.range len).map fun i => (O i).1).length = len := by simp
    have hr : List.range len = List.range' 0 len := List.range_eq_range'
    have hks : ∀ i, 0 ≤ i → i < 0 + len → (O i).2.length = k := fun i _ hi => (hO i (by omega)).2.2.1
    refine ⟨_, (List.range len).map fun i => (O i).1, rfl, fun o ho => ?_, (List.range len).flatMap fun i => (O i).2, ?_, ch_map _ _ _ fun i hi => (hO i (List.mem_range.1 hi)).1⟩
    · obtain ⟨i, hi, rfl⟩ := List.mem_map.1 ho
      exact (hO i (List.mem_range.1 hi)).2.1
    · rw [hL]
      refine ⟨by rw [hr]; exact flatMap_len len 0 hks, some a, cap, rfl, hl, hcap, ?_⟩
      rcases Nat.eq_zero_or_pos len with h0 | h0
      · exact .inl h0
      · right
        obtain ⟨b, off, spot⟩ := a
        have h00 : ∃ u, (O 0).2[0]? = some u := ⟨_, List.getElem?_eq_getElem (by rw [hks 0 (Nat.zero_le _) (by omega)]; exact hk0)⟩
        obtain ⟨u0, hu0⟩ := h00
        have h00 := (hO 0 h0).2.2.2 0 u0 hu0
        have hspot : spot = none := by simpa [Addr.add] using World.cell?_spot h00
        subst hspot
        refine ⟨b, off, rfl, ?_, fun j x hj => ?_⟩
        · have hpos : 0 < m * k := Nat.mul_pos (by omega) hk0
          exact hlt (.cell b off) (List.mem_append_left _ (MemPlace.mem_row.2 ⟨0, by rw [hc]; exact hpos, rfl⟩))
        · rw [hr] at hj
          obtain ⟨i, kk, h1, h2, h3, rfl, h5⟩ := flatMap_get len 0 j x hks hj
          have := (hO i (by omega)).2.2.2 kk x h3
          rw [add_add, add_plain] at this
          exact this
theorem open_bat_cells {fuel : Nat} {cs : List Value} {x : DataW H × List MemPlace} (h : DataW.trod enc Tryz.prog w 0 spare held fuel 36 cs = some x) : ∃ b, BatRd w b cs ∧ BatWf b := by
  obtain ⟨xs, n, _, rfl, hl, hlen, hf⟩ := DataW.trod_struct Tryz.underlying36 h
  have c0 : Tryz.prog.cellsOf 36 = 3 := by kernel_rfl
  have c1 : Tryz.prog.cellsOf 3 = 1 := by kernel_rfl
  have c2 : Tryz.prog.cellsOf 2 = 1 := by kernel_rfl
  have c3 : Tryz.prog.cellsOf 34 = 1 := by kernel_rfl
  rw [c0] at hl
  match cs, hl, xs, hlen with
  | [v0, v1, v2], _, [y0, y1, y2], _ =>
    have h0 := hf 0 _ rfl
    have h1 := hf 1 _ rfl
    have h2 := hf 2 _ rfl
    change DataW.trod enc _ w 0 spare held n 3 (([v0, v1, v2].drop 0).take (Tryz.prog.cellsOf 3)) = some y0 at h0
    change DataW.trod enc _ w 0 spare held n 2 (([v0, v1, v2].drop 1).take (Tryz.prog.cellsOf 2)) = some y1 at h1
    change DataW.trod enc _ w 0 spare held n 34 (([v0, v1, v2].drop 2).take (Tryz.prog.cellsOf 34)) = some y2 at h2
    rw [c1] at h0
    rw [c2] at h1
    rw [c3] at h2
    obtain ⟨k, e0, _, w0⟩ := DataW.trod_int Tryz.underlying3 h0
    obtain ⟨m, e1, _, w1⟩ := DataW.trod_int Tryz.underlying2 h1
    obtain ⟨sv, l, e2, ho, hr⟩ := open_ops h2
    simp at e0 e1 e2
    subst e0 e1 e2
    exact ⟨⟨k, m, l⟩, ⟨v2, rfl, hr⟩, w0, w1, ho⟩
theorem open_int_cells {fuel : Nat} {cs : List Value} {x : DataW H × List MemPlace} (h : DataW.trod enc Tryz.prog w 0 spare held fuel 3 cs = some x) : ∃ k, IntIn k cs ∧ (Lit.int .i64 k).wf = true := by
  obtain ⟨k, e0, _, w0⟩ := DataW.trod_int Tryz.underlying3 h
  exact ⟨k, (by simpa using e0 : cs = [.int .i64 k]), w0⟩
instance : Inhabited BatchD := ⟨⟨0, 0, []⟩⟩
instance : Inhabited RowD := ⟨zeroRow⟩ -- 39
theorem open_bats {r : Reach} {b0 : Nat} {v : Value} {d : DataW H} {p : List MemPlace} (hv : Value.okWide Tryz.prog w r b0 22 v) (h : DataW.Trod enc Tryz.prog w 0 spare held 22 v d p) : ∃ l, (∀ b ∈ l, BatWf b) ∧ BatsRd w v l := by
  obtain ⟨b, len, cap, rfl⟩ := okWide_slice Tryz.underlying22 hv
  obtain ⟨fuel, hf⟩ := h
  obtain ⟨sv, l, e, h1, h2⟩ := open_list Tryz.underlying22 (by kernel_rfl : _ = 3) (by decide) open_bat_cells hf
  simp [Value.cells] at e
  subst e
  exact ⟨l, h1, h2⟩
theorem open_intl {r : Reach} {b0 : Nat} {v : Value} {d : DataW H} {p : List MemPlace} (hv : Value.okWide Tryz.prog w r b0 23 v) (h : DataW.Trod enc Tryz.prog w 0 spare held 23 v d p) : ∃ l, (∀ k ∈ l, (Lit.int .i64 k).wf = true) ∧ IntsRd w v l := by
  obtain ⟨b, len, cap, rfl⟩ := okWide_slice Tryz.underlying23 hv
  obtain ⟨fuel, hf⟩ := h
  obtain ⟨sv, l, e, h1, h2⟩ := open_list Tryz.underlying23 (by kernel_rfl : _ = 1) (by decide) open_int_cells hf
  simp [Value.cells] at e
  subst e
  exact ⟨l, h1, h2⟩
end
end Go.Proofs.YtmalklakaalaoaaGreatDoor

set_option linter.unusedVariables false
set_option maxRecDepth 10000
namespace Go.Proofs.YtmalklakaalaoaaGreatDoor.Sw
open Go.RowKit Go.Sx
-- pieces
def Play : FoldD → List RowD → FoldD → Prop
  | f, [], f' => f = f'
  | f, r :: rs, f' => (next f r.b).2.2 = true ∧ (next f r.b).2.1 = r ∧ Play (next f r.b).1 rs f'
theorem next_ok {f : FoldD} {b : BatchD} (h : (next f b).2.2 = true) : nextB f b = true ∧ next f b = (nextF f b, nextR f b, true) := by
  unfold next at *
  cases hb : nextB f b with
  | true => exact ⟨rfl, rfl⟩
  | false => rw [hb] at h; cases h
theorem next_row {f : FoldD} {b : BatchD} (h : (next f b).2.2 = true) : (next f b).2.1.b = b := by rw [(next_ok h).2]; rfl
theorem allF_play : ∀ (l : List BatchD) (f : FoldD) (rows : List RowD), ∃ more, (allF f rows l).2 = rows ++ more ∧ Play f more (allF f rows l).1 ∧ more.length ≤ l.length
  | [], f, rows => ⟨[], by simp [allF], rfl, Nat.le_refl _⟩
  | b :: l, f, rows => by
    simp only [allF]
    cases h : (next f b).2.2 with
    | false =>
      obtain ⟨more, h1, h2, h3⟩ := allF_play l f rows
      exact ⟨more, h1, h2, Nat.le_succ_of_le h3⟩
    | true =>
      obtain ⟨more, h1, h2, h3⟩ := allF_play l (next f b).1 (rows ++ [(next f b).2.1])
      refine ⟨(next f b).2.1 :: more, by rw [h1]; simp, ⟨?_, ?_, ?_⟩, by simp; omega⟩
      · rw [next_row h]; exact h
      · rw [next_row h]
      · rw [next_row h]; exact h2
theorem play_places : ∀ {rows : List RowD} {f f' : FoldD} {k : Nat}, Play f rows f' → f.place = k → k + rows.length ≤ 1000000 → f'.place = ((k + rows.length : Nat) : Int) ∧ ∀ (i : Nat) (r : RowD), rows[i]? = some r → r.place = ((k + i + 1 : Nat) : Int)
  | [], f, f', k, h, hk, _ => by
    have h : f = f' := h
    subst h
    exact ⟨by rw [hk]; simp, fun i r h => by simp at h⟩
  | r :: rows, f, f', k, ⟨h1, h2, h3⟩, hk, hl => by
    have hn := (next_ok h1).2
    rw [hn] at h2 h3
    simp only [List.length_cons] at hl
    have hw : IntKind.i64.wrap (f.place + 1) = ((k + 1 : Nat) : Int) := by rw [hk, IntWalk.i64_in _ (by omega)]; omega
    obtain ⟨g1, g2⟩ := play_places (k := k + 1) h3 hw (by omega)
    refine ⟨by rw [g1, List.length_cons]; congr 1; omega, fun i x hx => ?_⟩
    cases i with
    | zero =>
      simp only [List.getElem?_cons_zero, Option.some.injEq] at hx
      subst hx
      have h2 : nextR f r.b = r := h2
      rw [← h2]
      show IntKind.i64.wrap (f.place + 1) = _
      rw [hw]
    | succ i =>
      rw [List.getElem?_cons_succ] at hx
      rw [g2 i x hx]; congr 1; omega
theorem one_play {f : FoldD} {l : List RowD} {r : RowD} (h1 : (next f r.b).2.2 = true) (h2 : (next f r.b).2.1 = r) (hp : f.place = l.length) (hl : l.length ≤ 1000000) : one ⟨f, l⟩ r = (⟨(next f r.b).1, l ++ [r]⟩, true, 0) := by
  have hpl : r.place = (l.length : Int) + 1 := by
    have hn := (next_ok h1).2
    rw [hn] at h2
    have h2 : nextR f r.b = r := h2
    have := congrArg RowD.place h2
    rw [← this]
    show IntKind.i64.wrap (f.place + 1) = _
    rw [hp, IntWalk.i64_in _ (by omega)]
  unfold one
  rw [if_neg (by show ¬ r.place > (l.length : Int) + 1; omega), if_neg (by show ¬ r.place < (l.length : Int) + 1; omega), if_pos ⟨h1, by show (next f r.b).2.1.err = r.err; rw [h2]⟩]
theorem take_play : ∀ {rows : List RowD} {f f' : FoldD} {l : List RowD} {n : Nat}, Play f rows f' → f.place = l.length → l.length + rows.length ≤ 1000000 → takeN ⟨f, l⟩ n rows = (⟨f', l ++ rows⟩, n + rows.length, 0)
  | [], f, f', l, n, h, hp, hl => by
    have h : f = f' := h
    subst h
    simp [takeN]
  | r :: rows, f, f', l, n, ⟨h1, h2, h3⟩, hp, hl => by
    simp only [List.length_cons] at hl
    have ho := one_play h1 h2 hp (by omega)
    have hp2 : (next f r.b).1.place = ((l ++ [r]).length : Nat) := by
      rw [(next_ok h1).2]
      show IntKind.i64.wrap (f.place + 1) = _
      rw [hp, IntWalk.i64_in _ (by omega)]; simp
    have ih := take_play (n := n + 1) h3 hp2 (by simp; omega)
    simp only [takeN, ho, if_true]
    rw [ih]
    simp
    omega
theorem take_old : ∀ {rows rest : List RowD} {s : StreamD} {n : Nat}, (∀ r ∈ rows, 1 ≤ r.place ∧ r.place ≤ s.l.length ∧ s.l[(r.place - 1).toNat]? = some r) → takeN s n (rows ++ rest) = takeN s n rest
  | [], rest, s, n, _ => rfl
  | r :: rows, rest, s, n, h => by
    obtain ⟨h1, h2, h3⟩ := h r (by simp)
    have ho : one s r = (s, false, 0) := by
      unfold one
      rw [if_neg (by omega), if_pos (by omega), if_neg]
      rintro (g | g)
      · omega
      · exact g ⟨r, h3, sameR_iff.2 rfl⟩
    simp only [List.cons_append, takeN, ho, if_true]
    exact take_old fun x hx => h x (by simp [hx])
def rowsOf (l : List BatchD) : List RowD := (allF emptyF [] (batsB l 40)).2
def foldOf (l : List BatchD) : FoldD := (allF emptyF [] (batsB l 40)).1
theorem batsB_len (l : List BatchD) (n : Nat) : (batsB l n).length ≤ n := by unfold batsB; rw [List.length_map, List.length_take]; omega
theorem rows_play (l : List BatchD) : Play emptyF (rowsOf l) (foldOf l) ∧ (rowsOf l).length ≤ 40 := by
  obtain ⟨more, h1, h2, h3⟩ := allF_play (batsB l 40) emptyF []
  have := batsB_len l 40
  unfold rowsOf foldOf
  rw [h1, List.nil_append]
  exact ⟨h2, by omega⟩
theorem play_mem : ∀ {rows : List RowD} {f f' : FoldD}, Play f rows f' → ∀ r ∈ rows, mayB r.b = true
  | [], _, _, _, r, h => by simp at h
  | x :: rows, f, f', ⟨h1, h2, h3⟩, r, h => by
    rcases List.mem_cons.1 h with rfl | h
    · have := (next_ok h1).1
      unfold nextB at this
      exact (Bool.and_eq_true _ _ |>.mp this).1
    · exact play_mem h3 r h
theorem play_from : ∀ {l : List BatchD} {f : FoldD} {rows : List RowD}, (∀ r ∈ rows, ∃ b, BatOk b ∧ r.b = b) → (∀ b ∈ l, BatOk b) → ∀ r ∈ (allF f rows l).2, BatOk r.b
  | [], f, rows, h, _, r, hr => by obtain ⟨b, h1, h2⟩ := h r hr; rw [h2]; exact h1
  | b :: l, f, rows, h, hb, r, hr => by
    simp only [allF] at hr
    cases hn : (next f b).2.2 with
    | false => rw [hn] at hr; exact play_from h (fun x hx => hb x (by simp [hx])) r hr
    | true =>
      rw [hn] at hr
      refine play_from (fun x hx => ?_) (fun x hx => hb x (by simp [hx])) r hr
      rcases List.mem_append.1 hx with hx | hx
      · exact h x hx
      · rw [List.mem_singleton] at hx
        subst hx
        exact ⟨b, hb b (by simp), next_row hn⟩
theorem play_err : ∀ {rows : List RowD} {f f' : FoldD}, Play f rows f' → ∀ r ∈ rows, ∃ d l, r.err = (applyL d l).1
  | [], _, _, _, r, h => by simp at h
  | x :: rows, f, f', ⟨h1, h2, h3⟩, r, h => by
    rcases List.mem_cons.1 h with rfl | h
    · rw [(next_ok h1).2] at h2
      refine ⟨f.d, r.b.l, ?_⟩
      rw [← (show nextR f r.b = r from h2)]; rfl
    · exact play_err h3 r h
theorem setRL_err (d : Dm) (k : ByteArray) (x : Option DV) : (setRL d k x).1 = 0 ∨ (setRL d k x).1 = 6 := by
  cases x with
  | none => exact .inl rfl
  | some v => unfold setRL; simp only; split <;> simp
theorem doL_err (d : Dm) (o : OpD) : 0 ≤ (doL d o).1 ∧ (doL d o).1 ≤ 8 := by
  have h : ∀ k x, 0 ≤ (setRL d k x).1 ∧ (setRL d k x).1 ≤ 8 := fun k x => by
    rcases setRL_err d k x with h' | h' <;> (rw [h']; exact ⟨by decide, by decide⟩)
  have c : ∀ n : Int, 0 ≤ n → n ≤ 8 → 0 ≤ ((n, d) : Int × Dm).1 ∧ ((n, d) : Int × Dm).1 ≤ 8 := fun n h1 h2 => ⟨h1, h2⟩
  unfold doL
  split
  · split
    · exact h _ _
    · exact c 8 (by decide) (by decide)
  · split
    · split
      · exact c 7 (by decide) (by decide)
      · split
        · exact c 4 (by decide) (by decide)
        · exact h _ _
    · exact h _ _
theorem goL_err : ∀ (l : List OpD) (d : Dm), 0 ≤ (goL l d).1 ∧ (goL l d).1 ≤ 8
  | [], d => ⟨by show (0 : Int) ≤ 0; decide, by show (0 : Int) ≤ 8; decide⟩
  | o :: l, d => by
    unfold goL
    split
    · exact ⟨by show (0 : Int) ≤ 1; decide, by show (1 : Int) ≤ 8; decide⟩
    · split
      · exact goL_err l _
      · exact doL_err d o
theorem applyL_err (d : Dm) (l : List OpD) : 0 ≤ (applyL d l).1 ∧ (applyL d l).1 ≤ 8 := by
  unfold applyL
  split
  · exact ⟨by show (0 : Int) ≤ 1; decide, by show (1 : Int) ≤ 8; decide⟩
  · split
    · exact ⟨by show (0 : Int) ≤ 0; decide, by show (0 : Int) ≤ 8; decide⟩
    · exact goL_err l d
theorem rows_ok {l : List BatchD} (h : ∀ b ∈ l, BatWf b) : ∀ r ∈ rowsOf l, RowOk r := by
  intro r hr
  obtain ⟨hp, hl⟩ := rows_play l
  obtain ⟨d, ol, he⟩ := play_err hp r hr
  have hb := play_from (l := batsB l 40) (f := emptyF) (rows := []) (by simp) (batsB_ok h 40) r hr
  obtain ⟨i, hi⟩ := List.getElem?_of_mem hr
  have hpl := (play_places (k := 0) hp rfl (by omega)).2 i r hi
  have hi' := (List.getElem?_eq_some_iff.1 hi).1
  have := applyL_err d ol
  refine ⟨?_, ?_, hb⟩
  · unfold i64; rw [hpl]; omega
  · unfold i64; rw [he]; omega
theorem rows_8 (l : List BatchD) : ∀ r ∈ rowsOf l, r.b.l.length ≤ 8 := fun r hr => (may_parts (play_mem (rows_play l).1 r hr)).2.2
set_option maxHeartbeats 8000000 in
theorem law21_Rows (w0 W : World) (H : Fh) (l : List BatchD) (v : Value) (R : List Res) (hb : ∀ b ∈ l, BatWf b) (hr : BatsH H v l) (hw : Has 0 w0 W (Fz H :: R)) :
    Calls Tryz.prog 10 ⟨[v]⟩ W fun e W' => ∃ v' H', e = .returned v' ∧ H.le H' ∧ RowsH H' v' (rowsOf l) ∧ Has 0 w0 W' (Fz H' :: R) := by
  refine enter Tryz.func10 Tryz.ntmps10 rfl rfl fun a hs => ?_
  repeat (first | (refine sxv hs hw ?_; clear hs; intro a hs) | refine sxc hs ?_ | (refine sxa hs hw ?_; clear hs hw; intro a b W hw hs) | (refine sxs hs hw ?_; clear hs hw; intro W hs hw))
  refine st_call hs (hc := law7_Batches w0 _ H l v 40 _ (by decide) hb hr hw) (k := ?_); rintro e0 W1 ⟨v1, H1, rfl, hle1, hr1, hw1⟩; refine ⟨_, rfl, ?_⟩; clear hs hw; intro a hs; have hw := hw1; clear hw1
  have h40 := batsB_len l 40
  refine st_call hs (hc := ref7_All w0 _ H1 (batsB l 40) v1 _ (by omega) (batsB_ok hb 40) hr1 hw) (k := ?_); rintro e0 W1 ⟨cs, ad, cap, ys, H2, rfl, hle2, hf, hch, hw1⟩; refine ⟨_, rfl, ?_⟩; clear hs hw; intro a hs; have hw := hw1; clear hw1
  have hlen := hf.len
  have hone := hf.one
  repeat (first | (refine sxv hs hw ?_; clear hs; intro a hs) | refine sxc hs ?_ | (refine sxa hs hw ?_; clear hs hw; intro a b W hw hs) | (refine sxs hs hw ?_; clear hs hw; intro W hs hw))
  refine st_store hs (vs := cs) (hw := hw) (hz := by rw [hlen]; rfl) (h1 := hone) (hl := by rw [hlen]; rfl) (k := ?_); clear hs hw; intro W hs hw
  repeat (first | (refine sxv hs hw ?_; clear hs; intro a hs) | refine sxc hs ?_ | (refine sxa hs hw ?_; clear hs hw; intro a b W hw hs) | (refine sxs hs hw ?_; clear hs hw; intro W hs hw))
  obtain ⟨H3, h1, h2, h3⟩ := (hw.sub (L' := Sx.Own 39 5 (.slice ad (rowsOf l).length cap) (rowsOf l).length ys :: Fz H2 :: R) (List.Sublist.cons _ (List.Sublist.refl _))).freeze_own
  exact rt1 hs rfl rfl ⟨_, H3, rfl, (hle1.trans hle2).trans h1, ⟨ys, h3, hch.mono (RowIn.le h1)⟩, h2⟩
end Go.Proofs.YtmalklakaalaoaaGreatDoor.Sw

set_option linter.unusedVariables false
namespace Go.Sx
open Go.RowKit
section
variable {P : Program} {ops : Array Oper} {rest : List Oper} {Q : Exit → Act → World → Prop} {a : Act} {n G : Nat} {L : List (Nat × Value)} {w W W' : World} {R : List Res} {d : Nat} {T S E : TypeId} {p : String} {e : Array Edge} {x y lo hi : Operand} {v : Value} {xs cs : List Value} {k sz : Nat} {i j : Int} {q q' : IntKind} {z : List Value} {H : Fh}
theorem run_slice_rdH {agg : Bool} [sl : Sl P S E] [t : Ty P E agg z] (r : RdH H sz v k xs) (hz : z.length = sz) (l h : Option Value) {i' j' : Nat} (h0 : i' ≤ j') (h1 : j' ≤ k)
    (hl : l = none ∧ i' = 0 ∨ ∃ q, l = some (.int q i')) (hh : h = none ∧ j' = k ∨ ∃ q, h = some (.int q j')) :
    ∃ v', (Instr.sliceAt S v l h none).run P W = .ok v' W ∧ RdH H sz v' (j' - i') ((xs.drop (i' * sz)).take ((j' - i') * sz)) := by
  subst hz
  obtain ⟨hx, ad, cap, rfl, h3, h4, h5⟩ := r
  have hb : ∀ (u : Value) (m y : Nat) (c : BoundsCode) (q : IntKind), u = .int q m → m ≤ y → (Instr.sliceBound u y c).run P W = .ok m W := by
    rintro u m y c q rfl hm
    have : (0 : Int) ≤ (m : Int) ∧ (m : Int) ≤ (y : Int) := ⟨by omega, by omega⟩
    simp only [Instr.sliceBound, asIntOf, Sem.run_bind, Sem.run_pure, Result.andThen_ok]
    rw [if_pos this]
    simp
  have hbs : (Instr.sliceBounds true k cap l h none).run P W = .ok (i', j', cap) W := by
    unfold Instr.sliceBounds
    rcases hh with ⟨rfl, rfl⟩ | ⟨q2, rfl⟩ <;> rcases hl with ⟨rfl, rfl⟩ | ⟨q1, rfl⟩
    · simp
    · simp [hb _ i' j' .sliceB q1 rfl h0]
    · simp [hb _ j' cap .sliceAcap q2 rfl (by omega)]
    · simp [hb _ j' cap .sliceAcap q2 rfl (by omega), hb _ i' j' .sliceB q1 rfl h0]
  refine ⟨.slice (if cap = i' then ad else ad.map (·.add (i' * z.length))) (j' - i') (cap - i'), ?_, ?_, _, _, rfl, by omega, by omega, ?_⟩
  · simp only [Instr.sliceAt, Instr.slice, Sem.run_bind, run_underlying sl.out, Result.andThen_ok, hbs, t.sizeOf, Sem.run_pure]
  · rw [List.length_take, List.length_drop, hx]
    have : (j' - i') * z.length ≤ k * z.length - i' * z.length := by rw [← Nat.sub_mul]; exact Nat.mul_le_mul_right _ (by omega)
    omega
  · rcases h5 with rfl | ⟨b, o, cs, T, zz, rfl, hlt, hc⟩
    · exact .inl (by omega)
    · by_cases hci : cap = i'
      · exact .inl (by omega)
      · refine .inr ⟨b, o + i' * z.length, cs, T, zz, by rw [if_neg hci]; simp [addr_add], hlt, fun m u hu => ?_⟩
        rw [List.getElem?_take] at hu
        split at hu
        · rw [List.getElem?_drop] at hu
          rw [Nat.add_assoc]
          exact hc _ _ hu
        · cases hu
theorem st_sliceH_lh {agg : Bool} [sl : Sl P S E] [t : Ty P E agg z] (hs : Slots a n L) (r : RdH H sz v k xs) (h0 : 0 ≤ i) (h1 : i ≤ j) (h2 : j ≤ k) (hx : ev L x = some v := by with_unfolding_all exact rfl) (hl : ev L lo = some (.int q i) := by with_unfolding_all exact rfl) (hh : ev L hi = some (.int q' j) := by with_unfolding_all exact rfl) (hd : Nat.blt d n = true := by with_unfolding_all exact rfl) (hz : z.length = sz := by with_unfolding_all exact rfl)
    (c : ∀ a' v', RdH H sz v' (j.toNat - i.toNat) ((xs.drop (i.toNat * sz)).take ((j.toNat - i.toNat) * sz)) → Slots a' n ((d, v') :: L) → wpList P ops Q rest a' W) : wpList P ops Q (⟨some d, .slice S x (some lo) (some hi) none, T, p, e, none⟩ :: rest) a W := by
  obtain ⟨m, rfl⟩ := Int.eq_ofNat_of_zero_le h0
  obtain ⟨m', rfl⟩ := Int.eq_ofNat_of_zero_le (show 0 ≤ j by omega)
  obtain ⟨v', h4, h3⟩ := run_slice_rdH (P := P) (S := S) (W := W) r hz (some (.int q m)) (some (.int q' m')) (i' := m) (j' := m') (by omega) (by omega) (.inr ⟨q, rfl⟩) (.inr ⟨q', rfl⟩)
  refine st_value hs hd (v := v') (W' := W) ?_ fun a' hs' => c a' v' ?_ hs'
  · simp only [execOp, Option.map_some, Option.map_none, hs.ev hx, hs.ev hl, hs.ev hh]
    simp only [Sem.run_bind, h4, Result.andThen_ok]
    rfl
  · simpa using h3
theorem st_min {ts : Array TypeId} (hs : Slots a n L) (hx : ev L x = some (.int q i) := by with_unfolding_all exact rfl) (hy : ev L y = some (.int q' j) := by with_unfolding_all exact rfl) (hd : Nat.blt d n = true := by with_unfolding_all exact rfl)
    (k : ∀ a', Slots a' n ((d, .int q (if j < i then j else i)) :: L) → wpList P ops Q rest a' W) : wpList P ops Q (⟨some d, .call { callee := .builtin .min, args := #[x, y], argTypes := ts }, T, p, e, none⟩ :: rest) a W :=
  st_value hs hd (by simp only [execOp, resolve, invoke, builtin, List.map_toArray, List.map_cons, List.map_nil, hs.ev hx, hs.ev hy, Sem.run_bind, Sem.run_pure, Result.andThen_ok, run_min_int2]) k
theorem Has.freeze_lit {b m : Nat} (h : Has G w W (Cells b cs E :: Fz H :: R)) (hl : cs.length = m * sz) (hm : m ≤ 9223372036854775807) : ∃ H', H.le H' ∧ Has G w W (Fz H' :: R) ∧ RdH H' sz (.slice (some ⟨b, 0, none⟩) m m) m cs := by
  obtain ⟨H', h1, h2, F, ⟨hF, hb⟩, h4⟩ := h.freeze (R' := [])
  exact ⟨H', h1, h2, hl, some ⟨b, 0, none⟩, m, rfl, Nat.le_refl _, hm, .inr ⟨b, 0, ⟨cs⟩, E, (0, 0), rfl, h4 b _ hF hb, fun j x hx => by simpa using hx⟩⟩
end
end Go.Sx

set_option linter.unusedVariables false
set_option maxRecDepth 10000
namespace Go.Proofs.YtmalklakaalaoaaGreatDoor.Sw
open Go.RowKit Go.Sx
-- pieces
abbrev addN : OpD := ⟨4, ⟨#[110]⟩, 0, 0, ⟨#[]⟩, 0, 0, ⟨#[]⟩, 1⟩
abbrev b1 : BatchD := ⟨1, 1, [addN]⟩
theorem rows_b1 : rowsOf [b1] = [⟨1, b1, 0⟩] := by kernel_rfl
theorem addN_wf : OpWf addN := ⟨by decide, by decide, by decide, by decide, by decide, by decide, by decide, by decide, by decide⟩
theorem b1_wf : ∀ b ∈ [b1], BatWf b := by
  intro b hb
  rw [List.mem_singleton] at hb
  subst hb
  exact ⟨by decide, by decide, fun o ho => by rw [List.mem_singleton] at ho; subst ho; exact addN_wf⟩
theorem take_rows {l : List BatchD} : takeN ⟨emptyF, []⟩ 0 (rowsOf l) = (⟨foldOf l, rowsOf l⟩, (rowsOf l).length, 0) := by
  obtain ⟨h1, h2⟩ := rows_play l
  have := take_play (l := []) (n := 0) h1 rfl (by simp; omega)
  rw [this]; simp
theorem fold_place (l : List BatchD) : (foldOf l).place = ((rowsOf l).length : Nat) := by
  obtain ⟨h1, h2⟩ := rows_play l
  have := (play_places (k := 0) h1 rfl (by omega)).1
  rw [this]; simp
theorem old_rows (l : List BatchD) : ∀ r ∈ rowsOf l, 1 ≤ r.place ∧ r.place ≤ (rowsOf l).length ∧ (rowsOf l)[(r.place - 1).toNat]? = some r := by
  intro r hr
  obtain ⟨h1, h2⟩ := rows_play l
  obtain ⟨i, hi⟩ := List.getElem?_of_mem hr
  have hi' := (List.getElem?_eq_some_iff.1 hi).1
  have := (play_places (k := 0) h1 rfl (by omega)).2 i r hi
  rw [this]
  refine ⟨by omega, by omega, ?_⟩
  rw [show (((0 + i + 1 : Nat) : Int) - 1).toNat = i by omega]
  exact hi
set_option maxHeartbeats 16000000 in
theorem law21_begun (w : World) (hT : Tabs w) :
    Calls Tryz.prog 9 ⟨[]⟩ w fun e w' => e = .returned (.bool true) ∧ Below w.heap.size w w' := by
  have hw := Has.startF w
  refine enter Tryz.func9 Tryz.ntmps9 rfl rfl fun a hs => ?_
  repeat (first | (refine sxv hs hw ?_; clear hs; intro a hs) | refine sxc hs ?_ | (refine sxa hs hw ?_; clear hs hw; intro a b W hw hs) | (refine sxs hs hw ?_; clear hs hw; intro W hs hw))
  refine st_call hs (hc := stream_New w _ (fr w) _ hw) (k := ?_); rintro e0 W1 ⟨p, rfl, hw1⟩; refine ⟨_, rfl, ?_⟩; clear hs hw; intro a hs; have hw := hw1; clear hw1
  repeat (first | (refine sxv hs hw ?_; clear hs; intro a hs) | refine sxc hs ?_ | (refine sxa hs hw ?_; clear hs hw; intro a b W hw hs) | (refine sxs hs hw ?_; clear hs hw; intro W hs hw) | ((with_reducible first | refine st_ptrSome hs (k := ?_) | refine st_ptrNone hs (k := ?_)); clear hs; intro a hs))
  obtain ⟨bb, qb⟩ := nm1 hw; subst qb
  obtain ⟨bo, qo⟩ := nm2 hw; subst qo
  have hw : Has 0 w _ (Cells bo (opCells addN) 95 :: Fz (fr w) :: Cells bb (batCells b1 (.slice (some ⟨bo, 0, none⟩) 1 1)) 36 :: StreamAt (fr w) p ⟨emptyF, []⟩ :: []) := hw.perm (by repeat (first | exact List.Perm.refl _ | refine perm_pick (by repeat (first | exact Pick.hd | apply Pick.tl)) ?_))
  obtain ⟨H1, hle1, hw, hop⟩ := hw.freeze_lit (m := 1) (sz := 9) rfl (by decide)
  obtain ⟨H2, hle2, hw, hbt⟩ := hw.swap2.freeze_lit (m := 1) (sz := 3) rfl (by decide)
  have hle := hle1.trans hle2
  have hbats : BatsH H2 (.slice (some ⟨bb, 0, none⟩) 1 1) [b1] := ⟨_, hbt, Ch.unit ⟨_, rfl, RdH.le (n := 1) (xs := [addN].flatMap opCells) hop hle2⟩⟩
  refine st_call hs (hc := law21_Rows w _ H2 [b1] _ _ b1_wf hbats hw) (k := ?_); rintro e0 W1 ⟨v, H3, rfl, hle3, hrows, hw1⟩; refine ⟨_, rfl, ?_⟩; clear hs hw; intro a hs; have hw := hw1; clear hw1
  have hok := rows_ok b1_wf
  have h8 := rows_8 [b1]
  have hpl := fold_place [b1]
  have htk := take_rows (l := [b1])
  have hold := take_old (rest := []) (n := 0) (s := ⟨foldOf [b1], rowsOf [b1]⟩) (old_rows [b1])
  rw [List.append_nil] at hold
  have hlen : (rowsOf [b1]).length = 1 := by rw [rows_b1]; rfl
  obtain ⟨ad, cap, rfl⟩ : ∃ ad cap, v = .slice ad 1 cap := by
    obtain ⟨xs, hx, _⟩ := hrows
    obtain ⟨ad, cap, e⟩ := hx.slice
    exact ⟨ad, cap, by rw [e, hlen]⟩
  have hle' := hle.trans hle3
  have hw := (streamLe hw.swap2 hle')
  generalize rowsOf [b1] = rows at *
  generalize foldOf [b1] = F at *
  repeat (first | (refine sxv hs hw ?_; clear hs; intro a hs) | refine sxc hs ?_ | (refine sxa hs hw ?_; clear hs hw; intro a b W hw hs) | (refine sxs hs hw ?_; clear hs hw; intro W hs hw))
  refine st_call hs (hc := stream_Take w _ H3 p _ rows _ _ (by rw [hlen]; decide) hok hrows hle' hT hw) (k := ?_); rintro e0 W1 ⟨H4, rfl, hle4, hw1⟩; refine ⟨_, rfl, ?_⟩; clear hs hw; intro a hs; have hw := hw1; clear hw1
  rw [htk] at hs hw
  simp only [hlen] at hs
  repeat (first | (refine sxv hs hw ?_; clear hs; intro a hs) | refine sxc hs ?_ | (refine sxa hs hw ?_; clear hs hw; intro a b W hw hs) | (refine sxs hs hw ?_; clear hs hw; intro W hs hw))
  refine st_call hs (hc := stream_Take w _ H4 p _ rows _ _ (by rw [hlen]; decide) hok (hrows.le hle4) (hle'.trans hle4) hT hw) (k := ?_); rintro e0 W1 ⟨H5, rfl, hle5, hw1⟩; refine ⟨_, rfl, ?_⟩; clear hs hw; intro a hs; have hw := hw1; clear hw1
  rw [hold] at hs hw
  simp only [takeN] at hs hw
  repeat (first | (refine sxv hs hw ?_; clear hs; intro a hs) | refine sxc hs ?_ | (refine sxa hs hw ?_; clear hs hw; intro a b W hw hs) | (refine sxs hs hw ?_; clear hs hw; intro W hs hw))
  refine st_call hs (hc := stream_Next w _ H5 p _ _ (by rw [hlen]; decide) hw) (k := ?_); rintro e0 W1 ⟨rfl, hw1⟩; refine ⟨_, rfl, ?_⟩; clear hs hw; intro a hs; have hw := hw1; clear hw1
  simp only [hlen] at hs
  repeat (first | (refine sxv hs hw ?_; clear hs; intro a hs) | refine sxc hs ?_ | (refine sxa hs hw ?_; clear hs hw; intro a b W hw hs) | (refine sxs hs hw ?_; clear hs hw; intro W hs hw))
  refine st_call hs (hc := stream_Rows w _ H5 p _ _ (by rw [hlen]; decide) (fun r hr => Nat.le_trans (h8 r hr) (by decide)) hw) (k := ?_); rintro e0 W1 ⟨rad, rcap, ys, H6, rfl, hle6, hch, hw1⟩; refine ⟨_, rfl, ?_⟩; clear hs hw; intro a hs; have hw := hw1; clear hw1
  simp only [hlen] at hs
  repeat (first | (refine sxv hs hw ?_; clear hs; intro a hs) | refine sxc hs ?_ | (refine sxa hs hw ?_; clear hs hw; intro a b W hw hs) | (refine sxs hs hw ?_; clear hs hw; intro W hs hw))
  refine st_call hs (hc := stream_Fold w _ H6 p _ _ (hw.sub (List.Sublist.cons _ (List.Sublist.refl _)))) (k := ?_); rintro e0 W1 ⟨q, rfl, hw1⟩; refine ⟨_, rfl, ?_⟩; clear hs hw; intro a hs; have hw := hw1; clear hw1
  repeat (first | (refine sxv hs hw ?_; clear hs; intro a hs) | refine sxc hs ?_ | (refine sxa hs hw ?_; clear hs hw; intro a b W hw hs) | (refine sxs hs hw ?_; clear hs hw; intro W hs hw))
  refine st_call hs (hc := fold_Place w _ H6 q _ _ hw) (k := ?_); rintro e0 W1 ⟨rfl, hw1⟩; refine ⟨_, rfl, ?_⟩; clear hs hw; intro a hs; have hw := hw1; clear hw1
  simp only [hpl, hlen] at hs
  repeat (first | (refine sxv hs hw ?_; clear hs; intro a hs) | refine sxc hs ?_ | (refine sxa hs hw ?_; clear hs hw; intro a b W hw hs) | (refine sxs hs hw ?_; clear hs hw; intro W hs hw))
  exact rt1 hs rfl rfl ⟨rfl, hw.endF (In.tl (In.tl In.hd)) (((hle'.trans hle4).trans hle5).trans hle6)⟩
end Go.Proofs.YtmalklakaalaoaaGreatDoor.Sw

set_option linter.unusedVariables false
set_option maxRecDepth 10000
namespace Go.Proofs.YtmalklakaalaoaaGreatDoor.Sw
open Go.RowKit Go.Sx
-- pieces
theorem RowsH.slice {H : Fh} {v : Value} {rows : List RowD} (r : RowsH H v rows) : ∃ ad cap, v = .slice ad rows.length cap := by
  obtain ⟨xs, hx, _⟩ := r
  exact hx.slice
section
variable {P : Program} {ops : Array Oper} {rest : List Oper} {Q : Exit → Act → World → Prop} {a : Act} {n : Nat} {L : List (Nat × Value)} {W : World} {d : Nat} {T S E : TypeId} {p : String} {e : Array Edge} {x lo hi : Operand} {v : Value} {i j : Int} {q q' : IntKind} {z : List Value} {H : Fh} {rows : List RowD}
theorem st_rows_lh {agg : Bool} [sl : Sl P S E] [t : Ty P E agg z] (hs : Slots a n L) (r : RowsH H v rows) (h0 : 0 ≤ i) (h1 : i ≤ j) (h2 : j ≤ rows.length) (hx : ev L x = some v := by with_unfolding_all exact rfl) (hl : ev L lo = some (.int q i) := by with_unfolding_all exact rfl) (hh : ev L hi = some (.int q' j) := by with_unfolding_all exact rfl) (hd : Nat.blt d n = true := by with_unfolding_all exact rfl) (hz : z.length = 5 := by with_unfolding_all exact rfl)
    (c : ∀ a' v', RowsH H v' ((rows.drop i.toNat).take (j.toNat - i.toNat)) → Slots a' n ((d, v') :: L) → wpList P ops Q rest a' W) : wpList P ops Q (⟨some d, .slice S x (some lo) (some hi) none, T, p, e, none⟩ :: rest) a W := by
  obtain ⟨xs, hx0, hc⟩ := r
  refine st_sliceH_lh hs hx0 h0 h1 h2 hx hl hh hd hz fun a' v' h hs' => c a' v' ⟨_, ?_, (hc.drop RowIn.len i.toNat).take RowIn.len (j.toNat - i.toNat)⟩ hs'
  rw [List.length_take, List.length_drop, Nat.min_eq_left (by omega)]; exact h
end
end Go.Proofs.YtmalklakaalaoaaGreatDoor.Sw
