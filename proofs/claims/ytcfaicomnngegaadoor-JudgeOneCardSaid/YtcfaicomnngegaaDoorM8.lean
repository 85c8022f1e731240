/-
  Texts of the proof, one behind the other (part 8).
-/
import Derived.Test.YtcfaicomnngegaaDoorM7
import Derived.Laws.Small
/-
  Batches cut; the reference's All; the rows of batches.
-/
set_option linter.unusedVariables false
set_option maxRecDepth 10000
namespace Go.Sx
theorem ch_atH {α : Type} {Rr : α → List Value → Prop} {H : Fh} {sad : Option Addr} {scap n k : Nat} {l : List α} {xs : List Value} {i : Nat} {o : α} (hk : ∀ a c, Rr a c → c.length = k) (r : RdH H k (.slice sad n scap) n xs) (hc : Ch Rr l xs) (hn : l.length = n) (h : l[i]? = some o) :
    ∃ g off c, sad = some ⟨g, off, none⟩ ∧ Rr o c ∧ ∀ {G : Nat} {w0 W : World} {L : List Res}, In (Fz H) L → Has G w0 W L → ∀ j u, c[j]? = some u → W.cell? ⟨g, off + i * k + j, none⟩ = some u := by
  have hi : i < l.length := (List.getElem?_eq_some_iff.1 h).1
  obtain ⟨c, h1, h2, h3⟩ := hc.get hk h
  obtain ⟨_, ad, cap, e, h4, h5, h6⟩ := r
  injection e with e1 e2 e3
  subst e1
  rcases h6 with h6 | ⟨b, off, cs, T, z, rfl, hb, hcell⟩
  · omega
  · refine ⟨b, off, c, rfl, h1, fun {G w0 W L} hin hw j u hu => ?_⟩
    obtain ⟨F, hF, hfz⟩ := hw.of_in hin
    have hbl := (hfz b _ hb).2
    unfold World.cell?
    rw [hbl]
    rw [← h3, cut_eq, List.getElem?_take] at hu
    split at hu
    · rw [List.getElem?_drop] at hu
      have := hcell _ _ hu
      rw [← Nat.add_assoc] at this
      simpa using this
    · cases hu
end Go.Sx
namespace Go.Proofs.YtcfaicomnngegaaDoor.Sw
open Go.RowKit Go.Sx

structure BatWf (b : BatchD) : Prop where
  c : (Lit.int .i64 b.c).wf = true
  q : (Lit.int .i64 b.q).wf = true
  ops : ∀ o ∈ b.l, OpWf o
def cutB (b : BatchD) : BatchD := ⟨b.c, b.q, cutD b.l⟩
def batsB (l : List BatchD) (n : Nat) : List BatchD := (l.take n).map cutB
theorem cutB_ok {b : BatchD} (h : BatWf b) : BatOk (cutB b) := ⟨wf_i64 h.c, wf_i64 h.q, cutD_ok h.ops⟩
theorem batsB_ok {l : List BatchD} (h : ∀ b ∈ l, BatWf b) (n : Nat) : ∀ b ∈ batsB l n, BatOk b := by
  intro b hb
  obtain ⟨x, hx, rfl⟩ := List.mem_map.1 hb
  exact cutB_ok (h x (List.mem_of_mem_take hx))
/-- A slice of batches that is frozen. -/
def BatsH (H : Fh) (v : Value) (l : List BatchD) : Prop := ∃ xs, RdH H 3 v l.length xs ∧ Ch (BatIn H) l xs
theorem BatsH.le {H H' : Fh} {v : Value} {l : List BatchD} (h : H.le H') (r : BatsH H v l) : BatsH H' v l := by
  obtain ⟨xs, h1, h2⟩ := r
  exact ⟨xs, h1.le h, h2.mono (BatIn.le h)⟩

set_option maxHeartbeats 8000000 in
theorem law7_Batches (w0 W : World) (H : Fh) (l : List BatchD) (v : Value) (n : Nat) (R : List Res) (hn : n ≤ 1000) (hb : ∀ b ∈ l, BatWf b) (hr : BatsH H v l) (hw : Has 0 w0 W (Fz H :: R)) :
    Calls Tryd.prog 16 ⟨[v, .int .i64 (n : Int)]⟩ W fun e W' => ∃ v' H', e = .returned v' ∧ H.le H' ∧ BatsH H' v' (batsB l n) ∧ Has 0 w0 W' (Fz H' :: R) := by
  obtain ⟨xs, hr, hch⟩ := hr
  obtain ⟨sad, scap, rfl⟩ := hr.slice
  have hlen := hr.len
  refine enter Tryd.func16 Tryd.ntmps16 rfl rfl fun a hs => ?_
  repeat (first | (refine sxv hs hw ?_; clear hs; intro a hs) | refine sxc hs ?_ | (refine sxa hs hw ?_; clear hs hw; intro a b W hw hs) | (refine sxs hs hw ?_; clear hs hw; intro W hs hw))
  have hw := hw.nilOwn 33 3
  refine st_loop (σ := Nat × Option Addr × Nat × List Value × Fh) (fun t => [(0, .slice sad l.length scap), (1, .int .i64 (n : Int)), (6, .int .i64 (t.1 : Int)), (5, .slice t.2.1 (batsB l t.1).length t.2.2.1)]) (fun t => Sx.Own 33 3 (.slice t.2.1 (batsB l t.1).length t.2.2.1) (batsB l t.1).length t.2.2.2.1 :: Fz t.2.2.2.2 :: R) (fun t => t.1 ≤ l.length ∧ t.1 ≤ n ∧ H.le t.2.2.2.2 ∧ Ch (BatIn t.2.2.2.2) (batsB l t.1) t.2.2.2.1) (fun t => l.length - t.1) (0, none, 0, [], H) ⟨Nat.zero_le _, Nat.zero_le _, Fh.le.refl _, rfl⟩ hs ⟨rfl, rfl, rfl, rfl, trivial⟩ hw ?_
  clear hs hw
  rintro ⟨j, oad, ocap, ys, H'⟩ a W ⟨hj, hjn, hH', hch2⟩ hs hw
  simp only at hj hjn hH' hch2 hs hw
  have fin : batsB l j = batsB l n → ∀ (a : Act) (W : World), Slots a 27 [(5, .slice oad (batsB l j).length ocap)] → Has 0 w0 W (Sx.Own 33 3 (.slice oad (batsB l j).length ocap) (batsB l j).length ys :: Fz H' :: R) → ∃ H2, H.le H2 ∧ BatsH H2 (.slice oad (batsB l j).length ocap) (batsB l n) ∧ Has 0 w0 W (Fz H2 :: R) := by
    intro he a W hs hw
    obtain ⟨H2, h1, h2, h3⟩ := hw.freeze_own
    refine ⟨H2, hH'.trans h1, ⟨ys, he ▸ h3, he ▸ (hch2.mono (BatIn.le h1))⟩, h2⟩
  repeat (first | (refine sxv hs hw ?_; clear hs; intro a hs) | refine sxc hs ?_ | (refine sxa hs hw ?_; clear hs hw; intro a b W hw hs) | (refine sxs hs hw ?_; clear hs hw; intro W hs hw))
  cases hc1 : decide ((j : Int) < (l.length : Int)) with
  | false =>
    rw [hc1] at hs
    have hj' : j = l.length := by have := of_decide_eq_false hc1; omega
    repeat (first | (refine sxv hs hw ?_; clear hs; intro a hs) | refine sxc hs ?_ | (refine sxa hs hw ?_; clear hs hw; intro a b W hw hs) | (refine sxs hs hw ?_; clear hs hw; intro W hs hw))
    obtain ⟨H2, h1, h2, h3⟩ := fin (by unfold batsB; rw [List.take_of_length_le (by omega), List.take_of_length_le (by omega)]) a W (hs.of ⟨rfl, trivial⟩) hw
    exact rt1 hs rfl rfl ⟨_, H2, rfl, h1, h2, h3⟩
  | true =>
  rw [hc1] at hs
  have hj' : j < l.length := by have := of_decide_eq_true hc1; omega
  repeat (first | (refine sxv hs hw ?_; clear hs; intro a hs) | refine sxc hs ?_ | (refine sxa hs hw ?_; clear hs hw; intro a b W hw hs) | (refine sxs hs hw ?_; clear hs hw; intro W hs hw))
  cases hc2 : decide ((j : Int) < (n : Int)) with
  | false =>
    rw [hc2] at hs
    have hjn' : j = n := by have := of_decide_eq_false hc2; omega
    repeat (first | (refine sxv hs hw ?_; clear hs; intro a hs) | refine sxc hs ?_ | (refine sxa hs hw ?_; clear hs hw; intro a b W hw hs) | (refine sxs hs hw ?_; clear hs hw; intro W hs hw))
    obtain ⟨H2, h1, h2, h3⟩ := fin (by rw [hjn']) a W (hs.of ⟨rfl, trivial⟩) hw
    exact rt1 hs rfl rfl ⟨_, H2, rfl, h1, h2, h3⟩
  | true =>
  rw [hc2] at hs
  have hjn' : j < n := by have := of_decide_eq_true hc2; omega
  clear fin
  obtain ⟨bt, hbi⟩ : ∃ o, l[j]? = some o := ⟨l[j], List.getElem?_eq_getElem hj'⟩
  have hok := hb bt (List.mem_of_getElem? hbi)
  have hnext : batsB l (j + 1) = batsB l j ++ [cutB bt] := by
    unfold batsB
    rw [take_of hbi, List.map_append]; rfl
  have htk : (batsB l j).length ≤ 1000 := by unfold batsB; rw [List.length_map, List.length_take]; omega
  repeat (first | (refine sxv hs hw ?_; clear hs; intro a hs) | refine sxc hs ?_ | (refine sxa hs hw ?_; clear hs hw; intro a b W hw hs) | (refine sxs hs hw ?_; clear hs hw; intro W hs hw))
  refine st_index_ch hs (r := hw.rdH (by repeat (first | exact In.hd | apply In.tl)) (hr.le hH')) (hk := BatIn.len) (ch := hch.mono (BatIn.le hH')) (ho := hbi) (hlen := rfl) (c := ?_); clear hs; intro a g off c hc hcl hpc hlt hs
  obtain ⟨bv, rfl, hbv⟩ := hc
  refine st_load_ats hs (cs := batCells bt bv) (hc := hpc) (hl := by rfl) (c := ?_); clear hs; intro a hs
  clear hpc
  refine st_call hs (hc := law5_CutBatch bt.c bt.q bt.l bv _ (wf_sizes hok.ops) (hw.rdH (by repeat (first | exact In.hd | apply In.tl)) hbv)) (k := ?_); rintro e0 W1 ⟨nad, ncap, rfl, hw1⟩; refine ⟨_, rfl, ?_⟩; clear hs; intro a hs; replace hw := hw.call hw1; clear hw1
  have hw : Has 0 w0 _ (Sx.Own 56 9 (.slice nad (cutD bt.l).length ncap) (cutD bt.l).length ((cutD bt.l).flatMap opCells) :: Fz H' :: Sx.Own 33 3 (.slice oad (batsB l j).length ocap) (batsB l j).length ys :: R) := hw.perm (by repeat (first | exact List.Perm.refl _ | refine perm_pick (by repeat (first | exact Pick.hd | apply Pick.tl)) ?_))
  obtain ⟨H2, hle, hw, hnv⟩ := hw.freeze_own
  repeat (first | (refine sxv hs hw ?_; clear hs; intro a hs) | refine sxc hs ?_ | (refine sxa hs hw ?_; clear hs hw; intro a b W hw hs) | (refine sxs hs hw ?_; clear hs hw; intro W hs hw))
  obtain ⟨bx, qx⟩ := nm1 hw; subst qx
  have hw : Has 0 w0 _ (Sx.Own 33 3 (.slice oad (batsB l j).length ocap) (batsB l j).length ys :: Cells bx (batCells (cutB bt) (.slice nad (cutD bt.l).length ncap)) 33 :: Fz H2 :: R) := hw.perm (by repeat (first | exact List.Perm.refl _ | refine perm_pick (by repeat (first | exact Pick.hd | apply Pick.tl)) ?_))
  refine st_append1 hs (hw := hw) (hi := In.hd) (ch := hch2.mono (BatIn.le hle)) (ha := (⟨_, rfl, hnv⟩ : BatIn H2 (cutB bt) (batCells (cutB bt) (.slice nad (cutD bt.l).length ncap)))) (hl := rfl) (h1 := rfl) (hb := by omega) (h63 := by omega) (k := ?_)
  clear hs hw; intro a ad2 cap2 W hs hw hc2
  rw [← hnext] at hs hw hc2
  repeat (first | (refine sxv hs hw ?_; clear hs; intro a hs) | refine sxc hs ?_ | (refine sxa hs hw ?_; clear hs hw; intro a b W hw hs) | (refine sxs hs hw ?_; clear hs hw; intro W hs hw))
  exact st_again (j + 1, ad2, cap2, ys ++ batCells (cutB bt) (.slice nad (cutD bt.l).length ncap), H2) hs hw.drop2 ⟨hj', hjn', hH'.trans hle, hc2⟩ (by show l.length - (j + 1) < l.length - j; omega) ⟨rfl, rfl, int_eq (by show IntKind.i64.wrap ((j : Int) + 1) = ((j + 1 : Nat) : Int); rw [IntWalk.i64_in _ (by omega)]; omega), rfl, trivial⟩

abbrev zrf : List Value := [.int .i64 0, .slice none 0 0, .int .i64 0, .int .i64 0, .int .i64 0, .int .i64 0, .int .i64 0, .int .i64 0, .int .i64 0, .int .i64 0, .int .i64 0, .slice none 0 0, .int .i64 0, .int .i64 0, .int .i64 0, .int .i64 0, .slice none 0 0, .int .i64 0, .int .i64 0, .int .i64 0, .int .i64 0, .slice none 0 0, .int .i64 0, .int .i64 0, .int .i64 0, .int .i64 0, .slice none 0 0, .int .i64 0, .int .i64 0, .int .i64 0, .int .i64 0, .slice none 0 0, .int .i64 0, .int .i64 0, .int .i64 0, .int .i64 0, .slice none 0 0, .int .i64 0]
theorem rf_empty (H : Fh) : RfIn H emptyF zrf := by
  have z : ToRow H (0, zeroRow) zrc := ⟨_, rfl, ops_nil H⟩
  have y : NumIn (0, zeroRow) [.int .i64 0] := rfl
  refine ⟨.slice none 0 0, List.replicate 6 (.int .i64 0), zrc ++ (zrc ++ (zrc ++ (zrc ++ (zrc ++ (zrc ++ []))))), by with_unfolding_all exact rfl, RdH.nil H 4 0 (by omega), rfl, ?_, ?_⟩
  · exact ⟨_, _, rfl, y, _, _, rfl, y, _, _, rfl, y, _, _, rfl, y, _, _, rfl, y, _, _, rfl, y, rfl⟩
  · exact ⟨_, _, rfl, z, _, _, rfl, z, _, _, rfl, z, _, _, rfl, z, _, _, rfl, z, _, _, rfl, z, rfl⟩
/-- The fold of batches, and the rows of those that came next. -/
def allF (f : FoldD) (rows : List RowD) : List BatchD → FoldD × List RowD
  | [] => (f, rows)
  | b :: l => match (next f b).2.2 with | true => allF (next f b).1 (rows ++ [(next f b).2.1]) l | false => allF f rows l
theorem next_doc {f : FoldD} {b : BatchD} (h : DocOk f.d) (hb : BatOk b) : DocOk (next f b).1.d := by
  unfold next
  cases nextB f b with
  | true => exact applyL_ok h hb.ops
  | false => exact h
theorem next_no {f : FoldD} {b : BatchD} (h : (next f b).2.2 = false) : (next f b).1 = f := by
  unfold next at *
  cases hb : nextB f b with
  | true => rw [hb] at h; cases h
  | false => rfl

set_option maxHeartbeats 16000000 in
theorem ref7_All (w0 W : World) (H : Fh) (l : List BatchD) (v : Value) (R : List Res) (hl : l.length ≤ 1000) (hb : ∀ b ∈ l, BatOk b) (hr : BatsH H v l) (hw : Has 0 w0 W (Fz H :: R)) :
    Calls Tryd.prog 19 ⟨[v]⟩ W fun e W' => ∃ cs ad cap ys H', e = .returned (.tuple ⟨[.agg ⟨cs⟩, .slice ad (allF emptyF [] l).2.length cap]⟩) ∧ H.le H' ∧ RfIn H' (allF emptyF [] l).1 cs ∧ Ch (RowIn H') (allF emptyF [] l).2 ys ∧ Has 0 w0 W' (Sx.Own 36 5 (.slice ad (allF emptyF [] l).2.length cap) (allF emptyF [] l).2.length ys :: Fz H' :: R) := by
  obtain ⟨xs, hr, hch⟩ := hr
  obtain ⟨sad, scap, rfl⟩ := hr.slice
  have hlen := hr.len
  refine enter Tryd.func19 Tryd.ntmps19 rfl rfl fun a hs => ?_
  repeat (first | (refine sxv hs hw ?_; clear hs; intro a hs) | refine sxc hs ?_ | (refine sxa hs hw ?_; clear hs hw; intro a b W hw hs) | (refine sxs hs hw ?_; clear hs hw; intro W hs hw))
  have hw := hw.nilOwn 36 5
  obtain ⟨b4, q4⟩ := nm2 hw; subst q4
  obtain ⟨b2, q2⟩ := nm3 hw; subst q2
  replace hw : Has 0 w0 W (Sx.Own 36 5 (.slice none 0 0) 0 [] :: Cells b4 zrf 45 :: Cells b2 zrf 45 :: Fz H :: R) := by with_unfolding_all exact hw
  refine st_loop (σ := Nat × FoldD × List Value × List RowD × Option Addr × Nat × List Value × Fh) (fun t => [(0, .slice sad l.length scap), (2, .pointer (some ⟨b2, 0, none⟩)), (4, .pointer (some ⟨b4, 0, none⟩)), (6, .int .i64 (t.1 : Int)), (5, .slice t.2.2.2.2.1 t.2.2.2.1.length t.2.2.2.2.2.1)]) (fun t => Sx.Own 36 5 (.slice t.2.2.2.2.1 t.2.2.2.1.length t.2.2.2.2.2.1) t.2.2.2.1.length t.2.2.2.2.2.2.1 :: Cells b4 t.2.2.1 45 :: Cells b2 zrf 45 :: Fz t.2.2.2.2.2.2.2 :: R) (fun t => t.1 ≤ l.length ∧ t.2.2.2.1.length ≤ t.1 ∧ DocOk t.2.1.d ∧ H.le t.2.2.2.2.2.2.2 ∧ RfIn t.2.2.2.2.2.2.2 t.2.1 t.2.2.1 ∧ Ch (RowIn t.2.2.2.2.2.2.2) t.2.2.2.1 t.2.2.2.2.2.2.1 ∧ allF t.2.1 t.2.2.2.1 (l.drop t.1) = allF emptyF [] l) (fun t => l.length - t.1) (0, emptyF, zrf, [], none, 0, [], H) ⟨Nat.zero_le _, Nat.zero_le _, DocOk.nil, Fh.le.refl _, rf_empty H, rfl, rfl⟩ hs ⟨rfl, rfl, rfl, rfl, rfl, trivial⟩ hw ?_
  clear hs hw
  rintro ⟨j, f, cs, rows, oad, ocap, ys, H'⟩ a W ⟨hj, hrl, hd, hH', hf, hch2, hgo⟩ hs hw
  simp only at hj hrl hd hH' hf hch2 hgo hs hw
  have hlen0 := hf.len
  have hone0 := hf.one
  repeat (first | (refine sxv hs hw ?_; clear hs; intro a hs) | refine sxc hs ?_ | (refine sxa hs hw ?_; clear hs hw; intro a b W hw hs) | (refine sxs hs hw ?_; clear hs hw; intro W hs hw))
  refine cd_split hs (kt := fun hcc => ?_) (kf := fun hcc => ?_)
  · have hj' : j < l.length := by simpa using hcc
    obtain ⟨bt, hbi⟩ : ∃ o, l[j]? = some o := ⟨l[j], List.getElem?_eq_getElem hj'⟩
    have hok := hb bt (List.mem_of_getElem? hbi)
    rw [drop_of hbi] at hgo
    simp only [allF] at hgo
    obtain ⟨g1, f1, c1, rfl, ⟨bv, rfl, hbv⟩, hrow⟩ := ch_atH BatIn.len (hr.le hH') (hch.mono (BatIn.le hH')) rfl hbi
    obtain ⟨N, hN⟩ : ∃ N, next f bt = N := ⟨_, rfl⟩
    have hdn := next_doc hd hok
    have hno := fun h => next_no (f := f) (b := bt) h
    rw [hN] at hgo hdn hno
    repeat (first | (refine sxv hs hw ?_; clear hs; intro a hs) | refine sxc hs ?_ | (refine sxa hs hw ?_; clear hs hw; intro a b W hw hs) | (refine sxs hs hw ?_; clear hs hw; intro W hs hw))
    have hw : Has 0 w0 W (Fz H' :: Cells b4 cs 45 :: Free :: Free :: Free :: Free :: Free :: Sx.Own 36 5 (.slice oad rows.length ocap) rows.length ys :: Cells b2 zrf 45 :: R) := (hw.free.free.free.free.free).perm (by repeat (first | exact List.Perm.refl _ | refine perm_pick (by repeat (first | exact Pick.hd | apply Pick.tl)) ?_))
    refine rg_drawU (σ := List Value × Value × Fh × Nat) (V := fun u => [.agg ⟨cs⟩, .slice (some ⟨g1, f1, none⟩) l.length scap, .int .i64 (j : Int), .pointer (some ⟨g1, f1 + j * 3, none⟩), .agg ⟨batCells bt bv⟩, .tuple ⟨[.agg ⟨(u 5).1⟩, .agg ⟨rowCells N.2.1 (u 5).2.1⟩, .bool N.2.2]⟩, .tuple ⟨[.agg ⟨(u 6).1⟩, .agg ⟨rowCells N.2.1 (u 6).2.1⟩, .bool N.2.2]⟩, .agg ⟨(u 7).1⟩, .agg ⟨rowCells N.2.1 (u 8).2.1⟩, .bool N.2.2, .pointer (some ⟨(u 10).2.2.2, 0, none⟩), .pointer (some ⟨(u 11).2.2.2, 0, none⟩), .bool true, .bool true, .bool N.2.2])
      (Rs := fun u D => (if D 5 then FzF (u 5).2.2.1 (H'.le (u 5).2.2.1 ∧ RfIn (u 5).2.2.1 N.1 (u 5).1 ∧ OpsH (u 5).2.2.1 (u 5).2.1 N.2.1.b.l) else Fz H') :: Cells b4 cs 45 :: (if D 10 then Cells (u 10).2.2.2 (if D 12 then (u 5).1 else zrf) 45 else Free) :: (if D 11 then Cells (u 11).2.2.2 (if D 13 then rowCells N.2.1 (u 5).2.1 else zrc) 36 else Free) :: (if D 6 then Fact (u 6 = u 5) else Free) :: (if D 7 then Fact (u 7 = u 6) else Free) :: (if D 8 then Fact (u 8 = u 6) else Free) :: Sx.Own 36 5 (.slice oad rows.length ocap) rows.length ys :: Cells b2 zrf 45 :: R) (fun _ => ([], .nilIface, H, 0)) hs hw (hVu := ?vu_6) (ho := ⟨?c0_6, ?_, ?_, ?c3_6, ?c4_6, ?c5_6, ?c6_6, ?c7_6, ?c8_6, ?_, ?c10_6, ?c11_6, ?c12_6, ?c13_6, ?_, trivial⟩) (k := ?k_6)
    case vu_6 =>
      intro u u' j h
      rcases j with _ | _ | _ | _ | _ | _ | _ | _ | _ | _ | _ | _ | _ | _ | _ | j
      all_goals first | rfl | simp [h] | skip
    case c0_6 =>
      intro u LD D a W hcl hi hp hs hw
      refine st_load_agg hs (hw := hw) (hi := In.tl In.hd) (hl := by rw [hlen0]; rfl) (k := ?_); clear hs; intro a hs
      have hs2 : Slots a 35 ((18, .agg ⟨cut cs 0 38⟩) :: _) := hs
      rw [cut_all _ _ hlen0] at hs2
      repeat (first | (refine sxv hs hw ?_; clear hs; intro a hs) | refine sxc hs ?_ | (refine sxa hs hw ?_; clear hs hw; intro a b W hw hs) | (refine sxs hs hw ?_; clear hs hw; intro W hs hw))
      exact Or.inl ⟨hs2, hw⟩
    case c3_6 =>
      intro u LD D a W hcl hi hp hs hw
      refine st_index_at hs (z := [.int .i64 0, .int .i64 0, .slice none 0 0]) (h0 := by omega) (h1 := by omega) (c := ?_); clear hs; intro a hs
      repeat (first | (refine sxv hs hw ?_; clear hs; intro a hs) | refine sxc hs ?_ | (refine sxa hs hw ?_; clear hs hw; intro a b W hw hs) | (refine sxs hs hw ?_; clear hs hw; intro W hs hw))
      exact Or.inl ⟨hs, hw⟩
    case c4_6 =>
      intro u LD D a W hcl hi hp hs hw
      have h5 := Go.Sx.not_done hcl hi 5 (by kernel_rfl)
      have hw0 := hw
      simp only [h5, Bool.false_eq_true, if_false] at hw
      refine st_load_ats hs (z := [.int .i64 0, .int .i64 0, .slice none 0 0]) (cs := batCells bt bv) (hc := fun j u h => hrow In.hd hw j u h) (hl := rfl) (c := ?_); clear hs; intro a hs
      repeat (first | (refine sxv hs hw ?_; clear hs; intro a hs) | refine sxc hs ?_ | (refine sxa hs hw ?_; clear hs hw; intro a b W hw hs) | (refine sxs hs hw ?_; clear hs hw; intro W hs hw))
      exact Or.inl ⟨hs, hw0⟩
    case c5_6 =>
      intro u LD D a W hcl hi hp hs hw
      have h12 := Go.Sx.not_done hcl (Go.Sx.not_done hcl (Go.Sx.not_done hcl hi 6 (by kernel_rfl)) 7 (by kernel_rfl)) 12 (by kernel_rfl)
      have h13 := Go.Sx.not_done hcl (Go.Sx.not_done hcl (Go.Sx.not_done hcl hi 6 (by kernel_rfl)) 8 (by kernel_rfl)) 13 (by kernel_rfl)
      have h6 := Go.Sx.not_done hcl hi 6 (by kernel_rfl)
      simp only [hi, h6, h12, h13, Bool.false_eq_true, if_false] at hw
      refine st_call hs (hc := ref7_Next w0 _ H' f bt cs bv _ hf hd hok hbv hw) (k := ?_); rw [hN]; rintro e0 W1 ⟨cs', sv', H2, rfl, hle, hf2, hsv, hw1⟩; refine ⟨_, rfl, ?_⟩; clear hs hw; intro a hs; have hw := hw1; clear hw1
      repeat (first | (refine sxv hs hw ?_; clear hs; intro a hs) | refine sxc hs ?_ | (refine sxa hs hw ?_; clear hs hw; intro a b W hw hs) | (refine sxs hs hw ?_; clear hs hw; intro W hs hw))
      refine Or.inr ⟨(cs', sv', H2, 0), hs, ?_⟩
      have hw := hw.fzf (q := H'.le H2 ∧ RfIn H2 N.1 cs' ∧ OpsH H2 sv' N.2.1.b.l) ⟨hle, hf2, hsv⟩
      show Has 0 w0 _ (_ :: _ :: (if D 10 then Cells (u 10).2.2.2 (if (Nat.beq 12 5 || D 12) = true then _ else _) _ else Free) :: (if D 11 then Cells (u 11).2.2.2 (if (Nat.beq 13 5 || D 13) = true then _ else _) _ else Free) :: (if (Nat.beq 6 5 || D 6) = true then _ else _) :: _)
      rw [h6, h12, h13]
      exact hw
    case c6_6 =>
      intro u LD D a W hcl hi hp hs hw
      have h7 := Go.Sx.not_done hcl hi 7 (by kernel_rfl)
      have h8 := Go.Sx.not_done hcl hi 8 (by kernel_rfl)
      simp only [hi, h7, h8, Bool.false_eq_true, if_false] at hw
      repeat (first | (refine sxv hs hw ?_; clear hs; intro a hs) | refine sxc hs ?_ | (refine sxa hs hw ?_; clear hs hw; intro a b W hw hs) | (refine sxs hs hw ?_; clear hs hw; intro W hs hw))
      refine Or.inr ⟨u 5, hs, ?_⟩
      show Has 0 w0 _ (_ :: _ :: _ :: _ :: Fact (u 5 = u 5) :: (if (Nat.beq 7 6 || D 7) = true then _ else _) :: (if (Nat.beq 8 6 || D 8) = true then _ else _) :: _)
      rw [h7, h8]
      exact (hw.fact rfl).fill (Upd.tl (Upd.tl (Upd.tl (Upd.tl Upd.hd))))
    case c7_6 =>
      intro u LD D a W hcl hi hp hs hw
      have h12 := Go.Sx.not_done hcl hi 12 (by kernel_rfl)
      simp only [hi, Bool.false_eq_true, if_false] at hw
      repeat (first | (refine sxv hs hw ?_; clear hs; intro a hs) | refine sxc hs ?_ | (refine sxa hs hw ?_; clear hs hw; intro a b W hw hs) | (refine sxs hs hw ?_; clear hs hw; intro W hs hw))
      refine Or.inr ⟨u 6, hs, ?_⟩
      show Has 0 w0 _ (_ :: _ :: _ :: _ :: _ :: Fact (u 6 = u 6) :: _)
      exact (hw.fact rfl).fill (Upd.tl (Upd.tl (Upd.tl (Upd.tl (Upd.tl Upd.hd)))))
    case c8_6 =>
      intro u LD D a W hcl hi hp hs hw
      simp only [hi, Bool.false_eq_true, if_false] at hw
      repeat (first | (refine sxv hs hw ?_; clear hs; intro a hs) | refine sxc hs ?_ | (refine sxa hs hw ?_; clear hs hw; intro a b W hw hs) | (refine sxs hs hw ?_; clear hs hw; intro W hs hw))
      refine Or.inr ⟨u 6, hs, ?_⟩
      show Has 0 w0 _ (_ :: _ :: _ :: _ :: _ :: _ :: Fact (u 6 = u 6) :: _)
      exact (hw.fact rfl).fill (Upd.tl (Upd.tl (Upd.tl (Upd.tl (Upd.tl (Upd.tl Upd.hd))))))
    case c10_6 =>
      intro u LD D a W hcl hi hp hs hw
      have h12 := Go.Sx.not_done hcl hi 12 (by kernel_rfl)
      simp only [hi, Bool.false_eq_true, if_false] at hw
      repeat (first | (refine sxv hs hw ?_; clear hs; intro a hs) | refine sxc hs ?_ | (refine sxa hs hw ?_; clear hs hw; intro a b W hw hs) | (refine sxs hs hw ?_; clear hs hw; intro W hs hw))
      refine Or.inr ⟨([], .nilIface, H, _), hs, ?_⟩
      show Has 0 w0 _ (_ :: _ :: Cells _ (if (Nat.beq 12 10 || D 12) = true then _ else _) _ :: _ :: _)
      rw [h12]
      exact hw.fill (Upd.tl (Upd.tl Upd.hd))
    case c11_6 =>
      intro u LD D a W hcl hi hp hs hw
      have h13 := Go.Sx.not_done hcl hi 13 (by kernel_rfl)
      simp only [hi, Bool.false_eq_true, if_false] at hw
      repeat (first | (refine sxv hs hw ?_; clear hs; intro a hs) | refine sxc hs ?_ | (refine sxa hs hw ?_; clear hs hw; intro a b W hw hs) | (refine sxs hs hw ?_; clear hs hw; intro W hs hw))
      refine Or.inr ⟨([], .nilIface, H, _), hs, ?_⟩
      show Has 0 w0 _ (_ :: _ :: _ :: Cells _ (if (Nat.beq 13 11 || D 13) = true then _ else _) _ :: _)
      rw [h13]
      exact hw.fill (Upd.tl (Upd.tl (Upd.tl Upd.hd)))
    case c12_6 =>
      intro u LD D a W hcl hi hp hs hw
      have h7 := Go.Sx.done hp 7 (by kernel_rfl)
      have h10 := Go.Sx.done hp 10 (by kernel_rfl)
      have h6 := Go.Sx.done (hcl 7 _ rfl h7) 6 (by kernel_rfl)
      have h5 := Go.Sx.done (hcl 6 _ rfl h6) 5 (by kernel_rfl)
      have e1 : (if D 7 = true then Fact (u 7 = u 6) else Free) = Fact (u 7 = u 6) := by rw [h7]; rfl
      have e2 : (if D 6 = true then Fact (u 6 = u 5) else Free) = Fact (u 6 = u 5) := by rw [h6]; rfl
      have g7 : u 7 = u 5 := by
        have hw2 := hw
        simp only [e1, e2] at hw2
        exact (hw2.told (In.tl (In.tl (In.tl (In.tl (In.tl In.hd)))))).trans (hw2.told (In.tl (In.tl (In.tl (In.tl In.hd)))))
      simp only [hi, h5, h10, Bool.false_eq_true, if_false, if_true] at hw
      obtain ⟨⟨_, hf2, _⟩, _⟩ := hw.unfzf
      rw [← g7] at hf2
      refine st_store hs (vs := (u 7).1) (hw := hw) (hz := by rw [hf2.len]; rfl) (h1 := hf2.one) (hl := by rw [hf2.len]; rfl) (k := ?_); clear hs hw; intro W hs hw
      rw [ov_all _ _ (by rw [hf2.len]; rfl)] at hw
      rw [show (u 7).1 = (u 5).1 from by rw [g7]] at hw
      repeat (first | (refine sxv hs hw ?_; clear hs; intro a hs) | refine sxc hs ?_ | (refine sxa hs hw ?_; clear hs hw; intro a b W hw hs) | (refine sxs hs hw ?_; clear hs hw; intro W hs hw))
      refine Or.inl ⟨hs, ?_⟩
      show Has 0 w0 _ ((if (Nat.beq 5 12 || D 5) = true then _ else _) :: _ :: (if (Nat.beq 10 12 || D 10) = true then _ else _) :: _ :: _)
      rw [h5, h10]
      exact hw
    case c13_6 =>
      intro u LD D a W hcl hi hp hs hw
      have h8 := Go.Sx.done hp 8 (by kernel_rfl)
      have h11 := Go.Sx.done hp 11 (by kernel_rfl)
      have h6 := Go.Sx.done (hcl 8 _ rfl h8) 6 (by kernel_rfl)
      have h5 := Go.Sx.done (hcl 6 _ rfl h6) 5 (by kernel_rfl)
      have e1 : (if D 8 = true then Fact (u 8 = u 6) else Free) = Fact (u 8 = u 6) := by rw [h8]; rfl
      have e2 : (if D 6 = true then Fact (u 6 = u 5) else Free) = Fact (u 6 = u 5) := by rw [h6]; rfl
      have g8 : u 8 = u 5 := by
        have hw2 := hw
        simp only [e1, e2] at hw2
        exact (hw2.told (In.tl (In.tl (In.tl (In.tl (In.tl (In.tl In.hd))))))).trans (hw2.told (In.tl (In.tl (In.tl (In.tl In.hd)))))
      simp only [hi, h5, h11, Bool.false_eq_true, if_false, if_true] at hw
      obtain ⟨⟨_, _, hsv⟩, _⟩ := hw.unfzf
      obtain ⟨tad, tcap, e13⟩ := hsv.slice
      refine st_store hs (hw := hw) (vs := rowCells N.2.1 (u 8).2.1) (h1 := by rw [g8, e13]; rfl) (k := ?_); clear hs hw; intro W hs hw
      rw [show (u 8).2.1 = (u 5).2.1 from by rw [g8]] at hw
      repeat (first | (refine sxv hs hw ?_; clear hs; intro a hs) | refine sxc hs ?_ | (refine sxa hs hw ?_; clear hs hw; intro a b W hw hs) | (refine sxs hs hw ?_; clear hs hw; intro W hs hw))
      refine Or.inl ⟨hs, ?_⟩
      show Has 0 w0 _ ((if (Nat.beq 5 13 || D 5) = true then _ else _) :: _ :: _ :: (if (Nat.beq 11 13 || D 11) = true then _ else _) :: _)
      rw [h5, h11]
      exact hw
    case k_6 =>
      clear hs hw
      intro u a W hs hw
      replace hw : Has 0 w0 W (FzF (u 5).2.2.1 (H'.le (u 5).2.2.1 ∧ RfIn (u 5).2.2.1 N.1 (u 5).1 ∧ OpsH (u 5).2.2.1 (u 5).2.1 N.2.1.b.l) :: Cells b4 cs 45 :: Cells (u 10).2.2.2 (u 5).1 45 :: Cells (u 11).2.2.2 (rowCells N.2.1 (u 5).2.1) 36 :: Fact (u 6 = u 5) :: Fact (u 7 = u 6) :: Fact (u 8 = u 6) :: Sx.Own 36 5 (.slice oad rows.length ocap) rows.length ys :: Cells b2 zrf 45 :: R) := hw
      replace hw := hw.sub (L' := FzF (u 5).2.2.1 (H'.le (u 5).2.2.1 ∧ RfIn (u 5).2.2.1 N.1 (u 5).1 ∧ OpsH (u 5).2.2.1 (u 5).2.1 N.2.1.b.l) :: Cells b4 cs 45 :: Cells (u 10).2.2.2 (u 5).1 45 :: Cells (u 11).2.2.2 (rowCells N.2.1 (u 5).2.1) 36 :: Sx.Own 36 5 (.slice oad rows.length ocap) rows.length ys :: Cells b2 zrf 45 :: R) (List.Sublist.cons_cons _ (List.Sublist.cons_cons _ (List.Sublist.cons_cons _ (List.Sublist.cons_cons _ (List.Sublist.cons _ (List.Sublist.cons _ (List.Sublist.cons _ (List.Sublist.refl _))))))))
      replace hs : Slots a 35 [(0, .slice (some ⟨g1, f1, none⟩) l.length scap), (2, .pointer (some ⟨b2, 0, none⟩)), (4, .pointer (some ⟨b4, 0, none⟩)), (6, .int .i64 (j : Int)), (5, .slice oad rows.length ocap), (7, .pointer (some ⟨(u 10).2.2.2, 0, none⟩)), (8, .pointer (some ⟨(u 11).2.2.2, 0, none⟩)), (9, .bool N.2.2)] := hs.of ⟨rfl, rfl, rfl, rfl, rfl, rfl, rfl, rfl, trivial⟩
      generalize (u 10).2.2.2 = b7 at *
      generalize (u 11).2.2.2 = b8 at *
      generalize (u 5).2.2.1 = H2 at *
      generalize (u 5).2.1 = sv2 at *
      generalize (u 5).1 = cs2 at *
      clear u
      obtain ⟨⟨hle, hf2, hsv⟩, hw⟩ := hw.unfzf
      have hlen2 := hf2.len
      have hone2 := hf2.one
      obtain ⟨uad, ucap, rfl⟩ := hsv.slice
      have hw : Has 0 w0 W (Sx.Own 36 5 (.slice oad rows.length ocap) rows.length ys :: Cells b4 cs 45 :: Cells b2 zrf 45 :: Fz H2 :: Cells b7 cs2 45 :: Cells b8 (rowCells N.2.1 (.slice uad N.2.1.b.l.length ucap)) 36 :: R) := hw.perm (by repeat (first | exact List.Perm.refl _ | refine perm_pick (by repeat (first | exact Pick.hd | apply Pick.tl)) ?_))
      repeat (first | (refine sxv hs hw ?_; clear hs; intro a hs) | refine sxc hs ?_ | (refine sxa hs hw ?_; clear hs hw; intro a b W hw hs) | (refine sxs hs hw ?_; clear hs hw; intro W hs hw))
      cases hok2 : N.2.2 with
      | false =>
        rw [hok2] at hs hgo
        have hNf := hno hok2
        rw [hNf] at hf2
        repeat (first | (refine sxv hs hw ?_; clear hs; intro a hs) | refine sxc hs ?_ | (refine sxa hs hw ?_; clear hs hw; intro a b W hw hs) | (refine sxs hs hw ?_; clear hs hw; intro W hs hw))
        have hw := hw.sub (L' := Sx.Own 36 5 (.slice oad rows.length ocap) rows.length ys :: Cells b4 cs 45 :: Cells b2 zrf 45 :: Fz H2 :: R) (List.Sublist.cons_cons _ (List.Sublist.cons_cons _ (List.Sublist.cons_cons _ (List.Sublist.cons_cons _ (List.Sublist.cons _ (List.Sublist.cons _ (List.Sublist.refl _)))))))
        exact st_again (j + 1, f, cs, rows, oad, ocap, ys, H2) hs hw ⟨hj', by show rows.length ≤ j + 1; omega, hd, hH'.trans hle, hf.le hle, hch2.mono (RowIn.le hle), hgo⟩ (by show l.length - (j + 1) < l.length - j; omega) ⟨rfl, rfl, rfl, int_eq (by show IntKind.i64.wrap ((j : Int) + 1) = ((j + 1 : Nat) : Int); rw [IntWalk.i64_in _ (by omega)]; omega), rfl, trivial⟩
      | true =>
        rw [hok2] at hs hgo
        repeat (first | (refine sxv hs hw ?_; clear hs; intro a hs) | refine sxc hs ?_ | (refine sxa hs hw ?_; clear hs hw; intro a b W hw hs) | (refine sxs hs hw ?_; clear hs hw; intro W hs hw))
        refine st_load_agg hs (hw := hw) (hi := In.tl (In.tl (In.tl (In.tl In.hd)))) (hl := by rw [hlen2]; rfl) (k := ?_); clear hs; intro a hs
        have hs2 : Slots a 35 ((28, .agg ⟨cut cs2 0 38⟩) :: _) := hs
        rw [cut_all _ _ hlen2] at hs2
        clear hs
        have hs := hs2
        clear hs2
        refine st_store hs (vs := cs2) (hw := hw) (hz := by rw [hlen2]; rfl) (h1 := hone2) (hl := by rw [hlen2, hlen0]; rfl) (k := ?_); clear hs hw; intro W hs hw
        rw [ov_all _ _ (by rw [hlen2, hlen0])] at hw
        repeat (first | (refine sxv hs hw ?_; clear hs; intro a hs) | refine sxc hs ?_ | (refine sxa hs hw ?_; clear hs hw; intro a b W hw hs) | (refine sxs hs hw ?_; clear hs hw; intro W hs hw))
        obtain ⟨bx, qx⟩ := nm1 hw; subst qx
        have hw : Has 0 w0 _ (Sx.Own 36 5 (.slice oad rows.length ocap) rows.length ys :: Cells bx (rowCells N.2.1 (.slice uad N.2.1.b.l.length ucap)) 36 :: Cells b4 cs2 45 :: Cells b2 zrf 45 :: Fz H2 :: Cells b7 cs2 45 :: Cells b8 (rowCells N.2.1 (.slice uad N.2.1.b.l.length ucap)) 36 :: R) := hw.perm (by repeat (first | exact List.Perm.refl _ | refine perm_pick (by repeat (first | exact Pick.hd | apply Pick.tl)) ?_))
        refine st_append1 hs (hw := hw) (hi := In.hd) (ch := hch2.mono (RowIn.le hle)) (ha := (⟨_, rfl, hsv⟩ : RowIn H2 N.2.1 (rowCells N.2.1 (.slice uad N.2.1.b.l.length ucap)))) (hl := rfl) (h1 := rfl) (hb := by omega) (h63 := by omega) (k := ?_)
        clear hs hw; intro a ad2 cap2 W hs hw hc2
        repeat (first | (refine sxv hs hw ?_; clear hs; intro a hs) | refine sxc hs ?_ | (refine sxa hs hw ?_; clear hs hw; intro a b W hw hs) | (refine sxs hs hw ?_; clear hs hw; intro W hs hw))
        have hw := hw.sub (L' := Sx.Own 36 5 (.slice ad2 (rows ++ [N.2.1]).length cap2) (rows ++ [N.2.1]).length (ys ++ rowCells N.2.1 (.slice uad N.2.1.b.l.length ucap)) :: Cells b4 cs2 45 :: Cells b2 zrf 45 :: Fz H2 :: R) (List.Sublist.cons_cons _ (List.Sublist.cons _ (List.Sublist.cons_cons _ (List.Sublist.cons_cons _ (List.Sublist.cons_cons _ (List.Sublist.cons _ (List.Sublist.cons _ (List.Sublist.refl _))))))))
        exact st_again (j + 1, N.1, cs2, rows ++ [N.2.1], ad2, cap2, ys ++ rowCells N.2.1 (.slice uad N.2.1.b.l.length ucap), H2) hs hw ⟨hj', by show (rows ++ [N.2.1]).length ≤ j + 1; rw [List.length_append]; show rows.length + 1 ≤ j + 1; omega, hdn, hH'.trans hle, hf2, hc2, hgo⟩ (by show l.length - (j + 1) < l.length - j; omega) ⟨rfl, rfl, rfl, int_eq (by show IntKind.i64.wrap ((j : Int) + 1) = ((j + 1 : Nat) : Int); rw [IntWalk.i64_in _ (by omega)]; omega), rfl, trivial⟩
    all_goals
      intro u LD D a W hcl hi hp hs hw
      repeat (first | (refine sxv hs hw ?_; clear hs; intro a hs) | refine sxc hs ?_ | (refine sxa hs hw ?_; clear hs hw; intro a b W hw hs) | (refine sxs hs hw ?_; clear hs hw; intro W hs hw))
      exact Or.inl ⟨hs, hw⟩
  · have hj' : j = l.length := by have : ¬ j < l.length := by simpa using hcc
                                  omega
    subst hj'
    rw [List.drop_length] at hgo
    simp only [allF] at hgo
    repeat (first | (refine sxv hs hw ?_; clear hs; intro a hs) | refine sxc hs ?_ | (refine sxa hs hw ?_; clear hs hw; intro a b W hw hs) | (refine sxs hs hw ?_; clear hs hw; intro W hs hw))
    refine st_load_agg hs (hw := hw) (hi := In.tl In.hd) (hl := by rw [hlen0]; rfl) (k := ?_); clear hs; intro a hs
    have hs2 : Slots a 35 ((33, .agg ⟨cut cs 0 38⟩) :: _) := hs
    rw [cut_all _ _ hlen0] at hs2
    clear hs
    have hs := hs2
    clear hs2
    repeat (first | (refine sxv hs hw ?_; clear hs; intro a hs) | refine sxc hs ?_ | (refine sxa hs hw ?_; clear hs hw; intro a b W hw hs) | (refine sxs hs hw ?_; clear hs hw; intro W hs hw))
    refine st_store hs (vs := cs) (hw := hw) (hz := by rw [hlen0]; rfl) (h1 := hone0) (hl := by rw [hlen0]; rfl) (k := ?_); clear hs hw; intro W hs hw
    rw [ov_all _ _ (by rw [hlen0]; rfl)] at hw
    repeat (first | (refine sxv hs hw ?_; clear hs; intro a hs) | refine sxc hs ?_ | (refine sxa hs hw ?_; clear hs hw; intro a b W hw hs) | (refine sxs hs hw ?_; clear hs hw; intro W hs hw))
    refine rc2 hs rfl rfl hw (In.tl (In.tl In.hd)) (by rw [hlen0]; rfl) rfl ?_
    rw [← hgo]
    refine ⟨cs, oad, ocap, ys, H', ?_, hH', hf, hch2, hw.sub (List.Sublist.cons_cons _ (List.Sublist.cons _ (List.Sublist.cons _ (List.Sublist.refl _))))⟩
    show Ending.returned (Value.tuple #[.agg ⟨cut cs 0 38⟩, _]) = _
    rw [cut_all _ _ hlen0]
end Go.Proofs.YtcfaicomnngegaaDoor.Sw

/-
  Batches, rows, whole numbers as they come in.
-/
set_option linter.unusedVariables false
namespace Go.Proofs.YtcfaicomnngegaaDoor.Sw
open Go.RowKit Go.Sx

def BatRd (W : World) (b : BatchD) (cs : List Value) : Prop := ∃ sv, cs = batCells b sv ∧ Rd W 9 sv b.l.length (b.l.flatMap opCells)
/-- Batches as they come in. -/
def BatsRd (W : World) (v : Value) (l : List BatchD) : Prop := ∃ xs, Rd W 3 v l.length xs ∧ Ch (BatRd W) l xs
theorem BatsRd.h {W : World} {v : Value} {l : List BatchD} (r : BatsRd W v l) : BatsH (fr W) v l := by
  obtain ⟨xs, h1, h2⟩ := r
  exact ⟨xs, RdH.of_rd h1 (Fh.le.refl _) (by decide), h2.mono fun b c ⟨sv, e, h⟩ => ⟨sv, e, RdH.of_rd h (Fh.le.refl _) (by decide)⟩⟩
structure RowWf (r : RowD) : Prop where
  place : (Lit.int .i64 r.place).wf = true
  err : (Lit.int .i64 r.err).wf = true
  b : BatWf r.b
/-- Rows as they come in. -/
def RowsRd (W : World) (v : Value) (l : List RowD) : Prop := ∃ xs, Rd W 5 v l.length xs ∧ Ch (RowRd W) l xs
theorem RowsRd.h {W : World} {v : Value} {l : List RowD} (r : RowsRd W v l) : RowsH (fr W) v l := by
  obtain ⟨xs, h1, h2⟩ := r
  exact ⟨xs, RdH.of_rd h1 (Fh.le.refl _) (by decide), h2.mono fun b c ⟨sv, e, h⟩ => ⟨sv, e, RdH.of_rd h (Fh.le.refl _) (by decide)⟩⟩
def IntIn (x : Int) (c : List Value) : Prop := c = [.int .i64 x]
theorem IntIn.len : ∀ (x : Int) (c : List Value), IntIn x c → c.length = 1 := by rintro x c rfl; rfl
/-- Whole numbers as they come in. -/
def IntsRd (W : World) (v : Value) (l : List Int) : Prop := ∃ xs, Rd W 1 v l.length xs ∧ Ch IntIn l xs
end Go.Proofs.YtcfaicomnngegaaDoor.Sw

/-
  Slices of batches, rows, whole numbers among the arguments: opened into what the walks read.
-/
set_option linter.unusedVariables false
set_option maxRecDepth 10000
namespace Go.Proofs.YtcfaicomnngegaaDoor
open Go.ChangeShapes Go.WideShapes Go.ChangeAt Go.RowKit Go.Lib Go.Sx Go.Proofs Go.Deep
open Sw Go.Joins

section
variable {H : Type} {enc : TypeId × Value → H} {w : World} {spare : Nat → Bool} {held : Bool}
theorem ch_map {α : Type} {Rr : α → List Value → Prop} (O : Nat → α) (C : Nat → List Value) : ∀ l : List Nat, (∀ i ∈ l, Rr (O i) (C i)) → Ch Rr (l.map O) (l.flatMap C)
  | [], _ => rfl
  | i :: l, h => ⟨C i, l.flatMap C, rfl, h i (by simp), ch_map O C l fun j hj => h j (by simp [hj])⟩
theorem flatMap_get {C : Nat → List Value} {k : Nat} : ∀ (n b : Nat) (j : Nat) (x : Value), (∀ i, b ≤ i → i < b + n → (C i).length = k) → ((List.range' b n).flatMap C)[j]? = some x → ∃ i kk, b ≤ i ∧ i < b + n ∧ (C i)[kk]? = some x ∧ j = (i - b) * k + kk ∧ kk < k
  | 0, b, j, x, _, h => by simp at h
  | n + 1, b, j, x, hk, h => by
    rw [List.range'_succ, List.flatMap_cons, List.getElem?_append] at h
    have hb := hk b (Nat.le_refl _) (by omega)
    split at h
    · rename_i hj
      exact ⟨b, j, Nat.le_refl _, by omega, h, by simp, by omega⟩
    · rename_i hj
      obtain ⟨i, kk, h1, h2, h3, h4, h5⟩ := flatMap_get n (b + 1) _ x (fun i h1 h2 => hk i (by omega) (by omega)) h
      refine ⟨i, kk, by omega, by omega, h3, ?_, h5⟩
      have e : (i - b) * k = (i - (b + 1)) * k + k := by
        rw [show i - b = (i - (b + 1)) + 1 by omega, Nat.add_mul, Nat.one_mul]
      omega
theorem flatMap_len {C : Nat → List Value} {k : Nat} : ∀ (n b : Nat), (∀ i, b ≤ i → i < b + n → (C i).length = k) → ((List.range' b n).flatMap C).length = n * k
  | 0, b, _ => by simp
  | n + 1, b, hk => by
    rw [List.range'_succ, List.flatMap_cons, List.length_append, hk b (Nat.le_refl _) (by omega), flatMap_len n (b + 1) fun i h1 h2 => hk i (by omega) (by omega), Nat.add_mul]
    omega
theorem open_list {α : Type} [Inhabited α] {t e : TypeId} {k : Nat} (ht : Tryd.prog.underlying t = some (.slice e)) (hc : Tryd.prog.cellsOf e = k) (hk0 : 0 < k) {Rr : α → List Value → Prop} {Wf : α → Prop}
    (op : ∀ {fuel : Nat} {cs : List Value} {x : DataW H × List MemPlace}, DataW.trod enc Tryd.prog w 0 spare held fuel e cs = some x → ∃ o, Rr o cs ∧ Wf o)
    {fuel : Nat} {cs : List Value} {x : DataW H × List MemPlace} (h : DataW.trod enc Tryd.prog w 0 spare held fuel t cs = some x) :
    ∃ (sv : Value) (l : List α), cs = [sv] ∧ (∀ o ∈ l, Wf o) ∧ ∃ xs, Rd w k sv l.length xs ∧ Ch Rr l xs := by
  have hlt := DataW.trod_lt _ _ _ _ h
  rcases open_slice ht h with ⟨rfl, -⟩ | ⟨a, len, cap, m, n, D, Pl, rfl, -, hl, hm, hmm, rfl, hx⟩
  · exact ⟨_, [], rfl, by simp, [], Rd.nil w k 0 (by omega), rfl⟩
  · have hlm : len ≤ m := by rw [hmm]; split <;> omega
    obtain ⟨O, hO⟩ := choose_lt (n := len) (α := α × List Value) (p := fun i o => Rr o.1 o.2 ∧ Wf o.1 ∧ o.2.length = k ∧ ∀ j u, o.2[j]? = some u → w.cell? ((a.add (i * k)).add j) = some u) fun i hi => by
      obtain ⟨cs', h1, h2⟩ := hx i (by omega)
      obtain ⟨o, ho1, ho2⟩ := op h2
      rw [hc] at h1
      obtain ⟨_, hlen, h3⟩ := World.cells?_some h1
      refine ⟨(o, cs'), ho1, ho2, by simpa using hlen, fun j u hj => ?_⟩
      have hjk : j < k := by
        have h9 : j < cs'.length := (List.getElem?_eq_some_iff.1 hj).1
        have e : cs'.length = k := by simpa using hlen
        omega
      rw [h3 j hjk]; exact hj
    have hcap : cap ≤ 9223372036854775807 := max63 hm
    have hL : ((List.range len).map fun i => (O i).1).length = len := by simp
    have hr : List.range len = List.range' 0 len := List.range_eq_range'
    have hks : ∀ i, 0 ≤ i → i < 0 + len → (O i).2.length = k := fun i _ hi => (hO i (by omega)).2.2.1
    refine ⟨_, (List.range len).map fun i => (O i).1, rfl, fun o ho => ?_, (List.range len).flatMap fun i => (O i).2, ?_, ch_map _ _ _ fun i hi => (hO i (List.mem_range.1 hi)).1⟩
    · obtain ⟨i, hi, rfl⟩ := List.mem_map.1 ho
      exact (hO i (List.mem_range.1 hi)).2.1
    · rw [hL]
      refine ⟨by rw [hr]; exact flatMap_len len 0 hks, some a, cap, rfl, hl, hcap, ?_⟩
      rcases Nat.eq_zero_or_pos len with h0 | h0
      · exact .inl h0
      · right
        obtain ⟨b, off, spot⟩ := a
        have h00 : ∃ u, (O 0).2[0]? = some u := ⟨_, List.getElem?_eq_getElem (by rw [hks 0 (Nat.zero_le _) (by omega)]; exact hk0)⟩
        obtain ⟨u0, hu0⟩ := h00
        have h00 := (hO 0 h0).2.2.2 0 u0 hu0
        have hspot : spot = none := by simpa [Addr.add] using World.cell?_spot h00
        subst hspot
        refine ⟨b, off, rfl, ?_, fun j x hj => ?_⟩
        · have hpos : 0 < m * k := Nat.mul_pos (by omega) hk0
          exact hlt (.cell b off) (List.mem_append_left _ (MemPlace.mem_row.2 ⟨0, by rw [hc]; exact hpos, rfl⟩))
        · rw [hr] at hj
          obtain ⟨i, kk, h1, h2, h3, rfl, h5⟩ := flatMap_get len 0 j x hks hj
          have := (hO i (by omega)).2.2.2 kk x h3
          rw [add_add, add_plain] at this
          exact this

theorem open_bat_cells {fuel : Nat} {cs : List Value} {x : DataW H × List MemPlace} (h : DataW.trod enc Tryd.prog w 0 spare held fuel 33 cs = some x) : ∃ b, BatRd w b cs ∧ BatWf b := by
  obtain ⟨xs, n, _, rfl, hl, hlen, hf⟩ := DataW.trod_struct Tryd.underlying33 h
  have c0 : Tryd.prog.cellsOf 33 = 3 := by kernel_rfl
  have c1 : Tryd.prog.cellsOf 3 = 1 := by kernel_rfl
  have c2 : Tryd.prog.cellsOf 2 = 1 := by kernel_rfl
  have c3 : Tryd.prog.cellsOf 31 = 1 := by kernel_rfl
  rw [c0] at hl
  match cs, hl, xs, hlen with
  | [v0, v1, v2], _, [y0, y1, y2], _ =>
    have h0 := hf 0 _ rfl
    have h1 := hf 1 _ rfl
    have h2 := hf 2 _ rfl
    change DataW.trod enc _ w 0 spare held n 3 (([v0, v1, v2].drop 0).take (Tryd.prog.cellsOf 3)) = some y0 at h0
    change DataW.trod enc _ w 0 spare held n 2 (([v0, v1, v2].drop 1).take (Tryd.prog.cellsOf 2)) = some y1 at h1
    change DataW.trod enc _ w 0 spare held n 31 (([v0, v1, v2].drop 2).take (Tryd.prog.cellsOf 31)) = some y2 at h2
    rw [c1] at h0
    rw [c2] at h1
    rw [c3] at h2
    obtain ⟨k, e0, _, w0⟩ := DataW.trod_int Tryd.underlying3 h0
    obtain ⟨m, e1, _, w1⟩ := DataW.trod_int Tryd.underlying2 h1
    obtain ⟨sv, l, e2, ho, hr⟩ := open_ops h2
    simp at e0 e1 e2
    subst e0 e1 e2
    exact ⟨⟨k, m, l⟩, ⟨v2, rfl, hr⟩, w0, w1, ho⟩
theorem open_row_cells {fuel : Nat} {cs : List Value} {x : DataW H × List MemPlace} (h : DataW.trod enc Tryd.prog w 0 spare held fuel 36 cs = some x) : ∃ r, RowRd w r cs ∧ RowWf r := by
  obtain ⟨xs, n, _, rfl, hl, hlen, hf⟩ := DataW.trod_struct Tryd.underlying36 h
  have c0 : Tryd.prog.cellsOf 36 = 5 := by kernel_rfl
  have c1 : Tryd.prog.cellsOf 34 = 1 := by kernel_rfl
  have c2 : Tryd.prog.cellsOf 2 = 1 := by kernel_rfl
  have c3 : Tryd.prog.cellsOf 33 = 3 := by kernel_rfl
  rw [c0] at hl
  match cs, hl, xs, hlen with
  | [v0, v1, v2, v3, v4], _, [y0, y1, y2], _ =>
    have h0 := hf 0 _ rfl
    have h1 := hf 1 _ rfl
    have h2 := hf 2 _ rfl
    change DataW.trod enc _ w 0 spare held n 2 (([v0, v1, v2, v3, v4].drop 0).take (Tryd.prog.cellsOf 2)) = some y0 at h0
    change DataW.trod enc _ w 0 spare held n 33 (([v0, v1, v2, v3, v4].drop 1).take (Tryd.prog.cellsOf 33)) = some y1 at h1
    change DataW.trod enc _ w 0 spare held n 34 (([v0, v1, v2, v3, v4].drop 4).take (Tryd.prog.cellsOf 34)) = some y2 at h2
    rw [c2] at h0
    rw [c3] at h1
    rw [c1] at h2
    obtain ⟨k, e0, _, w0⟩ := DataW.trod_int Tryd.underlying2 h0
    obtain ⟨b, ⟨sv, e1, hr⟩, hb⟩ := open_bat_cells h1
    obtain ⟨m, e2, _, w2⟩ := DataW.trod_int Tryd.underlying34 h2
    simp [batCells] at e0 e1 e2
    obtain ⟨e11, e12, e13⟩ := e1
    subst e0 e11 e12 e13 e2
    exact ⟨⟨k, b, m⟩, ⟨v3, rfl, hr⟩, w0, w2, hb⟩
theorem open_int_cells {fuel : Nat} {cs : List Value} {x : DataW H × List MemPlace} (h : DataW.trod enc Tryd.prog w 0 spare held fuel 3 cs = some x) : ∃ k, IntIn k cs ∧ (Lit.int .i64 k).wf = true := by
  obtain ⟨k, e0, _, w0⟩ := DataW.trod_int Tryd.underlying3 h
  exact ⟨k, (by simpa using e0 : cs = [.int .i64 k]), w0⟩
instance : Inhabited BatchD := ⟨⟨0, 0, []⟩⟩
instance : Inhabited RowD := ⟨zeroRow⟩
theorem open_bats {r : Reach} {b0 : Nat} {v : Value} {d : DataW H} {p : List MemPlace} (hv : Value.okWide Tryd.prog w r b0 22 v) (h : DataW.Trod enc Tryd.prog w 0 spare held 22 v d p) : ∃ l, (∀ b ∈ l, BatWf b) ∧ BatsRd w v l := by
  obtain ⟨b, len, cap, rfl⟩ := okWide_slice Tryd.underlying22 hv
  obtain ⟨fuel, hf⟩ := h
  obtain ⟨sv, l, e, h1, h2⟩ := open_list Tryd.underlying22 (by kernel_rfl : _ = 3) (by decide) open_bat_cells hf
  simp [Value.cells] at e
  subst e
  exact ⟨l, h1, h2⟩
theorem open_rows {r : Reach} {b0 : Nat} {v : Value} {d : DataW H} {p : List MemPlace} (hv : Value.okWide Tryd.prog w r b0 25 v) (h : DataW.Trod enc Tryd.prog w 0 spare held 25 v d p) : ∃ l, (∀ b ∈ l, RowWf b) ∧ RowsRd w v l := by
  obtain ⟨b, len, cap, rfl⟩ := okWide_slice Tryd.underlying25 hv
  obtain ⟨fuel, hf⟩ := h
  obtain ⟨sv, l, e, h1, h2⟩ := open_list Tryd.underlying25 (by kernel_rfl : _ = 5) (by decide) open_row_cells hf
  simp [Value.cells] at e
  subst e
  exact ⟨l, h1, h2⟩

-- pieces

theorem open_intl {r : Reach} {b0 : Nat} {v : Value} {d : DataW H} {p : List MemPlace} (hv : Value.okWide Tryd.prog w r b0 23 v) (h : DataW.Trod enc Tryd.prog w 0 spare held 23 v d p) : ∃ l, (∀ k ∈ l, (Lit.int .i64 k).wf = true) ∧ IntsRd w v l := by
  obtain ⟨b, len, cap, rfl⟩ := okWide_slice Tryd.underlying23 hv
  obtain ⟨fuel, hf⟩ := h
  obtain ⟨sv, l, e, h1, h2⟩ := open_list Tryd.underlying23 (by kernel_rfl : _ = 1) (by decide) open_int_cells hf
  simp [Value.cells] at e
  subst e
  exact ⟨l, h1, h2⟩

end
end Go.Proofs.YtcfaicomnngegaaDoor

/-
  The rows of batches, played; what Take makes of them: in plain words.
-/
set_option linter.unusedVariables false
set_option maxRecDepth 10000
namespace Go.Proofs.YtcfaicomnngegaaDoor.Sw
open Go.RowKit Go.Sx

/-- Rows are a fold's, one behind the other. -/
def Play : FoldD → List RowD → FoldD → Prop
  | f, [], f' => f = f'
  | f, r :: rs, f' => (next f r.b).2.2 = true ∧ (next f r.b).2.1 = r ∧ Play (next f r.b).1 rs f'
theorem Play.app : ∀ {f f' f'' : FoldD} {a b : List RowD}, Play f a f' → Play f' b f'' → Play f (a ++ b) f''
  | f, f', f'', [], b, h1, h2 => by
    have h1 : f = f' := h1
    subst h1; exact h2
  | f, f', f'', r :: a, b, ⟨h1, h2, h3⟩, h4 => ⟨h1, h2, h3.app h4⟩
theorem Play.split : ∀ {f f'' : FoldD} {a b : List RowD}, Play f (a ++ b) f'' → ∃ f', Play f a f' ∧ Play f' b f''
  | f, f'', [], b, h => ⟨f, rfl, h⟩
  | f, f'', r :: a, b, ⟨h1, h2, h3⟩ => by
    obtain ⟨f', h4, h5⟩ := Play.split h3
    exact ⟨f', ⟨h1, h2, h4⟩, h5⟩
theorem play_det : ∀ {rows : List RowD} {f g h : FoldD}, Play f rows g → Play f rows h → g = h
  | [], f, g, h, h1, h2 => by
    have h1 : f = g := h1
    have h2 : f = h := h2
    rw [← h1, h2]
  | r :: rows, f, g, h, ⟨_, _, h1⟩, ⟨_, _, h2⟩ => play_det h1 h2
theorem next_ok {f : FoldD} {b : BatchD} (h : (next f b).2.2 = true) : nextB f b = true ∧ next f b = (nextF f b, nextR f b, true) := by
  unfold next at *
  cases hb : nextB f b with
  | true => exact ⟨rfl, rfl⟩
  | false => rw [hb] at h; cases h
theorem next_row {f : FoldD} {b : BatchD} (h : (next f b).2.2 = true) : (next f b).2.1.b = b := by rw [(next_ok h).2]; rfl
theorem allF_play : ∀ (l : List BatchD) (f : FoldD) (rows : List RowD), ∃ more, (allF f rows l).2 = rows ++ more ∧ Play f more (allF f rows l).1 ∧ more.length ≤ l.length
  | [], f, rows => ⟨[], by simp [allF], rfl, Nat.le_refl _⟩
  | b :: l, f, rows => by
    simp only [allF]
    cases h : (next f b).2.2 with
    | false =>
      obtain ⟨more, h1, h2, h3⟩ := allF_play l f rows
      exact ⟨more, h1, h2, Nat.le_succ_of_le h3⟩
    | true =>
      obtain ⟨more, h1, h2, h3⟩ := allF_play l (next f b).1 (rows ++ [(next f b).2.1])
      refine ⟨(next f b).2.1 :: more, by rw [h1]; simp, ⟨?_, ?_, ?_⟩, by simp; omega⟩
      · rw [next_row h]; exact h
      · rw [next_row h]
      · rw [next_row h]; exact h2
theorem play_places : ∀ {rows : List RowD} {f f' : FoldD} {k : Nat}, Play f rows f' → f.place = k → k + rows.length ≤ 1000000 → f'.place = ((k + rows.length : Nat) : Int) ∧ ∀ (i : Nat) (r : RowD), rows[i]? = some r → r.place = ((k + i + 1 : Nat) : Int)
  | [], f, f', k, h, hk, _ => by
    have h : f = f' := h
    subst h
    exact ⟨by rw [hk]; simp, fun i r h => by simp at h⟩
  | r :: rows, f, f', k, ⟨h1, h2, h3⟩, hk, hl => by
    have hn := (next_ok h1).2
    rw [hn] at h2 h3
    simp only [List.length_cons] at hl
    have hw : IntKind.i64.wrap (f.place + 1) = ((k + 1 : Nat) : Int) := by rw [hk, IntWalk.i64_in _ (by omega)]; omega
    obtain ⟨g1, g2⟩ := play_places (k := k + 1) h3 hw (by omega)
    refine ⟨by rw [g1, List.length_cons]; congr 1; omega, fun i x hx => ?_⟩
    cases i with
    | zero =>
      simp only [List.getElem?_cons_zero, Option.some.injEq] at hx
      subst hx
      have h2 : nextR f r.b = r := h2
      rw [← h2]
      show IntKind.i64.wrap (f.place + 1) = _
      rw [hw]
    | succ i =>
      rw [List.getElem?_cons_succ] at hx
      rw [g2 i x hx]; congr 1; omega
theorem one_play {f : FoldD} {l : List RowD} {r : RowD} (h1 : (next f r.b).2.2 = true) (h2 : (next f r.b).2.1 = r) (hp : f.place = l.length) (hl : l.length ≤ 1000000) : one ⟨f, l⟩ r = (⟨(next f r.b).1, l ++ [r]⟩, true, 0) := by
  have hpl : r.place = (l.length : Int) + 1 := by
    have hn := (next_ok h1).2
    rw [hn] at h2
    have h2 : nextR f r.b = r := h2
    have := congrArg RowD.place h2
    rw [← this]
    show IntKind.i64.wrap (f.place + 1) = _
    rw [hp, IntWalk.i64_in _ (by omega)]
  unfold one
  rw [if_neg (by show ¬ r.place > (l.length : Int) + 1; omega), if_neg (by show ¬ r.place < (l.length : Int) + 1; omega), if_pos ⟨h1, by show (next f r.b).2.1.err = r.err; rw [h2]⟩]
/-- A fold's rows are all taken. -/
theorem take_play : ∀ {rows : List RowD} {f f' : FoldD} {l : List RowD} {n : Nat}, Play f rows f' → f.place = l.length → l.length + rows.length ≤ 1000000 → takeN ⟨f, l⟩ n rows = (⟨f', l ++ rows⟩, n + rows.length, 0)
  | [], f, f', l, n, h, hp, hl => by
    have h : f = f' := h
    subst h
    simp [takeN]
  | r :: rows, f, f', l, n, ⟨h1, h2, h3⟩, hp, hl => by
    simp only [List.length_cons] at hl
    have ho := one_play h1 h2 hp (by omega)
    have hp2 : (next f r.b).1.place = ((l ++ [r]).length : Nat) := by
      rw [(next_ok h1).2]
      show IntKind.i64.wrap (f.place + 1) = _
      rw [hp, IntWalk.i64_in _ (by omega)]; simp
    have ih := take_play (n := n + 1) h3 hp2 (by simp; omega)
    simp only [takeN, ho, if_true]
    rw [ih]
    simp
    omega
/-- Rows that stand already are nothing new. -/
theorem take_old : ∀ {rows rest : List RowD} {s : StreamD} {n : Nat}, (∀ r ∈ rows, 1 ≤ r.place ∧ r.place ≤ s.l.length ∧ s.l[(r.place - 1).toNat]? = some r) → takeN s n (rows ++ rest) = takeN s n rest
  | [], rest, s, n, _ => rfl
  | r :: rows, rest, s, n, h => by
    obtain ⟨h1, h2, h3⟩ := h r (by simp)
    have ho : one s r = (s, false, 0) := by
      unfold one
      rw [if_neg (by omega), if_pos (by omega), if_neg]
      rintro (g | g)
      · omega
      · exact g ⟨r, h3, sameR_iff.2 rfl⟩
    simp only [List.cons_append, takeN, ho, if_true]
    exact take_old fun x hx => h x (by simp [hx])
theorem take_app : ∀ {a b : List RowD} {s : StreamD} {n : Nat}, (takeN s n a).2.2 = 0 → takeN s n (a ++ b) = takeN (takeN s n a).1 (takeN s n a).2.1 b
  | [], b, s, n, _ => rfl
  | r :: a, b, s, n, h => by
    simp only [takeN, List.cons_append] at h ⊢
    by_cases hc : (one s r).2.2 = 0
    · rw [if_pos hc] at h
      rw [if_pos hc, if_pos hc]
      exact take_app h
    · rw [if_neg hc] at h
      exact absurd h hc
/-- The rows of batches. -/
def rowsOf (l : List BatchD) : List RowD := (allF emptyF [] (batsB l 40)).2
def foldOf (l : List BatchD) : FoldD := (allF emptyF [] (batsB l 40)).1
theorem batsB_len (l : List BatchD) (n : Nat) : (batsB l n).length ≤ n := by unfold batsB; rw [List.length_map, List.length_take]; omega
theorem rows_play (l : List BatchD) : Play emptyF (rowsOf l) (foldOf l) ∧ (rowsOf l).length ≤ 40 := by
  obtain ⟨more, h1, h2, h3⟩ := allF_play (batsB l 40) emptyF []
  have := batsB_len l 40
  unfold rowsOf foldOf
  rw [h1, List.nil_append]
  exact ⟨h2, by omega⟩
theorem play_mem : ∀ {rows : List RowD} {f f' : FoldD}, Play f rows f' → ∀ r ∈ rows, mayB r.b = true
  | [], _, _, _, r, h => by simp at h
  | x :: rows, f, f', ⟨h1, h2, h3⟩, r, h => by
    rcases List.mem_cons.1 h with rfl | h
    · have := (next_ok h1).1
      unfold nextB at this
      exact (Bool.and_eq_true _ _ |>.mp this).1
    · exact play_mem h3 r h
theorem play_from : ∀ {l : List BatchD} {f : FoldD} {rows : List RowD}, (∀ r ∈ rows, ∃ b, BatOk b ∧ r.b = b) → (∀ b ∈ l, BatOk b) → ∀ r ∈ (allF f rows l).2, BatOk r.b
  | [], f, rows, h, _, r, hr => by obtain ⟨b, h1, h2⟩ := h r hr; rw [h2]; exact h1
  | b :: l, f, rows, h, hb, r, hr => by
    simp only [allF] at hr
    cases hn : (next f b).2.2 with
    | false => rw [hn] at hr; exact play_from h (fun x hx => hb x (by simp [hx])) r hr
    | true =>
      rw [hn] at hr
      refine play_from (fun x hx => ?_) (fun x hx => hb x (by simp [hx])) r hr
      rcases List.mem_append.1 hx with hx | hx
      · exact h x hx
      · rw [List.mem_singleton] at hx
        subst hx
        exact ⟨b, hb b (by simp), next_row hn⟩
theorem play_err : ∀ {rows : List RowD} {f f' : FoldD}, Play f rows f' → ∀ r ∈ rows, ∃ d l, r.err = (applyL d l).1
  | [], _, _, _, r, h => by simp at h
  | x :: rows, f, f', ⟨h1, h2, h3⟩, r, h => by
    rcases List.mem_cons.1 h with rfl | h
    · rw [(next_ok h1).2] at h2
      refine ⟨f.d, r.b.l, ?_⟩
      rw [← (show nextR f r.b = r from h2)]; rfl
    · exact play_err h3 r h
theorem setRL_err (d : Dm) (k : ByteArray) (x : Option DV) : (setRL d k x).1 = 0 ∨ (setRL d k x).1 = 6 := by
  cases x with
  | none => exact .inl rfl
  | some v => unfold setRL; simp only; split <;> simp
theorem doL_err (d : Dm) (o : OpD) : 0 ≤ (doL d o).1 ∧ (doL d o).1 ≤ 8 := by
  have h : ∀ k x, 0 ≤ (setRL d k x).1 ∧ (setRL d k x).1 ≤ 8 := fun k x => by
    rcases setRL_err d k x with h' | h' <;> (rw [h']; exact ⟨by decide, by decide⟩)
  have c : ∀ n : Int, 0 ≤ n → n ≤ 8 → 0 ≤ ((n, d) : Int × Dm).1 ∧ ((n, d) : Int × Dm).1 ≤ 8 := fun n h1 h2 => ⟨h1, h2⟩
  unfold doL
  split
  · split
    · exact h _ _
    · exact c 8 (by decide) (by decide)
  · split
    · split
      · exact c 7 (by decide) (by decide)
      · split
        · exact c 4 (by decide) (by decide)
        · exact h _ _
    · exact h _ _
theorem goL_err : ∀ (l : List OpD) (d : Dm), 0 ≤ (goL l d).1 ∧ (goL l d).1 ≤ 8
  | [], d => ⟨by show (0 : Int) ≤ 0; decide, by show (0 : Int) ≤ 8; decide⟩
  | o :: l, d => by
    unfold goL
    split
    · exact ⟨by show (0 : Int) ≤ 1; decide, by show (1 : Int) ≤ 8; decide⟩
    · split
      · exact goL_err l _
      · exact doL_err d o
theorem applyL_err (d : Dm) (l : List OpD) : 0 ≤ (applyL d l).1 ∧ (applyL d l).1 ≤ 8 := by
  unfold applyL
  split
  · exact ⟨by show (0 : Int) ≤ 1; decide, by show (1 : Int) ≤ 8; decide⟩
  · split
    · exact ⟨by show (0 : Int) ≤ 0; decide, by show (0 : Int) ≤ 8; decide⟩
    · exact goL_err l d
theorem rows_ok {l : List BatchD} (h : ∀ b ∈ l, BatWf b) : ∀ r ∈ rowsOf l, RowOk r := by
  intro r hr
  obtain ⟨hp, hl⟩ := rows_play l
  obtain ⟨d, ol, he⟩ := play_err hp r hr
  have hb := play_from (l := batsB l 40) (f := emptyF) (rows := []) (by simp) (batsB_ok h 40) r hr
  obtain ⟨i, hi⟩ := List.getElem?_of_mem hr
  have hpl := (play_places (k := 0) hp rfl (by omega)).2 i r hi
  have hi' := (List.getElem?_eq_some_iff.1 hi).1
  have := applyL_err d ol
  refine ⟨?_, ?_, hb⟩
  · unfold i64; rw [hpl]; omega
  · unfold i64; rw [he]; omega
theorem rows_8 (l : List BatchD) : ∀ r ∈ rowsOf l, r.b.l.length ≤ 8 := fun r hr => (may_parts (play_mem (rows_play l).1 r hr)).2.2

set_option maxHeartbeats 8000000 in
theorem law21_Rows (w0 W : World) (H : Fh) (l : List BatchD) (v : Value) (R : List Res) (hb : ∀ b ∈ l, BatWf b) (hr : BatsH H v l) (hw : Has 0 w0 W (Fz H :: R)) :
    Calls Tryd.prog 8 ⟨[v]⟩ W fun e W' => ∃ v' H', e = .returned v' ∧ H.le H' ∧ RowsH H' v' (rowsOf l) ∧ Has 0 w0 W' (Fz H' :: R) := by
  refine enter Tryd.func8 Tryd.ntmps8 rfl rfl fun a hs => ?_
  repeat (first | (refine sxv hs hw ?_; clear hs; intro a hs) | refine sxc hs ?_ | (refine sxa hs hw ?_; clear hs hw; intro a b W hw hs) | (refine sxs hs hw ?_; clear hs hw; intro W hs hw))
  refine st_call hs (hc := law7_Batches w0 _ H l v 40 _ (by decide) hb hr hw) (k := ?_); rintro e0 W1 ⟨v1, H1, rfl, hle1, hr1, hw1⟩; refine ⟨_, rfl, ?_⟩; clear hs hw; intro a hs; have hw := hw1; clear hw1
  have h40 := batsB_len l 40
  refine st_call hs (hc := ref7_All w0 _ H1 (batsB l 40) v1 _ (by omega) (batsB_ok hb 40) hr1 hw) (k := ?_); rintro e0 W1 ⟨cs, ad, cap, ys, H2, rfl, hle2, hf, hch, hw1⟩; refine ⟨_, rfl, ?_⟩; clear hs hw; intro a hs; have hw := hw1; clear hw1
  have hlen := hf.len
  have hone := hf.one
  repeat (first | (refine sxv hs hw ?_; clear hs; intro a hs) | refine sxc hs ?_ | (refine sxa hs hw ?_; clear hs hw; intro a b W hw hs) | (refine sxs hs hw ?_; clear hs hw; intro W hs hw))
  refine st_store hs (vs := cs) (hw := hw) (hz := by rw [hlen]; rfl) (h1 := hone) (hl := by rw [hlen]; rfl) (k := ?_); clear hs hw; intro W hs hw
  repeat (first | (refine sxv hs hw ?_; clear hs; intro a hs) | refine sxc hs ?_ | (refine sxa hs hw ?_; clear hs hw; intro a b W hw hs) | (refine sxs hs hw ?_; clear hs hw; intro W hs hw))
  obtain ⟨H3, h1, h2, h3⟩ := (hw.sub (L' := Sx.Own 36 5 (.slice ad (rowsOf l).length cap) (rowsOf l).length ys :: Fz H2 :: R) (List.Sublist.cons _ (List.Sublist.refl _))).freeze_own
  exact rt1 hs rfl rfl ⟨_, H3, rfl, (hle1.trans hle2).trans h1, ⟨ys, h3, hch.mono (RowIn.le h1)⟩, h2⟩
end Go.Proofs.YtcfaicomnngegaaDoor.Sw

/-
  Sx: slices of what is frozen; min; a literal frozen.
-/
set_option linter.unusedVariables false
namespace Go.Sx
open Go.RowKit
section
variable {P : Program} {ops : Array Oper} {rest : List Oper} {Q : Exit → Act → World → Prop} {a : Act} {n G : Nat} {L : List (Nat × Value)} {w W W' : World} {R : List Res} {d : Nat} {T S E : TypeId} {p : String} {e : Array Edge} {x y lo hi : Operand} {v : Value} {xs cs : List Value} {k sz : Nat} {i j : Int} {q q' : IntKind} {z : List Value} {H : Fh}
theorem run_slice_rdH {agg : Bool} [sl : Sl P S E] [t : Ty P E agg z] (r : RdH H sz v k xs) (hz : z.length = sz) (l h : Option Value) {i' j' : Nat} (h0 : i' ≤ j') (h1 : j' ≤ k)
    (hl : l = none ∧ i' = 0 ∨ ∃ q, l = some (.int q i')) (hh : h = none ∧ j' = k ∨ ∃ q, h = some (.int q j')) :
    ∃ v', (Instr.sliceAt S v l h none).run P W = .ok v' W ∧ RdH H sz v' (j' - i') ((xs.drop (i' * sz)).take ((j' - i') * sz)) := by
  subst hz
  obtain ⟨hx, ad, cap, rfl, h3, h4, h5⟩ := r
  have hb : ∀ (u : Value) (m y : Nat) (c : BoundsCode) (q : IntKind), u = .int q m → m ≤ y → (Instr.sliceBound u y c).run P W = .ok m W := by
    rintro u m y c q rfl hm
    have : (0 : Int) ≤ (m : Int) ∧ (m : Int) ≤ (y : Int) := ⟨by omega, by omega⟩
    simp only [Instr.sliceBound, asIntOf, Sem.run_bind, Sem.run_pure, Result.andThen_ok]
    rw [if_pos this]
    simp
  have hbs : (Instr.sliceBounds true k cap l h none).run P W = .ok (i', j', cap) W := by
    unfold Instr.sliceBounds
    rcases hh with ⟨rfl, rfl⟩ | ⟨q2, rfl⟩ <;> rcases hl with ⟨rfl, rfl⟩ | ⟨q1, rfl⟩
    · simp
    · simp [hb _ i' j' .sliceB q1 rfl h0]
    · simp [hb _ j' cap .sliceAcap q2 rfl (by omega)]
    · simp [hb _ j' cap .sliceAcap q2 rfl (by omega), hb _ i' j' .sliceB q1 rfl h0]
  refine ⟨.slice (if cap = i' then ad else ad.map (·.add (i' * z.length))) (j' - i') (cap - i'), ?_, ?_, _, _, rfl, by omega, by omega, ?_⟩
  · simp only [Instr.sliceAt, Instr.slice, Sem.run_bind, run_underlying sl.out, Result.andThen_ok, hbs, t.sizeOf, Sem.run_pure]
  · rw [List.length_take, List.length_drop, hx]
    have : (j' - i') * z.length ≤ k * z.length - i' * z.length := by rw [← Nat.sub_mul]; exact Nat.mul_le_mul_right _ (by omega)
    omega
  · rcases h5 with rfl | ⟨b, o, cs, T, zz, rfl, hlt, hc⟩
    · exact .inl (by omega)
    · by_cases hci : cap = i'
      · exact .inl (by omega)
      · refine .inr ⟨b, o + i' * z.length, cs, T, zz, by rw [if_neg hci]; simp [addr_add], hlt, fun m u hu => ?_⟩
        rw [List.getElem?_take] at hu
        split at hu
        · rw [List.getElem?_drop] at hu
          rw [Nat.add_assoc]
          exact hc _ _ hu
        · cases hu
theorem st_sliceH_lo {agg : Bool} [sl : Sl P S E] [t : Ty P E agg z] (hs : Slots a n L) (r : RdH H sz v k xs) (h0 : 0 ≤ i) (h1 : i ≤ k) (hx : ev L x = some v := by with_unfolding_all exact rfl) (hl : ev L lo = some (.int q i) := by with_unfolding_all exact rfl) (hd : Nat.blt d n = true := by with_unfolding_all exact rfl) (hz : z.length = sz := by with_unfolding_all exact rfl)
    (c : ∀ a' v', RdH H sz v' (k - i.toNat) (xs.drop (i.toNat * sz)) → Slots a' n ((d, v') :: L) → wpList P ops Q rest a' W) : wpList P ops Q (⟨some d, .slice S x (some lo) none none, T, p, e, none⟩ :: rest) a W := by
  obtain ⟨m, rfl⟩ := Int.eq_ofNat_of_zero_le h0
  obtain ⟨v', h2, h3⟩ := run_slice_rdH (P := P) (S := S) (W := W) r hz (some (.int q m)) none (i' := m) (j' := k) (by omega) (Nat.le_refl _) (.inr ⟨q, rfl⟩) (.inl ⟨rfl, rfl⟩)
  refine st_value hs hd (v := v') (W' := W) ?_ fun a' hs' => c a' v' ?_ hs'
  · simp only [execOp, Option.map_some, Option.map_none, hs.ev hx, hs.ev hl]
    simp only [Sem.run_bind, h2, Result.andThen_ok]
    rfl
  · rw [List.take_of_length_le (by rw [List.length_drop, r.1, Nat.sub_mul]; omega)] at h3
    simpa using h3
theorem st_sliceH_hi {agg : Bool} [sl : Sl P S E] [t : Ty P E agg z] (hs : Slots a n L) (r : RdH H sz v k xs) (h0 : 0 ≤ i) (h1 : i ≤ k) (hx : ev L x = some v := by with_unfolding_all exact rfl) (hh : ev L hi = some (.int q i) := by with_unfolding_all exact rfl) (hd : Nat.blt d n = true := by with_unfolding_all exact rfl) (hz : z.length = sz := by with_unfolding_all exact rfl)
    (c : ∀ a' v', RdH H sz v' i.toNat (xs.take (i.toNat * sz)) → Slots a' n ((d, v') :: L) → wpList P ops Q rest a' W) : wpList P ops Q (⟨some d, .slice S x none (some hi) none, T, p, e, none⟩ :: rest) a W := by
  obtain ⟨m, rfl⟩ := Int.eq_ofNat_of_zero_le h0
  obtain ⟨v', h2, h3⟩ := run_slice_rdH (P := P) (S := S) (W := W) r hz none (some (.int q m)) (i' := 0) (j' := m) (by omega) (by omega) (.inl ⟨rfl, rfl⟩) (.inr ⟨q, rfl⟩)
  refine st_value hs hd (v := v') (W' := W) ?_ fun a' hs' => c a' v' ?_ hs'
  · simp only [execOp, Option.map_some, Option.map_none, hs.ev hx, hs.ev hh]
    simp only [Sem.run_bind, h2, Result.andThen_ok]
    rfl
  · simpa using h3
theorem st_sliceH_lh {agg : Bool} [sl : Sl P S E] [t : Ty P E agg z] (hs : Slots a n L) (r : RdH H sz v k xs) (h0 : 0 ≤ i) (h1 : i ≤ j) (h2 : j ≤ k) (hx : ev L x = some v := by with_unfolding_all exact rfl) (hl : ev L lo = some (.int q i) := by with_unfolding_all exact rfl) (hh : ev L hi = some (.int q' j) := by with_unfolding_all exact rfl) (hd : Nat.blt d n = true := by with_unfolding_all exact rfl) (hz : z.length = sz := by with_unfolding_all exact rfl)
    (c : ∀ a' v', RdH H sz v' (j.toNat - i.toNat) ((xs.drop (i.toNat * sz)).take ((j.toNat - i.toNat) * sz)) → Slots a' n ((d, v') :: L) → wpList P ops Q rest a' W) : wpList P ops Q (⟨some d, .slice S x (some lo) (some hi) none, T, p, e, none⟩ :: rest) a W := by
  obtain ⟨m, rfl⟩ := Int.eq_ofNat_of_zero_le h0
  obtain ⟨m', rfl⟩ := Int.eq_ofNat_of_zero_le (show 0 ≤ j by omega)
  obtain ⟨v', h4, h3⟩ := run_slice_rdH (P := P) (S := S) (W := W) r hz (some (.int q m)) (some (.int q' m')) (i' := m) (j' := m') (by omega) (by omega) (.inr ⟨q, rfl⟩) (.inr ⟨q', rfl⟩)
  refine st_value hs hd (v := v') (W' := W) ?_ fun a' hs' => c a' v' ?_ hs'
  · simp only [execOp, Option.map_some, Option.map_none, hs.ev hx, hs.ev hl, hs.ev hh]
    simp only [Sem.run_bind, h4, Result.andThen_ok]
    rfl
  · simpa using h3
theorem st_min {ts : Array TypeId} (hs : Slots a n L) (hx : ev L x = some (.int q i) := by with_unfolding_all exact rfl) (hy : ev L y = some (.int q' j) := by with_unfolding_all exact rfl) (hd : Nat.blt d n = true := by with_unfolding_all exact rfl)
    (k : ∀ a', Slots a' n ((d, .int q (if j < i then j else i)) :: L) → wpList P ops Q rest a' W) : wpList P ops Q (⟨some d, .call { callee := .builtin .min, args := #[x, y], argTypes := ts }, T, p, e, none⟩ :: rest) a W :=
  st_value hs hd (by simp only [execOp, resolve, invoke, builtin, List.map_toArray, List.map_cons, List.map_nil, hs.ev hx, hs.ev hy, Sem.run_bind, Sem.run_pure, Result.andThen_ok, run_min_int2]) k
/-- A literal is frozen. -/
theorem Has.freeze_lit {b m : Nat} (h : Has G w W (Cells b cs E :: Fz H :: R)) (hl : cs.length = m * sz) (hm : m ≤ 9223372036854775807) : ∃ H', H.le H' ∧ Has G w W (Fz H' :: R) ∧ RdH H' sz (.slice (some ⟨b, 0, none⟩) m m) m cs := by
  obtain ⟨H', h1, h2, F, ⟨hF, hb⟩, h4⟩ := h.freeze (R' := [])
  exact ⟨H', h1, h2, hl, some ⟨b, 0, none⟩, m, rfl, Nat.le_refl _, hm, .inr ⟨b, 0, ⟨cs⟩, E, (0, 0), rfl, h4 b _ hF hb, fun j x hx => by simpa using hx⟩⟩
end
end Go.Sx

/-
  The walks of packhorselaw21.begun and of StreamNone.
-/
set_option linter.unusedVariables false
set_option maxRecDepth 10000
namespace Go.Proofs.YtcfaicomnngegaaDoor.Sw
open Go.RowKit Go.Sx

-- pieces

abbrev addN : OpD := ⟨4, ⟨#[110]⟩, 0, 0, ⟨#[]⟩, 0, 0, ⟨#[]⟩, 1⟩
abbrev b1 : BatchD := ⟨1, 1, [addN]⟩
theorem rows_b1 : rowsOf [b1] = [⟨1, b1, 0⟩] := by kernel_rfl
theorem addN_wf : OpWf addN := ⟨by decide, by decide, by decide, by decide, by decide, by decide, by decide, by decide, by decide⟩
theorem b1_wf : ∀ b ∈ [b1], BatWf b := by
  intro b hb
  rw [List.mem_singleton] at hb
  subst hb
  exact ⟨by decide, by decide, fun o ho => by rw [List.mem_singleton] at ho; subst ho; exact addN_wf⟩

/-- Its stream behind those rows. -/
theorem take_rows {l : List BatchD} : takeN ⟨emptyF, []⟩ 0 (rowsOf l) = (⟨foldOf l, rowsOf l⟩, (rowsOf l).length, 0) := by
  obtain ⟨h1, h2⟩ := rows_play l
  have := take_play (l := []) (n := 0) h1 rfl (by simp; omega)
  rw [this]; simp
theorem fold_place (l : List BatchD) : (foldOf l).place = ((rowsOf l).length : Nat) := by
  obtain ⟨h1, h2⟩ := rows_play l
  have := (play_places (k := 0) h1 rfl (by omega)).1
  rw [this]; simp
theorem old_rows (l : List BatchD) : ∀ r ∈ rowsOf l, 1 ≤ r.place ∧ r.place ≤ (rowsOf l).length ∧ (rowsOf l)[(r.place - 1).toNat]? = some r := by
  intro r hr
  obtain ⟨h1, h2⟩ := rows_play l
  obtain ⟨i, hi⟩ := List.getElem?_of_mem hr
  have hi' := (List.getElem?_eq_some_iff.1 hi).1
  have := (play_places (k := 0) h1 rfl (by omega)).2 i r hi
  rw [this]
  refine ⟨by omega, by omega, ?_⟩
  rw [show (((0 + i + 1 : Nat) : Int) - 1).toNat = i by omega]
  exact hi

end Go.Proofs.YtcfaicomnngegaaDoor.Sw

/-
  The judge: same, a row's closure, slices.IndexFunc and ContainsFunc, Issued; begins.
-/
set_option linter.unusedVariables false
set_option maxRecDepth 10000
namespace Go.Sx
open Go.RowKit
section
variable {P : Program} {ops : Array Oper} {rest : List Oper} {Q : Exit → Act → World → Prop} {a : Act} {n : Nat} {L : List (Nat × Value)} {W : World} {d : Nat} {T : TypeId} {p : String} {e : Array Edge}
/-- A function value over what it captures. -/
theorem st_makeFunc {f : FuncId} {xs : List Operand} {vs : List Value} (hs : Slots a n L) (hx : evs L xs = some vs := by with_unfolding_all exact rfl) (hd : Nat.blt d n = true := by with_unfolding_all exact rfl)
    (k : ∀ a', Slots a' n ((d, .func (.func f) ⟨[]⟩ ⟨vs⟩) :: L) → wpList P ops Q rest a' W) : wpList P ops Q (⟨some d, .makeFunc (.func f) ⟨[]⟩ ⟨xs⟩, T, p, e, none⟩ :: rest) a W := by
  refine st_value hs hd (v := .func (.func f) ⟨[]⟩ ⟨vs⟩) (W' := W) ?_ k
  simp only [execOp, List.map_toArray, hs.evs hx, Instr.makeFunc, Sem.run_bind, Sem.run_pure, Result.andThen_ok, List.map_nil]
/-- A call of a function value whose contract is at hand. -/
theorem st_callv {f : FuncId} {x : Operand} {xs : List Operand} {ts : Array TypeId} {vs cs : List Value} {C : Ending → World → Prop} (hs : Slots a n L) (hfv : ev L x = some (.func (.func f) ⟨[]⟩ ⟨cs⟩) := by with_unfolding_all exact rfl) (hx : evs L xs = some vs := by with_unfolding_all exact rfl) (hd : Nat.blt d n = true := by with_unfolding_all exact rfl)
    (hf : callee P f = true) (hc : Calls P f ⟨vs ++ cs⟩ W C)
    (k : ∀ e' W', C e' W' → ∃ v, e' = .returned v ∧ ∀ a', Slots a' n ((d, v) :: L) → wpList P ops Q rest a' W') :
    wpList P ops Q (⟨some d, .call { callee := .value x, args := ⟨xs⟩, argTypes := ts }, T, p, e, none⟩ :: rest) a W := by
  refine wpList_plain rfl fun K hK => ?_
  have hr : (execOp a.eval ⟨some d, .call { callee := .value x, args := ⟨xs⟩, argTypes := ts }, T, p, e, none⟩).run P W = .ok (.enter f ⟨vs ++ cs⟩) W := by
    simp only [execOp, resolve, List.map_toArray, hs.evs hx, hs.ev hfv, Deferred.ofValue, Sem.run_bind, Sem.run_pure, Result.andThen_ok, invoke]
    have : ((⟨[]⟩ : Array Value) ++ ⟨vs⟩ ++ ⟨cs⟩) = ⟨vs ++ cs⟩ := by simp
    simp only [this, run_callFunc hf]
  simp only [Oper.wp, hr, Oper.upon_enter]
  refine hc.mono fun e' W' h => ?_
  obtain ⟨v, rfl, h2⟩ := k e' W' h
  exact hK _ _ (h2 _ (hs.put hd v))
end
theorem Ch.mem {α : Type} {R : α → List Value → Prop} {k : Nat} (hk : ∀ a c, R a c → c.length = k) {l : List α} {cs : List Value} (h : Ch R l cs) {i : Nat} {a : α} (hi : l[i]? = some a) : ∃ c, R a c ∧ cut cs (i * k) k = c := by
  obtain ⟨c, h1, h2, h3⟩ := h.get hk hi
  exact ⟨c, h1, h3⟩
end Go.Sx
namespace Go.Proofs.YtcfaicomnngegaaDoor.Sw
open Go.RowKit Go.Sx

theorem BatRd.len {W : World} : ∀ (b : BatchD) (c : List Value), BatRd W b c → c.length = 3 := by rintro b c ⟨sv, rfl, _⟩; rfl
theorem BatRd.below {w W : World} (hb : Below w.heap.size w W) : ∀ (b : BatchD) (c : List Value), BatRd w b c → BatRd W b c := by rintro b c ⟨sv, rfl, h⟩; exact ⟨sv, rfl, h.below hb⟩
theorem RowRd.below {w W : World} (hb : Below w.heap.size w W) : ∀ (b : RowD) (c : List Value), RowRd w b c → RowRd W b c := by rintro b c ⟨sv, rfl, h⟩; exact ⟨sv, rfl, h.below hb⟩
theorem RowsRd.below {w W : World} {v : Value} {l : List RowD} (r : RowsRd w v l) (hb : Below w.heap.size w W) : RowsRd W v l := by
  obtain ⟨xs, h1, h2⟩ := r
  exact ⟨xs, h1.below hb, h2.mono (RowRd.below hb)⟩
theorem BatsRd.below {w W : World} {v : Value} {l : List BatchD} (r : BatsRd w v l) (hb : Below w.heap.size w W) : BatsRd W v l := by
  obtain ⟨xs, h1, h2⟩ := r
  exact ⟨xs, h1.below hb, h2.mono (BatRd.below hb)⟩

def sameB (a b : BatchD) : Bool := (a.c == b.c) && ((a.q == b.q) && eqL a.l b.l)
set_option maxHeartbeats 8000000 in
theorem judge_same (x y : BatchD) (sv sv' : Value) (w : World) (r : Rd w 9 sv x.l.length (x.l.flatMap opCells)) (r' : Rd w 9 sv' y.l.length (y.l.flatMap opCells)) :
    Calls Tryd.prog 31 ⟨[.agg ⟨batCells x sv⟩, .agg ⟨batCells y sv'⟩]⟩ w fun e w' => e = .returned (.bool (sameB x y)) ∧ Below w.heap.size w w' := by
  have hw := Has.start (G := 0) (w := w) (Nat.zero_le _)
  refine enter Tryd.func31 Tryd.ntmps31 rfl rfl fun a hs => ?_
  repeat (first | (refine sxv hs hw ?_; clear hs; intro a hs) | refine sxc hs ?_ | (refine sxa hs hw ?_; clear hs hw; intro a b W hw hs) | (refine sxs hs hw ?_; clear hs hw; intro W hs hw))
  unfold sameB
  cases h1 : (x.c == y.c) with
  | false =>
    rw [h1] at hs
    repeat (first | (refine sxv hs hw ?_; clear hs; intro a hs) | refine sxc hs ?_ | (refine sxa hs hw ?_; clear hs hw; intro a b W hw hs) | (refine sxs hs hw ?_; clear hs hw; intro W hs hw))
    exact rt1 hs rfl rfl ⟨rfl, hw.end (by repeat (first | exact In.hd | apply In.tl))⟩
  | true =>
  rw [h1] at hs
  repeat (first | (refine sxv hs hw ?_; clear hs; intro a hs) | refine sxc hs ?_ | (refine sxa hs hw ?_; clear hs hw; intro a b W hw hs) | (refine sxs hs hw ?_; clear hs hw; intro W hs hw))
  cases h2 : (x.q == y.q) with
  | false =>
    rw [h2] at hs
    repeat (first | (refine sxv hs hw ?_; clear hs; intro a hs) | refine sxc hs ?_ | (refine sxa hs hw ?_; clear hs hw; intro a b W hw hs) | (refine sxs hs hw ?_; clear hs hw; intro W hs hw))
    exact rt1 hs rfl rfl ⟨rfl, hw.end (by repeat (first | exact In.hd | apply In.tl))⟩
  | true =>
  rw [h2] at hs
  repeat (first | (refine sxv hs hw ?_; clear hs; intro a hs) | refine sxc hs ?_ | (refine sxa hs hw ?_; clear hs hw; intro a b W hw hs) | (refine sxs hs hw ?_; clear hs hw; intro W hs hw))
  refine st_call hs (hc := slices_Equal x.l sv y.l sv' _ (hw.rd (by repeat (first | exact In.hd | apply In.tl)) hw.ext.size r) (hw.rd (by repeat (first | exact In.hd | apply In.tl)) hw.ext.size r')) (k := ?_); rintro e0 W1 ⟨rfl, hb⟩; refine ⟨_, rfl, ?_⟩; clear hs; intro a hs; replace hw := hw.below hb; clear hb
  repeat (first | (refine sxv hs hw ?_; clear hs; intro a hs) | refine sxc hs ?_ | (refine sxa hs hw ?_; clear hs hw; intro a b W hw hs) | (refine sxs hs hw ?_; clear hs hw; intro W hs hw))
  exact rt1 hs rfl rfl ⟨rfl, hw.end (by repeat (first | exact In.hd | apply In.tl))⟩

set_option maxHeartbeats 8000000 in
theorem judge_issued1 (r : RowD) (sv : Value) (bt : BatchD) (bc : List Value) (bk : Nat) (w : World) (hr : ∀ j u, (rowCells r sv)[j]? = some u → w.cell? ⟨bk, 0 + j, none⟩ = some u) (hlt : bk < w.heap.size) (hro : Rd w 9 sv r.b.l.length (r.b.l.flatMap opCells)) (hb : BatRd w bt bc) :
    Calls Tryd.prog 30 ⟨[.agg ⟨bc⟩, .pointer (some ⟨bk, 0, none⟩)]⟩ w fun e w' => e = .returned (.bool (sameB r.b bt)) ∧ Below w.heap.size w w' := by
  obtain ⟨bv, rfl, hb⟩ := hb
  have hw := Has.start (G := 0) (w := w) (Nat.zero_le _)
  refine enter Tryd.func30 Tryd.ntmps30 rfl rfl fun a hs => ?_
  repeat (first | (refine sxv hs hw ?_; clear hs; intro a hs) | refine sxc hs ?_ | (refine sxa hs hw ?_; clear hs hw; intro a b W hw hs) | (refine sxs hs hw ?_; clear hs hw; intro W hs hw))
  refine st_load_ats (z := [.int .i64 0, .int .i64 0, .slice none 0 0]) hs (cs := batCells r.b sv) (hc := fun j u h => ((hw.end (by repeat (first | exact In.hd | apply In.tl))).cell hlt).trans (by rw [Nat.add_assoc]; exact hr (1 + j) u (by rw [Nat.add_comm]; match j, h with | 0, h => exact h | 1, h => exact h | 2, h => exact h))) (hl := by rfl) (c := ?_); clear hs; intro a hs
  repeat (first | (refine sxv hs hw ?_; clear hs; intro a hs) | refine sxc hs ?_ | (refine sxa hs hw ?_; clear hs hw; intro a b W hw hs) | (refine sxs hs hw ?_; clear hs hw; intro W hs hw))
  refine st_call hs (hc := judge_same r.b bt sv bv _ (hw.rd (by repeat (first | exact In.hd | apply In.tl)) hw.ext.size hro) (hw.rd (by repeat (first | exact In.hd | apply In.tl)) hw.ext.size hb)) (k := ?_); rintro e0 W1 ⟨rfl, hb⟩; refine ⟨_, rfl, ?_⟩; clear hs; intro a hs; replace hw := hw.below hb; clear hb
  repeat (first | (refine sxv hs hw ?_; clear hs; intro a hs) | refine sxc hs ?_ | (refine sxa hs hw ?_; clear hs hw; intro a b W hw hs) | (refine sxs hs hw ?_; clear hs hw; intro W hs hw))
  exact rt1 hs rfl rfl ⟨rfl, hw.end (by repeat (first | exact In.hd | apply In.tl))⟩

theorem any_none {α : Type} {p : α → Bool} {l : List α} {i : Nat} {o : α} (h : l[i]? = some o) (ha : (l.take i).any p = false) (hp : p o = false) : (l.take (i + 1)).any p = false := by
  rw [take_of h, List.any_append, ha]; simp [hp]
theorem any_some {α : Type} {p : α → Bool} {l : List α} {i : Nat} {o : α} (h : l[i]? = some o) (hp : p o = true) : l.any p = true := List.any_eq_true.2 ⟨o, List.mem_of_getElem? h, hp⟩

set_option maxHeartbeats 8000000 in
theorem index_bats (q : BatchD → Bool) (F : FuncId) (cs : List Value) (all : List BatchD) (v : Value) (w : World) (hf : callee Tryd.prog F = true) (r : BatsRd w v all)
    (hc : ∀ (b : BatchD) (bc : List Value) (W : World), Below w.heap.size w W → BatRd W b bc → Calls Tryd.prog F ⟨.agg ⟨bc⟩ :: cs⟩ W fun e W' => e = .returned (.bool (q b)) ∧ Below W.heap.size W W') :
    Calls Tryd.prog 39 ⟨[v, .func (.func F) ⟨[]⟩ ⟨cs⟩]⟩ w fun e w' => (∃ i : Int, e = .returned (.int .i64 i) ∧ decide (i ≥ 0) = all.any q) ∧ Below w.heap.size w w' := by
  obtain ⟨xs, r, hch⟩ := r
  obtain ⟨sad, scap, rfl⟩ : ∃ ad cap, v = .slice ad all.length cap := by obtain ⟨_, ad, cap, e, _⟩ := r; exact ⟨ad, cap, e⟩
  have hlen := r.len
  have hw := Has.start (G := 0) (w := w) (Nat.zero_le _)
  refine enter Tryd.func39 Tryd.ntmps39 rfl rfl fun a hs => ?_
  repeat (first | (refine sxv hs hw ?_; clear hs; intro a hs) | refine sxc hs ?_ | (refine sxa hs hw ?_; clear hs hw; intro a b W hw hs) | (refine sxs hs hw ?_; clear hs hw; intro W hs hw))
  refine st_loop (σ := Nat) (fun i => [(0, .slice sad all.length scap), (1, .func (.func F) ⟨[]⟩ ⟨cs⟩), (7, .int .i64 (all.length : Int)), (8, .int .i64 (i : Int))]) (fun _ => Old w 0 :: []) (fun i => i ≤ all.length ∧ (all.take i).any q = false) (fun i => all.length - i) 0 ⟨Nat.zero_le _, rfl⟩ hs ⟨rfl, rfl, rfl, rfl, trivial⟩ hw ?_
  clear hs hw
  rintro i a W ⟨hi, ha⟩ hs hw
  repeat (first | (refine sxv hs hw ?_; clear hs; intro a hs) | refine sxc hs ?_ | (refine sxa hs hw ?_; clear hs hw; intro a b W hw hs) | (refine sxs hs hw ?_; clear hs hw; intro W hs hw))
  refine cd_split hs (kt := fun hcc => ?_) (kf := fun hcc => ?_)
  · have hi' : i < all.length := by simpa using hcc
    obtain ⟨o, hoi⟩ : ∃ o, all[i]? = some o := ⟨all[i], List.getElem?_eq_getElem hi'⟩
    repeat (first | (refine sxv hs hw ?_; clear hs; intro a hs) | refine sxc hs ?_ | (refine sxa hs hw ?_; clear hs hw; intro a b W hw hs) | (refine sxs hs hw ?_; clear hs hw; intro W hs hw))
    refine st_index_ch hs (r := hw.rd (by repeat (first | exact In.hd | apply In.tl)) hw.ext.size r) (hk := BatRd.len) (ch := hch.mono (BatRd.below (hw.end (by repeat (first | exact In.hd | apply In.tl))))) (ho := hoi) (hlen := rfl) (c := ?_); clear hs; intro a g off c hcb hcl hpc hlt hs
    refine st_load_ats hs (cs := c) (hc := hpc) (hl := by rw [hcl]; rfl) (c := ?_); clear hs; intro a hs
    refine st_callv hs (hf := hf) (hc := hc o c W (hw.end (by repeat (first | exact In.hd | apply In.tl))) hcb) (k := ?_); rintro e0 W1 ⟨rfl, hb⟩; refine ⟨_, rfl, ?_⟩; clear hs; intro a hs; replace hw := hw.below hb; clear hb
    repeat (first | (refine sxv hs hw ?_; clear hs; intro a hs) | refine sxc hs ?_ | (refine sxa hs hw ?_; clear hs hw; intro a b W hw hs) | (refine sxs hs hw ?_; clear hs hw; intro W hs hw))
    cases hq : q o with
    | true =>
      rw [hq] at hs
      repeat (first | (refine sxv hs hw ?_; clear hs; intro a hs) | refine sxc hs ?_ | (refine sxa hs hw ?_; clear hs hw; intro a b W hw hs) | (refine sxs hs hw ?_; clear hs hw; intro W hs hw))
      exact rt1 hs rfl rfl ⟨⟨_, rfl, by rw [any_some hoi hq]; exact decide_eq_true (by omega)⟩, hw.end (by repeat (first | exact In.hd | apply In.tl))⟩
    | false =>
      rw [hq] at hs
      repeat (first | (refine sxv hs hw ?_; clear hs; intro a hs) | refine sxc hs ?_ | (refine sxa hs hw ?_; clear hs hw; intro a b W hw hs) | (refine sxs hs hw ?_; clear hs hw; intro W hs hw))
      exact st_again (i + 1) hs hw ⟨hi', any_none hoi ha hq⟩ (by show all.length - (i + 1) < all.length - i; omega) ⟨rfl, rfl, rfl, int_eq (by show IntKind.i64.wrap ((i : Int) + 1) = ((i + 1 : Nat) : Int); rw [IntWalk.i64_in _ (by omega)]; omega), trivial⟩
  · have hi' : i = all.length := by have : ¬ i < all.length := by simpa using hcc
                                    omega
    subst hi'
    rw [List.take_length] at ha
    repeat (first | (refine sxv hs hw ?_; clear hs; intro a hs) | refine sxc hs ?_ | (refine sxa hs hw ?_; clear hs hw; intro a b W hw hs) | (refine sxs hs hw ?_; clear hs hw; intro W hs hw))
    exact rt1 hs rfl rfl ⟨⟨_, rfl, by rw [ha]; decide⟩, hw.end (by repeat (first | exact In.hd | apply In.tl))⟩

set_option maxHeartbeats 8000000 in
theorem contains_bats (q : BatchD → Bool) (F : FuncId) (cs : List Value) (all : List BatchD) (v : Value) (w : World) (hf : callee Tryd.prog F = true) (r : BatsRd w v all)
    (hc : ∀ (b : BatchD) (bc : List Value) (W : World), Below w.heap.size w W → BatRd W b bc → Calls Tryd.prog F ⟨.agg ⟨bc⟩ :: cs⟩ W fun e W' => e = .returned (.bool (q b)) ∧ Below W.heap.size W W') :
    Calls Tryd.prog 29 ⟨[v, .func (.func F) ⟨[]⟩ ⟨cs⟩]⟩ w fun e w' => e = .returned (.bool (all.any q)) ∧ Below w.heap.size w w' := by
  have hw := Has.start (G := 0) (w := w) (Nat.zero_le _)
  refine enter Tryd.func29 Tryd.ntmps29 rfl rfl fun a hs => ?_
  repeat (first | (refine sxv hs hw ?_; clear hs; intro a hs) | refine sxc hs ?_ | (refine sxa hs hw ?_; clear hs hw; intro a b W hw hs) | (refine sxs hs hw ?_; clear hs hw; intro W hs hw))
  refine st_call hs (hc := index_bats q F cs all v w hf r hc) (k := ?_); rintro e0 W1 ⟨⟨i, rfl, hi⟩, hb⟩; refine ⟨_, rfl, ?_⟩; clear hs; intro a hs; replace hw := hw.below hb; clear hb
  repeat (first | (refine sxv hs hw ?_; clear hs; intro a hs) | refine sxc hs ?_ | (refine sxa hs hw ?_; clear hs hw; intro a b W hw hs) | (refine sxs hs hw ?_; clear hs hw; intro W hs hw))
  rw [show (decide (i ≥ 0)) = all.any q from hi] at hs
  repeat (first | (refine sxv hs hw ?_; clear hs; intro a hs) | refine sxc hs ?_ | (refine sxa hs hw ?_; clear hs hw; intro a b W hw hs) | (refine sxs hs hw ?_; clear hs hw; intro W hs hw))
  exact rt1 hs rfl rfl ⟨rfl, hw.end (by repeat (first | exact In.hd | apply In.tl))⟩

/-- Is each row's batch one of all? -/
def issuedB (l : List RowD) (all : List BatchD) : Bool := l.all fun r => all.any (sameB r.b)
theorem all_snoc {α : Type} {p : α → Bool} {l : List α} {i : Nat} {o : α} (h : l[i]? = some o) (ha : (l.take i).all p = true) (hp : p o = true) : (l.take (i + 1)).all p = true := by
  rw [take_of h, List.all_append, ha]; simp [hp]
theorem all_no {α : Type} {p : α → Bool} {l : List α} {i : Nat} {o : α} (h : l[i]? = some o) (hp : p o = false) : l.all p = false := List.all_eq_false.2 ⟨o, List.mem_of_getElem? h, by simp [hp]⟩

set_option maxHeartbeats 8000000 in
theorem judge_Issued (l : List RowD) (all : List BatchD) (v v' : Value) (w : World) (r : RowsRd w v l) (r' : BatsRd w v' all) :
    Calls Tryd.prog 17 ⟨[v, v']⟩ w fun e w' => e = .returned (.bool (issuedB l all)) ∧ Below w.heap.size w w' := by
  obtain ⟨xs, r, hch⟩ := r
  obtain ⟨sad, scap, rfl⟩ : ∃ ad cap, v = .slice ad l.length cap := by obtain ⟨_, ad, cap, e, _⟩ := r; exact ⟨ad, cap, e⟩
  have hlen := r.len
  have hw := Has.start (G := 0) (w := w) (Nat.zero_le _)
  refine enter Tryd.func17 Tryd.ntmps17 rfl rfl fun a hs => ?_
  repeat (first | (refine sxv hs hw ?_; clear hs; intro a hs) | refine sxc hs ?_ | (refine sxa hs hw ?_; clear hs hw; intro a b W hw hs) | (refine sxs hs hw ?_; clear hs hw; intro W hs hw))
  refine st_loop (σ := Nat) (fun i => [(1, v'), (7, .slice sad l.length scap), (8, .int .i64 (l.length : Int)), (9, .int .i64 (i : Int))]) (fun _ => Old w 0 :: []) (fun i => i ≤ l.length ∧ (l.take i).all (fun r => all.any (sameB r.b)) = true) (fun i => l.length - i) 0 ⟨Nat.zero_le _, rfl⟩ hs ⟨rfl, rfl, rfl, rfl, trivial⟩ hw ?_
  clear hs hw
  rintro i a W ⟨hi, ha⟩ hs hw
  repeat (first | (refine sxv hs hw ?_; clear hs; intro a hs) | refine sxc hs ?_ | (refine sxa hs hw ?_; clear hs hw; intro a b W hw hs) | (refine sxs hs hw ?_; clear hs hw; intro W hs hw))
  refine cd_split hs (kt := fun hcc => ?_) (kf := fun hcc => ?_)
  · have hi' : i < l.length := by simpa using hcc
    obtain ⟨o, hoi⟩ : ∃ o, l[i]? = some o := ⟨l[i], List.getElem?_eq_getElem hi'⟩
    repeat (first | (refine sxv hs hw ?_; clear hs; intro a hs) | refine sxc hs ?_ | (refine sxa hs hw ?_; clear hs hw; intro a b W hw hs) | (refine sxs hs hw ?_; clear hs hw; intro W hs hw))
    refine st_index_ch hs (r := hw.rd (by repeat (first | exact In.hd | apply In.tl)) hw.ext.size r) (hk := RowRd.len) (ch := hch) (ho := hoi) (hlen := rfl) (c := ?_); clear hs; intro a g off c hcb hcl hpc hlt hs
    obtain ⟨rv, rfl, hrv⟩ := hcb
    obtain ⟨rad, rcap, rfl⟩ : ∃ ad cap, rv = .slice ad o.b.l.length cap := by obtain ⟨_, ad, cap, e, _⟩ := hrv; exact ⟨ad, cap, e⟩
    refine st_load_ats hs (cs := rowCells o (.slice rad o.b.l.length rcap)) (hc := hpc) (hl := by rfl) (c := ?_); clear hs; intro a hs
    clear hpc
    repeat (first | (refine sxv hs hw ?_; clear hs; intro a hs) | refine sxc hs ?_ | (refine sxa hs hw ?_; clear hs hw; intro a b W hw hs) | (refine sxs hs hw ?_; clear hs hw; intro W hs hw))
    obtain ⟨bk, qk⟩ := nm1 hw; subst qk
    have hbel := hw.end (by repeat (first | exact In.hd | apply In.tl))
    have hblk := hw.block In.hd
    refine st_makeFunc hs (k := ?_); clear hs; intro a hs
    refine st_call hs (hc := contains_bats (sameB o.b) 30 [.pointer (some ⟨bk, 0, none⟩)] all v' _ (by kernel_rfl) (r'.below hbel) (fun b bc W' hb' hbc => judge_issued1 o (.slice rad o.b.l.length rcap) b bc bk W' (fun j u hj => (hb'.cell hblk.2.2).trans (by rw [cell_block hblk.1, Nat.zero_add]; exact hj)) (Nat.lt_of_lt_of_le hblk.2.2 hb'.size) ((hrv.below hbel).below hb') hbc)) (k := ?_); rintro e0 W1 ⟨rfl, hb⟩; refine ⟨_, rfl, ?_⟩; clear hs; intro a hs; replace hw := hw.below hb; clear hb
    repeat (first | (refine sxv hs hw ?_; clear hs; intro a hs) | refine sxc hs ?_ | (refine sxa hs hw ?_; clear hs hw; intro a b W hw hs) | (refine sxs hs hw ?_; clear hs hw; intro W hs hw))
    cases hq : all.any (sameB o.b) with
    | true =>
      rw [hq] at hs
      repeat (first | (refine sxv hs hw ?_; clear hs; intro a hs) | refine sxc hs ?_ | (refine sxa hs hw ?_; clear hs hw; intro a b W hw hs) | (refine sxs hs hw ?_; clear hs hw; intro W hs hw))
      exact st_again (i + 1) hs (hw.sub (List.Sublist.cons _ (List.Sublist.refl _))) ⟨hi', all_snoc hoi ha hq⟩ (by show l.length - (i + 1) < l.length - i; omega) ⟨rfl, rfl, rfl, int_eq (by show IntKind.i64.wrap ((i : Int) + 1) = ((i + 1 : Nat) : Int); rw [IntWalk.i64_in _ (by omega)]; omega), trivial⟩
    | false =>
      rw [hq] at hs
      repeat (first | (refine sxv hs hw ?_; clear hs; intro a hs) | refine sxc hs ?_ | (refine sxa hs hw ?_; clear hs hw; intro a b W hw hs) | (refine sxs hs hw ?_; clear hs hw; intro W hs hw))
      exact rt1 hs rfl rfl ⟨by unfold issuedB; rw [all_no hoi hq], hw.end (by repeat (first | exact In.hd | apply In.tl))⟩
  · have hi' : i = l.length := by have : ¬ i < l.length := by simpa using hcc
                                  omega
    subst hi'
    rw [List.take_length] at ha
    repeat (first | (refine sxv hs hw ?_; clear hs; intro a hs) | refine sxc hs ?_ | (refine sxa hs hw ?_; clear hs hw; intro a b W hw hs) | (refine sxs hs hw ?_; clear hs hw; intro W hs hw))
    exact rt1 hs rfl rfl ⟨by unfold issuedB; rw [ha], hw.end (by repeat (first | exact In.hd | apply In.tl))⟩
end Go.Proofs.YtcfaicomnngegaaDoor.Sw

/-
  The judge: lists that begin another one; One, on both sides; issued.
-/
set_option linter.unusedVariables false
set_option maxRecDepth 10000
namespace Go.Proofs.YtcfaicomnngegaaDoor.Sw
open Go.RowKit Go.Sx

/-- Is one list another one's beginning? -/
def front (a b : List RowD) : Bool := decide (a.length ≤ b.length) && eqRows a (b.take a.length)
theorem front_iff {a b : List RowD} : front a b = true ↔ a = b.take a.length := by
  unfold front
  rw [Bool.and_eq_true, decide_eq_true_eq, eqRows_iff]
  constructor
  · exact fun h => h.2
  · intro h
    refine ⟨?_, h⟩
    have := congrArg List.length h
    rw [List.length_take] at this
    omega
theorem front_long {a b : List RowD} {i : Nat} (h : i < a.length) (h2 : b.length ≤ i) : front a b = false := by
  unfold front
  rw [decide_eq_false (by omega)]; rfl
theorem front_no {a b : List RowD} {i : Nat} {x y : RowD} (h : a[i]? = some x) (h2 : b[i]? = some y) (h3 : sameR x y = false) : front a b = false := by
  cases hf : front a b with
  | false => rfl
  | true =>
    have := front_iff.1 hf
    have hi := (List.getElem?_eq_some_iff.1 h).1
    rw [this, List.getElem?_take, if_pos hi, h2] at h
    cases h
    rw [sameR_iff.2 rfl] at h3
    cases h3
theorem Rd.sl {W : World} {size n : Nat} {v : Value} {xs : List Value} (r : Rd W size v n xs) : ∃ ad cap, v = .slice ad n cap := by obtain ⟨_, ad, cap, e, _⟩ := r; exact ⟨ad, cap, e⟩

set_option maxHeartbeats 8000000 in
theorem judge_begins (l m : List RowD) (v v' : Value) (w : World) (r : RowsRd w v l) (r' : RowsRd w v' m) :
    Calls Tryd.prog 20 ⟨[v, v']⟩ w fun e w' => e = .returned (.bool (front l m)) ∧ Below w.heap.size w w' := by
  obtain ⟨xs, r, hch⟩ := r
  obtain ⟨ys, r', hch'⟩ := r'
  obtain ⟨sad, scap, rfl⟩ := Rd.sl r
  obtain ⟨tad, tcap, rfl⟩ := Rd.sl r'
  have hlen := r.len
  have hw := Has.start (G := 0) (w := w) (Nat.zero_le _)
  refine enter Tryd.func20 Tryd.ntmps20 rfl rfl fun a hs => ?_
  repeat (first | (refine sxv hs hw ?_; clear hs; intro a hs) | refine sxc hs ?_ | (refine sxa hs hw ?_; clear hs hw; intro a b W hw hs) | (refine sxs hs hw ?_; clear hs hw; intro W hs hw))
  refine st_loop (σ := Nat) (fun i => [(0, .slice sad l.length scap), (1, .slice tad m.length tcap), (7, .int .i64 (l.length : Int)), (8, .int .i64 (i : Int))]) (fun _ => Old w 0 :: []) (fun i => i ≤ l.length ∧ l.take i = m.take i) (fun i => l.length - i) 0 ⟨Nat.zero_le _, rfl⟩ hs ⟨rfl, rfl, rfl, rfl, trivial⟩ hw ?_
  clear hs hw
  rintro i a W ⟨hi, ha⟩ hs hw
  repeat (first | (refine sxv hs hw ?_; clear hs; intro a hs) | refine sxc hs ?_ | (refine sxa hs hw ?_; clear hs hw; intro a b W hw hs) | (refine sxs hs hw ?_; clear hs hw; intro W hs hw))
  refine cd_split hs (kt := fun hcc => ?_) (kf := fun hcc => ?_)
  · have hi' : i < l.length := by simpa using hcc
    obtain ⟨x, hxi⟩ : ∃ o, l[i]? = some o := ⟨l[i], List.getElem?_eq_getElem hi'⟩
    obtain ⟨g1, f1, c1, rfl, hg1, ⟨v1, rfl, hv1⟩, hc1⟩ := ch_at RowRd.len r hch rfl hxi
    repeat (first | (refine sxv hs hw ?_; clear hs; intro a hs) | refine sxc hs ?_ | (refine sxa hs hw ?_; clear hs hw; intro a b W hw hs) | (refine sxs hs hw ?_; clear hs hw; intro W hs hw))
    cases hge : decide ((i : Int) ≥ (m.length : Int)) with
    | true =>
      refine rg_draw (V := [.int .i64 (i : Int), .slice tad m.length tcap, .int .i64 (m.length : Int), .bool true, .bool true, undef, undef, undef, undef, undef, undef, undef, undef, undef, undef, .bool true])
        (Rs := fun D => Old w 0 :: []) hs hw (ho := ⟨?_, ?_, ?_, ?c3_1, ?_, ?_, ?_, ?_, ?_, ?_, ?_, ?_, ?_, ?_, ?_, ?_, trivial⟩) (k := ?k_1)
      case c3_1 =>
        intro LD D a W hcl hi hp hs hw
        repeat (first | (refine sxv hs hw ?_; clear hs; intro a hs) | refine sxc hs ?_ | (refine sxa hs hw ?_; clear hs hw; intro a b W hw hs) | (refine sxs hs hw ?_; clear hs hw; intro W hs hw))
        rw [hge] at hs
        exact ⟨hs, hw⟩
      case k_1 =>
        clear hs hw
        intro a W hs hw
        replace hs : Slots a 28 [(26, .bool true), (0, .slice (some ⟨g1, f1, none⟩) l.length scap), (1, .slice tad m.length tcap), (7, .int .i64 (l.length : Int)), (8, .int .i64 (i : Int))] := hs.of ⟨rfl, rfl, rfl, rfl, rfl, trivial⟩
        repeat (first | (refine sxv hs hw ?_; clear hs; intro a hs) | refine sxc hs ?_ | (refine sxa hs hw ?_; clear hs hw; intro a b W hw hs) | (refine sxs hs hw ?_; clear hs hw; intro W hs hw))
        exact rt1 hs rfl rfl ⟨by rw [front_long hi' (by have := of_decide_eq_true hge; omega)], hw.end (by repeat (first | exact In.hd | apply In.tl))⟩
      all_goals
        intro LD D a W hcl hi hp hs hw
        repeat (first | (refine sxv hs hw ?_; clear hs; intro a hs) | refine sxc hs ?_ | (refine sxa hs hw ?_; clear hs hw; intro a b W hw hs) | (refine sxs hs hw ?_; clear hs hw; intro W hs hw))
        exact ⟨hs, hw⟩
    | false =>
      have hi2 : i < m.length := by have := of_decide_eq_false hge; omega
      obtain ⟨y, hyi⟩ : ∃ o, m[i]? = some o := ⟨m[i], List.getElem?_eq_getElem hi2⟩
      obtain ⟨g2, f2, c2, rfl, hg2, ⟨v2, rfl, hv2⟩, hc2⟩ := ch_at RowRd.len r' hch' rfl hyi
      refine rg_draw (V := [.int .i64 (i : Int), .slice (some ⟨g2, f2, none⟩) m.length tcap, .int .i64 (m.length : Int), .bool false, .bool false, .slice (some ⟨g1, f1, none⟩) l.length scap, .int .i64 (i : Int), .pointer (some ⟨g1, f1 + i * 5, none⟩), .agg ⟨rowCells x v1⟩, .slice (some ⟨g2, f2, none⟩) m.length tcap, .int .i64 (i : Int), .pointer (some ⟨g2, f2 + i * 5, none⟩), .agg ⟨rowCells y v2⟩, .bool (sameR x y), .bool (!sameR x y), .bool (!sameR x y)])
        (Rs := fun D => Old w 0 :: []) hs hw (ho := ⟨?_, ?_, ?_, ?c3_2, ?_, ?_, ?_, ?c7_2, ?c8_2, ?_, ?_, ?c11_2, ?c12_2, ?c13_2, ?_, ?_, trivial⟩) (k := ?k_2)
      case c3_2 =>
        intro LD D a W hcl hi hp hs hw
        repeat (first | (refine sxv hs hw ?_; clear hs; intro a hs) | refine sxc hs ?_ | (refine sxa hs hw ?_; clear hs hw; intro a b W hw hs) | (refine sxs hs hw ?_; clear hs hw; intro W hs hw))
        rw [hge] at hs
        exact ⟨hs, hw⟩
      case c7_2 =>
        intro LD D a W hcl hi hp hs hw
        repeat (first | (refine sxv hs hw ?_; clear hs; intro a hs) | refine sxc hs ?_ | (refine sxa hs hw ?_; clear hs hw; intro a b W hw hs) | (refine sxs hs hw ?_; clear hs hw; intro W hs hw))
        refine st_index_at hs (z := zrc) (h0 := by omega) (h1 := by omega) (c := ?_); clear hs; intro a hs
        repeat (first | (refine sxv hs hw ?_; clear hs; intro a hs) | refine sxc hs ?_ | (refine sxa hs hw ?_; clear hs hw; intro a b W hw hs) | (refine sxs hs hw ?_; clear hs hw; intro W hs hw))
        exact ⟨hs, hw⟩
      case c8_2 =>
        intro LD D a W hcl hi hp hs hw
        repeat (first | (refine sxv hs hw ?_; clear hs; intro a hs) | refine sxc hs ?_ | (refine sxa hs hw ?_; clear hs hw; intro a b W hw hs) | (refine sxs hs hw ?_; clear hs hw; intro W hs hw))
        refine st_load_ats (z := zrc) hs (cs := rowCells x v1) (hc := fun j u h => ((hw.end In.hd).cell hg1).trans (hc1 j u h)) (hl := by rfl) (c := ?_); clear hs; intro a hs
        repeat (first | (refine sxv hs hw ?_; clear hs; intro a hs) | refine sxc hs ?_ | (refine sxa hs hw ?_; clear hs hw; intro a b W hw hs) | (refine sxs hs hw ?_; clear hs hw; intro W hs hw))
        exact ⟨hs, hw⟩
      case c11_2 =>
        intro LD D a W hcl hi hp hs hw
        repeat (first | (refine sxv hs hw ?_; clear hs; intro a hs) | refine sxc hs ?_ | (refine sxa hs hw ?_; clear hs hw; intro a b W hw hs) | (refine sxs hs hw ?_; clear hs hw; intro W hs hw))
        refine st_index_at hs (z := zrc) (h0 := by omega) (h1 := by omega) (c := ?_); clear hs; intro a hs
        repeat (first | (refine sxv hs hw ?_; clear hs; intro a hs) | refine sxc hs ?_ | (refine sxa hs hw ?_; clear hs hw; intro a b W hw hs) | (refine sxs hs hw ?_; clear hs hw; intro W hs hw))
        exact ⟨hs, hw⟩
      case c12_2 =>
        intro LD D a W hcl hi hp hs hw
        repeat (first | (refine sxv hs hw ?_; clear hs; intro a hs) | refine sxc hs ?_ | (refine sxa hs hw ?_; clear hs hw; intro a b W hw hs) | (refine sxs hs hw ?_; clear hs hw; intro W hs hw))
        refine st_load_ats (z := zrc) hs (cs := rowCells y v2) (hc := fun j u h => ((hw.end In.hd).cell hg2).trans (hc2 j u h)) (hl := by rfl) (c := ?_); clear hs; intro a hs
        repeat (first | (refine sxv hs hw ?_; clear hs; intro a hs) | refine sxc hs ?_ | (refine sxa hs hw ?_; clear hs hw; intro a b W hw hs) | (refine sxs hs hw ?_; clear hs hw; intro W hs hw))
        exact ⟨hs, hw⟩
      case c13_2 =>
        intro LD D a W hcl hi hp hs hw
        repeat (first | (refine sxv hs hw ?_; clear hs; intro a hs) | refine sxc hs ?_ | (refine sxa hs hw ?_; clear hs hw; intro a b W hw hs) | (refine sxs hs hw ?_; clear hs hw; intro W hs hw))
        refine st_call hs (hc := stream_Same x y v1 v2 _ (hw.rd (by repeat (first | exact In.hd | apply In.tl)) hw.ext.size hv1) (hw.rd (by repeat (first | exact In.hd | apply In.tl)) hw.ext.size hv2)) (k := ?_); rintro e0 W1 ⟨rfl, hb⟩; refine ⟨_, rfl, ?_⟩; clear hs; intro a hs; replace hw := hw.below hb; clear hb
        repeat (first | (refine sxv hs hw ?_; clear hs; intro a hs) | refine sxc hs ?_ | (refine sxa hs hw ?_; clear hs hw; intro a b W hw hs) | (refine sxs hs hw ?_; clear hs hw; intro W hs hw))
        exact ⟨hs, hw⟩
      case k_2 =>
        clear hs hw
        intro a W hs hw
        replace hs : Slots a 28 [(26, .bool (!sameR x y)), (0, .slice (some ⟨g1, f1, none⟩) l.length scap), (1, .slice (some ⟨g2, f2, none⟩) m.length tcap), (7, .int .i64 (l.length : Int)), (8, .int .i64 (i : Int))] := hs.of ⟨rfl, rfl, rfl, rfl, rfl, trivial⟩
        cases he : sameR x y with
        | false =>
          rw [he] at hs
          repeat (first | (refine sxv hs hw ?_; clear hs; intro a hs) | refine sxc hs ?_ | (refine sxa hs hw ?_; clear hs hw; intro a b W hw hs) | (refine sxs hs hw ?_; clear hs hw; intro W hs hw))
          exact rt1 hs rfl rfl ⟨by rw [front_no hxi hyi he], hw.end (by repeat (first | exact In.hd | apply In.tl))⟩
        | true =>
          rw [he] at hs
          repeat (first | (refine sxv hs hw ?_; clear hs; intro a hs) | refine sxc hs ?_ | (refine sxa hs hw ?_; clear hs hw; intro a b W hw hs) | (refine sxs hs hw ?_; clear hs hw; intro W hs hw))
          exact st_again (i + 1) hs hw ⟨hi', by rw [take_of hxi, take_of hyi, ha, sameR_iff.1 he]⟩ (by show l.length - (i + 1) < l.length - i; omega) ⟨rfl, rfl, rfl, int_eq (by show IntKind.i64.wrap ((i : Int) + 1) = ((i + 1 : Nat) : Int); rw [IntWalk.i64_in _ (by omega)]; omega), trivial⟩
      all_goals
        intro LD D a W hcl hi hp hs hw
        repeat (first | (refine sxv hs hw ?_; clear hs; intro a hs) | refine sxc hs ?_ | (refine sxa hs hw ?_; clear hs hw; intro a b W hw hs) | (refine sxs hs hw ?_; clear hs hw; intro W hs hw))
        exact ⟨hs, hw⟩
  · have hi' : i = l.length := by have : ¬ i < l.length := by simpa using hcc
                                  omega
    subst hi'
    rw [List.take_length] at ha
    repeat (first | (refine sxv hs hw ?_; clear hs; intro a hs) | refine sxc hs ?_ | (refine sxa hs hw ?_; clear hs hw; intro a b W hw hs) | (refine sxs hs hw ?_; clear hs hw; intro W hs hw))
    exact rt1 hs rfl rfl ⟨by rw [front_iff.2 ha], hw.end (by repeat (first | exact In.hd | apply In.tl))⟩

set_option maxHeartbeats 8000000 in
theorem ref_Front (l m : List RowD) (v v' : Value) (w : World) (r : RowsRd w v l) (r' : RowsRd w v' m) :
    Calls Tryd.prog 24 ⟨[v, v']⟩ w fun e w' => e = .returned (.bool (front l m)) ∧ Below w.heap.size w w' := by
  obtain ⟨xs, r, hch⟩ := r
  obtain ⟨ys, r', hch'⟩ := r'
  obtain ⟨sad, scap, rfl⟩ := Rd.sl r
  obtain ⟨tad, tcap, rfl⟩ := Rd.sl r'
  have hlen := r.len
  have hw := Has.start (G := 0) (w := w) (Nat.zero_le _)
  unfold front
  refine enter Tryd.func24 Tryd.ntmps24 rfl rfl fun a hs => ?_
  repeat (first | (refine sxv hs hw ?_; clear hs; intro a hs) | refine sxc hs ?_ | (refine sxa hs hw ?_; clear hs hw; intro a b W hw hs) | (refine sxs hs hw ?_; clear hs hw; intro W hs hw))
  cases h1 : decide ((l.length : Int) ≤ (m.length : Int)) with
  | false =>
    rw [h1] at hs
    repeat (first | (refine sxv hs hw ?_; clear hs; intro a hs) | refine sxc hs ?_ | (refine sxa hs hw ?_; clear hs hw; intro a b W hw hs) | (refine sxs hs hw ?_; clear hs hw; intro W hs hw))
    exact rt1 hs rfl rfl ⟨by rw [decide_eq_false (by have := of_decide_eq_false h1; omega)]; rfl, hw.end (by repeat (first | exact In.hd | apply In.tl))⟩
  | true =>
  have hle : l.length ≤ m.length := by have := of_decide_eq_true h1; omega
  rw [h1] at hs
  repeat (first | (refine sxv hs hw ?_; clear hs; intro a hs) | refine sxc hs ?_ | (refine sxa hs hw ?_; clear hs hw; intro a b W hw hs) | (refine sxs hs hw ?_; clear hs hw; intro W hs hw))
  refine st_slice_hi hs (z := zrc) (r := r') (h0 := by omega) (h1 := by omega) (c := ?_); clear hs; intro a uad ucap r2 hs
  rw [Int.toNat_natCast] at hs r2
  repeat (first | (refine sxv hs hw ?_; clear hs; intro a hs) | refine sxc hs ?_ | (refine sxa hs hw ?_; clear hs hw; intro a b W hw hs) | (refine sxs hs hw ?_; clear hs hw; intro W hs hw))
  have hlm : (m.take l.length).length = l.length := by rw [List.length_take]; omega
  refine st_call hs (hc := ref_EqRows l (.slice sad l.length scap) xs (m.take l.length) (.slice uad l.length ucap) (ys.take (l.length * 5)) _ (hw.rd (by repeat (first | exact In.hd | apply In.tl)) hw.ext.size r) (hch.mono (RowRd.below (hw.end (by repeat (first | exact In.hd | apply In.tl))))) (by rw [hlm]; exact hw.rd (by repeat (first | exact In.hd | apply In.tl)) hw.ext.size r2) ((Ch.take RowRd.len l.length hch').mono (RowRd.below (hw.end (by repeat (first | exact In.hd | apply In.tl)))))) (k := ?_); rintro e0 W1 ⟨rfl, hb⟩; refine ⟨_, rfl, ?_⟩; clear hs; intro a hs; replace hw := hw.below hb; clear hb
  repeat (first | (refine sxv hs hw ?_; clear hs; intro a hs) | refine sxc hs ?_ | (refine sxa hs hw ?_; clear hs hw; intro a b W hw hs) | (refine sxs hs hw ?_; clear hs hw; intro W hs hw))
  exact rt1 hs rfl rfl ⟨by rw [decide_eq_true hle]; rfl, hw.end (by repeat (first | exact In.hd | apply In.tl))⟩

/-- Lists of rows as they come in. -/
def ListRd (W : World) (rows : List RowD) (c : List Value) : Prop := ∃ sv, c = [sv] ∧ RowsRd W sv rows
def ListsRd (W : World) (v : Value) (ls : List (List RowD)) : Prop := ∃ xs, Rd W 1 v ls.length xs ∧ Ch (ListRd W) ls xs
theorem ListRd.len {W : World} : ∀ (b : List RowD) (c : List Value), ListRd W b c → c.length = 1 := by rintro b c ⟨sv, rfl, _⟩; rfl
theorem ListRd.below {w W : World} (hb : Below w.heap.size w W) : ∀ (b : List RowD) (c : List Value), ListRd w b c → ListRd W b c := by rintro b c ⟨sv, rfl, h⟩; exact ⟨sv, rfl, h.below hb⟩
theorem ListsRd.below {w W : World} {v : Value} {l : List (List RowD)} (r : ListsRd w v l) (hb : Below w.heap.size w W) : ListsRd W v l := by
  obtain ⟨xs, h1, h2⟩ := r
  exact ⟨xs, h1.below hb, h2.mono (ListRd.below hb)⟩
/-- Of the i-th and the k-th list, is one the other's beginning? -/
def fr2 (ls : List (List RowD)) (i k : Nat) : Bool := front (ls.getD i []) (ls.getD k []) || front (ls.getD k []) (ls.getD i [])
def oneB (ls : List (List RowD)) : Bool := (List.range ls.length).all fun i => (List.range i).all fun k => fr2 ls i k
theorem oneB_no {ls : List (List RowD)} {i k : Nat} {x y : List RowD} (hx : ls[i]? = some x) (hy : ls[k]? = some y) (hk : k < i) (h1 : front x y = false) (h2 : front y x = false) : oneB ls = false := by
  have hi := (List.getElem?_eq_some_iff.1 hx).1
  unfold oneB
  rw [List.all_eq_false]
  refine ⟨i, List.mem_range.2 hi, ?_⟩
  rw [Bool.not_eq_true, List.all_eq_false]
  refine ⟨k, List.mem_range.2 hk, ?_⟩
  simp [fr2, hx, hy, h1, h2]
theorem oneB_yes {ls : List (List RowD)} (h : ∀ i, i < ls.length → ∀ k, k < i → fr2 ls i k = true) : oneB ls = true := by
  unfold oneB
  rw [List.all_eq_true]
  intro i hi
  rw [List.all_eq_true]
  intro k hk
  exact h i (List.mem_range.1 hi) k (List.mem_range.1 hk)
theorem fr2_of {ls : List (List RowD)} {i k : Nat} {x y : List RowD} (hx : ls[i]? = some x) (hy : ls[k]? = some y) (h : front x y = true ∨ front y x = true) : fr2 ls i k = true := by
  simp [fr2, hx, hy, h]

set_option maxHeartbeats 16000000 in
theorem judge_One (ls : List (List RowD)) (v : Value) (w : World) (r : ListsRd w v ls) :
    Calls Tryd.prog 9 ⟨[v]⟩ w fun e w' => e = .returned (.bool (oneB ls)) ∧ Below w.heap.size w w' := by
  obtain ⟨xs, r, hch⟩ := r
  obtain ⟨sad, scap, rfl⟩ := Rd.sl r
  have hlen := r.len
  have hw := Has.start (G := 0) (w := w) (Nat.zero_le _)
  refine enter Tryd.func9 Tryd.ntmps9 rfl rfl fun a hs => ?_
  repeat (first | (refine sxv hs hw ?_; clear hs; intro a hs) | refine sxc hs ?_ | (refine sxa hs hw ?_; clear hs hw; intro a b W hw hs) | (refine sxs hs hw ?_; clear hs hw; intro W hs hw))
  refine st_loop (σ := Nat) (fun i => [(0, .slice sad ls.length scap), (7, .slice sad ls.length scap), (8, .int .i64 (ls.length : Int)), (9, .int .i64 (i : Int))]) (fun _ => Old w 0 :: []) (fun i => i ≤ ls.length ∧ ∀ i', i' < i → ∀ k, k < i' → fr2 ls i' k = true) (fun i => ls.length - i) 0 ⟨Nat.zero_le _, fun i' h => by omega⟩ hs ⟨rfl, rfl, rfl, rfl, trivial⟩ hw ?_
  clear hs hw
  rintro i a W ⟨hi, ha⟩ hs hw
  repeat (first | (refine sxv hs hw ?_; clear hs; intro a hs) | refine sxc hs ?_ | (refine sxa hs hw ?_; clear hs hw; intro a b W hw hs) | (refine sxs hs hw ?_; clear hs hw; intro W hs hw))
  refine cd_split hs (kt := fun hcc => ?_) (kf := fun hcc => ?_)
  · have hi' : i < ls.length := by simpa using hcc
    obtain ⟨x, hxi⟩ : ∃ o, ls[i]? = some o := ⟨ls[i], List.getElem?_eq_getElem hi'⟩
    repeat (first | (refine sxv hs hw ?_; clear hs; intro a hs) | refine sxc hs ?_ | (refine sxa hs hw ?_; clear hs hw; intro a b W hw hs) | (refine sxs hs hw ?_; clear hs hw; intro W hs hw))
    refine st_index_ch hs (r := hw.rd (by repeat (first | exact In.hd | apply In.tl)) hw.ext.size r) (hk := ListRd.len) (ch := hch) (ho := hxi) (hlen := rfl) (c := ?_); clear hs; intro a g off c hcb hcl hpc hlt hs
    obtain ⟨xv, rfl, hxr⟩ := hcb
    refine st_load_at hs (hc := hpc 0 _ rfl) (c := ?_); clear hs; intro a hs
    clear hpc
    repeat (first | (refine sxv hs hw ?_; clear hs; intro a hs) | refine sxc hs ?_ | (refine sxa hs hw ?_; clear hs hw; intro a b W hw hs) | (refine sxs hs hw ?_; clear hs hw; intro W hs hw))
    refine st_slice_hi hs (z := [.slice none 0 0]) (r := r) (h0 := by omega) (h1 := by omega) (c := ?_); clear hs; intro a uad ucap r2 hs
    rw [Int.toNat_natCast] at hs r2
    have hch2 := Ch.take ListRd.len i hch
    repeat (first | (refine sxv hs hw ?_; clear hs; intro a hs) | refine sxc hs ?_ | (refine sxa hs hw ?_; clear hs hw; intro a b W hw hs) | (refine sxs hs hw ?_; clear hs hw; intro W hs hw))
    refine st_loop (σ := Nat) (fun k => [(0, .slice sad ls.length scap), (4, xv), (7, .slice sad ls.length scap), (8, .int .i64 (ls.length : Int)), (9, .int .i64 (i : Int)), (16, .slice uad i ucap), (17, .int .i64 (i : Int)), (18, .int .i64 (k : Int))]) (fun _ => Old w 0 :: []) (fun k => k ≤ i ∧ ∀ k', k' < k → fr2 ls i k' = true) (fun k => i - k) 0 ⟨Nat.zero_le _, fun k' h => by omega⟩ hs ⟨rfl, rfl, rfl, rfl, rfl, rfl, rfl, rfl, trivial⟩ hw ?_
    clear hs hw
    rintro k a W ⟨hk, hka⟩ hs hw
    repeat (first | (refine sxv hs hw ?_; clear hs; intro a hs) | refine sxc hs ?_ | (refine sxa hs hw ?_; clear hs hw; intro a b W hw hs) | (refine sxs hs hw ?_; clear hs hw; intro W hs hw))
    refine cd_split hs (kt := fun hcc2 => ?_) (kf := fun hcc2 => ?_)
    · have hk' : k < i := by simpa using hcc2
      obtain ⟨y, hyk⟩ : ∃ o, ls[k]? = some o := ⟨ls[k], List.getElem?_eq_getElem (by omega)⟩
      repeat (first | (refine sxv hs hw ?_; clear hs; intro a hs) | refine sxc hs ?_ | (refine sxa hs hw ?_; clear hs hw; intro a b W hw hs) | (refine sxs hs hw ?_; clear hs hw; intro W hs hw))
      refine st_index_ch hs (r := hw.rd (by repeat (first | exact In.hd | apply In.tl)) hw.ext.size r2) (hk := ListRd.len) (ch := hch2) (ho := by rw [List.getElem?_take, if_pos hk']; exact hyk) (hlen := by rw [List.length_take]; omega) (c := ?_); clear hs; intro a g off c hcb hcl hpc hlt hs
      obtain ⟨yv, rfl, hyr⟩ := hcb
      refine st_load_at hs (hc := hpc 0 _ rfl) (c := ?_); clear hs; intro a hs
      clear hpc
      repeat (first | (refine sxv hs hw ?_; clear hs; intro a hs) | refine sxc hs ?_ | (refine sxa hs hw ?_; clear hs hw; intro a b W hw hs) | (refine sxs hs hw ?_; clear hs hw; intro W hs hw))
      refine st_call hs (hc := judge_begins x y xv yv _ (hxr.below (hw.end (by repeat (first | exact In.hd | apply In.tl)))) (hyr.below (hw.end (by repeat (first | exact In.hd | apply In.tl))))) (k := ?_); rintro e0 W1 ⟨rfl, hb⟩; refine ⟨_, rfl, ?_⟩; clear hs; intro a hs; replace hw := hw.below hb; clear hb
      repeat (first | (refine sxv hs hw ?_; clear hs; intro a hs) | refine sxc hs ?_ | (refine sxa hs hw ?_; clear hs hw; intro a b W hw hs) | (refine sxs hs hw ?_; clear hs hw; intro W hs hw))
      cases h1 : front x y with
      | true =>
        rw [h1] at hs
        repeat (first | (refine sxv hs hw ?_; clear hs; intro a hs) | refine sxc hs ?_ | (refine sxa hs hw ?_; clear hs hw; intro a b W hw hs) | (refine sxs hs hw ?_; clear hs hw; intro W hs hw))
        exact st_again (k + 1) hs hw ⟨hk', fun k' h => by rcases Nat.lt_succ_iff_lt_or_eq.1 h with h | rfl; exact hka k' h; exact fr2_of hxi hyk (.inl h1)⟩ (by show i - (k + 1) < i - k; omega) ⟨rfl, rfl, rfl, rfl, rfl, rfl, rfl, int_eq (by show IntKind.i64.wrap ((k : Int) + 1) = ((k + 1 : Nat) : Int); rw [IntWalk.i64_in _ (by omega)]; omega), trivial⟩
      | false =>
      rw [h1] at hs
      repeat (first | (refine sxv hs hw ?_; clear hs; intro a hs) | refine sxc hs ?_ | (refine sxa hs hw ?_; clear hs hw; intro a b W hw hs) | (refine sxs hs hw ?_; clear hs hw; intro W hs hw))
      refine st_call hs (hc := judge_begins y x yv xv _ (hyr.below (hw.end (by repeat (first | exact In.hd | apply In.tl)))) (hxr.below (hw.end (by repeat (first | exact In.hd | apply In.tl))))) (k := ?_); rintro e0 W1 ⟨rfl, hb⟩; refine ⟨_, rfl, ?_⟩; clear hs; intro a hs; replace hw := hw.below hb; clear hb
      repeat (first | (refine sxv hs hw ?_; clear hs; intro a hs) | refine sxc hs ?_ | (refine sxa hs hw ?_; clear hs hw; intro a b W hw hs) | (refine sxs hs hw ?_; clear hs hw; intro W hs hw))
      cases h2 : front y x with
      | true =>
        rw [h2] at hs
        repeat (first | (refine sxv hs hw ?_; clear hs; intro a hs) | refine sxc hs ?_ | (refine sxa hs hw ?_; clear hs hw; intro a b W hw hs) | (refine sxs hs hw ?_; clear hs hw; intro W hs hw))
        exact st_again (k + 1) hs hw ⟨hk', fun k' h => by rcases Nat.lt_succ_iff_lt_or_eq.1 h with h | rfl; exact hka k' h; exact fr2_of hxi hyk (.inr h2)⟩ (by show i - (k + 1) < i - k; omega) ⟨rfl, rfl, rfl, rfl, rfl, rfl, rfl, int_eq (by show IntKind.i64.wrap ((k : Int) + 1) = ((k + 1 : Nat) : Int); rw [IntWalk.i64_in _ (by omega)]; omega), trivial⟩
      | false =>
        rw [h2] at hs
        repeat (first | (refine sxv hs hw ?_; clear hs; intro a hs) | refine sxc hs ?_ | (refine sxa hs hw ?_; clear hs hw; intro a b W hw hs) | (refine sxs hs hw ?_; clear hs hw; intro W hs hw))
        exact rt1 hs rfl rfl ⟨by rw [oneB_no hxi hyk hk' h1 h2], hw.end (by repeat (first | exact In.hd | apply In.tl))⟩
    · have hk' : k = i := by have : ¬ k < i := by simpa using hcc2
                             omega
      subst hk'
      repeat (first | (refine sxv hs hw ?_; clear hs; intro a hs) | refine sxc hs ?_ | (refine sxa hs hw ?_; clear hs hw; intro a b W hw hs) | (refine sxs hs hw ?_; clear hs hw; intro W hs hw))
      exact st_again (k + 1) hs hw ⟨hi', fun i' h => by rcases Nat.lt_succ_iff_lt_or_eq.1 h with h | rfl; exact ha i' h; exact hka⟩ (by show ls.length - (k + 1) < ls.length - k; omega) ⟨rfl, rfl, rfl, int_eq (by show IntKind.i64.wrap ((k : Int) + 1) = ((k + 1 : Nat) : Int); rw [IntWalk.i64_in _ (by omega)]; omega), trivial⟩
  · have hi' : i = ls.length := by have : ¬ i < ls.length := by simpa using hcc
                                   omega
    subst hi'
    repeat (first | (refine sxv hs hw ?_; clear hs; intro a hs) | refine sxc hs ?_ | (refine sxa hs hw ?_; clear hs hw; intro a b W hw hs) | (refine sxs hs hw ?_; clear hs hw; intro W hs hw))
    exact rt1 hs rfl rfl ⟨by rw [oneB_yes ha], hw.end (by repeat (first | exact In.hd | apply In.tl))⟩

set_option maxHeartbeats 16000000 in
theorem law28_one (ls : List (List RowD)) (v : Value) (w : World) (r : ListsRd w v ls) :
    Calls Tryd.prog 12 ⟨[v]⟩ w fun e w' => e = .returned (.bool (oneB ls)) ∧ Below w.heap.size w w' := by
  obtain ⟨xs, r, hch⟩ := r
  obtain ⟨sad, scap, rfl⟩ := Rd.sl r
  have hlen := r.len
  have hw := Has.start (G := 0) (w := w) (Nat.zero_le _)
  refine enter Tryd.func12 Tryd.ntmps12 rfl rfl fun a hs => ?_
  repeat (first | (refine sxv hs hw ?_; clear hs; intro a hs) | refine sxc hs ?_ | (refine sxa hs hw ?_; clear hs hw; intro a b W hw hs) | (refine sxs hs hw ?_; clear hs hw; intro W hs hw))
  refine st_loop (σ := Nat) (fun i => [(0, .slice sad ls.length scap), (3, .int .i64 (i : Int))]) (fun _ => Old w 0 :: []) (fun i => i ≤ ls.length ∧ ∀ i', i' < i → ∀ k, k < i' → fr2 ls i' k = true) (fun i => ls.length - i) 0 ⟨Nat.zero_le _, fun i' h => by omega⟩ hs ⟨rfl, rfl, trivial⟩ hw ?_
  clear hs hw
  rintro i a W ⟨hi, ha⟩ hs hw
  repeat (first | (refine sxv hs hw ?_; clear hs; intro a hs) | refine sxc hs ?_ | (refine sxa hs hw ?_; clear hs hw; intro a b W hw hs) | (refine sxs hs hw ?_; clear hs hw; intro W hs hw))
  refine cd_split hs (kt := fun hcc => ?_) (kf := fun hcc => ?_)
  · have hi' : i < ls.length := by simpa using hcc
    obtain ⟨x, hxi⟩ : ∃ o, ls[i]? = some o := ⟨ls[i], List.getElem?_eq_getElem hi'⟩
    obtain ⟨g1, f1, c1, rfl, hg1, ⟨xv, rfl, hxr⟩, hc1⟩ := ch_at ListRd.len r hch rfl hxi
    repeat (first | (refine sxv hs hw ?_; clear hs; intro a hs) | refine sxc hs ?_ | (refine sxa hs hw ?_; clear hs hw; intro a b W hw hs) | (refine sxs hs hw ?_; clear hs hw; intro W hs hw))
    refine st_loop (σ := Nat) (fun k => [(0, .slice (some ⟨g1, f1, none⟩) ls.length scap), (3, .int .i64 (i : Int)), (4, .int .i64 (k : Int))]) (fun _ => Old w 0 :: []) (fun k => k ≤ i ∧ ∀ k', k' < k → fr2 ls i k' = true) (fun k => i - k) 0 ⟨Nat.zero_le _, fun k' h => by omega⟩ hs ⟨rfl, rfl, rfl, trivial⟩ hw ?_
    clear hs hw
    rintro k a W ⟨hk, hka⟩ hs hw
    repeat (first | (refine sxv hs hw ?_; clear hs; intro a hs) | refine sxc hs ?_ | (refine sxa hs hw ?_; clear hs hw; intro a b W hw hs) | (refine sxs hs hw ?_; clear hs hw; intro W hs hw))
    refine cd_split hs (kt := fun hcc2 => ?_) (kf := fun hcc2 => ?_)
    · have hk' : k < i := by simpa using hcc2
      obtain ⟨y, hyk⟩ : ∃ o, ls[k]? = some o := ⟨ls[k], List.getElem?_eq_getElem (by omega)⟩
      obtain ⟨g2, f2, c2, e2, hg2, ⟨yv, rfl, hyr⟩, hc2⟩ := ch_at ListRd.len r hch rfl hyk
      cases e2
      repeat (first | (refine sxv hs hw ?_; clear hs; intro a hs) | refine sxc hs ?_ | (refine sxa hs hw ?_; clear hs hw; intro a b W hw hs) | (refine sxs hs hw ?_; clear hs hw; intro W hs hw))
      cases h1 : front x y with
      | true =>
        refine rg_draw (V := [.slice (some ⟨g1, f1, none⟩) ls.length scap, .int .i64 (i : Int), .pointer (some ⟨g1, f1 + i * 1, none⟩), xv, .slice (some ⟨g1, f1, none⟩) ls.length scap, .int .i64 (k : Int), .pointer (some ⟨g1, f1 + k * 1, none⟩), yv, .bool true, .bool false, .bool false, undef, undef, undef, undef, undef, undef, undef, undef, undef, undef, .bool false])
          (Rs := fun D => Old w 0 :: []) hs hw (ho := ⟨?_, ?_, ?c2_3, ?c3_3, ?_, ?_, ?c6_3, ?c7_3, ?c8_3, ?_, ?_, ?_, ?_, ?_, ?_, ?_, ?_, ?_, ?_, ?_, ?_, ?_, trivial⟩) (k := ?k_3)
        case c2_3 =>
          intro LD D a W hcl hi hp hs hw
          repeat (first | (refine sxv hs hw ?_; clear hs; intro a hs) | refine sxc hs ?_ | (refine sxa hs hw ?_; clear hs hw; intro a b W hw hs) | (refine sxs hs hw ?_; clear hs hw; intro W hs hw))
          refine st_index_at hs (z := [.slice none 0 0]) (h0 := by omega) (h1 := by omega) (c := ?_); clear hs; intro a hs
          repeat (first | (refine sxv hs hw ?_; clear hs; intro a hs) | refine sxc hs ?_ | (refine sxa hs hw ?_; clear hs hw; intro a b W hw hs) | (refine sxs hs hw ?_; clear hs hw; intro W hs hw))
          exact ⟨hs, hw⟩
        case c3_3 =>
          intro LD D a W hcl hi hp hs hw
          repeat (first | (refine sxv hs hw ?_; clear hs; intro a hs) | refine sxc hs ?_ | (refine sxa hs hw ?_; clear hs hw; intro a b W hw hs) | (refine sxs hs hw ?_; clear hs hw; intro W hs hw))
          refine st_load_at hs (hc := ((hw.end In.hd).cell hg1).trans (hc1 0 _ rfl)) (c := ?_); clear hs; intro a hs
          repeat (first | (refine sxv hs hw ?_; clear hs; intro a hs) | refine sxc hs ?_ | (refine sxa hs hw ?_; clear hs hw; intro a b W hw hs) | (refine sxs hs hw ?_; clear hs hw; intro W hs hw))
          exact ⟨hs, hw⟩
        case c6_3 =>
          intro LD D a W hcl hi hp hs hw
          repeat (first | (refine sxv hs hw ?_; clear hs; intro a hs) | refine sxc hs ?_ | (refine sxa hs hw ?_; clear hs hw; intro a b W hw hs) | (refine sxs hs hw ?_; clear hs hw; intro W hs hw))
          refine st_index_at hs (z := [.slice none 0 0]) (h0 := by omega) (h1 := by omega) (c := ?_); clear hs; intro a hs
          repeat (first | (refine sxv hs hw ?_; clear hs; intro a hs) | refine sxc hs ?_ | (refine sxa hs hw ?_; clear hs hw; intro a b W hw hs) | (refine sxs hs hw ?_; clear hs hw; intro W hs hw))
          exact ⟨hs, hw⟩
        case c7_3 =>
          intro LD D a W hcl hi hp hs hw
          repeat (first | (refine sxv hs hw ?_; clear hs; intro a hs) | refine sxc hs ?_ | (refine sxa hs hw ?_; clear hs hw; intro a b W hw hs) | (refine sxs hs hw ?_; clear hs hw; intro W hs hw))
          refine st_load_at hs (hc := ((hw.end In.hd).cell hg2).trans (hc2 0 _ rfl)) (c := ?_); clear hs; intro a hs
          repeat (first | (refine sxv hs hw ?_; clear hs; intro a hs) | refine sxc hs ?_ | (refine sxa hs hw ?_; clear hs hw; intro a b W hw hs) | (refine sxs hs hw ?_; clear hs hw; intro W hs hw))
          exact ⟨hs, hw⟩
        case c8_3 =>
          intro LD D a W hcl hi hp hs hw
          repeat (first | (refine sxv hs hw ?_; clear hs; intro a hs) | refine sxc hs ?_ | (refine sxa hs hw ?_; clear hs hw; intro a b W hw hs) | (refine sxs hs hw ?_; clear hs hw; intro W hs hw))
          refine st_call hs (hc := ref_Front x y xv yv _ (hxr.below (hw.end (by repeat (first | exact In.hd | apply In.tl)))) (hyr.below (hw.end (by repeat (first | exact In.hd | apply In.tl))))) (k := ?_); rintro e0 W1 ⟨rfl, hb⟩; refine ⟨_, rfl, ?_⟩; clear hs; intro a hs; replace hw := hw.below hb; clear hb
          rw [h1] at hs
          repeat (first | (refine sxv hs hw ?_; clear hs; intro a hs) | refine sxc hs ?_ | (refine sxa hs hw ?_; clear hs hw; intro a b W hw hs) | (refine sxs hs hw ?_; clear hs hw; intro W hs hw))
          exact ⟨hs, hw⟩
        case k_3 =>
          clear hs hw
          intro a W hs hw
          replace hs : Slots a 38 [(37, .bool false), (0, .slice (some ⟨g1, f1, none⟩) ls.length scap), (3, .int .i64 (i : Int)), (4, .int .i64 (k : Int))] := hs.of ⟨rfl, rfl, rfl, rfl, trivial⟩
          repeat (first | (refine sxv hs hw ?_; clear hs; intro a hs) | refine sxc hs ?_ | (refine sxa hs hw ?_; clear hs hw; intro a b W hw hs) | (refine sxs hs hw ?_; clear hs hw; intro W hs hw))
          exact st_again (k + 1) hs hw ⟨hk', fun k' h => by rcases Nat.lt_succ_iff_lt_or_eq.1 h with h | rfl; exact hka k' h; exact fr2_of hxi hyk (.inl h1)⟩ (by show i - (k + 1) < i - k; omega) ⟨rfl, rfl, int_eq (by show IntKind.i64.wrap ((k : Int) + 1) = ((k + 1 : Nat) : Int); rw [IntWalk.i64_in _ (by omega)]; omega), trivial⟩
        all_goals
          intro LD D a W hcl hi hp hs hw
          repeat (first | (refine sxv hs hw ?_; clear hs; intro a hs) | refine sxc hs ?_ | (refine sxa hs hw ?_; clear hs hw; intro a b W hw hs) | (refine sxs hs hw ?_; clear hs hw; intro W hs hw))
          exact ⟨hs, hw⟩
      | false =>
        refine rg_draw (V := [.slice (some ⟨g1, f1, none⟩) ls.length scap, .int .i64 (i : Int), .pointer (some ⟨g1, f1 + i * 1, none⟩), xv, .slice (some ⟨g1, f1, none⟩) ls.length scap, .int .i64 (k : Int), .pointer (some ⟨g1, f1 + k * 1, none⟩), yv, .bool false, .bool true, .bool true, .slice (some ⟨g1, f1, none⟩) ls.length scap, .int .i64 (k : Int), .pointer (some ⟨g1, f1 + k * 1, none⟩), yv, .slice (some ⟨g1, f1, none⟩) ls.length scap, .int .i64 (i : Int), .pointer (some ⟨g1, f1 + i * 1, none⟩), xv, .bool (front y x), .bool (!front y x), .bool (!front y x)])
          (Rs := fun D => Old w 0 :: []) hs hw (ho := ⟨?_, ?_, ?c2_4, ?c3_4, ?_, ?_, ?c6_4, ?c7_4, ?c8_4, ?_, ?_, ?_, ?_, ?c13_4, ?c14_4, ?_, ?_, ?c17_4, ?c18_4, ?c19_4, ?_, ?_, trivial⟩) (k := ?k_4)
        case c2_4 =>
          intro LD D a W hcl hi hp hs hw
          repeat (first | (refine sxv hs hw ?_; clear hs; intro a hs) | refine sxc hs ?_ | (refine sxa hs hw ?_; clear hs hw; intro a b W hw hs) | (refine sxs hs hw ?_; clear hs hw; intro W hs hw))
          refine st_index_at hs (z := [.slice none 0 0]) (h0 := by omega) (h1 := by omega) (c := ?_); clear hs; intro a hs
          repeat (first | (refine sxv hs hw ?_; clear hs; intro a hs) | refine sxc hs ?_ | (refine sxa hs hw ?_; clear hs hw; intro a b W hw hs) | (refine sxs hs hw ?_; clear hs hw; intro W hs hw))
          exact ⟨hs, hw⟩
        case c3_4 =>
          intro LD D a W hcl hi hp hs hw
          repeat (first | (refine sxv hs hw ?_; clear hs; intro a hs) | refine sxc hs ?_ | (refine sxa hs hw ?_; clear hs hw; intro a b W hw hs) | (refine sxs hs hw ?_; clear hs hw; intro W hs hw))
          refine st_load_at hs (hc := ((hw.end In.hd).cell hg1).trans (hc1 0 _ rfl)) (c := ?_); clear hs; intro a hs
          repeat (first | (refine sxv hs hw ?_; clear hs; intro a hs) | refine sxc hs ?_ | (refine sxa hs hw ?_; clear hs hw; intro a b W hw hs) | (refine sxs hs hw ?_; clear hs hw; intro W hs hw))
          exact ⟨hs, hw⟩
        case c6_4 =>
          intro LD D a W hcl hi hp hs hw
          repeat (first | (refine sxv hs hw ?_; clear hs; intro a hs) | refine sxc hs ?_ | (refine sxa hs hw ?_; clear hs hw; intro a b W hw hs) | (refine sxs hs hw ?_; clear hs hw; intro W hs hw))
          refine st_index_at hs (z := [.slice none 0 0]) (h0 := by omega) (h1 := by omega) (c := ?_); clear hs; intro a hs
          repeat (first | (refine sxv hs hw ?_; clear hs; intro a hs) | refine sxc hs ?_ | (refine sxa hs hw ?_; clear hs hw; intro a b W hw hs) | (refine sxs hs hw ?_; clear hs hw; intro W hs hw))
          exact ⟨hs, hw⟩
        case c7_4 =>
          intro LD D a W hcl hi hp hs hw
          repeat (first | (refine sxv hs hw ?_; clear hs; intro a hs) | refine sxc hs ?_ | (refine sxa hs hw ?_; clear hs hw; intro a b W hw hs) | (refine sxs hs hw ?_; clear hs hw; intro W hs hw))
          refine st_load_at hs (hc := ((hw.end In.hd).cell hg2).trans (hc2 0 _ rfl)) (c := ?_); clear hs; intro a hs
          repeat (first | (refine sxv hs hw ?_; clear hs; intro a hs) | refine sxc hs ?_ | (refine sxa hs hw ?_; clear hs hw; intro a b W hw hs) | (refine sxs hs hw ?_; clear hs hw; intro W hs hw))
          exact ⟨hs, hw⟩
        case c8_4 =>
          intro LD D a W hcl hi hp hs hw
          repeat (first | (refine sxv hs hw ?_; clear hs; intro a hs) | refine sxc hs ?_ | (refine sxa hs hw ?_; clear hs hw; intro a b W hw hs) | (refine sxs hs hw ?_; clear hs hw; intro W hs hw))
          refine st_call hs (hc := ref_Front x y xv yv _ (hxr.below (hw.end (by repeat (first | exact In.hd | apply In.tl)))) (hyr.below (hw.end (by repeat (first | exact In.hd | apply In.tl))))) (k := ?_); rintro e0 W1 ⟨rfl, hb⟩; refine ⟨_, rfl, ?_⟩; clear hs; intro a hs; replace hw := hw.below hb; clear hb
          rw [h1] at hs
          repeat (first | (refine sxv hs hw ?_; clear hs; intro a hs) | refine sxc hs ?_ | (refine sxa hs hw ?_; clear hs hw; intro a b W hw hs) | (refine sxs hs hw ?_; clear hs hw; intro W hs hw))
          exact ⟨hs, hw⟩
        case c13_4 =>
          intro LD D a W hcl hi hp hs hw
          repeat (first | (refine sxv hs hw ?_; clear hs; intro a hs) | refine sxc hs ?_ | (refine sxa hs hw ?_; clear hs hw; intro a b W hw hs) | (refine sxs hs hw ?_; clear hs hw; intro W hs hw))
          refine st_index_at hs (z := [.slice none 0 0]) (h0 := by omega) (h1 := by omega) (c := ?_); clear hs; intro a hs
          repeat (first | (refine sxv hs hw ?_; clear hs; intro a hs) | refine sxc hs ?_ | (refine sxa hs hw ?_; clear hs hw; intro a b W hw hs) | (refine sxs hs hw ?_; clear hs hw; intro W hs hw))
          exact ⟨hs, hw⟩
        case c14_4 =>
          intro LD D a W hcl hi hp hs hw
          repeat (first | (refine sxv hs hw ?_; clear hs; intro a hs) | refine sxc hs ?_ | (refine sxa hs hw ?_; clear hs hw; intro a b W hw hs) | (refine sxs hs hw ?_; clear hs hw; intro W hs hw))
          refine st_load_at hs (hc := ((hw.end In.hd).cell hg2).trans (hc2 0 _ rfl)) (c := ?_); clear hs; intro a hs
          repeat (first | (refine sxv hs hw ?_; clear hs; intro a hs) | refine sxc hs ?_ | (refine sxa hs hw ?_; clear hs hw; intro a b W hw hs) | (refine sxs hs hw ?_; clear hs hw; intro W hs hw))
          exact ⟨hs, hw⟩
        case c17_4 =>
          intro LD D a W hcl hi hp hs hw
          repeat (first | (refine sxv hs hw ?_; clear hs; intro a hs) | refine sxc hs ?_ | (refine sxa hs hw ?_; clear hs hw; intro a b W hw hs) | (refine sxs hs hw ?_; clear hs hw; intro W hs hw))
          refine st_index_at hs (z := [.slice none 0 0]) (h0 := by omega) (h1 := by omega) (c := ?_); clear hs; intro a hs
          repeat (first | (refine sxv hs hw ?_; clear hs; intro a hs) | refine sxc hs ?_ | (refine sxa hs hw ?_; clear hs hw; intro a b W hw hs) | (refine sxs hs hw ?_; clear hs hw; intro W hs hw))
          exact ⟨hs, hw⟩
        case c18_4 =>
          intro LD D a W hcl hi hp hs hw
          repeat (first | (refine sxv hs hw ?_; clear hs; intro a hs) | refine sxc hs ?_ | (refine sxa hs hw ?_; clear hs hw; intro a b W hw hs) | (refine sxs hs hw ?_; clear hs hw; intro W hs hw))
          refine st_load_at hs (hc := ((hw.end In.hd).cell hg1).trans (hc1 0 _ rfl)) (c := ?_); clear hs; intro a hs
          repeat (first | (refine sxv hs hw ?_; clear hs; intro a hs) | refine sxc hs ?_ | (refine sxa hs hw ?_; clear hs hw; intro a b W hw hs) | (refine sxs hs hw ?_; clear hs hw; intro W hs hw))
          exact ⟨hs, hw⟩
        case c19_4 =>
          intro LD D a W hcl hi hp hs hw
          repeat (first | (refine sxv hs hw ?_; clear hs; intro a hs) | refine sxc hs ?_ | (refine sxa hs hw ?_; clear hs hw; intro a b W hw hs) | (refine sxs hs hw ?_; clear hs hw; intro W hs hw))
          refine st_call hs (hc := ref_Front y x yv xv _ (hyr.below (hw.end (by repeat (first | exact In.hd | apply In.tl)))) (hxr.below (hw.end (by repeat (first | exact In.hd | apply In.tl))))) (k := ?_); rintro e0 W1 ⟨rfl, hb⟩; refine ⟨_, rfl, ?_⟩; clear hs; intro a hs; replace hw := hw.below hb; clear hb
          repeat (first | (refine sxv hs hw ?_; clear hs; intro a hs) | refine sxc hs ?_ | (refine sxa hs hw ?_; clear hs hw; intro a b W hw hs) | (refine sxs hs hw ?_; clear hs hw; intro W hs hw))
          exact ⟨hs, hw⟩
        case k_4 =>
          clear hs hw
          intro a W hs hw
          replace hs : Slots a 38 [(37, .bool (!front y x)), (0, .slice (some ⟨g1, f1, none⟩) ls.length scap), (3, .int .i64 (i : Int)), (4, .int .i64 (k : Int))] := hs.of ⟨rfl, rfl, rfl, rfl, trivial⟩
          cases h2 : front y x with
          | true =>
            rw [h2] at hs
            repeat (first | (refine sxv hs hw ?_; clear hs; intro a hs) | refine sxc hs ?_ | (refine sxa hs hw ?_; clear hs hw; intro a b W hw hs) | (refine sxs hs hw ?_; clear hs hw; intro W hs hw))
            exact st_again (k + 1) hs hw ⟨hk', fun k' h => by rcases Nat.lt_succ_iff_lt_or_eq.1 h with h | rfl; exact hka k' h; exact fr2_of hxi hyk (.inr h2)⟩ (by show i - (k + 1) < i - k; omega) ⟨rfl, rfl, int_eq (by show IntKind.i64.wrap ((k : Int) + 1) = ((k + 1 : Nat) : Int); rw [IntWalk.i64_in _ (by omega)]; omega), trivial⟩
          | false =>
            rw [h2] at hs
            repeat (first | (refine sxv hs hw ?_; clear hs; intro a hs) | refine sxc hs ?_ | (refine sxa hs hw ?_; clear hs hw; intro a b W hw hs) | (refine sxs hs hw ?_; clear hs hw; intro W hs hw))
            exact rt1 hs rfl rfl ⟨by rw [oneB_no hxi hyk hk' h1 h2], hw.end (by repeat (first | exact In.hd | apply In.tl))⟩
        all_goals
          intro LD D a W hcl hi hp hs hw
          repeat (first | (refine sxv hs hw ?_; clear hs; intro a hs) | refine sxc hs ?_ | (refine sxa hs hw ?_; clear hs hw; intro a b W hw hs) | (refine sxs hs hw ?_; clear hs hw; intro W hs hw))
          exact ⟨hs, hw⟩
    · have hk' : k = i := by have : ¬ k < i := by simpa using hcc2
                             omega
      subst hk'
      repeat (first | (refine sxv hs hw ?_; clear hs; intro a hs) | refine sxc hs ?_ | (refine sxa hs hw ?_; clear hs hw; intro a b W hw hs) | (refine sxs hs hw ?_; clear hs hw; intro W hs hw))
      exact st_again (k + 1) hs hw ⟨hi', fun i' h => by rcases Nat.lt_succ_iff_lt_or_eq.1 h with h | rfl; exact ha i' h; exact hka⟩ (by show ls.length - (k + 1) < ls.length - k; omega) ⟨rfl, int_eq (by show IntKind.i64.wrap ((k : Int) + 1) = ((k + 1 : Nat) : Int); rw [IntWalk.i64_in _ (by omega)]; omega), trivial⟩
  · have hi' : i = ls.length := by have : ¬ i < ls.length := by simpa using hcc
                                   omega
    subst hi'
    repeat (first | (refine sxv hs hw ?_; clear hs; intro a hs) | refine sxc hs ?_ | (refine sxa hs hw ?_; clear hs hw; intro a b W hw hs) | (refine sxs hs hw ?_; clear hs hw; intro W hs hw))
    exact rt1 hs rfl rfl ⟨by rw [oneB_yes ha], hw.end (by repeat (first | exact In.hd | apply In.tl))⟩

/-- The law's view: a row that bears the batch alone. -/
theorem eqRow_bare (x y : BatchD) : eqRow ⟨0, x, 0⟩ ⟨0, y, 0⟩ = sameB x y := by
  have h1 : eqRow ⟨0, x, 0⟩ ⟨0, y, 0⟩ = true ↔ x = y := by rw [eqRow_iff]; simp
  have h2 : sameB x y = true ↔ x = y := by
    obtain ⟨c, q, l⟩ := x
    obtain ⟨c', q', l'⟩ := y
    simp only [sameB, Bool.and_eq_true, beq_iff_eq, eqL_iff, BatchD.mk.injEq]
  cases h : sameB x y with
  | true => exact h1.2 (h2.1 h)
  | false =>
    cases h' : eqRow ⟨0, x, 0⟩ ⟨0, y, 0⟩ with
    | false => rfl
    | true => rw [h2.2 (h1.1 h')] at h; cases h

set_option maxHeartbeats 16000000 in
theorem law28_issued (l : List RowD) (all : List BatchD) (v v' : Value) (w : World) (r : RowsRd w v l) (r' : BatsRd w v' all) :
    Calls Tryd.prog 18 ⟨[v, v']⟩ w fun e w' => e = .returned (.bool (issuedB l all)) ∧ Below w.heap.size w w' := by
  obtain ⟨xs, r, hch⟩ := r
  obtain ⟨ys, r', hch'⟩ := r'
  obtain ⟨sad, scap, rfl⟩ := Rd.sl r
  obtain ⟨tad, tcap, rfl⟩ := Rd.sl r'
  have hlen := r.len
  have hlen' := r'.len
  have hw := Has.start (G := 0) (w := w) (Nat.zero_le _)
  refine enter Tryd.func18 Tryd.ntmps18 rfl rfl fun a hs => ?_
  repeat (first | (refine sxv hs hw ?_; clear hs; intro a hs) | refine sxc hs ?_ | (refine sxa hs hw ?_; clear hs hw; intro a b W hw hs) | (refine sxs hs hw ?_; clear hs hw; intro W hs hw))
  refine st_loop (σ := Nat) (fun i => [(0, .slice sad l.length scap), (1, .slice tad all.length tcap), (5, .int .i64 (i : Int))]) (fun _ => Old w 0 :: []) (fun i => i ≤ l.length ∧ (l.take i).all (fun r => all.any (sameB r.b)) = true) (fun i => l.length - i) 0 ⟨Nat.zero_le _, rfl⟩ hs ⟨rfl, rfl, rfl, trivial⟩ hw ?_
  clear hs hw
  rintro i a W ⟨hi, ha⟩ hs hw
  repeat (first | (refine sxv hs hw ?_; clear hs; intro a hs) | refine sxc hs ?_ | (refine sxa hs hw ?_; clear hs hw; intro a b W hw hs) | (refine sxs hs hw ?_; clear hs hw; intro W hs hw))
  refine cd_split hs (kt := fun hcc => ?_) (kf := fun hcc => ?_)
  · have hi' : i < l.length := by simpa using hcc
    obtain ⟨x, hxi⟩ : ∃ o, l[i]? = some o := ⟨l[i], List.getElem?_eq_getElem hi'⟩
    obtain ⟨g1, f1, c1, rfl, hg1, ⟨v1, rfl, hv1⟩, hc1⟩ := ch_at RowRd.len r hch rfl hxi
    repeat (first | (refine sxv hs hw ?_; clear hs; intro a hs) | refine sxc hs ?_ | (refine sxa hs hw ?_; clear hs hw; intro a b W hw hs) | (refine sxs hs hw ?_; clear hs hw; intro W hs hw))
    refine st_loop (σ := Nat) (fun k => [(0, .slice (some ⟨g1, f1, none⟩) l.length scap), (1, .slice tad all.length tcap), (5, .int .i64 (i : Int)), (6, .bool ((all.take k).any (sameB x.b))), (7, .int .i64 (k : Int))]) (fun _ => Old w 0 :: []) (fun k => k ≤ all.length) (fun k => all.length - k) 0 (Nat.zero_le _) hs ⟨rfl, rfl, rfl, rfl, rfl, trivial⟩ hw ?_
    clear hs hw
    rintro k a W hk hs hw
    repeat (first | (refine sxv hs hw ?_; clear hs; intro a hs) | refine sxc hs ?_ | (refine sxa hs hw ?_; clear hs hw; intro a b W hw hs) | (refine sxs hs hw ?_; clear hs hw; intro W hs hw))
    refine cd_split hs (kt := fun hcc2 => ?_) (kf := fun hcc2 => ?_)
    · have hk' : k < all.length := by simpa using hcc2
      obtain ⟨y, hyk⟩ : ∃ o, all[k]? = some o := ⟨all[k], List.getElem?_eq_getElem hk'⟩
      obtain ⟨g2, f2, c2, rfl, hg2, ⟨v2, rfl, hv2⟩, hc2⟩ := ch_at BatRd.len r' hch' rfl hyk
      have hnx : (all.take (k + 1)).any (sameB x.b) = ((all.take k).any (sameB x.b) || sameB x.b y) := by rw [take_of hyk, List.any_append]; simp
      repeat (first | (refine sxv hs hw ?_; clear hs; intro a hs) | refine sxc hs ?_ | (refine sxa hs hw ?_; clear hs hw; intro a b W hw hs) | (refine sxs hs hw ?_; clear hs hw; intro W hs hw))
      cases h1 : (all.take k).any (sameB x.b) with
      | true =>
        rw [h1, Bool.true_or] at hnx
        rw [h1] at hs
        refine rg_draw (V := [.bool true, .bool true, undef, undef, undef, undef, undef, undef, undef, undef, undef, undef, undef, undef, .bool true, .bool true])
          (Rs := fun D => Old w 0 :: []) hs hw (ho := ⟨?_, ?_, ?_, ?_, ?_, ?_, ?_, ?_, ?_, ?_, ?_, ?_, ?_, ?_, ?_, ?_, trivial⟩) (k := ?k_5)
        case k_5 =>
          clear hs hw
          intro a W hs hw
          replace hs : Slots a 37 [(0, .slice (some ⟨g1, f1, none⟩) l.length scap), (1, .slice (some ⟨g2, f2, none⟩) all.length tcap), (5, .int .i64 (i : Int)), (6, .bool true), (7, .int .i64 (k : Int))] := hs.of ⟨rfl, rfl, rfl, rfl, rfl, trivial⟩
          repeat (first | (refine sxv hs hw ?_; clear hs; intro a hs) | refine sxc hs ?_ | (refine sxa hs hw ?_; clear hs hw; intro a b W hw hs) | (refine sxs hs hw ?_; clear hs hw; intro W hs hw))
          exact st_again (k + 1) hs hw (by show k + 1 ≤ _; omega) (by show all.length - (k + 1) < all.length - k; omega) ⟨rfl, rfl, rfl, bool_eq hnx.symm, int_eq (by show IntKind.i64.wrap ((k : Int) + 1) = ((k + 1 : Nat) : Int); rw [IntWalk.i64_in _ (by omega)]; omega), trivial⟩
        all_goals
          intro LD D a W hcl hi hp hs hw
          repeat (first | (refine sxv hs hw ?_; clear hs; intro a hs) | refine sxc hs ?_ | (refine sxa hs hw ?_; clear hs hw; intro a b W hw hs) | (refine sxs hs hw ?_; clear hs hw; intro W hs hw))
          exact ⟨hs, hw⟩
      | false =>
        rw [h1, Bool.false_or] at hnx
        rw [h1] at hs
        refine rg_draw (V := [.bool false, .bool false, .slice (some ⟨g1, f1, none⟩) l.length scap, .int .i64 (i : Int), .pointer (some ⟨g1, f1 + i * 5, none⟩), .pointer (some ⟨g1, f1 + i * 5 + 1, none⟩), .agg ⟨batCells x.b v1⟩, .agg ⟨rowCells ⟨0, x.b, 0⟩ v1⟩, .slice (some ⟨g2, f2, none⟩) all.length tcap, .int .i64 (k : Int), .pointer (some ⟨g2, f2 + k * 3, none⟩), .agg ⟨batCells y v2⟩, .agg ⟨rowCells ⟨0, y, 0⟩ v2⟩, .bool (sameB x.b y), .bool (sameB x.b y), .bool (sameB x.b y)])
          (Rs := fun D => Old w 0 :: []) hs hw (ho := ⟨?_, ?_, ?_, ?_, ?c4_6, ?_, ?c6_6, ?_, ?_, ?_, ?c10_6, ?c11_6, ?_, ?c13_6, ?_, ?_, trivial⟩) (k := ?k_6)
        case c4_6 =>
          intro LD D a W hcl hi hp hs hw
          repeat (first | (refine sxv hs hw ?_; clear hs; intro a hs) | refine sxc hs ?_ | (refine sxa hs hw ?_; clear hs hw; intro a b W hw hs) | (refine sxs hs hw ?_; clear hs hw; intro W hs hw))
          refine st_index_at hs (z := zrc) (h0 := by omega) (h1 := by omega) (c := ?_); clear hs; intro a hs
          repeat (first | (refine sxv hs hw ?_; clear hs; intro a hs) | refine sxc hs ?_ | (refine sxa hs hw ?_; clear hs hw; intro a b W hw hs) | (refine sxs hs hw ?_; clear hs hw; intro W hs hw))
          exact ⟨hs, hw⟩
        case c6_6 =>
          intro LD D a W hcl hi hp hs hw
          repeat (first | (refine sxv hs hw ?_; clear hs; intro a hs) | refine sxc hs ?_ | (refine sxa hs hw ?_; clear hs hw; intro a b W hw hs) | (refine sxs hs hw ?_; clear hs hw; intro W hs hw))
          refine st_load_ats (z := [.int .i64 0, .int .i64 0, .slice none 0 0]) hs (cs := batCells x.b v1) (hc := fun j u h => ((hw.end In.hd).cell hg1).trans (by rw [Nat.add_assoc]; exact hc1 (1 + j) u (by rw [Nat.add_comm]; match j, h with | 0, h => exact h | 1, h => exact h | 2, h => exact h))) (hl := by rfl) (c := ?_); clear hs; intro a hs
          repeat (first | (refine sxv hs hw ?_; clear hs; intro a hs) | refine sxc hs ?_ | (refine sxa hs hw ?_; clear hs hw; intro a b W hw hs) | (refine sxs hs hw ?_; clear hs hw; intro W hs hw))
          exact ⟨hs, hw⟩
        case c10_6 =>
          intro LD D a W hcl hi hp hs hw
          repeat (first | (refine sxv hs hw ?_; clear hs; intro a hs) | refine sxc hs ?_ | (refine sxa hs hw ?_; clear hs hw; intro a b W hw hs) | (refine sxs hs hw ?_; clear hs hw; intro W hs hw))
          refine st_index_at hs (z := [.int .i64 0, .int .i64 0, .slice none 0 0]) (h0 := by omega) (h1 := by omega) (c := ?_); clear hs; intro a hs
          repeat (first | (refine sxv hs hw ?_; clear hs; intro a hs) | refine sxc hs ?_ | (refine sxa hs hw ?_; clear hs hw; intro a b W hw hs) | (refine sxs hs hw ?_; clear hs hw; intro W hs hw))
          exact ⟨hs, hw⟩
        case c11_6 =>
          intro LD D a W hcl hi hp hs hw
          repeat (first | (refine sxv hs hw ?_; clear hs; intro a hs) | refine sxc hs ?_ | (refine sxa hs hw ?_; clear hs hw; intro a b W hw hs) | (refine sxs hs hw ?_; clear hs hw; intro W hs hw))
          refine st_load_ats (z := [.int .i64 0, .int .i64 0, .slice none 0 0]) hs (cs := batCells y v2) (hc := fun j u h => ((hw.end In.hd).cell hg2).trans (hc2 j u h)) (hl := by rfl) (c := ?_); clear hs; intro a hs
          repeat (first | (refine sxv hs hw ?_; clear hs; intro a hs) | refine sxc hs ?_ | (refine sxa hs hw ?_; clear hs hw; intro a b W hw hs) | (refine sxs hs hw ?_; clear hs hw; intro W hs hw))
          exact ⟨hs, hw⟩
        case c13_6 =>
          intro LD D a W hcl hi hp hs hw
          repeat (first | (refine sxv hs hw ?_; clear hs; intro a hs) | refine sxc hs ?_ | (refine sxa hs hw ?_; clear hs hw; intro a b W hw hs) | (refine sxs hs hw ?_; clear hs hw; intro W hs hw))
          refine st_call hs (hc := ref_EqRow ⟨0, x.b, 0⟩ ⟨0, y, 0⟩ v1 v2 _ (hw.rd (by repeat (first | exact In.hd | apply In.tl)) hw.ext.size hv1) (hw.rd (by repeat (first | exact In.hd | apply In.tl)) hw.ext.size hv2)) (k := ?_); rintro e0 W1 ⟨rfl, hb⟩; refine ⟨_, rfl, ?_⟩; clear hs; intro a hs; replace hw := hw.below hb; clear hb
          rw [eqRow_bare] at hs
          repeat (first | (refine sxv hs hw ?_; clear hs; intro a hs) | refine sxc hs ?_ | (refine sxa hs hw ?_; clear hs hw; intro a b W hw hs) | (refine sxs hs hw ?_; clear hs hw; intro W hs hw))
          exact ⟨hs, hw⟩
        case k_6 =>
          clear hs hw
          intro a W hs hw
          replace hs : Slots a 37 [(0, .slice (some ⟨g1, f1, none⟩) l.length scap), (1, .slice (some ⟨g2, f2, none⟩) all.length tcap), (5, .int .i64 (i : Int)), (6, .bool (sameB x.b y)), (7, .int .i64 (k : Int))] := hs.of ⟨rfl, rfl, rfl, rfl, rfl, trivial⟩
          repeat (first | (refine sxv hs hw ?_; clear hs; intro a hs) | refine sxc hs ?_ | (refine sxa hs hw ?_; clear hs hw; intro a b W hw hs) | (refine sxs hs hw ?_; clear hs hw; intro W hs hw))
          exact st_again (k + 1) hs hw (by show k + 1 ≤ _; omega) (by show all.length - (k + 1) < all.length - k; omega) ⟨rfl, rfl, rfl, bool_eq hnx.symm, int_eq (by show IntKind.i64.wrap ((k : Int) + 1) = ((k + 1 : Nat) : Int); rw [IntWalk.i64_in _ (by omega)]; omega), trivial⟩
        all_goals
          intro LD D a W hcl hi hp hs hw
          repeat (first | (refine sxv hs hw ?_; clear hs; intro a hs) | refine sxc hs ?_ | (refine sxa hs hw ?_; clear hs hw; intro a b W hw hs) | (refine sxs hs hw ?_; clear hs hw; intro W hs hw))
          exact ⟨hs, hw⟩
    · have hk' : k = all.length := by have : ¬ k < all.length := by simpa using hcc2
                                      omega
      subst hk'
      rw [List.take_length] at hs
      repeat (first | (refine sxv hs hw ?_; clear hs; intro a hs) | refine sxc hs ?_ | (refine sxa hs hw ?_; clear hs hw; intro a b W hw hs) | (refine sxs hs hw ?_; clear hs hw; intro W hs hw))
      cases hq : all.any (sameB x.b) with
      | true =>
        rw [hq] at hs
        repeat (first | (refine sxv hs hw ?_; clear hs; intro a hs) | refine sxc hs ?_ | (refine sxa hs hw ?_; clear hs hw; intro a b W hw hs) | (refine sxs hs hw ?_; clear hs hw; intro W hs hw))
        exact st_again (i + 1) hs hw ⟨hi', all_snoc hxi ha hq⟩ (by show l.length - (i + 1) < l.length - i; omega) ⟨rfl, rfl, int_eq (by show IntKind.i64.wrap ((i : Int) + 1) = ((i + 1 : Nat) : Int); rw [IntWalk.i64_in _ (by omega)]; omega), trivial⟩
      | false =>
        rw [hq] at hs
        repeat (first | (refine sxv hs hw ?_; clear hs; intro a hs) | refine sxc hs ?_ | (refine sxa hs hw ?_; clear hs hw; intro a b W hw hs) | (refine sxs hs hw ?_; clear hs hw; intro W hs hw))
        exact rt1 hs rfl rfl ⟨by unfold issuedB; rw [all_no hxi hq], hw.end (by repeat (first | exact In.hd | apply In.tl))⟩
  · have hi' : i = l.length := by have : ¬ i < l.length := by simpa using hcc
                                  omega
    subst hi'
    rw [List.take_length] at ha
    repeat (first | (refine sxv hs hw ?_; clear hs; intro a hs) | refine sxc hs ?_ | (refine sxa hs hw ?_; clear hs hw; intro a b W hw hs) | (refine sxs hs hw ?_; clear hs hw; intro W hs hw))
    exact rt1 hs rfl rfl ⟨by unfold issuedB; rw [ha], hw.end (by repeat (first | exact In.hd | apply In.tl))⟩
end Go.Proofs.YtcfaicomnngegaaDoor.Sw
