/-
  Texts of the proof, one behind the other (part 7).
-/
import Derived.Test.YtmalklakaalaoaaGreatDoorM6
import Derived.Test.YtmalklakaalaoaaGreatDoorChecked
import Derived.WalkSpells
import Derived.Lib.Hide
import Derived.IntWalk
set_option linter.unusedVariables false
set_option maxRecDepth 10000
namespace Go.Sx
theorem ch_atH {α : Type} {Rr : α → List Value → Prop} {H : Fh} {sad : Option Addr} {scap n k : Nat} {l : List α} {xs : List Value} {i : Nat} {o : α} (hk : ∀ a c, Rr a c → c.length = k) (r : RdH H k (.slice sad n scap) n xs) (hc : Ch Rr l xs) (hn : l.length = n) (h : l[i]? = some o) :
    ∃ g off c, sad = some ⟨g, off, none⟩ ∧ Rr o c ∧ ∀ {G : Nat} {w0 W : World} {L : List Res}, In (Fz H) L → Has G w0 W L → ∀ j u, c[j]? = some u → W.cell? ⟨g, off + i * k + j, none⟩ = some u := by
  have hi : i < l.length := (List.getElem?_eq_some_iff.1 h).1
  obtain ⟨c, h1, h2, h3⟩ := hc.get hk h
  obtain ⟨_, ad, cap, e, h4, h5, h6⟩ := r
  injection e with e1 e2 e3
  subst e1
  rcases h6 with h6 | ⟨b, off, cs, T, z, rfl, hb, hcell⟩
  · omega
  · refine ⟨b, off, c, rfl, h1, fun {G w0 W L} hin hw j u hu => ?_⟩
    obtain ⟨F, hF, hfz⟩ := hw.of_in hin
    have hbl := (hfz b _ hb).2
    unfold World.cell?
    rw [hbl]
    rw [← h3, cut_eq, List.getElem?_take] at hu
    split at hu
    · rw [List.getElem?_drop] at hu
      have := hcell _ _ hu
      rw [← Nat.add_assoc] at this
      simpa using this
    · cases hu
end Go.Sx
namespace Go.Proofs.YtmalklakaalaoaaGreatDoor.Sw
open Go.RowKit Go.Sx
-- pieces
structure BatWf (b : BatchD) : Prop where
  c : (Lit.int .i64 b.c).wf = true
  q : (Lit.int .i64 b.q).wf = true
  ops : ∀ o ∈ b.l, OpWf o
def cutB (b : BatchD) : BatchD := ⟨b.c, b.q, cutD b.l⟩
def batsB (l : List BatchD) (n : Nat) : List BatchD := (l.take n).map cutB
theorem cutB_ok {b : BatchD} (h : BatWf b) : BatOk (cutB b) := ⟨wf_i64 h.c, wf_i64 h.q, cutD_ok h.ops⟩
theorem batsB_ok {l : List BatchD} (h : ∀ b ∈ l, BatWf b) (n : Nat) : ∀ b ∈ batsB l n, BatOk b := by
  intro b hb
  obtain ⟨x, hx, rfl⟩ := List.mem_map.1 hb
  exact cutB_ok (h x (List.mem_of_mem_take hx))
def BatsH (H : Fh) (v : Value) (l : List BatchD) : Prop := ∃ xs, RdH H 3 v l.length xs ∧ Ch (BatIn H) l xs
set_option maxHeartbeats 8000000 in
theorem law7_Batches (w0 W : World) (H : Fh) (l : List BatchD) (v : Value) (n : Nat) (R : List Res) (hn : n ≤ 1000) (hb : ∀ b ∈ l, BatWf b) (hr : BatsH H v l) (hw : Has 0 w0 W (Fz H :: R)) :
    Calls Tryz.prog 21 ⟨[v, .int .i64 (n : Int)]⟩ W fun e W' => ∃ v' H', e = .returned v' ∧ H.le H' ∧ BatsH H' v' (batsB l n) ∧ Has 0 w0 W' (Fz H' :: R) := by
  obtain ⟨xs, hr, hch⟩ := hr
  obtain ⟨sad, scap, rfl⟩ := hr.slice
  have hlen := hr.len
  refine enter Tryz.func21 Tryz.ntmps21 rfl rfl fun a hs => ?_
  repeat (first | (refine sxv hs hw ?_; clear hs; intro a hs) | refine sxc hs ?_ | (refine sxa hs hw ?_; clear hs hw; intro a b W hw hs) | (refine sxs hs hw ?_; clear hs hw; intro W hs hw))
  have hw := hw.nilOwn 36 3
  refine st_loop (σ := Nat × Option Addr × Nat × List Value × Fh) (fun t => [(0, .slice sad l.length scap), (1, .int .i64 (n : Int)), (6, .int .i64 (t.1 : Int)), (5, .slice t.2.1 (batsB l t.1).length t.2.2.1)]) (fun t => Sx.Own 36 3 (.slice t.2.1 (batsB l t.1).length t.2.2.1) (batsB l t.1).length t.2.2.2.1 :: Fz t.2.2.2.2 :: R) (fun t => t.1 ≤ l.length ∧ t.1 ≤ n ∧ H.le t.2.2.2.2 ∧ Ch (BatIn t.2.2.2.2) (batsB l t.1) t.2.2.2.1) (fun t => l.length - t.1) (0, none, 0, [], H) ⟨Nat.zero_le _, Nat.zero_le _, Fh.le.refl _, rfl⟩ hs ⟨rfl, rfl, rfl, rfl, trivial⟩ hw ?_
  clear hs hw
  rintro ⟨j, oad, ocap, ys, H'⟩ a W ⟨hj, hjn, hH', hch2⟩ hs hw
  simp only at hj hjn hH' hch2 hs hw
  have fin : batsB l j = batsB l n → ∀ (a : Act) (W : World), Slots a 27 [(5, .slice oad (batsB l j).length ocap)] → Has 0 w0 W (Sx.Own 36 3 (.slice oad (batsB l j).length ocap) (batsB l j).length ys :: Fz H' :: R) → ∃ H2, H.le H2 ∧ BatsH H2 (.slice oad (batsB l j).length ocap) (batsB l n) ∧ Has 0 w0 W (Fz H2 :: R) := by
    intro he a W hs hw
    obtain ⟨H2, h1, h2, h3⟩ := hw.freeze_own
    refine ⟨H2, hH'.trans h1, ⟨ys, he ▸ h3, he ▸ (hch2.mono (BatIn.le h1))⟩, h2⟩
  repeat (first | (refine sxv hs hw ?_; clear hs; intro a hs) | refine sxc hs ?_ | (refine sxa hs hw ?_; clear hs hw; intro a b W hw hs) | (refine sxs hs hw ?_; clear hs hw; intro W hs hw))
  cases hc1 : decide ((j : Int) < (l.length : Int)) with
  | false =>
    rw [hc1] at hs
    have hj' : j = l.length := by have := of_decide_eq_false hc1; omega
    repeat (first | (refine sxv hs hw ?_; clear hs; intro a hs) | refine sxc hs ?_ | (refine sxa hs hw ?_; clear hs hw; intro a b W hw hs) | (refine sxs hs hw ?_; clear hs hw; intro W hs hw))
    obtain ⟨H2, h1, h2, h3⟩ := fin (by unfold batsB; rw [List.take_of_length_le (by omega), List.take_of_length_le (by omega)]) a W (hs.of ⟨rfl, trivial⟩) hw
    exact rt1 hs rfl rfl ⟨_, H2, rfl, h1, h2, h3⟩
  | true =>
  rw [hc1] at hs
  have hj' : j < l.length := by have := of_decide_eq_true hc1; omega
  repeat (first | (refine sxv hs hw ?_; clear hs; intro a hs) | refine sxc hs ?_ | (refine sxa hs hw ?_; clear hs hw; intro a b W hw hs) | (refine sxs hs hw ?_; clear hs hw; intro W hs hw))
  cases hc2 : decide ((j : Int) < (n : Int)) with
  | false =>
    rw [hc2] at hs
    have hjn' : j = n := by have := of_decide_eq_false hc2; omega
    repeat (first | (refine sxv hs hw ?_; clear hs; intro a hs) | refine sxc hs ?_ | (refine sxa hs hw ?_; clear hs hw; intro a b W hw hs) | (refine sxs hs hw ?_; clear hs hw; intro W hs hw))
    obtain ⟨H2, h1, h2, h3⟩ := fin (by rw [hjn']) a W (hs.of ⟨rfl, trivial⟩) hw
    exact rt1 hs rfl rfl ⟨_, H2, rfl, h1, h2, h3⟩
  | true =>
  rw [hc2] at hs
  have hjn' : j < n := by have := of_decide_eq_true hc2; omega
  clear fin
  obtain ⟨bt, hbi⟩ : ∃ o, l[j]? = some o := ⟨l[j], List.getElem?_eq_getElem hj'⟩
  have hok := hb bt (List.mem_of_getElem? hbi)
  have hnext : batsB l (j + 1) = batsB l j ++ [cutB bt] := by
    unfold batsB
    rw [take_of hbi, List.map_append]; rfl
  have htk : (batsB l j).length ≤ 1000 := by unfold batsB; rw [List.length_map, List.length_take]; omega
  repeat (first | (refine sxv hs hw ?_; clear hs; intro a hs) | refine sxc hs ?_ | (refine sxa hs hw ?_; clear hs hw; intro a b W hw hs) | (refine sxs hs hw ?_; clear hs hw; intro W hs hw))
  refine st_index_ch hs (r := hw.rdH (by repeat (first | exact In.hd | apply In.tl)) (hr.le hH')) (hk := BatIn.len) (ch := hch.mono (BatIn.le hH')) (ho := hbi) (hlen := rfl) (c := ?_); clear hs; intro a g off c hc hcl hpc hlt hs
  obtain ⟨bv, rfl, hbv⟩ := hc
  refine st_load_ats hs (cs := batCells bt bv) (hc := hpc) (hl := by rfl) (c := ?_); clear hs; intro a hs
  clear hpc
  refine st_call hs (hc := law5_CutBatch bt.c bt.q bt.l bv _ (wf_sizes hok.ops) (hw.rdH (by repeat (first | exact In.hd | apply In.tl)) hbv)) (k := ?_); rintro e0 W1 ⟨nad, ncap, rfl, hw1⟩; refine ⟨_, rfl, ?_⟩; clear hs; intro a hs; replace hw := hw.call hw1; clear hw1
  have hw : Has 0 w0 _ (Sx.Own 95 9 (.slice nad (cutD bt.l).length ncap) (cutD bt.l).length ((cutD bt.l).flatMap opCells) :: Fz H' :: Sx.Own 36 3 (.slice oad (batsB l j).length ocap) (batsB l j).length ys :: R) := hw.perm (by repeat (first | exact List.Perm.refl _ | refine perm_pick (by repeat (first | exact Pick.hd | apply Pick.tl)) ?_))
  obtain ⟨H2, hle, hw, hnv⟩ := hw.freeze_own
  repeat (first | (refine sxv hs hw ?_; clear hs; intro a hs) | refine sxc hs ?_ | (refine sxa hs hw ?_; clear hs hw; intro a b W hw hs) | (refine sxs hs hw ?_; clear hs hw; intro W hs hw))
  obtain ⟨bx, qx⟩ := nm1 hw; subst qx
  have hw : Has 0 w0 _ (Sx.Own 36 3 (.slice oad (batsB l j).length ocap) (batsB l j).length ys :: Cells bx (batCells (cutB bt) (.slice nad (cutD bt.l).length ncap)) 36 :: Fz H2 :: R) := hw.perm (by repeat (first | exact List.Perm.refl _ | refine perm_pick (by repeat (first | exact Pick.hd | apply Pick.tl)) ?_))
  refine st_append1 hs (hw := hw) (hi := In.hd) (ch := hch2.mono (BatIn.le hle)) (ha := (⟨_, rfl, hnv⟩ : BatIn H2 (cutB bt) (batCells (cutB bt) (.slice nad (cutD bt.l).length ncap)))) (hl := rfl) (h1 := rfl) (hb := by omega) (h63 := by omega) (k := ?_)
  clear hs hw; intro a ad2 cap2 W hs hw hc2
  rw [← hnext] at hs hw hc2
  repeat (first | (refine sxv hs hw ?_; clear hs; intro a hs) | refine sxc hs ?_ | (refine sxa hs hw ?_; clear hs hw; intro a b W hw hs) | (refine sxs hs hw ?_; clear hs hw; intro W hs hw))
  exact st_again (j + 1, ad2, cap2, ys ++ batCells (cutB bt) (.slice nad (cutD bt.l).length ncap), H2) hs hw.drop2 ⟨hj', hjn', hH'.trans hle, hc2⟩ (by show l.length - (j + 1) < l.length - j; omega) ⟨rfl, rfl, int_eq (by show IntKind.i64.wrap ((j : Int) + 1) = ((j + 1 : Nat) : Int); rw [IntWalk.i64_in _ (by omega)]; omega), rfl, trivial⟩
abbrev zrf : List Value := [.int .i64 0, .slice none 0 0, .int .i64 0, .int .i64 0, .int .i64 0, .int .i64 0, .int .i64 0, .int .i64 0, .int .i64 0, .int .i64 0, .int .i64 0, .slice none 0 0, .int .i64 0, .int .i64 0, .int .i64 0, .int .i64 0, .slice none 0 0, .int .i64 0, .int .i64 0, .int .i64 0, .int .i64 0, .slice none 0 0, .int .i64 0, .int .i64 0, .int .i64 0, .int .i64 0, .slice none 0 0, .int .i64 0, .int .i64 0, .int .i64 0, .int .i64 0, .slice none 0 0, .int .i64 0, .int .i64 0, .int .i64 0, .int .i64 0, .slice none 0 0, .int .i64 0]
theorem rf_empty (H : Fh) : RfIn H emptyF zrf := by
  have z : ToRow H (0, zeroRow) zrc := ⟨_, rfl, ops_nil H⟩
  have y : NumIn (0, zeroRow) [.int .i64 0] := rfl
  refine ⟨.slice none 0 0, List.replicate 6 (.int .i64 0), zrc ++ (zrc ++ (zrc ++ (zrc ++ (zrc ++ (zrc ++ []))))), by with_unfolding_all exact rfl, RdH.nil H 4 0 (by omega), rfl, ?_, ?_⟩
  · exact ⟨_, _, rfl, y, _, _, rfl, y, _, _, rfl, y, _, _, rfl, y, _, _, rfl, y, _, _, rfl, y, rfl⟩
  · exact ⟨_, _, rfl, z, _, _, rfl, z, _, _, rfl, z, _, _, rfl, z, _, _, rfl, z, _, _, rfl, z, rfl⟩
def allF (f : FoldD) (rows : List RowD) : List BatchD → FoldD × List RowD
  | [] => (f, rows)
  | b :: l => match (next f b).2.2 with | true => allF (next f b).1 (rows ++ [(next f b).2.1]) l | false => allF f rows l
theorem next_doc {f : FoldD} {b : BatchD} (h : DocOk f.d) (hb : BatOk b) : DocOk (next f b).1.d := by
  unfold next
  cases nextB f b with
  | true => exact applyL_ok h hb.ops
  | false => exact h
theorem next_no {f : FoldD} {b : BatchD} (h : (next f b).2.2 = false) : (next f b).1 = f := by
  unfold next at *
  cases hb : nextB f b with
  | true => rw [hb] at h; cases h
  | false => rfl
set_option maxHeartbeats 16000000 in
theorem ref7_All (w0 W : World) (H : Fh) (l : List BatchD) (v : Value) (R : List Res) (hl : l.length ≤ 1000) (hb : ∀ b ∈ l, BatOk b) (hr : BatsH H v l) (hw : Has 0 w0 W (Fz H :: R)) :
    Calls Tryz.prog 37 ⟨[v]⟩ W fun e W' => ∃ cs ad cap ys H', e = .returned (.tuple ⟨[.agg ⟨cs⟩, .slice ad (allF emptyF [] l).2.length cap]⟩) ∧ H.le H' ∧ RfIn H' (allF emptyF [] l).1 cs ∧ Ch (RowIn H') (allF emptyF [] l).2 ys ∧ Has 0 w0 W' (Sx.Own 39 5 (.slice ad (allF emptyF [] l).2.length cap) (allF emptyF [] l).2.length ys :: Fz H' :: R) := by
  obtain ⟨xs, hr, hch⟩ := hr
  obtain ⟨sad, scap, rfl⟩ := hr.slice
  have hlen := hr.len
  refine enter Tryz.func37 Tryz.ntmps37 rfl rfl fun a hs => ?_
  repeat (first | (refine sxv hs hw ?_; clear hs; intro a hs) | refine sxc hs ?_ | (refine sxa hs hw ?_; clear hs hw; intro a b W hw hs) | (refine sxs hs hw ?_; clear hs hw; intro W hs hw))
  have hw := hw.nilOwn 39 5
  obtain ⟨b4, q4⟩ := nm2 hw; subst q4
  obtain ⟨b2, q2⟩ := nm3 hw; subst q2
  replace hw : Has 0 w0 W (Sx.Own 39 5 (.slice none 0 0) 0 [] :: Cells b4 zrf 42 :: Cells b2 zrf 42 :: Fz H :: R) := by with_unfolding_all exact hw
  refine st_loop (σ := Nat × FoldD × List Value × List RowD × Option Addr × Nat × List Value × Fh) (fun t => [(0, .slice sad l.length scap), (2, .pointer (some ⟨b2, 0, none⟩)), (4, .pointer (some ⟨b4, 0, none⟩)), (6, .int .i64 (t.1 : Int)), (5, .slice t.2.2.2.2.1 t.2.2.2.1.length t.2.2.2.2.2.1)]) (fun t => Sx.Own 39 5 (.slice t.2.2.2.2.1 t.2.2.2.1.length t.2.2.2.2.2.1) t.2.2.2.1.length t.2.2.2.2.2.2.1 :: Cells b4 t.2.2.1 42 :: Cells b2 zrf 42 :: Fz t.2.2.2.2.2.2.2 :: R) (fun t => t.1 ≤ l.length ∧ t.2.2.2.1.length ≤ t.1 ∧ DocOk t.2.1.d ∧ H.le t.2.2.2.2.2.2.2 ∧ RfIn t.2.2.2.2.2.2.2 t.2.1 t.2.2.1 ∧ Ch (RowIn t.2.2.2.2.2.2.2) t.2.2.2.1 t.2.2.2.2.2.2.1 ∧ allF t.2.1 t.2.2.2.1 (l.drop t.1) = allF emptyF [] l) (fun t => l.length - t.1) (0, emptyF, zrf, [], none, 0, [], H) ⟨Nat.zero_le _, Nat.zero_le _, DocOk.nil, Fh.le.refl _, rf_empty H, rfl, rfl⟩ hs ⟨rfl, rfl, rfl, rfl, rfl, trivial⟩ hw ?_
  clear hs hw
  rintro ⟨j, f, cs, rows, oad, ocap, ys, H'⟩ a W ⟨hj, hrl, hd, hH', hf, hch2, hgo⟩ hs hw
  simp only at hj hrl hd hH' hf hch2 hgo hs hw
  have hlen0 := hf.len
  have hone0 := hf.one
  repeat (first | (refine sxv hs hw ?_; clear hs; intro a hs) | refine sxc hs ?_ | (refine sxa hs hw ?_; clear hs hw; intro a b W hw hs) | (refine sxs hs hw ?_; clear hs hw; intro W hs hw))
  refine cd_split hs (kt := fun hcc => ?_) (kf := fun hcc => ?_)
  · have hj' : j < l.length := by simpa using hcc
    obtain ⟨bt, hbi⟩ : ∃ o, l[j]? = some o := ⟨l[j], List.getElem?_eq_getElem hj'⟩
    have hok := hb bt (List.mem_of_getElem? hbi)
    rw [drop_of hbi] at hgo
    simp only [allF] at hgo
    obtain ⟨g1, f1, c1, rfl, ⟨bv, rfl, hbv⟩, hrow⟩ := ch_atH BatIn.len (hr.le hH') (hch.mono (BatIn.le hH')) rfl hbi
    obtain ⟨N, hN⟩ : ∃ N, next f bt = N := ⟨_, rfl⟩
    have hdn := next_doc hd hok
    have hno := fun h => next_no (f := f) (b := bt) h
    rw [hN] at hgo hdn hno
    repeat (first | (refine sxv hs hw ?_; clear hs; intro a hs) | refine sxc hs ?_ | (refine sxa hs hw ?_; clear hs hw; intro a b W hw hs) | (refine sxs hs hw ?_; clear hs hw; intro W hs hw))
    have hw : Has 0 w0 W (Fz H' :: Cells b4 cs 42 :: Free :: Free :: Free :: Free :: Free :: Sx.Own 39 5 (.slice oad rows.length ocap) rows.length ys :: Cells b2 zrf 42 :: R) := (hw.free.free.free.free.free).perm (by repeat (first | exact List.Perm.refl _ | refine perm_pick (by repeat (first | exact Pick.hd | apply Pick.tl)) ?_))
    refine rg_drawU (σ := List Value × Value × Fh × Nat) (V := fun u => [.agg ⟨cs⟩, .slice (some ⟨g1, f1, none⟩) l.length scap, .int .i64 (j : Int), .pointer (some ⟨g1, f1 + j * 3, none⟩), .agg ⟨batCells bt bv⟩, .tuple ⟨[.agg ⟨(u 5).1⟩, .agg ⟨rowCells N.2.1 (u 5).2.1⟩, .bool N.2.2]⟩, .tuple ⟨[.agg ⟨(u 6).1⟩, .agg ⟨rowCells N.2.1 (u 6).2.1⟩, .bool N.2.2]⟩, .agg ⟨(u 7).1⟩, .agg ⟨rowCells N.2.1 (u 8).2.1⟩, .bool N.2.2, .pointer (some ⟨(u 10).2.2.2, 0, none⟩), .pointer (some ⟨(u 11).2.2.2, 0, none⟩), .bool true, .bool true, .bool N.2.2])
      (Rs := fun u D => (if D 5 then FzF (u 5).2.2.1 (H'.le (u 5).2.2.1 ∧ RfIn (u 5).2.2.1 N.1 (u 5).1 ∧ OpsH (u 5).2.2.1 (u 5).2.1 N.2.1.b.l) else Fz H') :: Cells b4 cs 42 :: (if D 10 then Cells (u 10).2.2.2 (if D 12 then (u 5).1 else zrf) 42 else Free) :: (if D 11 then Cells (u 11).2.2.2 (if D 13 then rowCells N.2.1 (u 5).2.1 else zrc) 39 else Free) :: (if D 6 then Fact (u 6 = u 5) else Free) :: (if D 7 then Fact (u 7 = u 6) else Free) :: (if D 8 then Fact (u 8 = u 6) else Free) :: Sx.Own 39 5 (.slice oad rows.length ocap) rows.length ys :: Cells b2 zrf 42 :: R) (fun _ => ([], .nilIface, H, 0)) hs hw (hVu := ?vu_6) (ho := ⟨?c0_6, ?_, ?_, ?c3_6, ?c4_6, ?c5_6, ?c6_6, ?c7_6, ?c8_6, ?_, ?c10_6, ?c11_6, ?c12_6, ?c13_6, ?_, trivial⟩) (k := ?k_6)
    case vu_6 =>
      intro u u' j h
      rcases j with _ | _ | _ | _ | _ | _ | _ | _ | _ | _ | _ | _ | _ | _ | _ | j
      all_goals first | rfl | simp [h] | skip
    case c0_6 =>
      intro u LD D a W hcl hi hp hs hw
      refine st_load_agg hs (hw := hw) (hi := In.tl In.hd) (hl := by rw [hlen0]; rfl) (k := ?_); clear hs; intro a hs
      have hs2 : Slots a 35 ((18, .agg ⟨cut cs 0 38⟩) :: _) := hs
      rw [cut_all _ _ hlen0] at hs2
      repeat (first | (refine sxv hs hw ?_; clear hs; intro a hs) | refine sxc hs ?_ | (refine sxa hs hw ?_; clear hs hw; intro a b W hw hs) | (refine sxs hs hw ?_; clear hs hw; intro W hs hw))
      exact Or.inl ⟨hs2, hw⟩
    case c3_6 =>
      intro u LD D a W hcl hi hp hs hw
      refine st_index_at hs (z := [.int .i64 0, .int .i64 0, .slice none 0 0]) (h0 := by omega) (h1 := by omega) (c := ?_); clear hs; intro a hs
      repeat (first | (refine sxv hs hw ?_; clear hs; intro a hs) | refine sxc hs ?_ | (refine sxa hs hw ?_; clear hs hw; intro a b W hw hs) | (refine sxs hs hw ?_; clear hs hw; intro W hs hw))
      exact Or.inl ⟨hs, hw⟩
    case c4_6 =>
      intro u LD D a W hcl hi hp hs hw
      have h5 := Go.Sx.not_done hcl hi 5 (by kernel_rfl)
      have hw0 := hw
      simp only [h5, Bool.false_eq_true, if_false] at hw
      refine st_load_ats hs (z := [.int .i64 0, .int .i64 0, .slice none 0 0]) (cs := batCells bt bv) (hc := fun j u h => hrow In.hd hw j u h) (hl := rfl) (c := ?_); clear hs; intro a hs
      repeat (first | (refine sxv hs hw ?_; clear hs; intro a hs) | refine sxc hs ?_ | (refine sxa hs hw ?_; clear hs hw; intro a b W hw hs) | (refine sxs hs hw ?_; clear hs hw; intro W hs hw))
      exact Or.inl ⟨hs, hw0⟩
    case c5_6 =>
      intro u LD D a W hcl hi hp hs hw
      have h12 := Go.Sx.not_done hcl (Go.Sx.not_done hcl (Go.Sx.not_done hcl hi 6 (by kernel_rfl)) 7 (by kernel_rfl)) 12 (by kernel_rfl)
      have h13 := Go.Sx.not_done hcl (Go.Sx.not_done hcl (Go.Sx.not_done hcl hi 6 (by kernel_rfl)) 8 (by kernel_rfl)) 13 (by kernel_rfl)
      have h6 := Go.Sx.not_done hcl hi 6 (by kernel_rfl)
      simp only [hi, h6, h12, h13, Bool.false_eq_true, if_false] at hw
      refine st_call hs (hc := ref7_Next w0 _ H' f bt cs bv _ hf hd hok hbv hw) (k := ?_); rw [hN]; rintro e0 W1 ⟨cs', sv', H2, rfl, hle, hf2, hsv, hw1⟩; refine ⟨_, rfl, ?_⟩; clear hs hw; intro a hs; have hw := hw1; clear hw1
      repeat (first | (refine sxv hs hw ?_; clear hs; intro a hs) | refine sxc hs ?_ | (refine sxa hs hw ?_; clear hs hw; intro a b W hw hs) | (refine sxs hs hw ?_; clear hs hw; intro W hs hw))
      refine Or.inr ⟨(cs', sv', H2, 0), hs, ?_⟩
      have hw := hw.fzf (q := H'.le H2 ∧ RfIn H2 N.1 cs' ∧ OpsH H2 sv' N.2.1.b.l) ⟨hle, hf2, hsv⟩
      show Has 0 w0 _ (_ :: _ :: (if D 10 then Cells (u 10).2.2.2 (if (Nat.beq 12 5 || D 12) = true then _ else _) _ else Free) :: (if D 11 then Cells (u 11).2.2.2 (if (Nat.beq 13 5 || D 13) = true then _ else _) _ else Free) :: (if (Nat.beq 6 5 || D 6) = true then _ else _) :: _)
      rw [h6, h12, h13]
      exact hw
    case c6_6 =>
      intro u LD D a W hcl hi hp hs hw
      have h7 := Go.Sx.not_done hcl hi 7 (by kernel_rfl)
      have h8 := Go.Sx.not_done hcl hi 8 (by kernel_rfl)
      simp only [hi, h7, h8, Bool.false_eq_true, if_false] at hw
      repeat (first | (refine sxv hs hw ?_; clear hs; intro a hs) | refine sxc hs ?_ | (refine sxa hs hw ?_; clear hs hw; intro a b W hw hs) | (refine sxs hs hw ?_; clear hs hw; intro W hs hw))
      refine Or.inr ⟨u 5, hs, ?_⟩
      show Has 0 w0 _ (_ :: _ :: _ :: _ :: Fact (u 5 = u 5) :: (if (Nat.beq 7 6 || D 7) = true then _ else _) :: (if (Nat.beq 8 6 || D 8) = true then _ else _) :: _)
      rw [h7, h8]
      exact (hw.fact rfl).fill (Upd.tl (Upd.tl (Upd.tl (Upd.tl Upd.hd))))
    case c7_6 =>
      intro u LD D a W hcl hi hp hs hw
      have h12 := Go.Sx.not_done hcl hi 12 (by kernel_rfl)
      simp only [hi, Bool.false_eq_true, if_false] at hw
      repeat (first | (refine sxv hs hw ?_; clear hs; intro a hs) | refine sxc hs ?_ | (refine sxa hs hw ?_; clear hs hw; intro a b W hw hs) | (refine sxs hs hw ?_; clear hs hw; intro W hs hw))
      refine Or.inr ⟨u 6, hs, ?_⟩
      show Has 0 w0 _ (_ :: _ :: _ :: _ :: _ :: Fact (u 6 = u 6) :: _)
      exact (hw.fact rfl).fill (Upd.tl (Upd.tl (Upd.tl (Upd.tl (Upd.tl Upd.hd)))))
    case c8_6 =>
      intro u LD D a W hcl hi hp hs hw
      simp only [hi, Bool.false_eq_true, if_false] at hw
      repeat (first | (refine sxv hs hw ?_; clear hs; intro a hs) | refine sxc hs ?_ | (refine sxa hs hw ?_; clear hs hw; intro a b W hw hs) | (refine sxs hs hw ?_; clear hs hw; intro W hs hw))
      refine Or.inr ⟨u 6, hs, ?_⟩
      show Has 0 w0 _ (_ :: _ :: _ :: _ :: _ :: _ :: Fact (u 6 = u 6) :: _)
      exact (hw.fact rfl).fill (Upd.tl (Upd.tl (Upd.tl (Upd.tl (Upd.tl (Upd.tl Upd.hd))))))
    case c10_6 =>
      intro u LD D a W hcl hi hp hs hw
      have h12 := Go.Sx.not_done hcl hi 12 (by kernel_rfl)
      simp only [hi, Bool.false_eq_true, if_false] at hw
      repeat (first | (refine sxv hs hw ?_; clear hs; intro a hs) | refine sxc hs ?_ | (refine sxa hs hw ?_; clear hs hw; intro a b W hw hs) | (refine sxs hs hw ?_; clear hs hw; intro W hs hw))
      refine Or.inr ⟨([], .nilIface, H, _), hs, ?_⟩
      show Has 0 w0 _ (_ :: _ :: Cells _ (if (Nat.beq 12 10 || D 12) = true then _ else _) _ :: _ :: _)
      rw [h12]
      exact hw.fill (Upd.tl (Upd.tl Upd.hd))
    case c11_6 =>
      intro u LD D a W hcl hi hp hs hw
      have h13 := Go.Sx.not_done hcl hi 13 (by kernel_rfl)
      simp only [hi, Bool.false_eq_true, if_false] at hw
      repeat (first | (refine sxv hs hw ?_; clear hs; intro a hs) | refine sxc hs ?_ | (refine sxa hs hw ?_; clear hs hw; intro a b W hw hs) | (refine sxs hs hw ?_; clear hs hw; intro W hs hw))
      refine Or.inr ⟨([], .nilIface, H, _), hs, ?_⟩
      show Has 0 w0 _ (_ :: _ :: _ :: Cells _ (if (Nat.beq 13 11 || D 13) = true then _ else _) _ :: _)
      rw [h13]
      exact hw.fill (Upd.tl (Upd.tl (Upd.tl Upd.hd)))
    case c12_6 =>
      intro u LD D a W hcl hi hp hs hw
      have h7 := Go.Sx.done hp 7 (by kernel_rfl)
      have h10 := Go.Sx.done hp 10 (by kernel_rfl)
      have h6 := Go.Sx.done (hcl 7 _ rfl h7) 6 (by kernel_rfl)
      have h5 := Go.Sx.done (hcl 6 _ rfl h6) 5 (by kernel_rfl)
      have e1 : (if D 7 = true then Fact (u 7 = u 6) else Free) = Fact (u 7 = u 6) := by rw [h7]; rfl
      have e2 : (if D 6 = true then Fact (u 6 = u 5) else Free) = Fact (u 6 = u 5) := by rw [h6]; rfl
      have g7 : u 7 = u 5 := by
        have hw2 := hw
        simp only [e1, e2] at hw2
        exact (hw2.told (In.tl (In.tl (In.tl (In.tl (In.tl In.hd)))))).trans (hw2.told (In.tl (In.tl (In.tl (In.tl In.hd)))))
      simp only [hi, h5, h10, Bool.false_eq_true, if_false, if_true] at hw
      obtain ⟨⟨_, hf2, _⟩, _⟩ := hw.unfzf
      rw [← g7] at hf2
      refine st_store hs (vs := (u 7).1) (hw := hw) (hz := by rw [hf2.len]; rfl) (h1 := hf2.one) (hl := by rw [hf2.len]; rfl) (k := ?_); clear hs hw; intro W hs hw
      rw [ov_all _ _ (by rw [hf2.len]; rfl)] at hw
      rw [show (u 7).1 = (u 5).1 from by rw [g7]] at hw
      repeat (first | (refine sxv hs hw ?_; clear hs; intro a hs) | refine sxc hs ?_ | (refine sxa hs hw ?_; clear hs hw; intro a b W hw hs) | (refine sxs hs hw ?_; clear hs hw; intro W hs hw))
      refine Or.inl ⟨hs, ?_⟩
      show Has 0 w0 _ ((if (Nat.beq 5 12 || D 5) = true then _ else _) :: _ :: (if (Nat.beq 10 12 || D 10) = true then _ else _) :: _ :: _)
      rw [h5, h10]
      exact hw
    case c13_6 =>
      intro u LD D a W hcl hi hp hs hw
      have h8 := Go.Sx.done hp 8 (by kernel_rfl)
      have h11 := Go.Sx.done hp 11 (by kernel_rfl)
      have h6 := Go.Sx.done (hcl 8 _ rfl h8) 6 (by kernel_rfl)
      have h5 := Go.Sx.done (hcl 6 _ rfl h6) 5 (by kernel_rfl)
      have e1 : (if D 8 = true then Fact (u 8 = u 6) else Free) = Fact (u 8 = u 6) := by rw [h8]; rfl
      have e2 : (if D 6 = true then Fact (u 6 = u 5) else Free) = Fact (u 6 = u 5) := by rw [h6]; rfl
      have g8 : u 8 = u 5 := by
        have hw2 := hw
        simp only [e1, e2] at hw2
        exact (hw2.told (In.tl (In.tl (In.tl (In.tl (In.tl (In.tl In.hd))))))).trans (hw2.told (In.tl (In.tl (In.tl (In.tl In.hd)))))
      simp only [hi, h5, h11, Bool.false_eq_true, if_false, if_true] at hw
      obtain ⟨⟨_, _, hsv⟩, _⟩ := hw.unfzf
      obtain ⟨tad, tcap, e13⟩ := hsv.slice
      refine st_store hs (hw := hw) (vs := rowCells N.2.1 (u 8).2.1) (h1 := by rw [g8, e13]; rfl) (k := ?_); clear hs hw; intro W hs hw
      rw [show (u 8).2.1 = (u 5).2.1 from by rw [g8]] at hw
      repeat (first | (refine sxv hs hw ?_; clear hs; intro a hs) | refine sxc hs ?_ | (refine sxa hs hw ?_; clear hs hw; intro a b W hw hs) | (refine sxs hs hw ?_; clear hs hw; intro W hs hw))
      refine Or.inl ⟨hs, ?_⟩
      show Has 0 w0 _ ((if (Nat.beq 5 13 || D 5) = true then _ else _) :: _ :: _ :: (if (Nat.beq 11 13 || D 11) = true then _ else _) :: _)
      rw [h5, h11]
      exact hw
    case k_6 =>
      clear hs hw
      intro u a W hs hw
      replace hw : Has 0 w0 W (FzF (u 5).2.2.1 (H'.le (u 5).2.2.1 ∧ RfIn (u 5).2.2.1 N.1 (u 5).1 ∧ OpsH (u 5).2.2.1 (u 5).2.1 N.2.1.b.l) :: Cells b4 cs 42 :: Cells (u 10).2.2.2 (u 5).1 42 :: Cells (u 11).2.2.2 (rowCells N.2.1 (u 5).2.1) 39 :: Fact (u 6 = u 5) :: Fact (u 7 = u 6) :: Fact (u 8 = u 6) :: Sx.Own 39 5 (.slice oad rows.length ocap) rows.length ys :: Cells b2 zrf 42 :: R) := hw
      replace hw := hw.sub (L' := FzF (u 5).2.2.1 (H'.le (u 5).2.2.1 ∧ RfIn (u 5).2.2.1 N.1 (u 5).1 ∧ OpsH (u 5).2.2.1 (u 5).2.1 N.2.1.b.l) :: Cells b4 cs 42 :: Cells (u 10).2.2.2 (u 5).1 42 :: Cells (u 11).2.2.2 (rowCells N.2.1 (u 5).2.1) 39 :: Sx.Own 39 5 (.slice oad rows.length ocap) rows.length ys :: Cells b2 zrf 42 :: R) (List.Sublist.cons_cons _ (List.Sublist.cons_cons _ (List.Sublist.cons_cons _ (List.Sublist.cons_cons _ (List.Sublist.cons _ (List.Sublist.cons _ (List.Sublist.cons _ (List.Sublist.refl _))))))))
      replace hs : Slots a 35 [(0, .slice (some ⟨g1, f1, none⟩) l.length scap), (2, .pointer (some ⟨b2, 0, none⟩)), (4, .pointer (some ⟨b4, 0, none⟩)), (6, .int .i64 (j : Int)), (5, .slice oad rows.length ocap), (7, .pointer (some ⟨(u 10).2.2.2, 0, none⟩)), (8, .pointer (some ⟨(u 11).2.2.2, 0, none⟩)), (9, .bool N.2.2)] := hs.of ⟨rfl, rfl, rfl, rfl, rfl, rfl, rfl, rfl, trivial⟩
      generalize (u 10).2.2.2 = b7 at *
      generalize (u 11).2.2.2 = b8 at *
      generalize (u 5).2.2.1 = H2 at *
      generalize (u 5).2.1 = sv2 at *
      generalize (u 5).1 = cs2 at *
      clear u
      obtain ⟨⟨hle, hf2, hsv⟩, hw⟩ := hw.unfzf
      have hlen2 := hf2.len
      have hone2 := hf2.one
      obtain ⟨uad, ucap, rfl⟩ := hsv.slice
      have hw : Has 0 w0 W (Sx.Own 39 5 (.slice oad rows.length ocap) rows.length ys :: Cells b4 cs 42 :: Cells b2 zrf 42 :: Fz H2 :: Cells b7 cs2 42 :: Cells b8 (rowCells N.2.1 (.slice uad N.2.1.b.l.length ucap)) 39 :: R) := hw.perm (by repeat (first | exact List.Perm.refl _ | refine perm_pick (by repeat (first | exact Pick.hd | apply Pick.tl)) ?_))
      repeat (first | (refine sxv hs hw ?_; clear hs; intro a hs) | refine sxc hs ?_ | (refine sxa hs hw ?_; clear hs hw; intro a b W hw hs) | (refine sxs hs hw ?_; clear hs hw; intro W hs hw))
      cases hok2 : N.2.2 with
      | false =>
        rw [hok2] at hs hgo
        have hNf := hno hok2
        rw [hNf] at hf2
        repeat (first | (refine sxv hs hw ?_; clear hs; intro a hs) | refine sxc hs ?_ | (refine sxa hs hw ?_; clear hs hw; intro a b W hw hs) | (refine sxs hs hw ?_; clear hs hw; intro W hs hw))
        have hw := hw.sub (L' := Sx.Own 39 5 (.slice oad rows.length ocap) rows.length ys :: Cells b4 cs 42 :: Cells b2 zrf 42 :: Fz H2 :: R) (List.Sublist.cons_cons _ (List.Sublist.cons_cons _ (List.Sublist.cons_cons _ (List.Sublist.cons_cons _ (List.Sublist.cons _ (List.Sublist.cons _ (List.Sublist.refl _)))))))
        exact st_again (j + 1, f, cs, rows, oad, ocap, ys, H2) hs hw ⟨hj', by show rows.length ≤ j + 1; omega, hd, hH'.trans hle, hf.le hle, hch2.mono (RowIn.le hle), hgo⟩ (by show l.length - (j + 1) < l.length - j; omega) ⟨rfl, rfl, rfl, int_eq (by show IntKind.i64.wrap ((j : Int) + 1) = ((j + 1 : Nat) : Int); rw [IntWalk.i64_in _ (by omega)]; omega), rfl, trivial⟩
      | true =>
        rw [hok2] at hs hgo
        repeat (first | (refine sxv hs hw ?_; clear hs; intro a hs) | refine sxc hs ?_ | (refine sxa hs hw ?_; clear hs hw; intro a b W hw hs) | (refine sxs hs hw ?_; clear hs hw; intro W hs hw))
        refine st_load_agg hs (hw := hw) (hi := In.tl (In.tl (In.tl (In.tl In.hd)))) (hl := by rw [hlen2]; rfl) (k := ?_); clear hs; intro a hs
        have hs2 : Slots a 35 ((28, .agg ⟨cut cs2 0 38⟩) :: _) := hs
        rw [cut_all _ _ hlen2] at hs2
        clear hs
        have hs := hs2
        clear hs2
        refine st_store hs (vs := cs2) (hw := hw) (hz := by rw [hlen2]; rfl) (h1 := hone2) (hl := by rw [hlen2, hlen0]; rfl) (k := ?_); clear hs hw; intro W hs hw
        rw [ov_all _ _ (by rw [hlen2, hlen0])] at hw
        repeat (first | (refine sxv hs hw ?_; clear hs; intro a hs) | refine sxc hs ?_ | (refine sxa hs hw ?_; clear hs hw; intro a b W hw hs) | (refine sxs hs hw ?_; clear hs hw; intro W hs hw))
        obtain ⟨bx, qx⟩ := nm1 hw; subst qx
        have hw : Has 0 w0 _ (Sx.Own 39 5 (.slice oad rows.length ocap) rows.length ys :: Cells bx (rowCells N.2.1 (.slice uad N.2.1.b.l.length ucap)) 39 :: Cells b4 cs2 42 :: Cells b2 zrf 42 :: Fz H2 :: Cells b7 cs2 42 :: Cells b8 (rowCells N.2.1 (.slice uad N.2.1.b.l.length ucap)) 39 :: R) := hw.perm (by repeat (first | exact List.Perm.refl _ | refine perm_pick (by repeat (first | exact Pick.hd | apply Pick.tl)) ?_))
        refine st_append1 hs (hw := hw) (hi := In.hd) (ch := hch2.mono (RowIn.le hle)) (ha := (⟨_, rfl, hsv⟩ : RowIn H2 N.2.1 (rowCells N.2.1 (.slice uad N.2.1.b.l.length ucap)))) (hl := rfl) (h1 := rfl) (hb := by omega) (h63 := by omega) (k := ?_)
        clear hs hw; intro a ad2 cap2 W hs hw hc2
        repeat (first | (refine sxv hs hw ?_; clear hs; intro a hs) | refine sxc hs ?_ | (refine sxa hs hw ?_; clear hs hw; intro a b W hw hs) | (refine sxs hs hw ?_; clear hs hw; intro W hs hw))
        have hw := hw.sub (L' := Sx.Own 39 5 (.slice ad2 (rows ++ [N.2.1]).length cap2) (rows ++ [N.2.1]).length (ys ++ rowCells N.2.1 (.slice uad N.2.1.b.l.length ucap)) :: Cells b4 cs2 42 :: Cells b2 zrf 42 :: Fz H2 :: R) (List.Sublist.cons_cons _ (List.Sublist.cons _ (List.Sublist.cons_cons _ (List.Sublist.cons_cons _ (List.Sublist.cons_cons _ (List.Sublist.cons _ (List.Sublist.cons _ (List.Sublist.refl _))))))))
        exact st_again (j + 1, N.1, cs2, rows ++ [N.2.1], ad2, cap2, ys ++ rowCells N.2.1 (.slice uad N.2.1.b.l.length ucap), H2) hs hw ⟨hj', by show (rows ++ [N.2.1]).length ≤ j + 1; rw [List.length_append]; show rows.length + 1 ≤ j + 1; omega, hdn, hH'.trans hle, hf2, hc2, hgo⟩ (by show l.length - (j + 1) < l.length - j; omega) ⟨rfl, rfl, rfl, int_eq (by show IntKind.i64.wrap ((j : Int) + 1) = ((j + 1 : Nat) : Int); rw [IntWalk.i64_in _ (by omega)]; omega), rfl, trivial⟩
    all_goals
      intro u LD D a W hcl hi hp hs hw
      repeat (first | (refine sxv hs hw ?_; clear hs; intro a hs) | refine sxc hs ?_ | (refine sxa hs hw ?_; clear hs hw; intro a b W hw hs) | (refine sxs hs hw ?_; clear hs hw; intro W hs hw))
      exact Or.inl ⟨hs, hw⟩
  · have hj' : j = l.length := by have : ¬ j < l.length := by simpa using hcc
                                  omega
    subst hj'
    rw [List.drop_length] at hgo
    simp only [allF] at hgo
    repeat (first | (refine sxv hs hw ?_; clear hs; intro a hs) | refine sxc hs ?_ | (refine sxa hs hw ?_; clear hs hw; intro a b W hw hs) | (refine sxs hs hw ?_; clear hs hw; intro W hs hw))
    refine st_load_agg hs (hw := hw) (hi := In.tl In.hd) (hl := by rw [hlen0]; rfl) (k := ?_); clear hs; intro a hs
    have hs2 : Slots a 35 ((33, .agg ⟨cut cs 0 38⟩) :: _) := hs
    rw [cut_all _ _ hlen0] at hs2
    clear hs
    have hs := hs2
    clear hs2
    repeat (first | (refine sxv hs hw ?_; clear hs; intro a hs) | refine sxc hs ?_ | (refine sxa hs hw ?_; clear hs hw; intro a b W hw hs) | (refine sxs hs hw ?_; clear hs hw; intro W hs hw))
    refine st_store hs (vs := cs) (hw := hw) (hz := by rw [hlen0]; rfl) (h1 := hone0) (hl := by rw [hlen0]; rfl) (k := ?_); clear hs hw; intro W hs hw
    rw [ov_all _ _ (by rw [hlen0]; rfl)] at hw
    repeat (first | (refine sxv hs hw ?_; clear hs; intro a hs) | refine sxc hs ?_ | (refine sxa hs hw ?_; clear hs hw; intro a b W hw hs) | (refine sxs hs hw ?_; clear hs hw; intro W hs hw))
    refine rc2 hs rfl rfl hw (In.tl (In.tl In.hd)) (by rw [hlen0]; rfl) rfl ?_
    rw [← hgo]
    refine ⟨cs, oad, ocap, ys, H', ?_, hH', hf, hch2, hw.sub (List.Sublist.cons_cons _ (List.Sublist.cons _ (List.Sublist.cons _ (List.Sublist.refl _))))⟩
    show Ending.returned (Value.tuple #[.agg ⟨cut cs 0 38⟩, _]) = _
    rw [cut_all _ _ hlen0]
end Go.Proofs.YtmalklakaalaoaaGreatDoor.Sw

set_option linter.unusedVariables false
namespace Go.Proofs.YtmalklakaalaoaaGreatDoor.Sw
open Go.RowKit Go.Sx
def BatRd (W : World) (b : BatchD) (cs : List Value) : Prop := ∃ sv, cs = batCells b sv ∧ Rd W 9 sv b.l.length (b.l.flatMap opCells)
def BatsRd (W : World) (v : Value) (l : List BatchD) : Prop := ∃ xs, Rd W 3 v l.length xs ∧ Ch (BatRd W) l xs
theorem BatsRd.h {W : World} {v : Value} {l : List BatchD} (r : BatsRd W v l) : BatsH (fr W) v l := by
  obtain ⟨xs, h1, h2⟩ := r
  exact ⟨xs, RdH.of_rd h1 (Fh.le.refl _) (by decide), h2.mono fun b c ⟨sv, e, h⟩ => ⟨sv, e, RdH.of_rd h (Fh.le.refl _) (by decide)⟩⟩
end Go.Proofs.YtmalklakaalaoaaGreatDoor.Sw

set_option linter.unusedVariables false
set_option maxRecDepth 10000
namespace Go.Proofs.YtmalklakaalaoaaGreatDoor
open Go.ChangeShapes Go.WideShapes Go.ChangeAt Go.RowKit Go.Lib Go.Sx Go.Proofs Go.Deep
open Sw Go.Joins
section
variable {H : Type} {enc : TypeId × Value → H} {w : World} {spare : Nat → Bool} {held : Bool}
theorem ch_map {α : Type} {Rr : α → List Value → Prop} (O : Nat → α) (C : Nat → List Value) : ∀ l : List Nat, (∀ i ∈ l, Rr (O i) (C i)) → Ch Rr (l.map O) (l.flatMap C)
  | [], _ => rfl
  | i :: l, h => ⟨C i, l.flatMap C, rfl, h i (by simp), ch_map O C l fun j hj => h j (by simp [hj])⟩
theorem flatMap_get {C : Nat → List Value} {k : Nat} : ∀ (n b : Nat) (j : Nat) (x : Value), (∀ i, b ≤ i → i < b + n → (C i).length = k) → ((List.range' b n).flatMap C)[j]? = some x → ∃ i kk, b ≤ i ∧ i < b + n ∧ (C i)[kk]? = some x ∧ j = (i - b) * k + kk ∧ kk < k
  | 0, b, j, x, _, h => by simp at h
  | n + 1, b, j, x, hk, h => by
    rw [List.range'_succ, List.flatMap_cons, List.getElem?_append] at h
    have hb := hk b (Nat.le_refl _) (by omega)
    split at h
    · rename_i hj
      exact ⟨b, j, Nat.le_refl _, by omega, h, by simp, by omega⟩
    · rename_i hj
      obtain ⟨i, kk, h1, h2, h3, h4, h5⟩ := flatMap_get n (b + 1) _ x (fun i h1 h2 => hk i (by omega) (by omega)) h
      refine ⟨i, kk, by omega, by omega, h3, ?_, h5⟩
      have e : (i - b) * k = (i - (b + 1)) * k + k := by
        rw [show i - b = (i - (b + 1)) + 1 by omega, Nat.add_mul, Nat.one_mul]
      omega
theorem flatMap_len {C : Nat → List Value} {k : Nat} : ∀ (n b : Nat), (∀ i, b ≤ i → i < b + n → (C i).length = k) → ((List.range' b n).flatMap C).length = n * k
  | 0, b, _ => by simp
  | n + 1, b, hk => by
    rw [List.range'_succ, List.flatMap_cons, List.length_append, hk b (Nat.le_refl _) (by omega), flatMap_len n (b + 1) fun i h1 h2 => hk i (by omega) (by omega), Nat.add_mul]
    omega
theorem open_list {α : Type} [Inhabited α] {t e : TypeId} {k : Nat} (ht : Tryz.prog.underlying t = some (.slice e)) (hc : Tryz.prog.cellsOf e = k) (hk0 : 0 < k) {Rr : α → List Value → Prop} {Wf : α → Prop}
    (op : ∀ {fuel : Nat} {cs : List Value} {x : DataW H × List MemPlace}, DataW.trod enc Tryz.prog w 0 spare held fuel e cs = some x → ∃ o, Rr o cs ∧ Wf o)
    {fuel : Nat} {cs : List Value} {x : DataW H × List MemPlace} (h : DataW.trod enc Tryz.prog w 0 spare held fuel t cs = some x) :
    ∃ (sv : Value) (l : List α), cs = [sv] ∧ (∀ o ∈ l, Wf o) ∧ ∃ xs, Rd w k sv l.length xs ∧ Ch Rr l xs := by
  have hlt := DataW.trod_lt _ _ _ _ h
  rcases open_slice ht h with ⟨rfl, -⟩ | ⟨a, len, cap, m, n, D, Pl, rfl, -, hl, hm, hmm, rfl, hx⟩
  · exact ⟨_, [], rfl, by simp, [], Rd.nil w k 0 (by omega), rfl⟩
  · have hlm : len ≤ m := by rw [hmm]; split <;> omega
    obtain ⟨O, hO⟩ := choose_lt (n := len) (α := α × List Value) (p := fun i o => Rr o.1 o.2 ∧ Wf o.1 ∧ o.2.length = k ∧ ∀ j u, o.2[j]? = some u → w.cell? ((a.add (i * k)).add j) = some u) fun i hi => by
      obtain ⟨cs', h1, h2⟩ := hx i (by omega)
      obtain ⟨o, ho1, ho2⟩ := op h2
      rw [hc] at h1
      obtain ⟨_, hlen, h3⟩ := World.cells?_some h1
      refine ⟨(o, cs'), ho1, ho2, by simpa using hlen, fun j u hj => ?_⟩
      have hjk : j < k := by
        have h9 : j < cs'.length := (List.getElem?_eq_some_iff.1 hj).1
        have e : cs'.length = k := by simpa using hlen
        omega
      rw [h3 j hjk]; exact hj
    have hcap : cap ≤ 9223372036854775807 := max63 hm
    have hL : ((List.range len).map fun i => (O i).1).length = len := by simp
    have hr : List.range len = List.range' 0 len := List.range_eq_range'
    have hks : ∀ i, 0 ≤ i → i < 0 + len → (O i).2.length = k := fun i _ hi => (hO i (by omega)).2.2.1
    refine ⟨_, (List.range len).map fun i => (O i).1, rfl, fun o ho => ?_, (List.range len).flatMap fun i => (O i).2, ?_, ch_map _ _ _ fun i hi => (hO i (List.mem_range.1 hi)).1⟩
    · obtain ⟨i, hi, rfl⟩ := List.mem_map.1 ho
      exact (hO i (List.mem_range.1 hi)).2.1
    · rw [hL]
      refine ⟨by rw [hr]; exact flatMap_len len 0 hks, some a, cap, rfl, hl, hcap, ?_⟩
      rcases Nat.eq_zero_or_pos len with h0 | h0
      · exact .inl h0
      · right
        obtain ⟨b, off, spot⟩ := a
        have h00 : ∃ u, (O 0).2[0]? = some u := ⟨_, List.getElem?_eq_getElem (by rw [hks 0 (Nat.zero_le _) (by omega)]; exact hk0)⟩
        obtain ⟨u0, hu0⟩ := h00
        have h00 := (hO 0 h0).2.2.2 0 u0 hu0
        have hspot : spot = none := by simpa [Addr.add] using World.cell?_spot h00
        subst hspot
        refine ⟨b, off, rfl, ?_, fun j x hj => ?_⟩
        · have hpos : 0 < m * k := Nat.mul_pos (by omega) hk0
          exact hlt (.cell b off) (List.mem_append_left _ (MemPlace.mem_row.2 ⟨0, by rw [hc]; exact hpos, rfl⟩))
        · rw [hr] at hj
          obtain ⟨i, kk, h1, h2, h3, rfl, h5⟩ := flatMap_get len 0 j x hks hj
          have := (hO i (by omega)).2.2.2 kk x h3
          rw [add_add, add_plain] at this
          exact this
theorem open_bat_cells {fuel : Nat} {cs : List Value} {x : DataW H × List MemPlace} (h : DataW.trod enc Tryz.prog w 0 spare held fuel 36 cs = some x) : ∃ b, BatRd w b cs ∧ BatWf b := by
  obtain ⟨xs, n, _, rfl, hl, hlen, hf⟩ := DataW.trod_struct Tryz.underlying36 h
  have c0 : Tryz.prog.cellsOf 36 = 3 := by kernel_rfl
  have c1 : Tryz.prog.cellsOf 3 = 1 := by kernel_rfl
  have c2 : Tryz.prog.cellsOf 2 = 1 := by kernel_rfl
  have c3 : Tryz.prog.cellsOf 34 = 1 := by kernel_rfl
  rw [c0] at hl
  match cs, hl, xs, hlen with
  | [v0, v1, v2], _, [y0, y1, y2], _ =>
    have h0 := hf 0 _ rfl
    have h1 := hf 1 _ rfl
    have h2 := hf 2 _ rfl
    change DataW.trod enc _ w 0 spare held n 3 (([v0, v1, v2].drop 0).take (Tryz.prog.cellsOf 3)) = some y0 at h0
    change DataW.trod enc _ w 0 spare held n 2 (([v0, v1, v2].drop 1).take (Tryz.prog.cellsOf 2)) = some y1 at h1
    change DataW.trod enc _ w 0 spare held n 34 (([v0, v1, v2].drop 2).take (Tryz.prog.cellsOf 34)) = some y2 at h2
    rw [c1] at h0
    rw [c2] at h1
    rw [c3] at h2
    obtain ⟨k, e0, _, w0⟩ := DataW.trod_int Tryz.underlying3 h0
    obtain ⟨m, e1, _, w1⟩ := DataW.trod_int Tryz.underlying2 h1
    obtain ⟨sv, l, e2, ho, hr⟩ := open_ops h2
    simp at e0 e1 e2
    subst e0 e1 e2
    exact ⟨⟨k, m, l⟩, ⟨v2, rfl, hr⟩, w0, w1, ho⟩
instance : Inhabited BatchD := ⟨⟨0, 0, []⟩⟩
instance : Inhabited RowD := ⟨zeroRow⟩ -- 39
theorem open_bats {r : Reach} {b0 : Nat} {v : Value} {d : DataW H} {p : List MemPlace} (hv : Value.okWide Tryz.prog w r b0 22 v) (h : DataW.Trod enc Tryz.prog w 0 spare held 22 v d p) : ∃ l, (∀ b ∈ l, BatWf b) ∧ BatsRd w v l := by
  obtain ⟨b, len, cap, rfl⟩ := okWide_slice Tryz.underlying22 hv
  obtain ⟨fuel, hf⟩ := h
  obtain ⟨sv, l, e, h1, h2⟩ := open_list Tryz.underlying22 (by kernel_rfl : _ = 3) (by decide) open_bat_cells hf
  simp [Value.cells] at e
  subst e
  exact ⟨l, h1, h2⟩
end
end Go.Proofs.YtmalklakaalaoaaGreatDoor

set_option linter.unusedVariables false
set_option maxRecDepth 10000
namespace Go.Proofs.YtmalklakaalaoaaGreatDoor.Sw
open Go.RowKit Go.Sx
-- pieces
theorem setRL_err (d : Dm) (k : ByteArray) (x : Option DV) : (setRL d k x).1 = 0 ∨ (setRL d k x).1 = 6 := by
  cases x with
  | none => exact .inl rfl
  | some v => unfold setRL; simp only; split <;> simp
end Go.Proofs.YtmalklakaalaoaaGreatDoor.Sw

set_option linter.unusedVariables false
namespace Go.Proofs.YtmalklakaalaoaaGreatDoor
open Go.RowKit
theorem info_byte : (Tryz.prog.info? 5).map (fun i => (i.zero, i.size, i.bytes)) = some (some (.int .u8 0), 1, 1) := by kernel_rfl
theorem ret_int3 {a a' b b' c c' : Int} (h1 : a = a') (h2 : b = b') (h3 : c = c') : Ending.returned (.tuple #[.int .i64 a, .int .i64 b, .int .i64 c]) = .returned (.tuple #[.int .i64 a', .int .i64 b', .int .i64 c']) := by rw [h1, h2, h3]
def OwnB (w : World) (B : Nat) (v : Value) (l : List UInt8) : Prop := w.ownsRow B 5 1 v l.length (Lib.byteCells l)
theorem u8w (x : Nat) (h : x < 128) : IntKind.u8.wrap (x : Int) = ((x.toUInt8).toNat : Int) := by
  rw [IntKind.wrap_u8, Ph.u8n x (by omega)]; omega
theorem u8p (x : Nat) (h : x < 128) : (x : Int) = ((x.toUInt8).toNat : Int) := by rw [Ph.u8n x (by omega)]
theorem u8o (x : Nat) : bits .or .u8 (IntKind.u8.wrap (x : Int)) 128 = (((x % 128 + 128).toUInt8).toNat : Int) := by
  have e : IntKind.u8.wrap (x : Int) = ((x % 256 : Nat) : Int) := by rw [IntKind.wrap_u8]; omega
  rw [e, Ph.or128_at _ (by omega), Ph.u8n _ (by omega)]; omega
set_option maxRecDepth 100000 in
set_option maxHeartbeats 2000000 in
theorem num_Put_pos (B : Nat) (v : Value) (l : List UInt8) (n : Int) (w : World) (h0 : -9223372036854775808 ≤ n) (h1 : n ≤ 9223372036854775807) (hn : 0 ≤ n) (ho : OwnB w B v l) (hl : l.length ≤ 1000000000) (hB : B ≤ w.heap.size) :
    Calls Tryz.prog 61 #[v, .int .i64 n] w fun e w' => ∃ v', e = .returned v' ∧ OwnB w' B v' (l ++ Ph.putI n) ∧ Below B w w' ∧ B ≤ w'.heap.size := by
  obtain ⟨ib, hib, hbz, hbs, hbb⟩ := info_parts info_byte
  have HO : Hid (w.ownsRow B 5 1 v l.length (Lib.byteCells l)) := ho
  have HZ := Lib.hid (Ph.zig_small h0 h1).1
  clear ho
  go_enter Tryz.func61, Tryz.ntmps61
  go_wp2
  go_loopw [0, 5] (fun b u wr => ∃ (acc : List UInt8) (f x : Nat), u = .int .u64 x ∧ Hid (x < 128 ^ f) ∧ 1 ≤ f ∧ f ≤ 10 ∧ acc.length + f ≤ l.length + 10 ∧ Hid (wr.ownsRow B 5 1 b acc.length (Lib.byteCells acc)) ∧ Below B w wr ∧ B ≤ wr.heap.size ∧ Hid (acc ++ Ph.putN f x = l ++ Ph.putI n)) (fun _ u _ => (intOf u).toNat)
  case atStart => exact ⟨l, 10, Ph.zig n, by rw [Ph.zig_pos n hn], HZ.out, by omega, by omega, by omega, HO.out, Below.refl _ _, hB, rfl⟩
  case round =>
    obtain ⟨acc, f, x, rfl, HX, hf1, hf2, hal, HR, hbw, hBw, HE⟩ := hrel
    have hr := HR.out
    by_cases hx : x < 128
    · have hx' : (x : Int) ≤ 127 := by omega
      go_wp2_with (at_builtin; refine wpList_append_own _ rfl (.tmp 23) (.tmp 26) 61 rfl (B) 5 ib (.int .u8 0) 1 1 Tryz.underlying61 hib hbz hbs hbb rfl (by decide) _ acc.length _ rfl (hr.alloc _) ⟨wr.heap.size, 0, none⟩ 1 1 [?xv] rfl rfl ?c1 ?c2 ?c3 ?c4 ?c5 ?_)
      case c1 => exact (cell_one_new _ _ _)
      case c2 => simp [Value.oneCell']
      case c3 => unfold maxLen; omega
      case c4 => omega
      case c5 => simp; omega
      intro b1 w1 hr1 hg1 _
      have hb1 : Below (B) w w1 := (hbw.alloc hBw _).grown hg1 (by simp; omega) (fun g hg => (hr.lt g hg).1)
      have hB1 : B ≤ w1.heap.size := by have := hg1.size; simp at this; omega
      have hr2 := own_snoc (c := x.toUInt8) hr1 (u8p x hx)
      have HF : Hid (acc ++ [x.toUInt8] = l ++ Ph.putI n) := by
        show _ = _
        rw [← HE.out]
        obtain ⟨g, rfl⟩ : ∃ g, f = g + 1 := ⟨f - 1, by omega⟩
        rw [Ph.putN_last g x hx]
      clear hr hr1
      go_wp2
      go_ret
      refine ⟨_, rfl, ?_, hb1, hB1⟩
      unfold OwnB
      rw [← HF.out]
      exact hr2
    · have hx' : (127 : Int) < (x : Int) := by omega
      obtain ⟨g, hfg, hg1', hxg, hpn⟩ := Ph.putN_split f x hx HX.out
      have HPN := Lib.hid hpn
      have HXG := Lib.hid hxg
      clear hpn hxg
      go_wp2_with (at_builtin; refine wpList_append_own _ rfl (.tmp 15) (.tmp 19) 61 rfl (B) 5 ib (.int .u8 0) 1 1 Tryz.underlying61 hib hbz hbs hbb rfl (by decide) _ acc.length _ rfl (hr.alloc _) ⟨wr.heap.size, 0, none⟩ 1 1 [?yv] rfl rfl ?d1 ?d2 ?d3 ?d4 ?d5 ?_)
      case d1 => exact (cell_one_new _ _ _)
      case d2 => simp [Value.oneCell']
      case d3 => unfold maxLen; omega
      case d4 => omega
      case d5 => simp; omega
      intro b1 w1 hr1 hg1 _
      have hb1 : Below (B) w w1 := (hbw.alloc hBw _).grown hg1 (by simp; omega) (fun g hg => (hr.lt g hg).1)
      have hB1 : B ≤ w1.heap.size := by have := hg1.size; simp at this; omega
      have hr2 := own_snoc (c := (x % 128 + 128).toUInt8) hr1 (u8o x)
      have HF : Hid (acc ++ [(x % 128 + 128).toUInt8] ++ Ph.putN g (x / 128) = l ++ Ph.putI n) := by
        show _ = _
        rw [← HE.out, HPN.out]
        simp
      have HR2 := Lib.hid hr2
      clear hr hr1 hr2
      go_wp2
      go_roundw
      case rel => exact ⟨acc ++ [(x % 128 + 128).toUInt8], g, x / 128, by go_num, HXG.out, hg1', by omega, by simp; omega, HR2.out, hb1, hB1, HF.out⟩
      case measure => simp [intOf]; omega
set_option maxRecDepth 100000 in
set_option maxHeartbeats 2000000 in
theorem num_Put_neg (B : Nat) (v : Value) (l : List UInt8) (n : Int) (w : World) (h0 : -9223372036854775808 ≤ n) (h1 : n ≤ 9223372036854775807) (hn : n < 0) (ho : OwnB w B v l) (hl : l.length ≤ 1000000000) (hB : B ≤ w.heap.size) :
    Calls Tryz.prog 61 #[v, .int .i64 n] w fun e w' => ∃ v', e = .returned v' ∧ OwnB w' B v' (l ++ Ph.putI n) ∧ Below B w w' ∧ B ≤ w'.heap.size := by
  obtain ⟨ib, hib, hbz, hbs, hbb⟩ := info_parts info_byte
  have HO : Hid (w.ownsRow B 5 1 v l.length (Lib.byteCells l)) := ho
  have HZ := Lib.hid (Ph.zig_small h0 h1).1
  clear ho
  go_enter Tryz.func61, Tryz.ntmps61
  go_wp2
  go_loopw [0, 5] (fun b u wr => ∃ (acc : List UInt8) (f x : Nat), u = .int .u64 x ∧ Hid (x < 128 ^ f) ∧ 1 ≤ f ∧ f ≤ 10 ∧ acc.length + f ≤ l.length + 10 ∧ Hid (wr.ownsRow B 5 1 b acc.length (Lib.byteCells acc)) ∧ Below B w wr ∧ B ≤ wr.heap.size ∧ Hid (acc ++ Ph.putN f x = l ++ Ph.putI n)) (fun _ u _ => (intOf u).toNat)
  case atStart => exact ⟨l, 10, Ph.zig n, by rw [Ph.zig_neg n h0 hn], HZ.out, by omega, by omega, by omega, HO.out, Below.refl _ _, hB, rfl⟩
  case round =>
    obtain ⟨acc, f, x, rfl, HX, hf1, hf2, hal, HR, hbw, hBw, HE⟩ := hrel
    have hr := HR.out
    by_cases hx : x < 128
    · have hx' : (x : Int) ≤ 127 := by omega
      go_wp2_with (at_builtin; refine wpList_append_own _ rfl (.tmp 23) (.tmp 26) 61 rfl (B) 5 ib (.int .u8 0) 1 1 Tryz.underlying61 hib hbz hbs hbb rfl (by decide) _ acc.length _ rfl (hr.alloc _) ⟨wr.heap.size, 0, none⟩ 1 1 [?xv] rfl rfl ?c1 ?c2 ?c3 ?c4 ?c5 ?_)
      case c1 => exact (cell_one_new _ _ _)
      case c2 => simp [Value.oneCell']
      case c3 => unfold maxLen; omega
      case c4 => omega
      case c5 => simp; omega
      intro b1 w1 hr1 hg1 _
      have hb1 : Below (B) w w1 := (hbw.alloc hBw _).grown hg1 (by simp; omega) (fun g hg => (hr.lt g hg).1)
      have hB1 : B ≤ w1.heap.size := by have := hg1.size; simp at this; omega
      have hr2 := own_snoc (c := x.toUInt8) hr1 (u8p x hx)
      have HF : Hid (acc ++ [x.toUInt8] = l ++ Ph.putI n) := by
        show _ = _
        rw [← HE.out]
        obtain ⟨g, rfl⟩ : ∃ g, f = g + 1 := ⟨f - 1, by omega⟩
        rw [Ph.putN_last g x hx]
      clear hr hr1
      go_wp2
      go_ret
      refine ⟨_, rfl, ?_, hb1, hB1⟩
      unfold OwnB
      rw [← HF.out]
      exact hr2
    · have hx' : (127 : Int) < (x : Int) := by omega
      obtain ⟨g, hfg, hg1', hxg, hpn⟩ := Ph.putN_split f x hx HX.out
      have HPN := Lib.hid hpn
      have HXG := Lib.hid hxg
      clear hpn hxg
      go_wp2_with (at_builtin; refine wpList_append_own _ rfl (.tmp 15) (.tmp 19) 61 rfl (B) 5 ib (.int .u8 0) 1 1 Tryz.underlying61 hib hbz hbs hbb rfl (by decide) _ acc.length _ rfl (hr.alloc _) ⟨wr.heap.size, 0, none⟩ 1 1 [?yv] rfl rfl ?d1 ?d2 ?d3 ?d4 ?d5 ?_)
      case d1 => exact (cell_one_new _ _ _)
      case d2 => simp [Value.oneCell']
      case d3 => unfold maxLen; omega
      case d4 => omega
      case d5 => simp; omega
      intro b1 w1 hr1 hg1 _
      have hb1 : Below (B) w w1 := (hbw.alloc hBw _).grown hg1 (by simp; omega) (fun g hg => (hr.lt g hg).1)
      have hB1 : B ≤ w1.heap.size := by have := hg1.size; simp at this; omega
      have hr2 := own_snoc (c := (x % 128 + 128).toUInt8) hr1 (u8o x)
      have HF : Hid (acc ++ [(x % 128 + 128).toUInt8] ++ Ph.putN g (x / 128) = l ++ Ph.putI n) := by
        show _ = _
        rw [← HE.out, HPN.out]
        simp
      have HR2 := Lib.hid hr2
      clear hr hr1 hr2
      go_wp2
      go_roundw
      case rel => exact ⟨acc ++ [(x % 128 + 128).toUInt8], g, x / 128, by go_num, HXG.out, hg1', by omega, by simp; omega, HR2.out, hb1, hB1, HF.out⟩
      case measure => simp [intOf]; omega
theorem num_Put (B : Nat) (v : Value) (l : List UInt8) (n : Int) (w : World) (h0 : -9223372036854775808 ≤ n) (h1 : n ≤ 9223372036854775807) (ho : OwnB w B v l) (hl : l.length ≤ 1000000000) (hB : B ≤ w.heap.size) :
    Calls Tryz.prog 61 #[v, .int .i64 n] w fun e w' => ∃ v', e = .returned v' ∧ OwnB w' B v' (l ++ Ph.putI n) ∧ Below B w w' ∧ B ≤ w'.heap.size := by
  by_cases hn : n < 0
  · exact num_Put_neg B v l n w h0 h1 hn ho hl hB
  · exact num_Put_pos B v l n w h0 h1 (by omega) ho hl hB
end Go.Proofs.YtmalklakaalaoaaGreatDoor

set_option linter.unusedVariables false
namespace Go.Proofs.YtmalklakaalaoaaGreatDoor
open Go.RowKit
-- pieces
theorem get_ret {l : List UInt8} {a b c : Int} (h : Ph.getI l = (a, b.toNat, c)) (hb : 0 ≤ b) : Ending.returned (.tuple #[.int .i64 a, .int .i64 b, .int .i64 c]) = .returned (.tuple #[.int .i64 (Ph.getI l).1, .int .i64 (Ph.getI l).2.1, .int .i64 (Ph.getI l).2.2]) := by
  rw [h]
  exact ret_int3 rfl (by simp; omega) rfl
theorem get_ret2 {l : List UInt8} {a b c a' c' : Int} {b' : Nat} (h : Ph.getI l = (a', b', c')) (h1 : a = a') (h2 : b = b') (h3 : c = c') : Ending.returned (.tuple #[.int .i64 a, .int .i64 b, .int .i64 c]) = .returned (.tuple #[.int .i64 (Ph.getI l).1, .int .i64 (Ph.getI l).2.1, .int .i64 (Ph.getI l).2.2]) := by
  rw [h, h1, h2, h3]
theorem num_Get_nil (c : Nat) (w : World) :
    Calls Tryz.prog 58 #[.slice none 0 c] w fun e w' => e = .returned (.tuple #[.int .i64 (Ph.getI []).1, .int .i64 (Ph.getI []).2.1, .int .i64 (Ph.getI []).2.2]) ∧ w = w' := by
  go_enter Tryz.func58, Tryz.ntmps58
  go_wp2
  go_loop [5, 11] (fun u i => u = .int .u64 0 ∧ i = .int .i64 0) (fun _ i => 0)
  case atStart => exact ⟨rfl, rfl⟩
  case round =>
    obtain ⟨rfl, rfl⟩ := hrel
    go_wp2
    go_ret3
    exact ⟨rfl, rfl⟩
set_option maxRecDepth 100000 in
set_option maxHeartbeats 4000000 in
theorem num_Get_some (b off cap : Nat) (l : List UInt8) (w : World) (hl : l.length ≤ cap) (hm : cap ≤ 9223372036854775807) (hc : ∀ j (h : j < l.length), w.cell? ⟨b, off + j, none⟩ = some (.int .u8 (l[j].toNat : Int))) :
    Calls Tryz.prog 58 #[.slice (some ⟨b, off, none⟩) l.length cap] w fun e w' => e = .returned (.tuple #[.int .i64 (Ph.getI l).1, .int .i64 (Ph.getI l).2.1, .int .i64 (Ph.getI l).2.2]) ∧ w = w' := by
  have HC := Lib.hid hc
  clear hc
  go_enter Tryz.func58, Tryz.ntmps58
  go_wp2
  go_loop [5, 11] (fun u i => ∃ k x : Nat, k ≤ l.length ∧ k ≤ 9 ∧ i = .int .i64 k ∧ u = .int .u64 x ∧ Hid (x < 128 ^ k) ∧ Hid (Ph.getI l = Ph.getN k x (l.drop k))) (fun _ i => l.length - (intOf i).toNat)
  case atStart => exact ⟨0, 0, by omega, by omega, rfl, rfl, by show 0 < 128 ^ 0; decide, rfl⟩
  case round =>
    obtain ⟨k, x, hk, hk9, rfl, rfl, HX, HK⟩ := hrel
    by_cases hlt : k < l.length
    · have hlt' : (k : Int) < (l.length : Int) := by omega
      have hcell := HC.out k hlt
      have HD : Hid (l.drop k = l[k] :: l.drop (k + 1)) := List.drop_eq_getElem_cons hlt
      have hcb := (l[k]).toNat_lt
      generalize l[k] = c at *
      by_cases h9 : k = 9
      · subst h9
        have e9 : (128 : Nat) ^ 9 = 9223372036854775808 := by decide
        by_cases hc1 : 1 < c.toNat
        · have hc1' : (1 : Int) < (c.toNat : Int) := by omega
          have HF : Hid (Ph.getI l = (0, 0, 1)) := by show _ = _; rw [HK.out, HD.out, Ph.getN_big _ _ _ _ rfl hc1]
          clear e9
          go_wp2
          go_ret3
          exact ⟨get_ret HF.out (by omega), rfl⟩
        · have hc1' : (c.toNat : Int) ≤ 1 := by omega
          have hc2' : (c.toNat : Int) ≤ 127 := by omega
          have hor := Ph.or_last x c.toNat HX.out (by omega)
          have hy : x + c.toNat % 128 * 128 ^ 9 < 18446744073709551616 := by have := HX.out; omega
          clear e9
          by_cases hz : c.toNat = 0
          · have hz' : ((c.toNat : Int) == 0) = true := by rw [beq_iff_eq]; omega
            have HF : Hid (Ph.getI l = (0, 0, 1)) := by show _ = _; rw [HK.out, HD.out, Ph.getN_zero _ _ _ _ (by omega) hz]
            have HYY := Lib.hid hy
            clear hz hy
            go_wp2
            go_ret3
            exact ⟨get_ret HF.out (by omega), rfl⟩
          · have hz' : ((c.toNat : Int) == 0) = false := by rw [beq_eq_false_iff_ne]; omega
            have HF : Hid (Ph.getI l = (Ph.unzig (x + c.toNat % 128 * 128 ^ 9), 9 + 1, 0)) := by show _ = _; rw [HK.out, HD.out, Ph.getN_last _ _ _ _ (by omega) (by omega) (by omega)]
            clear hz
            generalize x + c.toNat % 128 * 128 ^ 9 = y at *
            have HYY := Lib.hid hy
            have hod := and_one_u64 (y : Int) (by omega) (by omega)
            have hnt := i64_not (y / 2) (by omega)
            have hdv : (0 : Int) ≤ (y : Int) / 2 := by omega
            have hdv2 : (y : Int) / 2 ≤ 9223372036854775807 := by omega
            clear hy
            by_cases ho : y % 2 = 1
            · have ho' : ((y : Int) % 2 == 1) = true := by rw [beq_iff_eq]; omega
              have HU := Lib.hid (Ph.unzig_odd y ho)
              clear ho
              go_wp2
              go_ret3
              refine ⟨get_ret2 HF.out ?_ rfl rfl, rfl⟩
              have e : (y : Int) / 2 = ((y / 2 : Nat) : Int) := by omega
              show bits BinOp.xor IntKind.i64 (-1) ((y : Int) / 2) = _
              rw [e, i64_not _ (by have := HYY.out; omega), HU.out]
            · have ho' : ((y : Int) % 2 == 1) = false := by rw [beq_eq_false_iff_ne]; omega
              have HU := Lib.hid (Ph.unzig_even y (by omega))
              clear ho
              go_wp2
              go_ret3
              refine ⟨get_ret2 HF.out ?_ rfl rfl, rfl⟩
              show (y : Int) / 2 = _
              rw [HU.out]
              omega
      · have h9' : ((k : Int) == 9) = false := by rw [beq_eq_false_iff_ne]; omega
        have hsm := Ph.sum_small x c.toNat k HX.out (by omega) hcb
        have hor := Ph.or_seven x c.toNat k HX.out hcb hsm.1 (by omega)
        have hy : x + c.toNat % 128 * 128 ^ k < 9223372036854775808 := by
          have h1 := hsm.2
          have h2 : (128 : Nat) ^ (k + 1) ≤ 128 ^ 9 := Nat.pow_le_pow_right (by omega) (by omega)
          have e9 : (128 : Nat) ^ 9 = 9223372036854775808 := by decide
          omega
        have HSM := Lib.hid hsm.2
        clear hsm
        by_cases hc1 : 127 < c.toNat
        · have hc1' : (127 : Int) < (c.toNat : Int) := by omega
          have HF : Hid (Ph.getI l = Ph.getN (k + 1) (x + c.toNat % 128 * 128 ^ k) (l.drop (k + 1))) := by show _ = _; rw [HK.out, HD.out, Ph.getN_more _ _ _ _ h9 (by omega)]
          generalize x + c.toNat % 128 * 128 ^ k = y at *
          have HYY := Lib.hid hy
          clear hy
          go_wp2
          go_round
          case rel => exact ⟨k + 1, y, by omega, by omega, by go_num, rfl, HSM.out, HF.out⟩
          case measure => simp [intOf]; omega
        · have hc1' : (c.toNat : Int) ≤ 127 := by omega
          by_cases hz : 0 < k ∧ c.toNat = 0
          · obtain ⟨hz1, hz2⟩ := hz
            have hk0 : (0 : Int) < (k : Int) := by omega
            have hz' : ((c.toNat : Int) == 0) = true := by rw [beq_iff_eq]; omega
            have HF : Hid (Ph.getI l = (0, 0, 1)) := by show _ = _; rw [HK.out, HD.out, Ph.getN_zero _ _ _ _ hz1 hz2]
            have HYY := Lib.hid hy
            clear hy hz2
            go_wp2
            go_ret3
            exact ⟨get_ret HF.out (by omega), rfl⟩
          · have HF : Hid (Ph.getI l = (Ph.unzig (x + c.toNat % 128 * 128 ^ k), k + 1, 0)) := by show _ = _; rw [HK.out, HD.out, Ph.getN_last _ _ _ _ (by omega) (by omega) hz]
            have HZZ := Lib.hid hz
            clear hz
            generalize x + c.toNat % 128 * 128 ^ k = y at *
            have HYY := Lib.hid hy
            have hod := and_one_u64 (y : Int) (by omega) (by omega)
            have hdv : (0 : Int) ≤ (y : Int) / 2 := by omega
            have hdv2 : (y : Int) / 2 ≤ 9223372036854775807 := by omega
            clear hy
            by_cases hk0 : 0 < k
            all_goals
              by_cases ho : y % 2 = 1
              · have hz' : 0 < k → ((c.toNat : Int) == 0) = false := fun h => by rw [beq_eq_false_iff_ne]; have := HZZ.out; omega
                have hzk : Hid True := trivial
                first | (have hz2 := hz' hk0; clear hz') | clear hz'
                have ho' : ((y : Int) % 2 == 1) = true := by rw [beq_iff_eq]; omega
                have HU := Lib.hid (Ph.unzig_odd y ho)
                clear ho
                go_wp2
                go_ret3
                refine ⟨get_ret2 HF.out ?_ rfl rfl, rfl⟩
                have e : (y : Int) / 2 = ((y / 2 : Nat) : Int) := by omega
                show bits BinOp.xor IntKind.i64 (-1) ((y : Int) / 2) = _
                rw [e, i64_not _ (by have := HYY.out; omega), HU.out]
              · have hz' : 0 < k → ((c.toNat : Int) == 0) = false := fun h => by rw [beq_eq_false_iff_ne]; have := HZZ.out; omega
                have hzk : Hid True := trivial
                first | (have hz2 := hz' hk0; clear hz') | clear hz'
                have ho' : ((y : Int) % 2 == 1) = false := by rw [beq_eq_false_iff_ne]; omega
                have HU := Lib.hid (Ph.unzig_even y (by omega))
                clear ho
                go_wp2
                go_ret3
                refine ⟨get_ret2 HF.out ?_ rfl rfl, rfl⟩
                show (y : Int) / 2 = _
                rw [HU.out]
                omega
    · have hlt' : (l.length : Int) ≤ (k : Int) := by omega
      have HF : Hid (Ph.getI l = (0, 0, 2)) := by show _ = _; rw [HK.out, List.drop_eq_nil_of_le (by omega), Ph.getN_end]
      go_wp2
      go_ret3
      exact ⟨get_ret HF.out (by omega), rfl⟩
end Go.Proofs.YtmalklakaalaoaaGreatDoor

set_option linter.unusedVariables false
-- pieces
namespace Go.Proofs.YtmalklakaalaoaaGreatDoor.Sw
open Go.RowKit Go.Sx
theorem num_Get_empty (ad : Option Addr) (cap : Nat) (w : World) :
    Calls Tryz.prog 58 ⟨[.slice ad 0 cap]⟩ w fun e W' => e = .returned (.tuple #[.int .i64 (Ph.getI []).1, .int .i64 (Ph.getI []).2.1, .int .i64 (Ph.getI []).2.2]) ∧ w = W' := by
  cases ad with
  | none => exact num_Get_nil cap w
  | some a =>
    go_enter Tryz.func58, Tryz.ntmps58
    go_wp2
    go_loop [5, 11] (fun u i => u = .int .u64 0 ∧ i = .int .i64 0) (fun _ i => 0)
    case atStart => exact ⟨rfl, rfl⟩
    case round =>
      obtain ⟨rfl, rfl⟩ := hrel
      go_wp2
      go_ret3
      exact ⟨rfl, rfl⟩
theorem num_Get (W : World) (v : Value) (l : List UInt8) (r : RdB W v l) :
    Calls Tryz.prog 58 ⟨[v]⟩ W fun e W' => e = .returned (.tuple #[.int .i64 (Ph.getI l).1, .int .i64 (Ph.getI l).2.1, .int .i64 (Ph.getI l).2.2]) ∧ W = W' := by
  obtain ⟨ad, cap, rfl, h3, h4, rfl | ⟨b, o, rfl, hc⟩⟩ := r.cells
  · exact num_Get_empty ad cap W
  · exact num_Get_some b o cap l W h3 h4 hc
theorem bys_drop (l : List UInt8) (k : Nat) : (bys l).drop (k * 1) = bys (l.drop k) := by simp
theorem i64s {x : Int} (h0 : -9223372036854775808 ≤ x) (h1 : x ≤ 9223372036854775807) : IntKind.i64.wrap x = x := IntWalk.i64_in _ (by omega)
set_option maxHeartbeats 4000000 in
theorem num_GetText (W : World) (v : Value) (l : List UInt8) (r : RdB W v l) :
    Calls Tryz.prog 59 ⟨[v]⟩ W fun e W' => e = .returned (.tuple #[.string ⟨(Ph.getT l).1.toArray⟩, .int .i64 (Ph.getT l).2.1, .int .i64 (Ph.getT l).2.2]) ∧ W = W' := by
  have hlen : l.length ≤ 9223372036854775807 := by have := r.len; exact this
  have hle := Ph.getI_le l
  have hG := num_Get W v l r
  obtain ⟨ad, cap, rfl, -⟩ := r.cells
  have hw := Has.start (G := 0) (w := W) (Nat.zero_le _)
  refine enter Tryz.func59 Tryz.ntmps59 rfl rfl fun a hs => ?_
  repeat (first | (refine sxv hs hw ?_; clear hs; intro a hs) | refine sxc hs ?_ | (refine sxa hs hw ?_; clear hs hw; intro a b W hw hs) | (refine sxs hs hw ?_; clear hs hw; intro W hs hw))
  refine st_call hs (hc := hG) (k := ?_); rintro e0 W1 ⟨rfl, rfl⟩; refine ⟨_, rfl, ?_⟩; clear hs hG; intro a hs
  generalize hg : Ph.getI l = g at *
  obtain ⟨n, k, e⟩ := g
  simp only at hle hs
  by_cases he : e = 0
  · subst he
    by_cases hn : n < 0
    · have e1 : decide (n < 0) = true := by simpa using hn
      have hT : Ph.getT l = ([], 0, 1) := by simp [Ph.getT, hg, hn]
      repeat (first | (refine sxv hs hw ?_; clear hs; intro a hs) | refine sxc hs ?_ | (refine sxa hs hw ?_; clear hs hw; intro a b W hw hs) | (refine sxs hs hw ?_; clear hs hw; intro W hs hw))
      rw [e1] at hs
      repeat (first | (refine sxv hs hw ?_; clear hs; intro a hs) | refine sxc hs ?_ | (refine sxa hs hw ?_; clear hs hw; intro a b W hw hs) | (refine sxs hs hw ?_; clear hs hw; intro W hs hw))
      exact rt3 hs rfl rfl rfl rfl ⟨by rw [hT]; rfl, rfl⟩
    · have e1 : decide (n < 0) = false := by simpa using hn
      repeat (first | (refine sxv hs hw ?_; clear hs; intro a hs) | refine sxc hs ?_ | (refine sxa hs hw ?_; clear hs hw; intro a b W hw hs) | (refine sxs hs hw ?_; clear hs hw; intro W hs hw))
      rw [e1] at hs
      repeat (first | (refine sxv hs hw ?_; clear hs; intro a hs) | refine sxc hs ?_ | (refine sxa hs hw ?_; clear hs hw; intro a b W hw hs) | (refine sxs hs hw ?_; clear hs hw; intro W hs hw))
      by_cases hb : n > 1048576
      · have e2 : decide (n > 1048576) = true := by simpa using hb
        have hT : Ph.getT l = ([], 0, 1) := by simp [Ph.getT, hg, hb]
        rw [e2] at hs
        repeat (first | (refine sxv hs hw ?_; clear hs; intro a hs) | refine sxc hs ?_ | (refine sxa hs hw ?_; clear hs hw; intro a b W hw hs) | (refine sxs hs hw ?_; clear hs hw; intro W hs hw))
        exact rt3 hs rfl rfl rfl rfl ⟨by rw [hT]; rfl, rfl⟩
      · have e2 : decide (n > 1048576) = false := by simpa using hb
        rw [e2] at hs
        repeat (first | (refine sxv hs hw ?_; clear hs; intro a hs) | refine sxc hs ?_ | (refine sxa hs hw ?_; clear hs hw; intro a b W hw hs) | (refine sxs hs hw ?_; clear hs hw; intro W hs hw))
        have e3 : IntKind.i64.wrap ((l.length : Int) - (k : Int)) = (l.length : Int) - k := i64s (by omega) (by omega)
        rw [e3] at hs
        by_cases hm : n > (l.length : Int) - k
        · have e4 : decide (n > (l.length : Int) - k) = true := by simpa using hm
          have hT : Ph.getT l = ([], 0, 2) := by
            simp only [Ph.getT, hg]
            rw [if_neg (by simp), if_neg (by omega), if_pos (by omega)]
          rw [e4] at hs
          repeat (first | (refine sxv hs hw ?_; clear hs; intro a hs) | refine sxc hs ?_ | (refine sxa hs hw ?_; clear hs hw; intro a b W hw hs) | (refine sxs hs hw ?_; clear hs hw; intro W hs hw))
          exact rt3 hs rfl rfl rfl rfl ⟨by rw [hT]; rfl, rfl⟩
        · have e4 : decide (n > (l.length : Int) - k) = false := by simpa using hm
          have hT : Ph.getT l = ((l.drop k).take n.toNat, k + n.toNat, 0) := by
            simp only [Ph.getT, hg]
            rw [if_neg (by simp), if_neg (by omega), if_neg (by omega)]
          rw [e4] at hs
          repeat (first | (refine sxv hs hw ?_; clear hs; intro a hs) | refine sxc hs ?_ | (refine sxa hs hw ?_; clear hs hw; intro a b W hw hs) | (refine sxs hs hw ?_; clear hs hw; intro W hs hw))
          have e5 : IntKind.i64.wrap ((k : Int) + n) = (k : Int) + n := i64s (by omega) (by omega)
          rw [e5] at hs
          refine st_slice_lh_b (hs := hs) (r := r) (h0 := by omega) (h1 := by omega) (h2 := by omega) (m := (l.drop k).take n.toNat) (hm := by rw [show ((k : Int) + n).toNat - (k : Int).toNat = n.toNat by omega, show (k : Int).toNat = k by omega]) (c := ?_)
          clear hs; intro a ad2 cap2 hr2 hs
          refine st_string_b hs (r := hr2) (k := ?_)
          clear hs; intro a hs
          repeat (first | (refine sxv hs hw ?_; clear hs; intro a hs) | refine sxc hs ?_ | (refine sxa hs hw ?_; clear hs hw; intro a b W hw hs) | (refine sxs hs hw ?_; clear hs hw; intro W hs hw))
          rw [e5] at hs
          repeat (first | (refine sxv hs hw ?_; clear hs; intro a hs) | refine sxc hs ?_ | (refine sxa hs hw ?_; clear hs hw; intro a b W hw hs) | (refine sxs hs hw ?_; clear hs hw; intro W hs hw))
          refine rt3 hs rfl rfl rfl rfl ⟨?_, rfl⟩
          rw [hT]
          simp only
          rw [show (((k + n.toNat : Nat) : Int)) = (k : Int) + n by omega]
  · have e1 : (e != 0) = true := by simpa using he
    have hT : Ph.getT l = ([], 0, e) := by simp [Ph.getT, hg, he]
    repeat (first | (refine sxv hs hw ?_; clear hs; intro a hs) | refine sxc hs ?_ | (refine sxa hs hw ?_; clear hs hw; intro a b W hw hs) | (refine sxs hs hw ?_; clear hs hw; intro W hs hw))
    rw [e1] at hs
    repeat (first | (refine sxv hs hw ?_; clear hs; intro a hs) | refine sxc hs ?_ | (refine sxa hs hw ?_; clear hs hw; intro a b W hw hs) | (refine sxs hs hw ?_; clear hs hw; intro W hs hw))
    exact rt3 hs rfl rfl rfl rfl ⟨by rw [hT]; rfl, rfl⟩
def getR (l : List UInt8) : (Int × Int × ByteArray) × Nat × Int :=
  let g := Ph.getI l
  if g.2.2 ≠ 0 then ((0, 0, ⟨#[]⟩), 0, g.2.2)
  else if g.1 = 0 then ((0, 0, ⟨#[]⟩), g.2.1, 0)
  else if g.1 = 1 then
    let h := Ph.getI (l.drop g.2.1)
    if h.2.2 ≠ 0 then ((0, 0, ⟨#[]⟩), 0, h.2.2) else ((1, h.1, ⟨#[]⟩), g.2.1 + h.2.1, 0)
  else if g.1 = 2 then
    let h := Ph.getT (l.drop g.2.1)
    if h.2.2 ≠ 0 then ((0, 0, ⟨#[]⟩), 0, h.2.2)
    else if (ofRaw 2 0 ⟨h.1.toArray⟩).2 ≠ 0 then ((0, 0, ⟨#[]⟩), 0, 1)
    else ((2, 0, ⟨h.1.toArray⟩), g.2.1 + h.2.1, 0)
  else ((0, 0, ⟨#[]⟩), 0, 1)
theorem ofRaw_err (k n : Int) (s : ByteArray) : (ofRaw k n s).2 = 0 ∨ (ofRaw k n s).2 = 1 := by
  unfold ofRaw
  split
  · exact .inl rfl
  · split
    · exact .inl rfl
    · split
      · exact .inl rfl
      · exact .inr rfl
theorem ofRaw_int (n : Int) : (ofRaw 1 n ⟨#[]⟩).2 = 0 := by
  unfold ofRaw
  rw [if_neg (fun h => by have := h.1; omega), if_pos ⟨rfl, rfl⟩]
theorem ofRaw_zero : (ofRaw 0 0 ⟨#[]⟩).2 = 0 := by
  unfold ofRaw
  rw [if_pos ⟨rfl, rfl, rfl⟩]
theorem ofRaw_other (k : Int) (h0 : k ≠ 0) (h1 : k ≠ 1) (h2 : k ≠ 2) : (ofRaw k 0 ⟨#[]⟩).2 = 1 := by
  unfold ofRaw
  rw [if_neg (fun h => h0 h.1), if_neg (fun h => h1 h.1), if_neg (fun h => h2 h.1)]
theorem getT_size (l : List UInt8) : (⟨(Ph.getT l).1.toArray⟩ : ByteArray).size ≤ l.length := by
  show (Ph.getT l).1.toArray.size ≤ _
  unfold Ph.getT
  simp only
  split
  · simp
  · split
    · simp
    · split
      · simp
      · simp; omega
theorem getT_le (l : List UInt8) : (Ph.getT l).2.1 ≤ l.length := by
  have := Ph.getI_le l
  unfold Ph.getT
  simp only
  split
  · simp
  · split
    · simp
    · split
      · simp
      · simp only; omega
set_option maxHeartbeats 8000000 in
theorem value_Get (w : World) (v : Value) (l : List UInt8) (r : RdB w v l) (hT : Tabs w) :
    Calls Tryz.prog 101 ⟨[v]⟩ w fun e W' => e = .returned (.tuple #[.agg #[.int .i64 (getR l).1.1, .int .i64 (getR l).1.2.1, .string (getR l).1.2.2], .int .i64 (getR l).2.1, .int .i64 (getR l).2.2]) ∧ Below w.heap.size w W' := by
  have hlen : l.length ≤ 9223372036854775807 := by have := r.len; exact this
  have hw := Has.start (G := 0) (w := w) (Nat.zero_le _)
  obtain ⟨ad, cap, rfl, -⟩ := r.cells
  have hle := Ph.getI_le l
  refine enter Tryz.func101 Tryz.ntmps101 rfl rfl fun a hs => ?_
  repeat (first | (refine sxv hs hw ?_; clear hs; intro a hs) | refine sxc hs ?_ | (refine sxa hs hw ?_; clear hs hw; intro a b W hw hs) | (refine sxs hs hw ?_; clear hs hw; intro W hs hw))
  have hG := num_Get _ _ l (hw.rd (by repeat (first | exact In.hd | apply In.tl)) hw.ext.size r)
  refine st_call hs (hc := hG) (k := ?_); rintro e0 W1 ⟨rfl, rfl⟩; refine ⟨_, rfl, ?_⟩; clear hs hG; intro a hs
  have gR := getR.eq_1 l
  generalize hg : Ph.getI l = g at *
  obtain ⟨k, m, e⟩ := g
  simp only at hle hs gR
  by_cases he : e = 0
  · subst he
    simp only [ne_eq, not_true_eq_false, if_false] at gR
    by_cases k1 : k = 1
    · subst k1
      simp only [if_neg (show ¬ ((1 : Int) = 0) by decide), if_true] at gR
      repeat (first | (refine sxv hs hw ?_; clear hs; intro a hs) | refine sxc hs ?_ | (refine sxa hs hw ?_; clear hs hw; intro a b W hw hs) | (refine sxs hs hw ?_; clear hs hw; intro W hs hw))
      refine st_slice_lo_b (hs := hs) (r := r) (h0 := by omega) (h1 := by omega) (c := ?_)
      clear hs; intro a ad2 cap2 hr hs
      have hr2 := hw.rd (by repeat (first | exact In.hd | apply In.tl)) hw.ext.size hr
      rw [show (m : Int).toNat = m by omega] at hr hs hr2
      have hle2 := Ph.getI_le (l.drop m)
      rw [List.length_drop] at hle2
      have hG := num_Get _ _ _ hr2
      refine st_call hs (hc := hG) (k := ?_); rintro e0 W1 ⟨rfl, rfl⟩; refine ⟨_, rfl, ?_⟩; clear hs hG hr hr2; intro a hs
      generalize Ph.getI (l.drop m) = g at *
      obtain ⟨n, m2, e2⟩ := g
      simp only at hle2 hs gR
      by_cases he2 : e2 = 0
      · subst he2
        simp only [not_true_eq_false, if_false] at gR
        repeat (first | (refine sxv hs hw ?_; clear hs; intro a hs) | refine sxc hs ?_ | (refine sxa hs hw ?_; clear hs hw; intro a b W hw hs) | (refine sxs hs hw ?_; clear hs hw; intro W hs hw))
        have hO := ofRaw_int n
        refine st_call hs (hc := value_Of 1 n ⟨#[]⟩ _ (by decide) (hT.keep (hw.end (by repeat (first | exact In.hd | apply In.tl))))) (k := ?_); rintro e0 W1 ⟨rfl, hb⟩; refine ⟨_, rfl, ?_⟩; clear hs; intro a hs; replace hw := hw.below hb; clear hb
        rw [hO] at hs
        repeat (first | (refine sxv hs hw ?_; clear hs; intro a hs) | refine sxc hs ?_ | (refine sxa hs hw ?_; clear hs hw; intro a b W hw hs) | (refine sxs hs hw ?_; clear hs hw; intro W hs hw))
        rw [i64s (x := (m : Int) + (m2 : Int)) (by omega) (by omega)] at hs
        repeat (first | (refine sxv hs hw ?_; clear hs; intro a hs) | refine sxc hs ?_ | (refine sxa hs hw ?_; clear hs hw; intro a b W hw hs) | (refine sxs hs hw ?_; clear hs hw; intro W hs hw))
        exact rc3 hs rfl rfl hw (by repeat (first | exact In.hd | apply In.tl)) rfl rfl rfl ⟨by rw [gR]; rfl, hw.end (by repeat (first | exact In.hd | apply In.tl))⟩
      · have e1 : (e2 != 0) = true := by simpa using he2
        rw [if_pos he2] at gR
        repeat (first | (refine sxv hs hw ?_; clear hs; intro a hs) | refine sxc hs ?_ | (refine sxa hs hw ?_; clear hs hw; intro a b W hw hs) | (refine sxs hs hw ?_; clear hs hw; intro W hs hw))
        rw [e1] at hs
        repeat (first | (refine sxv hs hw ?_; clear hs; intro a hs) | refine sxc hs ?_ | (refine sxa hs hw ?_; clear hs hw; intro a b W hw hs) | (refine sxs hs hw ?_; clear hs hw; intro W hs hw))
        exact rc3 hs rfl rfl hw (by repeat (first | exact In.hd | apply In.tl)) rfl rfl rfl ⟨by rw [gR]; rfl, hw.end (by repeat (first | exact In.hd | apply In.tl))⟩
    · by_cases k2 : k = 2
      · subst k2
        simp only [if_neg (show ¬ ((2 : Int) = 0) by decide), if_neg (show ¬ ((2 : Int) = 1) by decide), if_true] at gR
        repeat (first | (refine sxv hs hw ?_; clear hs; intro a hs) | refine sxc hs ?_ | (refine sxa hs hw ?_; clear hs hw; intro a b W hw hs) | (refine sxs hs hw ?_; clear hs hw; intro W hs hw))
        refine st_slice_lo_b (hs := hs) (r := r) (h0 := by omega) (h1 := by omega) (c := ?_)
        clear hs; intro a ad2 cap2 hr hs
        have hr2 := hw.rd (by repeat (first | exact In.hd | apply In.tl)) hw.ext.size hr
        rw [show (m : Int).toNat = m by omega] at hr hs hr2
        have hle2 := getT_le (l.drop m)
        have hsz := getT_size (l.drop m)
        rw [List.length_drop] at hle2 hsz
        have hG := num_GetText _ _ _ hr2
        refine st_call hs (hc := hG) (k := ?_); rintro e0 W1 ⟨rfl, rfl⟩; refine ⟨_, rfl, ?_⟩; clear hs hG hr hr2; intro a hs
        generalize Ph.getT (l.drop m) = g at *
        obtain ⟨s, m2, e2⟩ := g
        simp only at hle2 hsz hs gR
        generalize (⟨s.toArray⟩ : ByteArray) = s at *
        by_cases he2 : e2 = 0
        · subst he2
          simp only [not_true_eq_false, if_false] at gR
          repeat (first | (refine sxv hs hw ?_; clear hs; intro a hs) | refine sxc hs ?_ | (refine sxa hs hw ?_; clear hs hw; intro a b W hw hs) | (refine sxs hs hw ?_; clear hs hw; intro W hs hw))
          refine st_call hs (hc := value_Of 2 0 s _ (by omega) (hT.keep (hw.end (by repeat (first | exact In.hd | apply In.tl))))) (k := ?_); rintro e0 W1 ⟨rfl, hb⟩; refine ⟨_, rfl, ?_⟩; clear hs; intro a hs; replace hw := hw.below hb; clear hb
          rcases ofRaw_err 2 0 s with hO | hO
          · rw [hO] at hs gR
            repeat (first | (refine sxv hs hw ?_; clear hs; intro a hs) | refine sxc hs ?_ | (refine sxa hs hw ?_; clear hs hw; intro a b W hw hs) | (refine sxs hs hw ?_; clear hs hw; intro W hs hw))
            rw [i64s (x := (m : Int) + (m2 : Int)) (by omega) (by omega)] at hs
            repeat (first | (refine sxv hs hw ?_; clear hs; intro a hs) | refine sxc hs ?_ | (refine sxa hs hw ?_; clear hs hw; intro a b W hw hs) | (refine sxs hs hw ?_; clear hs hw; intro W hs hw))
            exact rc3 hs rfl rfl hw (by repeat (first | exact In.hd | apply In.tl)) rfl rfl rfl ⟨by rw [gR]; rfl, hw.end (by repeat (first | exact In.hd | apply In.tl))⟩
          · rw [hO] at hs gR
            repeat (first | (refine sxv hs hw ?_; clear hs; intro a hs) | refine sxc hs ?_ | (refine sxa hs hw ?_; clear hs hw; intro a b W hw hs) | (refine sxs hs hw ?_; clear hs hw; intro W hs hw))
            exact rc3 hs rfl rfl hw (by repeat (first | exact In.hd | apply In.tl)) rfl rfl rfl ⟨by rw [gR]; rfl, hw.end (by repeat (first | exact In.hd | apply In.tl))⟩
        · have e1 : (e2 != 0) = true := by simpa using he2
          rw [if_pos he2] at gR
          repeat (first | (refine sxv hs hw ?_; clear hs; intro a hs) | refine sxc hs ?_ | (refine sxa hs hw ?_; clear hs hw; intro a b W hw hs) | (refine sxs hs hw ?_; clear hs hw; intro W hs hw))
          rw [e1] at hs
          repeat (first | (refine sxv hs hw ?_; clear hs; intro a hs) | refine sxc hs ?_ | (refine sxa hs hw ?_; clear hs hw; intro a b W hw hs) | (refine sxs hs hw ?_; clear hs hw; intro W hs hw))
          exact rc3 hs rfl rfl hw (by repeat (first | exact In.hd | apply In.tl)) rfl rfl rfl ⟨by rw [gR]; rfl, hw.end (by repeat (first | exact In.hd | apply In.tl))⟩
      · have e1 : (k == 1) = false := by simpa using k1
        have e2 : (k == 2) = false := by simpa using k2
        repeat (first | (refine sxv hs hw ?_; clear hs; intro a hs) | refine sxc hs ?_ | (refine sxa hs hw ?_; clear hs hw; intro a b W hw hs) | (refine sxs hs hw ?_; clear hs hw; intro W hs hw))
        rw [e1] at hs
        repeat (first | (refine sxv hs hw ?_; clear hs; intro a hs) | refine sxc hs ?_ | (refine sxa hs hw ?_; clear hs hw; intro a b W hw hs) | (refine sxs hs hw ?_; clear hs hw; intro W hs hw))
        rw [e2] at hs
        repeat (first | (refine sxv hs hw ?_; clear hs; intro a hs) | refine sxc hs ?_ | (refine sxa hs hw ?_; clear hs hw; intro a b W hw hs) | (refine sxs hs hw ?_; clear hs hw; intro W hs hw))
        refine st_call hs (hc := value_Of k 0 ⟨#[]⟩ _ (by decide) (hT.keep (hw.end (by repeat (first | exact In.hd | apply In.tl))))) (k := ?_); rintro e0 W1 ⟨rfl, hb⟩; refine ⟨_, rfl, ?_⟩; clear hs; intro a hs; replace hw := hw.below hb; clear hb
        by_cases k0 : k = 0
        · subst k0
          have hO := ofRaw_zero
          rw [hO] at hs
          repeat (first | (refine sxv hs hw ?_; clear hs; intro a hs) | refine sxc hs ?_ | (refine sxa hs hw ?_; clear hs hw; intro a b W hw hs) | (refine sxs hs hw ?_; clear hs hw; intro W hs hw))
          rw [i64s (x := (m : Int) + 0) (by omega) (by omega), Int.add_zero] at hs
          repeat (first | (refine sxv hs hw ?_; clear hs; intro a hs) | refine sxc hs ?_ | (refine sxa hs hw ?_; clear hs hw; intro a b W hw hs) | (refine sxs hs hw ?_; clear hs hw; intro W hs hw))
          exact rc3 hs rfl rfl hw (by repeat (first | exact In.hd | apply In.tl)) rfl rfl rfl ⟨by rw [gR]; rfl, hw.end (by repeat (first | exact In.hd | apply In.tl))⟩
        · have hO := ofRaw_other k k0 k1 k2
          rw [if_neg k0, if_neg k1, if_neg k2] at gR
          rw [hO] at hs
          repeat (first | (refine sxv hs hw ?_; clear hs; intro a hs) | refine sxc hs ?_ | (refine sxa hs hw ?_; clear hs hw; intro a b W hw hs) | (refine sxs hs hw ?_; clear hs hw; intro W hs hw))
          exact rc3 hs rfl rfl hw (by repeat (first | exact In.hd | apply In.tl)) rfl rfl rfl ⟨by rw [gR]; rfl, hw.end (by repeat (first | exact In.hd | apply In.tl))⟩
  · have e1 : (e != 0) = true := by simpa using he
    rw [if_pos he] at gR
    repeat (first | (refine sxv hs hw ?_; clear hs; intro a hs) | refine sxc hs ?_ | (refine sxa hs hw ?_; clear hs hw; intro a b W hw hs) | (refine sxs hs hw ?_; clear hs hw; intro W hs hw))
    rw [e1] at hs
    repeat (first | (refine sxv hs hw ?_; clear hs; intro a hs) | refine sxc hs ?_ | (refine sxa hs hw ?_; clear hs hw; intro a b W hw hs) | (refine sxs hs hw ?_; clear hs hw; intro W hs hw))
    exact rc3 hs rfl rfl hw (by repeat (first | exact In.hd | apply In.tl)) rfl rfl rfl ⟨by rw [gR]; rfl, hw.end (by repeat (first | exact In.hd | apply In.tl))⟩
end Go.Proofs.YtmalklakaalaoaaGreatDoor.Sw

set_option linter.unusedVariables false
set_option maxRecDepth 10000
namespace Go.Proofs.YtmalklakaalaoaaGreatDoor.Sw
open Go.RowKit Go.Sx
-- pieces
def tk (s : List UInt8 × Bool) (n : Nat) (err : Int) : List UInt8 × Bool := (if s.2 || err != 0 then s.1 else s.1.drop n, s.2 || err != 0)
set_option maxHeartbeats 4000000 in
theorem op_took (w0 W : World) (p : Nat) (sv : Value) (s : List UInt8 × Bool) (n : Nat) (err : Int) (R : List Res) (i : In (Old w0 0) R) (r : RdB w0 sv s.1) (hn : n ≤ s.1.length) (hw : Has 0 w0 W (Cells p [sv, .bool s.2] 152 :: R)) :
    Calls Tryz.prog 116 ⟨[.pointer (some ⟨p, 0, none⟩), .int .i64 (n : Int), .int .i64 err]⟩ W fun e W' => e = .returned (.tuple #[]) ∧ ∃ sv', RdB w0 sv' (tk s n err).1 ∧ Has 0 w0 W' (Cells p [sv', .bool (tk s n err).2] 152 :: R) := by
  obtain ⟨l, bad⟩ := s
  simp only at r hn hw
  obtain ⟨ad, cap, rfl, -⟩ := r.cells
  refine enter Tryz.func116 Tryz.ntmps116 rfl rfl fun a hs => ?_
  cases bad with
  | true =>
    repeat (first | (refine sxv hs hw ?_; clear hs; intro a hs) | refine sxc hs ?_ | (refine sxa hs hw ?_; clear hs hw; intro a b W hw hs) | (refine sxs hs hw ?_; clear hs hw; intro W hs hw))
    exact rt0n hs rfl ⟨rfl, _, r, hw⟩
  | false =>
    repeat (first | (refine sxv hs hw ?_; clear hs; intro a hs) | refine sxc hs ?_ | (refine sxa hs hw ?_; clear hs hw; intro a b W hw hs) | (refine sxs hs hw ?_; clear hs hw; intro W hs hw))
    cases he : (err != 0) with
    | true =>
      rw [he] at hs hw
      repeat (first | (refine sxv hs hw ?_; clear hs; intro a hs) | refine sxc hs ?_ | (refine sxa hs hw ?_; clear hs hw; intro a b W hw hs) | (refine sxs hs hw ?_; clear hs hw; intro W hs hw))
      exact rt0n hs rfl ⟨rfl, _, by simp only [tk, he]; exact r, by simp only [tk, he]; exact hw⟩
    | false =>
      rw [he] at hs hw
      repeat (first | (refine sxv hs hw ?_; clear hs; intro a hs) | refine sxc hs ?_ | (refine sxa hs hw ?_; clear hs hw; intro a b W hw hs) | (refine sxs hs hw ?_; clear hs hw; intro W hs hw))
      refine st_slice_lo_b (hs := hs) (r := r) (h0 := by omega) (h1 := by omega) (c := ?_); clear hs; intro a ad' cap' r' hs
      repeat (first | (refine sxv hs hw ?_; clear hs; intro a hs) | refine sxc hs ?_ | (refine sxa hs hw ?_; clear hs hw; intro a b W hw hs) | (refine sxs hs hw ?_; clear hs hw; intro W hs hw))
      rw [Int.toNat_natCast] at r' hw
      exact rt0n hs rfl ⟨rfl, _, by simp only [tk, he]; exact r', by simp only [tk, he]; exact hw⟩
theorem getR_le (l : List UInt8) : (getR l).2.1 ≤ l.length := by
  have h1 := Ph.getI_le l
  unfold getR
  simp only
  split
  · simp
  · split
    · exact h1
    · split
      · split
        · simp
        · have := Ph.getI_le (l.drop (Ph.getI l).2.1)
          rw [List.length_drop] at this
          simp only; omega
      · split
        · split
          · simp
          · have := getT_le (l.drop (Ph.getI l).2.1)
            rw [List.length_drop] at this
            split <;> simp only <;> omega
        · simp
set_option maxHeartbeats 4000000 in
theorem op_num (w0 W : World) (p : Nat) (sv : Value) (s : List UInt8 × Bool) (R : List Res) (i : In (Old w0 0) R) (r : RdB w0 sv s.1) (hw : Has 0 w0 W (Cells p [sv, .bool s.2] 152 :: R)) :
    Calls Tryz.prog 88 ⟨[.pointer (some ⟨p, 0, none⟩)]⟩ W fun e W' => e = .returned (.int .i64 (Ph.getI s.1).1) ∧ ∃ sv', RdB w0 sv' (tk s (Ph.getI s.1).2.1 (Ph.getI s.1).2.2).1 ∧ Has 0 w0 W' (Cells p [sv', .bool (tk s (Ph.getI s.1).2.1 (Ph.getI s.1).2.2).2] 152 :: R) := by
  refine enter Tryz.func88 Tryz.ntmps88 rfl rfl fun a hs => ?_
  repeat (first | (refine sxv hs hw ?_; clear hs; intro a hs) | refine sxc hs ?_ | (refine sxa hs hw ?_; clear hs hw; intro a b W hw hs) | (refine sxs hs hw ?_; clear hs hw; intro W hs hw))
  refine st_call hs (hc := num_Get _ sv s.1 (hw.rd (In.tl i) hw.ext.size r)) (k := ?_); rintro e0 W1 ⟨rfl, rfl⟩; refine ⟨_, rfl, ?_⟩; clear hs; intro a hs
  repeat (first | (refine sxv hs hw ?_; clear hs; intro a hs) | refine sxc hs ?_ | (refine sxa hs hw ?_; clear hs hw; intro a b W hw hs) | (refine sxs hs hw ?_; clear hs hw; intro W hs hw))
  refine st_call hs (hc := op_took w0 _ p sv s _ _ R i r (Ph.getI_le s.1) hw) (k := ?_); rintro e0 W1 ⟨rfl, sv', r', hw'⟩; refine ⟨_, rfl, ?_⟩; clear hs hw; intro a hs
  have hw := hw'; clear hw'
  repeat (first | (refine sxv hs hw ?_; clear hs; intro a hs) | refine sxc hs ?_ | (refine sxa hs hw ?_; clear hs hw; intro a b W hw hs) | (refine sxs hs hw ?_; clear hs hw; intro W hs hw))
  exact rt1 hs rfl rfl ⟨rfl, sv', r', hw⟩
theorem Has_rot3 {G : Nat} {w W : World} {x y q : Res} {R : List Res} (h : Has G w W (x :: y :: q :: R)) : Has G w W (q :: x :: y :: R) :=
  ⟨h.ext, h.glob, HasIn.swap (let ⟨F1, h1, h2, h3⟩ := h.has; ⟨F1, h1, h2, HasIn.swap h3⟩)⟩
set_option maxHeartbeats 4000000 in
theorem op_value (w0 W : World) (p : Nat) (sv : Value) (s : List UInt8 × Bool) (R : List Res) (i : In (Old w0 0) R) (r : RdB w0 sv s.1) (hT : Tabs w0) (hw : Has 0 w0 W (Cells p [sv, .bool s.2] 152 :: R)) :
    Calls Tryz.prog 117 ⟨[.pointer (some ⟨p, 0, none⟩)]⟩ W fun e W' => e = .returned (.agg ⟨[.int .i64 (getR s.1).1.1, .int .i64 (getR s.1).1.2.1, .string (getR s.1).1.2.2]⟩) ∧ ∃ sv', RdB w0 sv' (tk s (getR s.1).2.1 (getR s.1).2.2).1 ∧ Has 0 w0 W' (Cells p [sv', .bool (tk s (getR s.1).2.1 (getR s.1).2.2).2] 152 :: R) := by
  refine enter Tryz.func117 Tryz.ntmps117 rfl rfl fun a hs => ?_
  repeat (first | (refine sxv hs hw ?_; clear hs; intro a hs) | refine sxc hs ?_ | (refine sxa hs hw ?_; clear hs hw; intro a b W hw hs) | (refine sxs hs hw ?_; clear hs hw; intro W hs hw))
  refine st_call hs (hc := value_Get _ sv s.1 (hw.rd (In.tl (In.tl i)) hw.ext.size r) (hT.keep (hw.end (In.tl (In.tl i))))) (k := ?_); rintro e0 W1 ⟨rfl, hb⟩; refine ⟨_, rfl, ?_⟩; clear hs; intro a hs; replace hw := hw.below hb; clear hb
  repeat (first | (refine sxv hs hw ?_; clear hs; intro a hs) | refine sxc hs ?_ | (refine sxa hs hw ?_; clear hs hw; intro a b W hw hs) | (refine sxs hs hw ?_; clear hs hw; intro W hs hw))
  have hw := Has_rot3 hw
  refine st_call hs (hc := op_took w0 _ p sv s _ _ _ (In.tl (In.tl i)) r (getR_le s.1) hw) (k := ?_); rintro e0 W1 ⟨rfl, sv', r', hw'⟩; refine ⟨_, rfl, ?_⟩; clear hs hw; intro a hs
  have hw := hw'; clear hw'
  repeat (first | (refine sxv hs hw ?_; clear hs; intro a hs) | refine sxc hs ?_ | (refine sxa hs hw ?_; clear hs hw; intro a b W hw hs) | (refine sxs hs hw ?_; clear hs hw; intro W hs hw))
  have hw' := hw.sub (List.Sublist.cons_cons _ (List.Sublist.cons _ (List.Sublist.cons _ (List.Sublist.refl _))))
  refine rc1 hs rfl rfl hw (In.tl (In.tl In.hd)) rfl ?_
  exact ⟨rfl, sv', r', hw'⟩
end Go.Proofs.YtmalklakaalaoaaGreatDoor.Sw

set_option linter.unusedVariables false
set_option maxRecDepth 10000
namespace Go.Proofs.YtmalklakaalaoaaGreatDoor.Sw
open Go.RowKit Go.Sx
-- pieces
def rdNum (s : List UInt8 × Bool) : List UInt8 × Bool := tk s (Ph.getI s.1).2.1 (Ph.getI s.1).2.2
def rdTxt (s : List UInt8 × Bool) : List UInt8 × Bool := tk s (Ph.getT s.1).2.1 (Ph.getT s.1).2.2
def rdVal (s : List UInt8 × Bool) : List UInt8 × Bool := tk s (getR s.1).2.1 (getR s.1).2.2
def rdOp (s : List UInt8 × Bool) : OpD × (List UInt8 × Bool) :=
  let kind := (Ph.getI s.1).1
  let s1 := rdNum s
  let key : ByteArray := ⟨(Ph.getT s1.1).1.toArray⟩
  let s2 := rdTxt s1
  if kind = 3 then
    let s3 := rdVal s2
    (⟨kind, key, (getR s2.1).1.1, (getR s2.1).1.2.1, (getR s2.1).1.2.2, (getR s3.1).1.1, (getR s3.1).1.2.1, (getR s3.1).1.2.2, 0⟩, rdVal s3)
  else if kind = 1 then (⟨kind, key, (getR s2.1).1.1, (getR s2.1).1.2.1, (getR s2.1).1.2.2, 0, 0, ⟨#[]⟩, 0⟩, rdVal s2)
  else if kind = 4 then (⟨kind, key, 0, 0, ⟨#[]⟩, 0, 0, ⟨#[]⟩, (Ph.getI s2.1).1⟩, rdNum s2)
  else (⟨kind, key, 0, 0, ⟨#[]⟩, 0, 0, ⟨#[]⟩, 0⟩, s2)
set_option maxHeartbeats 8000000 in
theorem op_op (w0 W : World) (p : Nat) (sv : Value) (s : List UInt8 × Bool) (R : List Res) (i : In (Old w0 0) R) (r : RdB w0 sv s.1) (hT : Tabs w0) (hw : Has 0 w0 W (Cells p [sv, .bool s.2] 152 :: R)) :
    Calls Tryz.prog 89 ⟨[.pointer (some ⟨p, 0, none⟩)]⟩ W fun e W' => e = .returned (.agg ⟨opCells (rdOp s).1⟩) ∧ ∃ sv', RdB w0 sv' (rdOp s).2.1 ∧ Has 0 w0 W' (Cells p [sv', .bool (rdOp s).2.2] 152 :: R) := by
  refine enter Tryz.func89 Tryz.ntmps89 rfl rfl fun a hs => ?_
  repeat (first | (refine sxv hs hw ?_; clear hs; intro a hs) | refine sxc hs ?_ | (refine sxa hs hw ?_; clear hs hw; intro a b W hw hs) | (refine sxs hs hw ?_; clear hs hw; intro W hs hw))
  have hw := hw.swap2
  refine st_call hs (hc := op_num w0 _ p sv s _ (In.tl i) r hw) (k := ?_); rintro e0 W1 ⟨rfl, sv1, r1, hw'⟩; refine ⟨_, rfl, ?_⟩; clear hs hw; intro a hs
  have hw := hw'; clear hw'
  rw [show tk s (Ph.getI s.1).2.1 (Ph.getI s.1).2.2 = rdNum s from rfl] at hw r1
  repeat (first | (refine sxv hs hw ?_; clear hs; intro a hs) | refine sxc hs ?_ | (refine sxa hs hw ?_; clear hs hw; intro a b W hw hs) | (refine sxs hs hw ?_; clear hs hw; intro W hs hw))
  have hw := hw.swap2
  refine st_call hs (hc := num_GetText _ sv1 (rdNum s).1 (hw.rd (In.tl (In.tl (In.tl i))) hw.ext.size r1)) (k := ?_); rintro e0 W1 ⟨rfl, rfl⟩; refine ⟨_, rfl, ?_⟩; clear hs; intro a hs
  repeat (first | (refine sxv hs hw ?_; clear hs; intro a hs) | refine sxc hs ?_ | (refine sxa hs hw ?_; clear hs hw; intro a b W hw hs) | (refine sxs hs hw ?_; clear hs hw; intro W hs hw))
  refine st_call hs (hc := op_took w0 _ p sv1 (rdNum s) _ _ _ (In.tl (In.tl i)) r1 (getT_le (rdNum s).1) hw) (k := ?_); rintro e0 W1 ⟨rfl, sv2, r2, hw'⟩; refine ⟨_, rfl, ?_⟩; clear hs hw; intro a hs
  have hw := hw'; clear hw'
  rw [show tk (rdNum s) (Ph.getT (rdNum s).1).2.1 (Ph.getT (rdNum s).1).2.2 = rdTxt (rdNum s) from rfl] at hw r2
  obtain ⟨key, hkey⟩ : ∃ key : ByteArray, (⟨(Ph.getT (rdNum s).1).1.toArray⟩ : ByteArray) = key := ⟨_, rfl⟩
  rw [hkey] at hs
  obtain ⟨K, hK⟩ : ∃ K, (Ph.getI s.1).1 = K := ⟨_, rfl⟩
  have hD : rdOp s = (if K = 3 then (⟨K, key, (getR (rdTxt (rdNum s)).1).1.1, (getR (rdTxt (rdNum s)).1).1.2.1, (getR (rdTxt (rdNum s)).1).1.2.2, (getR (rdVal (rdTxt (rdNum s))).1).1.1, (getR (rdVal (rdTxt (rdNum s))).1).1.2.1, (getR (rdVal (rdTxt (rdNum s))).1).1.2.2, 0⟩, rdVal (rdVal (rdTxt (rdNum s))))
      else if K = 1 then (⟨K, key, (getR (rdTxt (rdNum s)).1).1.1, (getR (rdTxt (rdNum s)).1).1.2.1, (getR (rdTxt (rdNum s)).1).1.2.2, 0, 0, ⟨#[]⟩, 0⟩, rdVal (rdTxt (rdNum s)))
      else if K = 4 then (⟨K, key, 0, 0, ⟨#[]⟩, 0, 0, ⟨#[]⟩, (Ph.getI (rdTxt (rdNum s)).1).1⟩, rdNum (rdTxt (rdNum s)))
      else (⟨K, key, 0, 0, ⟨#[]⟩, 0, 0, ⟨#[]⟩, 0⟩, rdTxt (rdNum s))) := by unfold rdOp; simp only; rw [hkey, hK]
  rw [hK] at hs hw
  clear hkey hK
  generalize rdTxt (rdNum s) = s2 at *
  rw [hD]
  clear hD
  repeat (first | (refine sxv hs hw ?_; clear hs; intro a hs) | refine sxc hs ?_ | (refine sxa hs hw ?_; clear hs hw; intro a b W hw hs) | (refine sxs hs hw ?_; clear hs hw; intro W hs hw))
  by_cases k3 : K = 3
  · subst k3
    repeat (first | (refine sxv hs hw ?_; clear hs; intro a hs) | refine sxc hs ?_ | (refine sxa hs hw ?_; clear hs hw; intro a b W hw hs) | (refine sxs hs hw ?_; clear hs hw; intro W hs hw))
    refine st_call hs (hc := op_value w0 _ p sv2 s2 _ (In.tl (In.tl i)) r2 hT hw) (k := ?_); rintro e0 W1 ⟨rfl, sv3, r3, hw'⟩; refine ⟨_, rfl, ?_⟩; clear hs hw; intro a hs
    have hw := hw'; clear hw'
    rw [show tk (s2) (getR (s2).1).2.1 (getR (s2).1).2.2 = rdVal (s2) from rfl] at hw r3
    repeat (first | (refine sxv hs hw ?_; clear hs; intro a hs) | refine sxc hs ?_ | (refine sxa hs hw ?_; clear hs hw; intro a b W hw hs) | (refine sxs hs hw ?_; clear hs hw; intro W hs hw))
    refine st_call hs (hc := op_value w0 _ p sv3 (rdVal s2) _ (In.tl (In.tl i)) r3 hT hw) (k := ?_); rintro e0 W1 ⟨rfl, sv4, RR, hw'⟩; refine ⟨_, rfl, ?_⟩; clear hs hw; intro a hs
    have hw := hw'; clear hw'
    rw [show tk ((rdVal s2)) (getR ((rdVal s2)).1).2.1 (getR ((rdVal s2)).1).2.2 = rdVal ((rdVal s2)) from rfl] at hw RR
    repeat (first | (refine sxv hs hw ?_; clear hs; intro a hs) | refine sxc hs ?_ | (refine sxa hs hw ?_; clear hs hw; intro a b W hw hs) | (refine sxs hs hw ?_; clear hs hw; intro W hs hw))
    have hw' := hw.sub (List.Sublist.cons_cons _ (List.Sublist.cons _ (List.Sublist.cons _ (List.Sublist.refl _))))
    refine rc1 hs rfl rfl hw (In.tl (In.tl In.hd)) rfl ?_
    rw [if_pos rfl]
    exact ⟨rfl, _, RR, hw'⟩
  have e3 : (K == 3) = false := by simpa using k3
  rw [e3] at hs
  repeat (first | (refine sxv hs hw ?_; clear hs; intro a hs) | refine sxc hs ?_ | (refine sxa hs hw ?_; clear hs hw; intro a b W hw hs) | (refine sxs hs hw ?_; clear hs hw; intro W hs hw))
  by_cases k1 : K = 1
  · subst k1
    repeat (first | (refine sxv hs hw ?_; clear hs; intro a hs) | refine sxc hs ?_ | (refine sxa hs hw ?_; clear hs hw; intro a b W hw hs) | (refine sxs hs hw ?_; clear hs hw; intro W hs hw))
    refine st_call hs (hc := op_value w0 _ p sv2 s2 _ (In.tl (In.tl i)) r2 hT hw) (k := ?_); rintro e0 W1 ⟨rfl, sv3, RR, hw'⟩; refine ⟨_, rfl, ?_⟩; clear hs hw; intro a hs
    have hw := hw'; clear hw'
    rw [show tk (s2) (getR (s2).1).2.1 (getR (s2).1).2.2 = rdVal (s2) from rfl] at hw RR
    repeat (first | (refine sxv hs hw ?_; clear hs; intro a hs) | refine sxc hs ?_ | (refine sxa hs hw ?_; clear hs hw; intro a b W hw hs) | (refine sxs hs hw ?_; clear hs hw; intro W hs hw))
    have hw' := hw.sub (List.Sublist.cons_cons _ (List.Sublist.cons _ (List.Sublist.cons _ (List.Sublist.refl _))))
    refine rc1 hs rfl rfl hw (In.tl (In.tl In.hd)) rfl ?_
    rw [if_neg k3, if_pos rfl]
    exact ⟨rfl, _, RR, hw'⟩
  have e1 : (K == 1) = false := by simpa using k1
  rw [e1] at hs
  repeat (first | (refine sxv hs hw ?_; clear hs; intro a hs) | refine sxc hs ?_ | (refine sxa hs hw ?_; clear hs hw; intro a b W hw hs) | (refine sxs hs hw ?_; clear hs hw; intro W hs hw))
  by_cases k4 : K = 4
  · subst k4
    repeat (first | (refine sxv hs hw ?_; clear hs; intro a hs) | refine sxc hs ?_ | (refine sxa hs hw ?_; clear hs hw; intro a b W hw hs) | (refine sxs hs hw ?_; clear hs hw; intro W hs hw))
    refine st_call hs (hc := op_num w0 _ p sv2 s2 _ (In.tl (In.tl i)) r2 hw) (k := ?_); rintro e0 W1 ⟨rfl, sv3, RR, hw'⟩; refine ⟨_, rfl, ?_⟩; clear hs hw; intro a hs
    have hw := hw'; clear hw'
    rw [show tk s2 (Ph.getI s2.1).2.1 (Ph.getI s2.1).2.2 = rdNum s2 from rfl] at hw RR
    repeat (first | (refine sxv hs hw ?_; clear hs; intro a hs) | refine sxc hs ?_ | (refine sxa hs hw ?_; clear hs hw; intro a b W hw hs) | (refine sxs hs hw ?_; clear hs hw; intro W hs hw))
    have hw' := hw.sub (List.Sublist.cons_cons _ (List.Sublist.cons _ (List.Sublist.cons _ (List.Sublist.refl _))))
    refine rc1 hs rfl rfl hw (In.tl (In.tl In.hd)) rfl ?_
    rw [if_neg k3, if_neg k1, if_pos rfl]
    exact ⟨rfl, _, RR, hw'⟩
  have e4 : (K == 4) = false := by simpa using k4
  rw [e4] at hs
  have RR := r2
  repeat (first | (refine sxv hs hw ?_; clear hs; intro a hs) | refine sxc hs ?_ | (refine sxa hs hw ?_; clear hs hw; intro a b W hw hs) | (refine sxs hs hw ?_; clear hs hw; intro W hs hw))
  have hw' := hw.sub (List.Sublist.cons_cons _ (List.Sublist.cons _ (List.Sublist.cons _ (List.Sublist.refl _))))
  refine rc1 hs rfl rfl hw (In.tl (In.tl In.hd)) rfl ?_
  rw [if_neg k3, if_neg k1, if_neg k4]
  exact ⟨rfl, _, RR, hw'⟩
end Go.Proofs.YtmalklakaalaoaaGreatDoor.Sw

set_option linter.unusedVariables false
set_option maxRecDepth 10000
namespace Go.Proofs.YtmalklakaalaoaaGreatDoor.Sw
open Go.RowKit Go.Sx
theorem getR_putR {k n : Int} {s : ByteArray} (t : List UInt8) (h : (ofRaw k n s).2 = 0) (h0 : -9223372036854775808 ≤ n) (h1 : n ≤ 9223372036854775807) (hs : s.size ≤ 1000000) :
    getR (putR k n s ++ t) = ((k, n, s), (putR k n s).length, 0) := by
  have hd : s.data.toList.length = s.size := by rw [Array.length_toList]; rfl
  have hO := h
  unfold ofRaw at h
  have he : s.size = 0 → s = ⟨#[]⟩ := fun h => by
    apply ByteArray.ext
    exact Array.eq_empty_of_size_eq_zero h
  split at h
  · rename_i c
    obtain ⟨rfl, rfl, hz⟩ := c
    have g := Ph.getI_putI 0 t (by omega) (by omega)
    have e : putR 0 0 s = Ph.putI 0 := by simp [putR]
    rw [e, getR.eq_1, g, he hz]
    simp
  · split at h
    · rename_i c
      obtain ⟨rfl, hz⟩ := c
      have e : putR 1 n s = Ph.putI 1 ++ Ph.putI n := by simp [putR]
      have g := Ph.getI_putI 1 (Ph.putI n ++ t) (by omega) (by omega)
      have g2 := Ph.getI_putI n t h0 h1
      rw [e, List.append_assoc, getR.eq_1, g, he hz]
      simp only [List.drop_left, g2, List.length_append]
      simp
    · split at h
      · rename_i c
        obtain ⟨rfl, rfl, hz, hv⟩ := c
        have e : putR 2 0 s = Ph.putI 2 ++ Ph.putT s.data.toList := by simp [putR]
        have g := Ph.getI_putI 2 (Ph.putT s.data.toList ++ t) (by omega) (by omega)
        have g2 := Ph.getT_putT s.data.toList t (by omega)
        rw [e, List.append_assoc, getR.eq_1, g]
        simp only [List.drop_left, g2, List.length_append, ba_mk, hO]
        simp
      · cases h
def rdOps : Nat → Int → List OpD → (List UInt8 × Bool) → List OpD × (List UInt8 × Bool)
  | 0, _, l, s => (l, s)
  | f + 1, n, l, s => if 0 < n ∧ s.2 = false ∧ l.length ≤ 8 then rdOps f (n - 1) (l ++ [(rdOp s).1]) (rdOp s).2 else (l, s)
def parse (b : List UInt8) : (Int × Int × List OpD) × (List UInt8 × Bool) :=
  let s1 := rdNum (b, false)
  let s2 := rdNum s1
  let r := rdOps 10 (Ph.getI s2.1).1 [] (rdNum s2)
  (((Ph.getI b).1, (Ph.getI s1.1).1, r.1), r.2)
def decode (b : List UInt8) : Option (Int × Int × List OpD) :=
  let p := parse b
  if p.2.2 = false ∧ mayBatch p.1.1 p.1.2.1 p.1.2.2 = true ∧ textB p.1.1 p.1.2.1 p.1.2.2 = b then some p.1 else none
theorem rdNum_put (n : Int) (t : List UInt8) (h : i64 n) : rdNum (Ph.putI n ++ t, false) = (t, false) ∧ (Ph.getI (Ph.putI n ++ t)).1 = n := by
  unfold rdNum tk
  simp only
  rw [Ph.getI_putI n t h.1 h.2]
  simp
theorem rdTxt_put (s : ByteArray) (t : List UInt8) (h : s.size ≤ 1000000) : rdTxt (Ph.putT s.data.toList ++ t, false) = (t, false) ∧ (⟨(Ph.getT (Ph.putT s.data.toList ++ t)).1.toArray⟩ : ByteArray) = s := by
  have hd : s.data.toList.length = s.size := by rw [Array.length_toList]; rfl
  unfold rdTxt tk
  simp only
  rw [Ph.getT_putT s.data.toList t (by omega)]
  refine ⟨?_, ba_mk s⟩
  simp
theorem rdVal_put {k n : Int} {s : ByteArray} (t : List UInt8) (h : (ofRaw k n s).2 = 0) (hn : i64 n) (hs : s.size ≤ 1000000) : rdVal (putR k n s ++ t, false) = (t, false) ∧ (getR (putR k n s ++ t)).1 = (k, n, s) := by
  unfold rdVal tk
  simp only
  rw [getR_putR t h hn.1 hn.2 hs]
  simp
theorem rdOp_put (o : OpD) (t : List UInt8) (hm : mayD o = true) (ho : OpOk o) : rdOp (opB o ++ t, false) = (o, (t, false)) := by
  obtain ⟨kind, key, vk, vn, vs, ok, on, os, n⟩ := o
  obtain ⟨hk, hvk, hvn, hok, hon, hn, hkey, hvs, hos⟩ := ho
  simp only at hk hvk hvn hok hon hn hkey hvs hos
  simp only [mayD, mayOp, Bool.and_eq_true, beq_iff_eq] at hm
  obtain ⟨⟨⟨-, hv⟩, hO⟩, hm⟩ := hm
  have key0 : ∀ x : List UInt8, rdNum (Ph.putI kind ++ (Ph.putT key.data.toList ++ x), false) = (Ph.putT key.data.toList ++ x, false) ∧ (Ph.getI (Ph.putI kind ++ (Ph.putT key.data.toList ++ x))).1 = kind := fun x => rdNum_put kind _ hk
  have key1 : ∀ x : List UInt8, rdTxt (Ph.putT key.data.toList ++ x, false) = (x, false) ∧ (⟨(Ph.getT (Ph.putT key.data.toList ++ x)).1.toArray⟩ : ByteArray) = key := fun x => rdTxt_put key x hkey
  have main : ∀ x : List UInt8, rdOp (Ph.putI kind ++ (Ph.putT key.data.toList ++ x), false) = (if kind = 3 then
      (⟨kind, key, (getR x).1.1, (getR x).1.2.1, (getR x).1.2.2, (getR (rdVal (x, false)).1).1.1, (getR (rdVal (x, false)).1).1.2.1, (getR (rdVal (x, false)).1).1.2.2, 0⟩, rdVal (rdVal (x, false)))
      else if kind = 1 then (⟨kind, key, (getR x).1.1, (getR x).1.2.1, (getR x).1.2.2, 0, 0, ⟨#[]⟩, 0⟩, rdVal (x, false))
      else if kind = 4 then (⟨kind, key, 0, 0, ⟨#[]⟩, 0, 0, ⟨#[]⟩, (Ph.getI x).1⟩, rdNum (x, false))
      else (⟨kind, key, 0, 0, ⟨#[]⟩, 0, 0, ⟨#[]⟩, 0⟩, (x, false))) := fun x => by
    unfold rdOp
    simp only
    rw [(key0 x).1, (key0 x).2]
    simp only
    rw [(key1 x).1, (key1 x).2]
  have hA : opB ⟨kind, key, vk, vn, vs, ok, on, os, n⟩ ++ t = Ph.putI kind ++ (Ph.putT key.data.toList ++ ((if kind = 3 then putR vk vn vs ++ putR ok on os else if kind = 1 then putR vk vn vs else if kind = 4 then Ph.putI n else []) ++ t)) := by
    unfold opB
    simp only [List.append_assoc]
  rw [hA, main]
  clear main hA key0 key1
  split at hm
  · rename_i k1
    subst k1
    simp only [Bool.and_eq_true, beq_iff_eq] at hm
    obtain ⟨⟨-, h2⟩, rfl⟩ := hm
    obtain ⟨rfl, rfl, rfl⟩ := rawEq_iff.1 h2
    obtain ⟨g1, g2⟩ := rdVal_put t hv hvn hvs
    rw [if_neg (by decide), if_pos rfl, if_neg (by decide), if_pos rfl, g1, g2]
  · rename_i k1
    split at hm
    · rename_i k2
      subst k2
      simp only [Bool.and_eq_true, beq_iff_eq] at hm
      obtain ⟨⟨h1, h2⟩, rfl⟩ := hm
      obtain ⟨rfl, rfl, rfl⟩ := rawEq_iff.1 h1
      obtain ⟨rfl, rfl, rfl⟩ := rawEq_iff.1 h2
      rw [if_neg (by decide), if_neg (by decide), if_neg (by decide), if_neg (by decide), if_neg (by decide), if_neg (by decide), List.nil_append]
    · split at hm
      · rename_i k3
        subst k3
        simp only [Bool.and_eq_true, beq_iff_eq] at hm
        obtain ⟨-, rfl⟩ := hm
        obtain ⟨g1, g2⟩ := rdVal_put (putR ok on os ++ t) hv hvn hvs
        obtain ⟨g3, g4⟩ := rdVal_put t hO hon hos
        rw [if_pos rfl, if_pos rfl, List.append_assoc, g1, g2]
        simp only
        rw [g3, g4]
      · split at hm
        · rename_i k4
          subst k4
          simp only [Bool.and_eq_true] at hm
          obtain ⟨⟨⟨h1, h2⟩, -⟩, -⟩ := hm
          obtain ⟨rfl, rfl, rfl⟩ := rawEq_iff.1 h1
          obtain ⟨rfl, rfl, rfl⟩ := rawEq_iff.1 h2
          obtain ⟨g1, g2⟩ := rdNum_put n t hn
          rw [if_neg (by decide), if_neg (by decide), if_pos rfl, if_neg (by decide), if_neg (by decide), if_pos rfl, g1, g2]
        · cases hm
theorem rdOps_zero (f : Nat) (acc : List OpD) (s : List UInt8 × Bool) : rdOps f 0 acc s = (acc, s) := by
  cases f with
  | zero => rfl
  | succ f => rw [rdOps, if_neg (by omega)]
theorem rdOps_put : ∀ (l : List OpD) (f : Nat) (acc : List OpD) (t : List UInt8), acc.length + l.length ≤ 8 → l.length ≤ f → l.all mayD = true → (∀ o ∈ l, OpOk o) → rdOps f (l.length : Int) acc (l.flatMap opB ++ t, false) = (acc ++ l, (t, false))
  | [], f, acc, t, _, _, _, _ => by
    rw [show (([] : List OpD).length : Int) = 0 from rfl, rdOps_zero]; simp
  | o :: l, 0, acc, t, _, hf, _, _ => by simp at hf
  | o :: l, f + 1, acc, t, h8, hf, hm, ho => by
    simp only [List.length_cons] at h8 hf
    rw [List.all_cons, Bool.and_eq_true] at hm
    rw [rdOps, if_pos ⟨by simp only [List.length_cons]; omega, rfl, by omega⟩, List.flatMap_cons, List.append_assoc, rdOp_put o _ hm.1 (ho o (by simp))]
    simp only
    have e : ((o :: l).length : Int) - 1 = (l.length : Int) := by simp only [List.length_cons]; omega
    rw [e, rdOps_put l f (acc ++ [o]) t (by simp; omega) (by omega) hm.2 fun x hx => ho x (by simp [hx])]
    simp
theorem parse_text {c q : Int} {l : List OpD} (t : List UInt8) (h : mayBatch c q l = true) (ho : ∀ o ∈ l, OpOk o) : parse (textB c q l ++ t) = ((c, q, l), (t, false)) := by
  obtain ⟨hc, hq, hl, hm, -⟩ := mayBatch_parts h
  have e : textB c q l ++ t = Ph.putI c ++ (Ph.putI q ++ (Ph.putI l.length ++ (l.flatMap opB ++ t))) := by
    unfold textB headB; simp only [List.append_assoc]
  obtain ⟨g1, g2⟩ := rdNum_put c (Ph.putI q ++ (Ph.putI l.length ++ (l.flatMap opB ++ t))) ⟨by omega, by omega⟩
  obtain ⟨g3, g4⟩ := rdNum_put q (Ph.putI l.length ++ (l.flatMap opB ++ t)) ⟨by omega, by omega⟩
  obtain ⟨g5, g6⟩ := rdNum_put l.length (l.flatMap opB ++ t) ⟨by omega, by omega⟩
  unfold parse
  simp only
  rw [e, g1, g2]
  simp only
  rw [g3, g4]
  simp only
  rw [g5, g6, rdOps_put l 10 [] t (by simp; omega) (by omega) hm ho]
  rfl
theorem decode_text {c q : Int} {l : List OpD} (h : mayBatch c q l = true) (ho : ∀ o ∈ l, OpOk o) : decode (textB c q l) = some (c, q, l) := by
  have := parse_text [] h ho
  rw [List.append_nil] at this
  unfold decode
  simp only
  rw [this, if_pos ⟨rfl, h, rfl⟩]
theorem decode_some {b : List UInt8} {c q : Int} {l : List OpD} (h : decode b = some (c, q, l)) : mayBatch c q l = true ∧ textB c q l = b ∧ (parse b).1 = (c, q, l) := by
  unfold decode at h
  simp only at h
  split at h
  · rename_i hh
    have e := Option.some.inj h
    rw [e] at hh
    exact ⟨hh.2.1, hh.2.2, e⟩
  · cases h
theorem unzig_range (y : Nat) (h : y < 18446744073709551616) : i64 (Ph.unzig y) := by
  unfold Ph.unzig i64
  split <;> omega
theorem getN_range : ∀ (l : List UInt8) (i u : Nat), u < 128 ^ i → i ≤ 9 → i64 (Ph.getN i u l).1
  | [], i, u, _, _ => by rw [Ph.getN_end]; simp [i64]
  | c :: t, i, u, hu, hi => by
    have hc := c.toNat_lt
    rw [Ph.getN]
    split
    · simp [i64]
    · rename_i c1
      split
      · rename_i c2
        have h8 : i ≤ 8 := by omega
        exact getN_range t (i + 1) _ (Ph.sum_small u c.toNat i hu h8 (by omega)).2 (by omega)
      · rename_i c2
        split
        · simp [i64]
        · refine unzig_range _ ?_
          by_cases h8 : i ≤ 8
          · have h1 := (Ph.sum_small u c.toNat i hu h8 (by omega)).2
            have h2 : 128 ^ (i + 1) ≤ 128 ^ 9 := Nat.pow_le_pow_right (by omega) (by omega)
            have h3 : (128 : Nat) ^ 9 = 9223372036854775808 := by decide
            omega
          · obtain rfl : i = 9 := by omega
            have h3 : (128 : Nat) ^ 9 = 9223372036854775808 := by decide
            rw [h3] at hu
            have : c.toNat ≤ 1 := by omega
            have h4 : c.toNat % 128 * 128 ^ 9 ≤ 9223372036854775808 := by
              rw [h3, Nat.mod_eq_of_lt (by omega)]
              omega
            omega
theorem getI_range (l : List UInt8) : i64 (Ph.getI l).1 := getN_range l 0 0 (by simp) (by omega)
theorem getR_range (l : List UInt8) : i64 (getR l).1.1 ∧ i64 (getR l).1.2.1 ∧ (getR l).1.2.2.size ≤ l.length := by
  have h1 := getI_range (l.drop (Ph.getI l).2.1)
  have z : i64 0 := ⟨by omega, by omega⟩
  have e0 : (⟨#[]⟩ : ByteArray).size = 0 := rfl
  unfold getR
  simp only
  split
  · exact ⟨z, z, by simp [e0]⟩
  · split
    · exact ⟨z, z, by simp [e0]⟩
    · split
      · split
        · exact ⟨z, z, by simp [e0]⟩
        · exact ⟨⟨by simp, by simp⟩, h1, by simp [e0]⟩
      · split
        · split
          · exact ⟨z, z, by simp [e0]⟩
          · have := getT_size (l.drop (Ph.getI l).2.1)
            rw [List.length_drop] at this
            split
            · exact ⟨z, z, by simp [e0]⟩
            · exact ⟨⟨by simp, by simp⟩, z, by simp only; omega⟩
        · exact ⟨z, z, by simp [e0]⟩
theorem tk_le (s : List UInt8 × Bool) (n : Nat) (err : Int) : (tk s n err).1.length ≤ s.1.length := by
  unfold tk
  simp only
  split
  · exact Nat.le_refl _
  · rw [List.length_drop]; omega
theorem rdOp_ok (s : List UInt8 × Bool) (h : s.1.length ≤ 1000000) : OpOk (rdOp s).1 ∧ (rdOp s).2.1.length ≤ s.1.length := by
  have h1 : (rdNum s).1.length ≤ s.1.length := tk_le _ _ _
  have h2 : (rdTxt (rdNum s)).1.length ≤ (rdNum s).1.length := tk_le _ _ _
  have k0 := getI_range s.1
  have hkey := getT_size (rdNum s).1
  unfold rdOp
  simp only
  generalize rdTxt (rdNum s) = s2 at *
  have h3 : (rdVal s2).1.length ≤ s2.1.length := tk_le _ _ _
  have h4 : (rdVal (rdVal s2)).1.length ≤ (rdVal s2).1.length := tk_le _ _ _
  have h5 : (rdNum s2).1.length ≤ s2.1.length := tk_le _ _ _
  obtain ⟨a1, a2, a3⟩ := getR_range s2.1
  obtain ⟨b1, b2, b3⟩ := getR_range (rdVal s2).1
  have c1 := getI_range s2.1
  have z : i64 0 := ⟨by omega, by omega⟩
  have e0 : (⟨#[]⟩ : ByteArray).size ≤ 1000000 := by show 0 ≤ _; omega
  split
  · exact ⟨⟨k0, a1, a2, b1, b2, z, by simp only; omega, by simp only; omega, by simp only; omega⟩, by simp only; omega⟩
  · split
    · exact ⟨⟨k0, a1, a2, z, z, z, by simp only; omega, by simp only; omega, e0⟩, by simp only; omega⟩
    · split
      · exact ⟨⟨k0, z, z, z, z, c1, by simp only; omega, e0, e0⟩, by simp only; omega⟩
      · exact ⟨⟨k0, z, z, z, z, z, by simp only; omega, e0, e0⟩, by simp only; omega⟩
theorem rdOps_ok : ∀ (f : Nat) (n : Int) (l : List OpD) (s : List UInt8 × Bool), s.1.length ≤ 1000000 → l.length ≤ 9 → (∀ o ∈ l, OpOk o) → (rdOps f n l s).1.length ≤ 9 ∧ ∀ o ∈ (rdOps f n l s).1, OpOk o
  | 0, n, l, s, _, h9, ho => ⟨h9, ho⟩
  | f + 1, n, l, s, hs, h9, ho => by
    rw [rdOps]
    split
    · rename_i c
      obtain ⟨g1, g2⟩ := rdOp_ok s hs
      refine rdOps_ok f (n - 1) _ _ (by omega) (by simp; omega) fun o h => ?_
      rcases List.mem_append.1 h with h | h
      · exact ho o h
      · rw [List.mem_singleton] at h; rw [h]; exact g1
    · exact ⟨h9, ho⟩
theorem parse_ok (b : List UInt8) (h : b.length ≤ 1000000) : i64 (parse b).1.1 ∧ i64 (parse b).1.2.1 ∧ (parse b).1.2.2.length ≤ 9 ∧ ∀ o ∈ (parse b).1.2.2, OpOk o := by
  have h1 : (rdNum (b, false)).1.length ≤ b.length := tk_le _ _ _
  have h2 : (rdNum (rdNum (b, false))).1.length ≤ (rdNum (b, false)).1.length := tk_le _ _ _
  have h3 : (rdNum (rdNum (rdNum (b, false)))).1.length ≤ (rdNum (rdNum (b, false))).1.length := tk_le _ _ _
  have := rdOps_ok 10 (Ph.getI (rdNum (rdNum (b, false))).1).1 [] (rdNum (rdNum (rdNum (b, false)))) (by omega) (by simp) (by simp)
  exact ⟨getI_range _, getI_range _, this.1, this.2⟩
theorem decode_ok {b : List UInt8} {c q : Int} {l : List OpD} (hb : b.length ≤ 1000000) (h : decode b = some (c, q, l)) : i64 c ∧ i64 q ∧ l.length ≤ 9 ∧ ∀ o ∈ l, OpOk o := by
  have := parse_ok b hb
  rw [(decode_some h).2.2] at this
  exact this
end Go.Proofs.YtmalklakaalaoaaGreatDoor.Sw

set_option linter.unusedVariables false
set_option maxRecDepth 10000
namespace Go.Proofs.YtmalklakaalaoaaGreatDoor.Sw
open Go.RowKit Go.Sx
def encB (b : BatchD) : List UInt8 := textB b.c b.q b.l
def batOf (p : Int × Int × List OpD) : BatchD := ⟨p.1, p.2.1, p.2.2⟩
end Go.Proofs.YtmalklakaalaoaaGreatDoor.Sw

set_option linter.unusedVariables false
set_option maxRecDepth 10000
namespace Go.Proofs.YtmalklakaalaoaaGreatDoor.Sw
open Go.RowKit Go.Sx
theorem lessK_irr (a : ByteArray) : lessK a a = false := Ph.lessL_irr _
theorem lessK_trans {a b c : ByteArray} (h : lessK a b = true) (h' : lessK b c = true) : lessK a c = true := Ph.lessL_trans _ _ _ h h'
theorem lessK_asymm {a b : ByteArray} (h : lessK a b = true) : lessK b a = false := Ph.lessL_asymm _ _ h
theorem lessK_total {a b : ByteArray} (h : a ≠ b) : lessK a b = true ∨ lessK b a = true := by
  have : a.data.toList ≠ b.data.toList := fun e => h (by
    cases a; cases b
    simp only at e
    congr 1
    exact Array.toList_inj.1 e)
  have := Ph.lessL_total _ _ this
  unfold lessK
  simpa [Bool.or_eq_true] using this
def Srt (d : Dm) : Prop := d.Pairwise fun p q => lessK p.1 q.1 = true
theorem Srt.nil : Srt [] := List.Pairwise.nil
theorem Srt.delD {d : Dm} (h : Srt d) (k : ByteArray) : Srt (delD d k) := List.Pairwise.filter _ h
theorem delD_mem {d : Dm} {k : ByteArray} {q : ByteArray × DV} (h : q ∈ delD d k) : q ∈ d ∧ q.1 ≠ k := by
  have h2 := List.mem_filter.1 h
  refine ⟨h2.1, fun e => ?_⟩
  have := h2.2
  rw [e, ks_self] at this
  cases this
theorem Srt.setL : ∀ {d : Dm}, Srt d → ∀ (k : ByteArray) (v : DV), Srt (setL d k v)
  | [], _, k, v => by simp [Srt, Sw.setL]
  | p :: d, h, k, v => by
    have hd := List.pairwise_cons.1 h
    simp only [Sw.setL]
    cases hl : lessK p.1 k with
    | false =>
      refine List.pairwise_cons.2 ⟨fun q hq => ?_, Srt.delD h k⟩
      obtain ⟨h1, h2⟩ := delD_mem hq
      by_cases e : k = p.1
      · rcases List.mem_cons.1 h1 with rfl | h1
        · exact absurd e.symm h2
        · rw [e]; exact hd.1 q h1
      · have hkp : lessK k p.1 = true := by
          rcases lessK_total e with h | h
          · exact h
          · rw [hl] at h; cases h
        rcases List.mem_cons.1 h1 with rfl | h1
        · exact hkp
        · exact lessK_trans hkp (hd.1 q h1)
    | true =>
      have hne : ks k p.1 = false := by
        cases hk : ks k p.1 with
        | false => rfl
        | true => rw [ks_iff.1 hk, lessK_irr] at hl; cases hl
      rw [hne]
      refine List.pairwise_cons.2 ⟨fun q hq => ?_, Srt.setL (d := d) hd.2 k v⟩
      rcases List.mem_cons.1 ((setL_perm d k v).mem_iff.1 hq) with rfl | hq
      · exact hl
      · exact hd.1 q (delD_mem hq).1
theorem setL_last : ∀ {d : Dm} {k : ByteArray} (v : DV), (∀ p ∈ d, lessK p.1 k = true) → setL d k v = d ++ [(k, v)]
  | [], k, v, _ => rfl
  | p :: d, k, v, h => by
    have h1 := h p (by simp)
    have hne : ks k p.1 = false := by
      cases hk : ks k p.1 with
      | false => rfl
      | true => rw [ks_iff.1 hk, lessK_irr] at h1; cases h1
    simp only [setL, h1, hne]
    rw [setL_last (d := d) v fun q hq => h q (by simp [hq])]
    rfl
theorem setRL_srt {d : Dm} (h : Srt d) (k : ByteArray) (x : Option DV) : Srt (setRL d k x).2 := by
  cases x with
  | none => exact h.delD k
  | some v =>
    unfold setRL
    simp only
    split
    · exact h
    · exact h.setL k v
theorem doL_srt {d : Dm} (h : Srt d) (o : OpD) : Srt (doL d o).2 := by
  unfold doL
  split
  · split
    · exact setRL_srt h _ _
    · exact h
  · split
    · split
      · exact h
      · split
        · exact h
        · exact setRL_srt h _ _
    · exact setRL_srt h _ _
theorem goL_srt : ∀ (l : List OpD) {d : Dm}, Srt d → Srt (goL l d).2
  | [], d, h => h
  | o :: l, d, h => by
    unfold goL
    split
    · exact h
    · split
      · exact goL_srt l (doL_srt h o)
      · exact h
theorem applyL_srt {d : Dm} (h : Srt d) (l : List OpD) : Srt (applyL d l).2 := by
  unfold applyL
  split
  · exact h
  · split
    · exact goL_srt l h
    · exact h
theorem srt_unique {l m : List ByteArray} (hp : l.Perm m) (hl : l.Pairwise fun a b => lessK a b = true) (hm : m.Pairwise fun a b => lessK a b = true) : l = m :=
  hp.eq_of_pairwise (fun a b _ _ h1 h2 => by rw [lessK_asymm h1] at h2; cases h2) hl hm
theorem Srt.keys {d : Dm} (h : Srt d) : (d.map (·.1)).Pairwise fun a b => lessK a b = true := List.pairwise_map.2 h
theorem srt_of_not {l : List ByteArray} (hn : l.Nodup) (h : l.Pairwise fun a b => lessK b a = false) : l.Pairwise fun a b => lessK a b = true := by
  refine (hn.and h).imp fun {a b} hab => ?_
  rcases lessK_total hab.1 with h1 | h1
  · exact h1
  · rw [hab.2] at h1; cases h1
end Go.Proofs.YtmalklakaalaoaaGreatDoor.Sw

set_option linter.unusedVariables false
set_option maxRecDepth 10000
namespace Go.Proofs.YtmalklakaalaoaaGreatDoor.Sw
open Go.RowKit Go.Sx
structure DocFine (d : Dm) : Prop where
  ok : DocOk d
  srt : Srt d
  key : ∀ p ∈ d, Ph.keyB p.1.data.toList = true
theorem DocFine.nil : DocFine [] := ⟨DocOk.nil, Srt.nil, by simp⟩
theorem mayD_key {o : OpD} (h : mayD o = true) : Ph.keyB o.key.data.toList = true := by
  unfold mayD mayOp at h
  simp only [Bool.and_eq_true] at h
  exact h.1.1.1
theorem setRL_key {d : Dm} (h : ∀ p ∈ d, Ph.keyB p.1.data.toList = true) {k : ByteArray} (hk : Ph.keyB k.data.toList = true) (x : Option DV) : ∀ p ∈ (setRL d k x).2, Ph.keyB p.1.data.toList = true := by
  cases x with
  | none => exact fun p hp => h p (delD_mem hp).1
  | some v =>
    unfold setRL
    simp only
    split
    · exact h
    · intro p hp
      rcases List.mem_cons.1 ((setL_perm d k v).mem_iff.1 hp) with rfl | hp
      · exact hk
      · exact h p (delD_mem hp).1
theorem doL_key {d : Dm} (h : ∀ p ∈ d, Ph.keyB p.1.data.toList = true) {o : OpD} (hk : Ph.keyB o.key.data.toList = true) : ∀ p ∈ (doL d o).2, Ph.keyB p.1.data.toList = true := by
  unfold doL
  split
  · split
    · exact setRL_key h hk _
    · exact h
  · split
    · split
      · exact h
      · split
        · exact h
        · exact setRL_key h hk _
    · exact setRL_key h hk _
theorem goL_key : ∀ (l : List OpD) {d : Dm}, (∀ p ∈ d, Ph.keyB p.1.data.toList = true) → ∀ p ∈ (goL l d).2, Ph.keyB p.1.data.toList = true
  | [], d, h => h
  | o :: l, d, h => by
    unfold goL
    split
    · exact h
    · rename_i hm
      split
      · exact goL_key l (doL_key h (mayD_key (by simpa using hm)))
      · exact h
theorem applyL_fine {d : Dm} (h : DocFine d) {l : List OpD} (ho : ∀ o ∈ l, OpOk o) : DocFine (applyL d l).2 := by
  refine ⟨applyL_ok h.ok ho, applyL_srt h.srt l, ?_⟩
  unfold applyL
  split
  · exact h.key
  · split
    · exact goL_key l h.key
    · exact h.key
def rawB (x : Option DV) : List UInt8 := putR (kindOf x) (intIn x) (textIn x)
def pairB (p : ByteArray × DV) : List UInt8 := Ph.putT p.1.data.toList ++ rawB (some p.2)
def docB (d : Dm) : List UInt8 := Ph.putI (d.length : Int) ++ d.flatMap pairB
def rdPairs : Nat → Dm → List UInt8 → Option Dm
  | 0, d, _ => some d
  | n + 1, d, s =>
    match (Ph.getT s).2.2 == 0 && Ph.keyB (Ph.getT s).1, (getR (s.drop (Ph.getT s).2.1)).2.2 == 0, (ofRaw (getR (s.drop (Ph.getT s).2.1)).1.1 (getR (s.drop (Ph.getT s).2.1)).1.2.1 (getR (s.drop (Ph.getT s).2.1)).1.2.2).1 with
    | true, true, some v => rdPairs n (setL d ⟨(Ph.getT s).1.toArray⟩ v) (s.drop ((Ph.getT s).2.1 + (getR (s.drop (Ph.getT s).2.1)).2.1))
    | _, _, _ => none
def decDoc (s : List UInt8) : Option Dm :=
  if (Ph.getI s).2.2 = 0 ∧ 0 ≤ (Ph.getI s).1 ∧ (Ph.getI s).1 ≤ 50 then
    (match rdPairs (Ph.getI s).1.toNat [] (s.drop (Ph.getI s).2.1) with
     | none => none
     | some d => if docB d = s then some d else none)
  else none
theorem ofRaw_val {k : ByteArray} {v : DV} (h : PairOk (k, v)) : ofRaw (kindOf (some v)) (intIn (some v)) (textIn (some v)) = (some v, 0) := by
  rcases v with n | s
  · exact rfl
  · obtain ⟨h1, h2⟩ := h.txt s rfl
    have h2' : Lib.validD s.data.toList = true := h2
    unfold ofRaw kindOf intIn textIn
    simp [h1, h2']
theorem raw_range {k : ByteArray} {v : DV} (h : PairOk (k, v)) : i64 (intIn (some v)) ∧ (textIn (some v)).size ≤ 200 := by
  rcases v with n | s
  · exact ⟨h.num n rfl, by show (0 : Nat) ≤ 200; decide⟩
  · exact ⟨⟨by show -9223372036854775808 ≤ (0 : Int); decide, by show (0 : Int) ≤ 9223372036854775807; decide⟩, (h.txt s rfl).1⟩
theorem rdPairs_put : ∀ (m d : Dm) (t : List UInt8), (∀ p ∈ m, PairOk p ∧ Ph.keyB p.1.data.toList = true) → Srt (d ++ m) → rdPairs m.length d (m.flatMap pairB ++ t) = some (d ++ m)
  | [], d, t, _, _ => by simp [rdPairs]
  | p :: m, d, t, h, hs => by
    obtain ⟨k, v⟩ := p
    obtain ⟨hp, hk⟩ := h (k, v) (by simp)
    have hk0 : k.data.toList.length ≤ 1000000 := by have := hp.key; rw [Array.length_toList]; exact this
    have hg := Ph.getT_putT k.data.toList (rawB (some v) ++ (m.flatMap pairB ++ t)) (by omega)
    have hv := ofRaw_val hp
    obtain ⟨hr1, hr2⟩ := raw_range hp
    have hr := getR_putR (k := kindOf (some v)) (n := intIn (some v)) (s := textIn (some v)) (m.flatMap pairB ++ t) (by rw [hv]) hr1.1 hr1.2 (by omega)
    have e : ((k, v) :: m).flatMap pairB ++ t = Ph.putT k.data.toList ++ (rawB (some v) ++ (m.flatMap pairB ++ t)) := by
      simp [pairB]
    have hlast : setL d k v = d ++ [(k, v)] := setL_last v fun q hq => by
      have := (List.pairwise_append.1 hs).2.2 q hq (k, v) (by simp)
      exact this
    rw [e]
    simp only [List.length_cons, rdPairs, hg]
    rw [List.drop_left]
    change (match ((0 : Int) == 0) && Ph.keyB k.data.toList, (getR (putR (kindOf (some v)) (intIn (some v)) (textIn (some v)) ++ (m.flatMap pairB ++ t))).2.2 == 0, (ofRaw (getR (putR (kindOf (some v)) (intIn (some v)) (textIn (some v)) ++ (m.flatMap pairB ++ t))).1.1 (getR (putR (kindOf (some v)) (intIn (some v)) (textIn (some v)) ++ (m.flatMap pairB ++ t))).1.2.1 (getR (putR (kindOf (some v)) (intIn (some v)) (textIn (some v)) ++ (m.flatMap pairB ++ t))).1.2.2).1 with
      | true, true, some v' => rdPairs m.length (setL d ⟨k.data.toList.toArray⟩ v') (List.drop ((Ph.putT k.data.toList).length + (getR (putR (kindOf (some v)) (intIn (some v)) (textIn (some v)) ++ (m.flatMap pairB ++ t))).2.1) (Ph.putT k.data.toList ++ (rawB (some v) ++ (m.flatMap pairB ++ t))))
      | _, _, _ => none) = _
    rw [hr]
    simp only [hk, hv, beq_self_eq_true, Bool.and_self]
    rw [ba_mk, hlast, ← List.drop_drop, List.drop_left]
    unfold rawB
    rw [List.drop_left, rdPairs_put m (d ++ [(k, v)]) t (fun q hq => h q (by simp [hq])) (by simpa using hs)]
    simp
theorem dec_docB {d : Dm} (h : DocFine d) : decDoc (docB d) = some d := by
  have hg := Ph.getI_putI (d.length : Int) (d.flatMap pairB) (by omega) (by have := h.ok.len; omega)
  have hr := rdPairs_put d [] [] (fun p hp => ⟨h.ok.all p hp, h.key p hp⟩) h.srt
  rw [List.append_nil, List.nil_append] at hr
  unfold decDoc
  have hd : docB d = Ph.putI (d.length : Int) ++ d.flatMap pairB := rfl
  rw [hd, hg]
  simp only
  rw [if_pos ⟨by trivial, by omega, by have := h.ok.len; omega⟩, List.drop_left, Int.toNat_natCast, hr]
  simp only
  rw [if_pos hd]
theorem rdPairs_some : ∀ (n : Nat) (d : Dm) (s : List UInt8) (d' : Dm), rdPairs n d s = some d' → s.length ≤ 1000000 → d.length + n ≤ 50 → DocFine d → DocFine d'
  | 0, d, s, d', h, _, _, hf => by
    simp only [rdPairs, Option.some.injEq] at h
    rw [← h]; exact hf
  | n + 1, d, s, d', h, hl, hn, hf => by
    simp only [rdPairs] at h
    split at h
    · rename_i v h1 h2 h3
      rw [Bool.and_eq_true] at h1
      have hks : (⟨(Ph.getT s).1.toArray⟩ : ByteArray).size ≤ 1000000 := by have := getT_size s; omega
      have hrr := getR_range (s.drop (Ph.getT s).2.1)
      have hp : PairOk (⟨(Ph.getT s).1.toArray⟩, v) := ofRaw_pair hks hrr.2.1 v h3
      have hperm := setL_perm d ⟨(Ph.getT s).1.toArray⟩ v
      have hlen : (setL d ⟨(Ph.getT s).1.toArray⟩ v).length ≤ d.length + 1 := by
        rw [hperm.length_eq]
        exact Nat.succ_le_succ (delD_len d _)
      refine rdPairs_some n _ _ d' h (by rw [List.length_drop]; omega) (by omega) ⟨⟨(dKeys_perm hperm).2 (setD_keys hf.ok.keys _ _), by omega, fun p hp' => ?_⟩, hf.srt.setL _ _, fun p hp' => ?_⟩
      · rcases List.mem_cons.1 (hperm.mem_iff.1 hp') with rfl | hp'
        · exact hp
        · exact hf.ok.all p (delD_mem hp').1
      · rcases List.mem_cons.1 (hperm.mem_iff.1 hp') with rfl | hp'
        · exact h1.2
        · exact hf.key p (delD_mem hp').1
    · cases h
theorem decDoc_some {s : List UInt8} {d : Dm} (hl : s.length ≤ 1000000) (h : decDoc s = some d) : docB d = s ∧ DocFine d := by
  unfold decDoc at h
  split at h
  · rename_i hh
    split at h
    · cases h
    · rename_i d2 hr
      split at h
      · rename_i hd
        injection h with h
        subst h
        exact ⟨hd, rdPairs_some _ [] _ d2 hr (by rw [List.length_drop]; omega) (by simp; omega) DocFine.nil⟩
      · cases h
  · cases h
theorem pairB_len {p : ByteArray × DV} (h : PairOk p) : (pairB p).length ≤ p.1.size + 300 := by
  obtain ⟨k, v⟩ := p
  have h1 : (Ph.putT k.data.toList).length ≤ k.size + 10 := by
    unfold Ph.putT
    have := Ph.putI_length_le (k.data.toList.length : Int)
    rw [List.length_append]
    have e : k.data.toList.length = k.size := by rw [Array.length_toList]; rfl
    omega
  have h2 : (rawB (some v)).length ≤ 240 := by
    have := raw_range h
    unfold rawB putR
    have a1 := Ph.putI_length_le (kindOf (some v))
    have a2 := Ph.putI_length_le (intIn (some v))
    rw [List.length_append]
    split
    · omega
    · split
      · unfold Ph.putT
        have a3 := Ph.putI_length_le ((textIn (some v)).data.toList.length : Int)
        rw [List.length_append]
        have e : (textIn (some v)).data.toList.length = (textIn (some v)).size := by rw [Array.length_toList]; rfl
        omega
      · simp; omega
  unfold pairB
  rw [List.length_append]
  show (Ph.putT k.data.toList).length + (rawB (some v)).length ≤ k.size + 300
  omega
end Go.Proofs.YtmalklakaalaoaaGreatDoor.Sw

set_option linter.unusedVariables false
set_option maxRecDepth 10000
namespace Go.Proofs.YtmalklakaalaoaaGreatDoor.Sw
open Go.RowKit Go.Sx
def rowOf (f : FoldD) (c : Int) : RowD := if 1 ≤ c ∧ c ≤ 5 then ((f.told[c.toNat]?).map (·.2)).getD zeroRow else zeroRow
def toldOf (f : FoldD) (c : Int) : RowD := if lastOf f c = 0 then zeroRow else rowOf f c
structure FoldOk (f : FoldD) : Prop where
  doc : DocFine f.d
  six : f.told.length = 6
  told : ∀ x ∈ f.told, 0 ≤ x.1 ∧ (x.1 = 0 → x.2 = zeroRow) ∧ x.2.b.l.length ≤ 8
theorem FoldOk.at_ {f : FoldD} (h : FoldOk f) {c : Int} (hc : 1 ≤ c ∧ c ≤ 5) : ∃ x, f.told[c.toNat]? = some x ∧ x ∈ f.told ∧ lastOf f c = x.1 ∧ rowOf f c = x.2 := by
  have hlt : c.toNat < f.told.length := by rw [h.six]; omega
  refine ⟨f.told[c.toNat], List.getElem?_eq_getElem hlt, List.getElem_mem hlt, lastOf_at hc.1 hc.2 (List.getElem?_eq_getElem hlt), ?_⟩
  unfold rowOf
  rw [if_pos hc, List.getElem?_eq_getElem hlt]
  rfl
theorem FoldOk.last {f : FoldD} (h : FoldOk f) (c : Int) : 0 ≤ lastOf f c := by
  by_cases hc : 1 ≤ c ∧ c ≤ 5
  · obtain ⟨x, _, hm, h1, _⟩ := h.at_ hc
    rw [h1]; exact (h.told x hm).1
  · unfold lastOf; rw [if_neg hc]; exact Int.le_refl _
theorem FoldOk.toldOf {f : FoldD} (h : FoldOk f) (c : Int) : toldOf f c = rowOf f c := by
  unfold Sw.toldOf
  by_cases hc : 1 ≤ c ∧ c ≤ 5
  · obtain ⟨x, _, hm, h1, h2⟩ := h.at_ hc
    split
    · rename_i h0
      rw [h2, (h.told x hm).2.1 (by rw [← h1]; exact h0)]
    · rfl
  · split
    · unfold rowOf; rw [if_neg hc]
    · rfl
set_option maxHeartbeats 4000000 in
theorem fold_Doc (w0 W : World) (H : Fh) (p : Nat) (f : FoldD) (R : List Res) (hw : Has 0 w0 W (FoldAt H p f :: R)) :
    Calls Tryz.prog 43 ⟨[.pointer (some ⟨p, 0, none⟩)]⟩ W fun e W' => ∃ c, e = .returned (.pointer (some ⟨c, 0, none⟩)) ∧ Has 0 w0 W' (DocAt c f.d :: FoldAt H p f :: R) := by
  obtain ⟨pd, xs, ht, hw⟩ := foldOpen hw
  refine enter Tryz.func43 Tryz.ntmps43 rfl rfl fun a hs => ?_
  repeat (first | (refine sxv hs hw ?_; clear hs; intro a hs) | refine sxc hs ?_ | (refine sxa hs hw ?_; clear hs hw; intro a b W hw hs) | (refine sxs hs hw ?_; clear hs hw; intro W hs hw) | ((with_reducible first | refine st_ptrSome hs (k := ?_) | refine st_ptrNone hs (k := ?_)); clear hs; intro a hs))
  refine st_call hs (hc := doc_Copy w0 _ pd f.d _ hw.swap2) (k := ?_); rintro e0 W1 ⟨c, rfl, hw1⟩; refine ⟨_, rfl, ?_⟩; clear hs hw; intro a hs; have hw := hw1; clear hw1
  repeat (first | (refine sxv hs hw ?_; clear hs; intro a hs) | refine sxc hs ?_ | (refine sxa hs hw ?_; clear hs hw; intro a b W hw hs) | (refine sxs hs hw ?_; clear hs hw; intro W hs hw) | ((with_reducible first | refine st_ptrSome hs (k := ?_) | refine st_ptrNone hs (k := ?_)); clear hs; intro a hs))
  have hw : Has 0 w0 _ (Cells p (foldCells f.place pd xs) 126 :: DocAt pd f.d :: DocAt c f.d :: R) := hw.perm (by repeat (first | exact List.Perm.refl _ | refine perm_pick (by repeat (first | exact Pick.hd | apply Pick.tl)) ?_))
  exact rt1 hs rfl rfl ⟨c, rfl, (foldShut hw ht).swap2⟩
set_option maxHeartbeats 8000000 in
theorem fold_Told (w0 W : World) (H : Fh) (p : Nat) (f : FoldD) (c : Int) (R : List Res) (h8 : ∀ x ∈ f.told, x.2.b.l.length ≤ 8) (hw : Has 0 w0 W (FoldAt H p f :: Fz H :: R)) :
    Calls Tryz.prog 50 ⟨[.pointer (some ⟨p, 0, none⟩), .int .i64 c]⟩ W fun e W' => ∃ sv H', e = .returned (.tuple ⟨[.agg ⟨rowCells (toldOf f c) sv⟩, .bool (!(lastOf f c == 0))]⟩) ∧ H.le H' ∧ OpsH H' sv (toldOf f c).b.l ∧ Has 0 w0 W' (FoldAt H p f :: Fz H' :: R) := by
  refine enter Tryz.func50 Tryz.ntmps50 rfl rfl fun a hs => ?_
  repeat (first | (refine sxv hs hw ?_; clear hs; intro a hs) | refine sxc hs ?_ | (refine sxa hs hw ?_; clear hs hw; intro a b W hw hs) | (refine sxs hs hw ?_; clear hs hw; intro W hs hw) | ((with_reducible first | refine st_ptrSome hs (k := ?_) | refine st_ptrNone hs (k := ?_)); clear hs; intro a hs))
  obtain ⟨b4, q4⟩ := nm1 hw; subst q4
  refine st_call hs (hc := fold_Last w0 _ H p f c _ hw.swap2) (k := ?_); rintro e0 W1 ⟨rfl, hw1⟩; refine ⟨_, rfl, ?_⟩; clear hs hw; intro a hs; have hw := hw1; clear hw1
  repeat (first | (refine sxv hs hw ?_; clear hs; intro a hs) | refine sxc hs ?_ | (refine sxa hs hw ?_; clear hs hw; intro a b W hw hs) | (refine sxs hs hw ?_; clear hs hw; intro W hs hw) | ((with_reducible first | refine st_ptrSome hs (k := ?_) | refine st_ptrNone hs (k := ?_)); clear hs; intro a hs))
  cases h0 : (lastOf f c == 0) with
  | true =>
    rw [h0] at hs
    have hT : toldOf f c = zeroRow := by unfold toldOf; rw [if_pos (by simpa using h0)]
    repeat (first | (refine sxv hs hw ?_; clear hs; intro a hs) | refine sxc hs ?_ | (refine sxa hs hw ?_; clear hs hw; intro a b W hw hs) | (refine sxs hs hw ?_; clear hs hw; intro W hs hw) | ((with_reducible first | refine st_ptrSome hs (k := ?_) | refine st_ptrNone hs (k := ?_)); clear hs; intro a hs))
    refine rc2 hs rfl rfl hw (In.tl In.hd) rfl rfl ?_
    rw [hT]
    exact ⟨.slice none 0 0, H, rfl, Fh.le.refl _, ops_nil H, hw.sub (List.Sublist.cons_cons _ (List.Sublist.cons _ (List.Sublist.refl _)))⟩
  | false =>
    rw [h0] at hs
    have h0' : ¬ lastOf f c = 0 := by simpa using h0
    have hc : 1 ≤ c ∧ c ≤ 5 := by
      by_cases hc : 1 ≤ c ∧ c ≤ 5
      · exact hc
      · exfalso; apply h0'; unfold lastOf; rw [if_neg hc]
    obtain ⟨pd, xs, ht, hw⟩ := foldOpen hw
    obtain ⟨x, hx⟩ : ∃ x, f.told[c.toNat]? = some x := ⟨f.told[c.toNat]'(by rw [ht.1]; omega), List.getElem?_eq_getElem _⟩
    have hT : toldOf f c = x.2 := by unfold toldOf rowOf; rw [if_neg h0', if_pos hc, hx]; rfl
    have hx8 := h8 x (List.mem_of_getElem? hx)
    obtain ⟨sv, hsv, h6⟩ := told_get ht hx
    rw [hT]
    repeat (first | (refine sxv hs hw ?_; clear hs; intro a hs) | refine sxc hs ?_ | (refine sxa hs hw ?_; clear hs hw; intro a b W hw hs) | (refine sxs hs hw ?_; clear hs hw; intro W hs hw) | ((with_reducible first | refine st_ptrSome hs (k := ?_) | refine st_ptrNone hs (k := ?_)); clear hs; intro a hs))
    refine st_index_arr hs (h0 := by omega) (h1 := by omega) (c := ?_); clear hs; intro a hs
    repeat (first | (refine sxv hs hw ?_; clear hs; intro a hs) | refine sxc hs ?_ | (refine sxa hs hw ?_; clear hs hw; intro a b W hw hs) | (refine sxs hs hw ?_; clear hs hw; intro W hs hw) | ((with_reducible first | refine st_ptrSome hs (k := ?_) | refine st_ptrNone hs (k := ?_)); clear hs; intro a hs))
    refine st_load_ats (z := zrc) hs (cs := rowCells x.2 sv) (hc := fun j u hu => ?hcc) (hl := rfl) (c := ?_)
    case hcc =>
      rw [cell_block (hw.block In.hd).1]
      show (foldCells f.place pd xs)[0 + 2 + c.toNat * 6 + 1 + j]? = _
      rw [show 0 + 2 + c.toNat * 6 + 1 + j = c.toNat * 6 + (j + 1) + 1 + 1 by omega]
      have h9 := congrArg (fun t => t[j + 1]?) h6
      simp only [cut_eq, List.getElem?_take, List.getElem?_drop, List.getElem?_cons_succ] at h9
      rw [hu] at h9
      split at h9
      · simpa [foldCells] using h9
      · cases h9
    clear hs; intro a hs
    repeat (first | (refine sxv hs hw ?_; clear hs; intro a hs) | refine sxc hs ?_ | (refine sxa hs hw ?_; clear hs hw; intro a b W hw hs) | (refine sxs hs hw ?_; clear hs hw; intro W hs hw) | ((with_reducible first | refine st_ptrSome hs (k := ?_) | refine st_ptrNone hs (k := ?_)); clear hs; intro a hs))
    have hw : Has 0 w0 _ (Fz H :: Cells p (foldCells f.place pd xs) 126 :: DocAt pd f.d :: Cells b4 zrc 39 :: R) := hw.perm (by repeat (first | exact List.Perm.refl _ | refine perm_pick (by repeat (first | exact Pick.hd | apply Pick.tl)) ?_))
    refine st_call hs (hc := fold_own w0 _ H x.2 sv _ (by omega) hsv hw) (k := ?_); rintro e0 W1 ⟨sv', H', rfl, hle, hsv', hw1⟩; refine ⟨_, rfl, ?_⟩; clear hs hw; intro a hs; have hw := hw1; clear hw1
    obtain ⟨tad, tcap, rfl⟩ := hsv'.slice
    repeat (first | (refine sxv hs hw ?_; clear hs; intro a hs) | refine sxc hs ?_ | (refine sxa hs hw ?_; clear hs hw; intro a b W hw hs) | (refine sxs hs hw ?_; clear hs hw; intro W hs hw) | ((with_reducible first | refine st_ptrSome hs (k := ?_) | refine st_ptrNone hs (k := ?_)); clear hs; intro a hs))
    refine rc2 hs rfl rfl hw (In.tl (In.tl (In.tl In.hd))) rfl rfl ?_
    have hw : Has 0 w0 _ (Cells p (foldCells f.place pd xs) 126 :: DocAt pd f.d :: Cells b4 (rowCells x.2 (.slice tad x.2.b.l.length tcap)) 39 :: Fz H' :: R) := hw.perm (by repeat (first | exact List.Perm.refl _ | refine perm_pick (by repeat (first | exact Pick.hd | apply Pick.tl)) ?_))
    exact ⟨_, H', rfl, hle, hsv', (foldShut hw ht).sub (List.Sublist.cons_cons _ (List.Sublist.cons _ (List.Sublist.refl _)))⟩
end Go.Proofs.YtmalklakaalaoaaGreatDoor.Sw
