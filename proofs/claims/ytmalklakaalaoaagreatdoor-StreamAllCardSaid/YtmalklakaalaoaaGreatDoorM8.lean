/-
  Texts of the proof, one behind the other (part 8).
-/
import Derived.Test.YtmalklakaalaoaaGreatDoorM7
import Derived.Test.YtmalklakaalaoaaGreatDoorChecked
import Derived.Sort.Grow
import Derived.WalkKit
import Derived.WalkLawsBesides
import Derived.WalkSpells
import Derived.Lib.Hide
import Derived.Deep.QuietTactic
import Derived.BigQuiet
import Derived.Below
import Derived.Shelf.SlSortCmp.Whole1
import Derived.Shelf.SlIter.Collect
import Derived.Shelf.SlSortCmp.NoneTotal
import Derived.Ground.GgzProg
import Derived.Ground.SlsfProg
import Derived.Test.YtmalklakaalaoaaGreatDoorProg
import Derived.IntWalk
import Derived.Maps.Own
import Derived.Maps.Views
import Derived.Sort.KeysCollected
set_option linter.unusedVariables false
set_option maxRecDepth 10000
namespace Go.Sx
theorem ch_atH2 {α : Type} {Rr : α → List Value → Prop} {H : Fh} {sad : Option Addr} {scap n k : Nat} {l : List α} {xs : List Value} {i : Nat} {o : α} (hk : ∀ a c, Rr a c → c.length = k) (r : RdH H k (.slice sad n scap) n xs) (hc : Ch Rr l xs) (hn : l.length = n) (h : l[i]? = some o) :
    ∃ g off c, sad = some ⟨g, off, none⟩ ∧ Rr o c ∧ ∀ {H2 : Fh} {G : Nat} {w0 W : World} {L : List Res}, H.le H2 → In (Fz H2) L → Has G w0 W L → ∀ j u, c[j]? = some u → W.cell? ⟨g, off + i * k + j, none⟩ = some u := by
  have hi : i < l.length := (List.getElem?_eq_some_iff.1 h).1
  obtain ⟨c, h1, h2, h3⟩ := hc.get hk h
  obtain ⟨_, ad, cap, e, h4, h5, h6⟩ := r
  injection e with e1 e2 e3
  subst e1
  rcases h6 with h6 | ⟨b, off, cs, T, z, rfl, hb, hcell⟩
  · omega
  · refine ⟨b, off, c, rfl, h1, fun {H2 G w0 W L} hle hin hw j u hu => ?_⟩
    obtain ⟨F, hF, hfz⟩ := hw.of_in hin
    have hbl := (hfz b _ (hle _ _ hb)).2
    unfold World.cell?
    rw [hbl]
    rw [← h3, cut_eq, List.getElem?_take] at hu
    split at hu
    · rw [List.getElem?_drop] at hu
      have := hcell _ _ hu
      rw [← Nat.add_assoc] at this
      simpa using this
    · cases hu
end Go.Sx
namespace Go.Proofs.YtmalklakaalaoaaGreatDoor.Sw
open Go.RowKit Go.Sx
def RStreamAt (H : Fh) (p : Nat) (s : StreamD) : Res := Ex fun x : List Value × Value × List Value => Cells p (x.1 ++ [x.2.1]) 44 :: Sx.Own 39 5 x.2.1 s.l.length x.2.2 :: Fact (RfIn H s.f x.1 ∧ Ch (RowIn H) s.l x.2.2) :: []
section
variable {G p : Nat} {w W : World} {R : List Res} {s : StreamD} {H H' : Fh} {v : Value} {cs xs : List Value}
theorem rstreamShut (h : Has G w W (Cells p (cs ++ [v]) 44 :: Sx.Own 39 5 v s.l.length xs :: R)) (h1 : RfIn H s.f cs) (hc : Ch (RowIn H) s.l xs) : Has G w W (RStreamAt H p s :: R) :=
  Has.shut (cs, v, xs) ((h.fact (p := RfIn H s.f cs ∧ Ch (RowIn H) s.l xs) ⟨h1, hc⟩).perm (by repeat (first | exact List.Perm.refl _ | refine perm_pick (by repeat (first | exact Pick.hd | apply Pick.tl)) ?_)))
theorem rstreamOpen (h : Has G w W (RStreamAt H p s :: R)) : ∃ cs vad vcap xs, RfIn H s.f cs ∧ Ch (RowIn H) s.l xs ∧ Has G w W (Cells p (cs ++ [.slice vad s.l.length vcap]) 44 :: Sx.Own 39 5 (.slice vad s.l.length vcap) s.l.length xs :: R) := by
  obtain ⟨⟨cs, v, xs⟩, h⟩ := Has.open h
  have h : Has G w W (Cells p (cs ++ [v]) 44 :: Sx.Own 39 5 v s.l.length xs :: Fact (RfIn H s.f cs ∧ Ch (RowIn H) s.l xs) :: R) := h
  have hf := h.told (In.tl (In.tl In.hd))
  have h : Has G w W (Cells p (cs ++ [v]) 44 :: Sx.Own 39 5 v s.l.length xs :: R) := h.sub (List.Sublist.cons_cons _ (List.Sublist.cons_cons _ (List.Sublist.cons _ (List.Sublist.refl _))))
  obtain ⟨ad, cap, rfl⟩ := (h.swap2).own_slice
  exact ⟨cs, ad, cap, xs, hf.1, hf.2, h⟩
end
theorem at38 {cs : List Value} (h : cs.length = 38) (v : Value) : (cs ++ [v])[0 + 38]? = some v := by
  rw [List.getElem?_append_right (by omega)]
  simp [h]
theorem cut38 {cs : List Value} (h : cs.length = 38) (v : Value) : cut (cs ++ [v]) 0 38 = cs := by
  rw [cut_eq, List.drop_zero, List.take_append_of_le_length (by omega), List.take_of_length_le (by omega)]
theorem set38 {cs : List Value} (h : cs.length = 38) (v v' : Value) : ov (cs ++ [v]) (0 + 38) [v'] = cs ++ [v'] := by
  have := ov_right cs [v] [v'] 0 (by simp)
  rw [h] at this
  rw [show 0 + 38 = 38 + 0 from rfl, this]
  simp [ov]
theorem one_new {s : StreamD} {r : RowD} (hp : s.f.place = s.l.length) (hl : s.l.length ≤ 1000000) (h : r.place = (s.l.length : Int) + 1) : one s r = if (next s.f r.b).2.2 = true ∧ eqRow (next s.f r.b).2.1 r = true then (⟨(next s.f r.b).1, s.l ++ [(next s.f r.b).2.1]⟩, true, 0) else (s, false, 1) := by
  unfold one
  rw [if_neg (by omega), if_neg (by omega)]
  by_cases hok : (next s.f r.b).2.2 = true
  · have hn := (next_ok hok).2
    have e : ((next s.f r.b).2.1.err = r.err) ↔ eqRow (next s.f r.b).2.1 r = true := by
      rw [eqRow_iff, hn]
      show (nextR s.f r.b).err = r.err ↔ nextR s.f r.b = r
      constructor
      · intro he
        obtain ⟨pl, b, er⟩ := r
        simp only at h he
        unfold nextR at he ⊢
        simp only at he
        rw [he, hp, IntWalk.i64_in _ (by omega), h]
      · intro he; rw [he]
    by_cases he : (next s.f r.b).2.1.err = r.err
    · rw [if_pos ⟨hok, he⟩, if_pos ⟨hok, e.1 he⟩, eqRow_iff.1 (e.1 he)]
    · rw [if_neg (fun h => he h.2), if_neg (fun h => he (e.2 h.2))]
  · rw [if_neg (fun h => hok h.1), if_neg (fun h => hok h.1)]
theorem one_place {s : StreamD} {r : RowD} (hp : s.f.place = s.l.length) (hl : s.l.length ≤ 1000000) : (one s r).1.f.place = (one s r).1.l.length := by
  unfold one
  split
  · exact hp
  · split
    · split <;> exact hp
    · split
      · rename_i h
        rw [(next_ok h.1).2]
        show IntKind.i64.wrap (s.f.place + 1) = ((s.l ++ [r]).length : Nat)
        rw [hp, IntWalk.i64_in _ (by omega)]; simp
      · exact hp
theorem one_doc {s : StreamD} {r : RowD} (hd : DocOk s.f.d) (hb : BatOk r.b) : DocOk (one s r).1.f.d := by
  unfold one
  split
  · exact hd
  · split
    · split <;> exact hd
    · split
      · exact next_doc hd hb
      · exact hd
set_option maxHeartbeats 32000000 in
theorem ref_Take (w0 W : World) (H : Fh) (p : Nat) (s : StreamD) (rows : List RowD) (v : Value) (R : List Res) (hl : s.l.length + rows.length ≤ 1000000) (hb : ∀ r ∈ rows, RowOk r) (hr : RowsH H v rows) (hd : DocOk s.f.d) (hp : s.f.place = s.l.length) (hw : Has 0 w0 W (RStreamAt H p s :: Fz H :: R)) :
    Calls Tryz.prog 13 ⟨[.pointer (some ⟨p, 0, none⟩), v]⟩ W fun e W' => ∃ H', e = .returned (.tuple ⟨[.int .i64 ((takeN s 0 rows).2.1 : Nat), .int .i64 (takeN s 0 rows).2.2]⟩) ∧ H.le H' ∧ Has 0 w0 W' (RStreamAt H' p (takeN s 0 rows).1 :: Fz H' :: R) := by
  obtain ⟨xs, hr, hch⟩ := hr
  obtain ⟨sad, scap, rfl⟩ := hr.slice
  refine enter Tryz.func13 Tryz.ntmps13 rfl rfl fun a hs => ?_
  repeat (first | (refine sxv hs hw ?_; clear hs; intro a hs) | refine sxc hs ?_ | (refine sxa hs hw ?_; clear hs hw; intro a b W hw hs) | (refine sxs hs hw ?_; clear hs hw; intro W hs hw))
  refine st_loop (σ := Nat × Nat × StreamD × Fh) (fun t => [(0, .pointer (some ⟨p, 0, none⟩)), (1, .slice sad rows.length scap), (6, .int .i64 (t.2.1 : Int)), (7, .int .i64 (t.1 : Int))]) (fun t => RStreamAt t.2.2.2 p t.2.2.1 :: Fz t.2.2.2 :: R) (fun t => t.1 ≤ rows.length ∧ t.2.1 ≤ t.1 ∧ t.2.2.1.l.length ≤ s.l.length + t.1 ∧ DocOk t.2.2.1.f.d ∧ t.2.2.1.f.place = t.2.2.1.l.length ∧ H.le t.2.2.2 ∧ takeN t.2.2.1 t.2.1 (rows.drop t.1) = takeN s 0 rows) (fun t => rows.length - t.1) (0, 0, s, H) ⟨Nat.zero_le _, Nat.zero_le _, Nat.le_refl _, hd, hp, Fh.le.refl _, rfl⟩ hs ⟨rfl, rfl, rfl, rfl, trivial⟩ hw ?_
  clear hs hw hd hp
  rintro ⟨j, n, s', H'⟩ a W ⟨hj, hn, hsl, hd, hp, hH', hgo⟩ hs hw
  simp only at hj hn hsl hd hp hH' hgo hs hw
  repeat (first | (refine sxv hs hw ?_; clear hs; intro a hs) | refine sxc hs ?_ | (refine sxa hs hw ?_; clear hs hw; intro a b W hw hs) | (refine sxs hs hw ?_; clear hs hw; intro W hs hw))
  refine cd_split hs (kt := fun hcc => ?_) (kf := fun hcc => ?_)
  · have hj' : j < rows.length := by simpa using hcc
    obtain ⟨r, hri⟩ : ∃ o, rows[j]? = some o := ⟨rows[j], List.getElem?_eq_getElem hj'⟩
    have hok := hb r (List.mem_of_getElem? hri)
    have hpl := hok.place
    rw [drop_of hri] at hgo
    simp only [takeN] at hgo
    have hol := one_len s' r
    have hopl := one_place (r := r) hp (by omega)
    have hodo := one_doc (r := r) hd hok.b
    obtain ⟨cs, vad, vcap, ys, hf, hch2, hw⟩ := rstreamOpen hw
    have hlen0 := hf.len
    have hone0 := hf.one
    obtain ⟨g1, f1, c1, rfl, ⟨rv, rfl, hrv⟩, hrow0⟩ := ch_atH2 RowIn.len (hr.le hH') (hch.mono (RowIn.le hH')) rfl hri
    obtain ⟨rad, rcap, rfl⟩ := hrv.slice
    have hrow2 : ∀ {H2 : Fh} {W : World} {L : List Res}, H'.le H2 → In (Fz H2) L → Has 0 w0 W L → ∀ j' u, (rowCells r (.slice rad r.b.l.length rcap))[j']? = some u → W.cell? ⟨g1, f1 + j * 5 + j', none⟩ = some u := fun hl hi hw => hrow0 hl hi hw
    have hrow : ∀ {W : World} {L : List Res}, In (Fz H') L → Has 0 w0 W L → ∀ j' u, (rowCells r (.slice rad r.b.l.length rcap))[j']? = some u → W.cell? ⟨g1, f1 + j * 5 + j', none⟩ = some u := fun hi hw => hrow0 (Fh.le.refl _) hi hw
    clear hrow0
    repeat (first | (refine sxv hs hw ?_; clear hs; intro a hs) | refine sxc hs ?_ | (refine sxa hs hw ?_; clear hs hw; intro a b W hw hs) | (refine sxs hs hw ?_; clear hs hw; intro W hs hw))
    refine st_index_at hs (z := zrc) (h0 := by omega) (h1 := by omega) (c := ?_); clear hs; intro a hs
    repeat (first | (refine sxv hs hw ?_; clear hs; intro a hs) | refine sxc hs ?_ | (refine sxa hs hw ?_; clear hs hw; intro a b W hw hs) | (refine sxs hs hw ?_; clear hs hw; intro W hs hw))
    refine st_load_at hs (hc := hrow (In.tl (In.tl In.hd)) hw 0 _ rfl) (c := ?_); clear hs; intro a hs
    repeat (first | (refine sxv hs hw ?_; clear hs; intro a hs) | refine sxc hs ?_ | (refine sxa hs hw ?_; clear hs hw; intro a b W hw hs) | (refine sxs hs hw ?_; clear hs hw; intro W hs hw))
    refine st_load_one hs (hw := hw) (hi := In.hd) (hv := at38 hlen0 _) (k := ?_); clear hs; intro a hs
    repeat (first | (refine sxv hs hw ?_; clear hs; intro a hs) | refine sxc hs ?_ | (refine sxa hs hw ?_; clear hs hw; intro a b W hw hs) | (refine sxs hs hw ?_; clear hs hw; intro W hs hw))
    rw [IntWalk.i64_in ((s'.l.length : Int) + 1) (by omega)] at hs
    replace hs : Slots a 104 [(32, .bool (decide (r.place > (s'.l.length : Int) + 1))), (0, .pointer (some ⟨p, 0, none⟩)), (1, .slice (some ⟨g1, f1, none⟩) rows.length scap), (6, .int .i64 (n : Int)), (7, .int .i64 (j : Int)), (8, .int .i64 r.place), (9, .int .i64 ((s'.l.length : Int) + 1))] := hs.of ⟨rfl, rfl, rfl, rfl, rfl, rfl, rfl, trivial⟩
    have stop : ∀ {e : Int} (he : e ≠ 0), one s' r = (s', false, e) → Has 0 w0 W (RStreamAt H' p s' :: Fz H' :: R) → True := fun _ _ _ => trivial
    clear stop
    repeat (first | (refine sxv hs hw ?_; clear hs; intro a hs) | refine sxc hs ?_ | (refine sxa hs hw ?_; clear hs hw; intro a b W hw hs) | (refine sxs hs hw ?_; clear hs hw; intro W hs hw))
    cases h32 : decide (r.place > (s'.l.length : Int) + 1) with
    | true =>
      rw [h32] at hs
      have hone : one s' r = (s', false, 2) := by unfold one; rw [if_pos (of_decide_eq_true h32)]
      rw [hone, if_neg (by show ¬ (2 : Int) = 0; decide)] at hgo
      repeat (first | (refine sxv hs hw ?_; clear hs; intro a hs) | refine sxc hs ?_ | (refine sxa hs hw ?_; clear hs hw; intro a b W hw hs) | (refine sxs hs hw ?_; clear hs hw; intro W hs hw))
      rw [← hgo]
      exact rt2 hs rfl rfl rfl ⟨H', rfl, hH', rstreamShut hw hf hch2⟩
    | false =>
    rw [h32] at hs
    have g32 := of_decide_eq_false h32
    repeat (first | (refine sxv hs hw ?_; clear hs; intro a hs) | refine sxc hs ?_ | (refine sxa hs hw ?_; clear hs hw; intro a b W hw hs) | (refine sxs hs hw ?_; clear hs hw; intro W hs hw))
    cases h1 : decide (r.place < 1) with
    | true =>
      have k1 := of_decide_eq_true h1
      have hone : one s' r = (s', false, 1) := by unfold one; rw [if_neg g32, if_pos (by omega), if_pos (.inl k1)]
      refine rg_draw (V := [.int .i64 r.place, .bool true, .bool true, undef, undef, undef, undef, undef, undef, undef, undef, undef, undef, undef, undef, undef, undef, undef, undef, undef, undef, undef, .bool true]) (Rs := fun D => Cells p (cs ++ [.slice vad s'.l.length vcap]) 44 :: Sx.Own 39 5 (.slice vad s'.l.length vcap) s'.l.length ys :: Fz H' :: R) hs hw (ho := ⟨?_, ?c1_1, ?_, ?_, ?_, ?_, ?_, ?_, ?_, ?_, ?_, ?_, ?_, ?_, ?_, ?_, ?_, ?_, ?_, ?_, ?_, ?_, ?_, trivial⟩) (k := ?k_1)
      case c1_1 =>
        intro LD D a W hcl hi hp hs hw
        repeat (first | (refine sxv hs hw ?_; clear hs; intro a hs) | refine sxc hs ?_ | (refine sxa hs hw ?_; clear hs hw; intro a b W hw hs) | (refine sxs hs hw ?_; clear hs hw; intro W hs hw))
        rw [h1] at hs
        exact ⟨hs, hw⟩
      case k_1 =>
        clear hs hw
        intro a W hs hw
        replace hs : Slots a 104 [(56, .bool true), (0, .pointer (some ⟨p, 0, none⟩)), (1, .slice (some ⟨g1, f1, none⟩) rows.length scap), (6, .int .i64 (n : Int)), (7, .int .i64 (j : Int)), (8, .int .i64 r.place), (9, .int .i64 ((s'.l.length : Int) + 1))] := hs.of ⟨rfl, rfl, rfl, rfl, rfl, rfl, rfl, trivial⟩
        rw [hone, if_neg (by show ¬ (1 : Int) = 0; decide)] at hgo
        repeat (first | (refine sxv hs hw ?_; clear hs; intro a hs) | refine sxc hs ?_ | (refine sxa hs hw ?_; clear hs hw; intro a b W hw hs) | (refine sxs hs hw ?_; clear hs hw; intro W hs hw))
        rw [← hgo]
        exact rt2 hs rfl rfl rfl ⟨H', rfl, hH', rstreamShut hw hf hch2⟩
      all_goals
        intro LD D a W hcl hi hp hs hw
        repeat (first | (refine sxv hs hw ?_; clear hs; intro a hs) | refine sxc hs ?_ | (refine sxa hs hw ?_; clear hs hw; intro a b W hw hs) | (refine sxs hs hw ?_; clear hs hw; intro W hs hw))
        exact ⟨hs, hw⟩
    | false =>
    have k1 := of_decide_eq_false h1
    cases h2 : decide (r.place < (s'.l.length : Int) + 1) with
    | true =>
      have k2 := of_decide_eq_true h2
      obtain ⟨i, hi0⟩ : ∃ i : Nat, r.place - 1 = i := ⟨(r.place - 1).toNat, by omega⟩
      have hi' : i < s'.l.length := by omega
      have hwrap : IntKind.i64.wrap (r.place - 1) = (i : Int) := by rw [IntWalk.i64_in _ (by omega)]; omega
      obtain ⟨x, hx⟩ : ∃ x, s'.l[i]? = some x := ⟨s'.l[i], List.getElem?_eq_getElem hi'⟩
      obtain ⟨cx, ⟨tv, rfl, hxv⟩, hcx, hcut⟩ := hch2.get RowIn.len hx
      have hone : one s' r = if eqRow x r = true then (s', false, 0) else (s', false, 1) := by
        unfold one
        rw [if_neg g32, if_pos k2, hi0, Int.toNat_natCast]
        cases hsm : eqRow x r with
        | true =>
          rw [if_neg, if_pos rfl]
          rintro (h | h)
          · exact k1 h
          · exact h ⟨x, hx, sameR_iff.2 (eqRow_iff.1 hsm).symm⟩
        | false =>
          rw [if_pos, if_neg (by decide)]
          exact .inr fun ⟨y, hy, hs⟩ => by rw [hx] at hy; cases hy; rw [eqRow_iff.2 (sameR_iff.1 hs).symm] at hsm; cases hsm
      have hwo : Has 0 w0 W (Sx.Own 39 5 (.slice vad s'.l.length vcap) s'.l.length ys :: Cells p (cs ++ [.slice vad s'.l.length vcap]) 44 :: Fz H' :: R) := hw.perm (by repeat (first | exact List.Perm.refl _ | refine perm_pick (by repeat (first | exact Pick.hd | apply Pick.tl)) ?_))
      obtain ⟨g, cur, hadg, hcur, hcl0, hkc, hcm, hwo2⟩ := hwo.open_own (by omega)
      clear hwo hw
      obtain rfl := hadg
      have hcut2 : ∀ j u, (rowCells x tv)[j]? = some u → cur[i * 5 + j]? = some u := by
        intro j u hu
        have h1 := congrArg (fun t => t[j]?) hcut
        simp only [cut_eq, List.getElem?_take, List.getElem?_drop, hu] at h1
        split at h1
        · rw [← hcur, List.getElem?_take] at h1
          split at h1
          · exact h1
          · cases h1
        · cases h1
      have hw : Has 0 w0 W (Cells g cur 39 :: Cells p (cs ++ [.slice (some ⟨g, 0, none⟩) s'.l.length vcap]) 44 :: Fz H' :: R) := hwo2
      clear hwo2
      obtain ⟨tad, tcap, rfl⟩ := hxv.slice
      refine rg_draw (V := [.int .i64 r.place, .bool false, .bool false, .int .i64 r.place, .int .i64 ((s'.l.length : Int) + 1), .bool true, .bool true, .pointer (some ⟨p, 0, none⟩), .pointer (some ⟨p, 0, none⟩), .pointer (some ⟨p, 0 + 38, none⟩), .slice (some ⟨g, 0, none⟩) s'.l.length vcap, .int .i64 r.place, .int .i64 (i : Int), .pointer (some ⟨g, 0 + i * 5, none⟩), .agg ⟨rowCells x (.slice tad x.b.l.length tcap)⟩, .slice (some ⟨g1, f1, none⟩) rows.length scap, .int .i64 (j : Int), .pointer (some ⟨g1, f1 + j * 5, none⟩), .agg ⟨rowCells r (.slice rad r.b.l.length rcap)⟩, .bool (eqRow x r), .bool (!eqRow x r), .bool (!eqRow x r), .bool (!eqRow x r)]) (Rs := fun D => Cells g cur 39 :: Cells p (cs ++ [.slice (some ⟨g, 0, none⟩) s'.l.length vcap]) 44 :: Fz H' :: R) hs hw (ho := ⟨?_, ?c1_2, ?_, ?_, ?_, ?c5_2, ?_, ?_, ?_, ?_, ?c10_2, ?_, ?c12_2, ?c13_2, ?c14_2, ?_, ?_, ?c17_2, ?c18_2, ?c19_2, ?_, ?_, ?_, trivial⟩) (k := ?k_2)
      case c1_2 =>
        intro LD D a W hcl hi hp hs hw
        repeat (first | (refine sxv hs hw ?_; clear hs; intro a hs) | refine sxc hs ?_ | (refine sxa hs hw ?_; clear hs hw; intro a b W hw hs) | (refine sxs hs hw ?_; clear hs hw; intro W hs hw))
        rw [h1] at hs
        exact ⟨hs, hw⟩
      case c5_2 =>
        intro LD D a W hcl hi hp hs hw
        repeat (first | (refine sxv hs hw ?_; clear hs; intro a hs) | refine sxc hs ?_ | (refine sxa hs hw ?_; clear hs hw; intro a b W hw hs) | (refine sxs hs hw ?_; clear hs hw; intro W hs hw))
        rw [h2] at hs
        exact ⟨hs, hw⟩
      case c10_2 =>
        intro LD D a W hcl hi hp hs hw
        repeat (first | (refine sxv hs hw ?_; clear hs; intro a hs) | refine sxc hs ?_ | (refine sxa hs hw ?_; clear hs hw; intro a b W hw hs) | (refine sxs hs hw ?_; clear hs hw; intro W hs hw))
        refine st_load_one hs (hw := hw) (hi := In.tl In.hd) (hv := at38 hlen0 _) (k := ?_); clear hs; intro a hs
        repeat (first | (refine sxv hs hw ?_; clear hs; intro a hs) | refine sxc hs ?_ | (refine sxa hs hw ?_; clear hs hw; intro a b W hw hs) | (refine sxs hs hw ?_; clear hs hw; intro W hs hw))
        exact ⟨hs, hw⟩
      case c12_2 =>
        intro LD D a W hcl hi hp hs hw
        repeat (first | (refine sxv hs hw ?_; clear hs; intro a hs) | refine sxc hs ?_ | (refine sxa hs hw ?_; clear hs hw; intro a b W hw hs) | (refine sxs hs hw ?_; clear hs hw; intro W hs hw))
        rw [hwrap] at hs
        exact ⟨hs, hw⟩
      case c13_2 =>
        intro LD D a W hcl hi hp hs hw
        repeat (first | (refine sxv hs hw ?_; clear hs; intro a hs) | refine sxc hs ?_ | (refine sxa hs hw ?_; clear hs hw; intro a b W hw hs) | (refine sxs hs hw ?_; clear hs hw; intro W hs hw))
        refine st_index_at hs (z := zrc) (h0 := by omega) (h1 := by omega) (c := ?_); clear hs; intro a hs
        repeat (first | (refine sxv hs hw ?_; clear hs; intro a hs) | refine sxc hs ?_ | (refine sxa hs hw ?_; clear hs hw; intro a b W hw hs) | (refine sxs hs hw ?_; clear hs hw; intro W hs hw))
        exact ⟨hs, hw⟩
      case c14_2 =>
        intro LD D a W hcl hi hp hs hw
        repeat (first | (refine sxv hs hw ?_; clear hs; intro a hs) | refine sxc hs ?_ | (refine sxa hs hw ?_; clear hs hw; intro a b W hw hs) | (refine sxs hs hw ?_; clear hs hw; intro W hs hw))
        refine st_load_ats (z := zrc) hs (cs := rowCells x (.slice tad x.b.l.length tcap)) (hc := fun j u h => by rw [cell_block (hw.block In.hd).1, Nat.zero_add]; exact hcut2 j u h) (hl := by rfl) (c := ?_); clear hs; intro a hs
        repeat (first | (refine sxv hs hw ?_; clear hs; intro a hs) | refine sxc hs ?_ | (refine sxa hs hw ?_; clear hs hw; intro a b W hw hs) | (refine sxs hs hw ?_; clear hs hw; intro W hs hw))
        exact ⟨hs, hw⟩
      case c17_2 =>
        intro LD D a W hcl hi hp hs hw
        repeat (first | (refine sxv hs hw ?_; clear hs; intro a hs) | refine sxc hs ?_ | (refine sxa hs hw ?_; clear hs hw; intro a b W hw hs) | (refine sxs hs hw ?_; clear hs hw; intro W hs hw))
        refine st_index_at hs (z := zrc) (h0 := by omega) (h1 := by omega) (c := ?_); clear hs; intro a hs
        repeat (first | (refine sxv hs hw ?_; clear hs; intro a hs) | refine sxc hs ?_ | (refine sxa hs hw ?_; clear hs hw; intro a b W hw hs) | (refine sxs hs hw ?_; clear hs hw; intro W hs hw))
        exact ⟨hs, hw⟩
      case c18_2 =>
        intro LD D a W hcl hi hp hs hw
        repeat (first | (refine sxv hs hw ?_; clear hs; intro a hs) | refine sxc hs ?_ | (refine sxa hs hw ?_; clear hs hw; intro a b W hw hs) | (refine sxs hs hw ?_; clear hs hw; intro W hs hw))
        refine st_load_ats (z := zrc) hs (cs := rowCells r (.slice rad r.b.l.length rcap)) (hc := fun j u h => hrow (by repeat (first | exact In.hd | apply In.tl)) hw j u h) (hl := by rfl) (c := ?_); clear hs; intro a hs
        repeat (first | (refine sxv hs hw ?_; clear hs; intro a hs) | refine sxc hs ?_ | (refine sxa hs hw ?_; clear hs hw; intro a b W hw hs) | (refine sxs hs hw ?_; clear hs hw; intro W hs hw))
        exact ⟨hs, hw⟩
      case c19_2 =>
        intro LD D a W hcl hi hp hs hw
        repeat (first | (refine sxv hs hw ?_; clear hs; intro a hs) | refine sxc hs ?_ | (refine sxa hs hw ?_; clear hs hw; intro a b W hw hs) | (refine sxs hs hw ?_; clear hs hw; intro W hs hw))
        refine st_call hs (hc := ref_EqRow x r _ _ _ (hw.rdH (by repeat (first | exact In.hd | apply In.tl)) hxv) (hw.rdH (by repeat (first | exact In.hd | apply In.tl)) hrv)) (k := ?_); rintro e0 W1 ⟨rfl, hb⟩; refine ⟨_, rfl, ?_⟩; clear hs; intro a hs; replace hw := hw.below hb; clear hb
        repeat (first | (refine sxv hs hw ?_; clear hs; intro a hs) | refine sxc hs ?_ | (refine sxa hs hw ?_; clear hs hw; intro a b W hw hs) | (refine sxs hs hw ?_; clear hs hw; intro W hs hw))
        exact ⟨hs, hw⟩
      case k_2 =>
        clear hs hw
        intro a W hs hw
        replace hs : Slots a 104 [(56, .bool (!eqRow x r)), (0, .pointer (some ⟨p, 0, none⟩)), (1, .slice (some ⟨g1, f1, none⟩) rows.length scap), (6, .int .i64 (n : Int)), (7, .int .i64 (j : Int)), (8, .int .i64 r.place), (9, .int .i64 ((s'.l.length : Int) + 1))] := hs.of ⟨rfl, rfl, rfl, rfl, rfl, rfl, rfl, trivial⟩
        replace hw : Has 0 w0 W (Cells g cur 39 :: Cells p (cs ++ [.slice (some ⟨g, 0, none⟩) s'.l.length vcap]) 44 :: Fz H' :: R) := hw
        have hw := (hw.shut_own (k := s'.l.length) (size := 5) hcur hcl0 hkc hcm).swap2
        cases he : eqRow x r with
        | false =>
          rw [he] at hs hone
          rw [if_neg (by decide)] at hone
          rw [hone, if_neg (by show ¬ (1 : Int) = 0; decide)] at hgo
          repeat (first | (refine sxv hs hw ?_; clear hs; intro a hs) | refine sxc hs ?_ | (refine sxa hs hw ?_; clear hs hw; intro a b W hw hs) | (refine sxs hs hw ?_; clear hs hw; intro W hs hw))
          rw [← hgo]
          exact rt2 hs rfl rfl rfl ⟨H', rfl, hH', rstreamShut hw hf hch2⟩
        | true =>
          rw [he] at hs hone
          rw [if_pos rfl] at hone
          rw [hone, if_pos rfl, if_neg (by show ¬ false = true; decide)] at hgo
          repeat (first | (refine sxv hs hw ?_; clear hs; intro a hs) | refine sxc hs ?_ | (refine sxa hs hw ?_; clear hs hw; intro a b W hw hs) | (refine sxs hs hw ?_; clear hs hw; intro W hs hw))
          rw [h2] at hs
          repeat (first | (refine sxv hs hw ?_; clear hs; intro a hs) | refine sxc hs ?_ | (refine sxa hs hw ?_; clear hs hw; intro a b W hw hs) | (refine sxs hs hw ?_; clear hs hw; intro W hs hw))
          exact st_again (j + 1, n, s', H') hs (rstreamShut hw hf hch2) ⟨hj', by show n ≤ j + 1; omega, by show s'.l.length ≤ s.l.length + (j + 1); omega, hd, hp, hH', hgo⟩ (by show rows.length - (j + 1) < rows.length - j; omega) ⟨rfl, rfl, rfl, int_eq (by show IntKind.i64.wrap ((j : Int) + 1) = ((j + 1 : Nat) : Int); rw [IntWalk.i64_in _ (by omega)]; omega), trivial⟩
      all_goals
        intro LD D a W hcl hi hp hs hw
        repeat (first | (refine sxv hs hw ?_; clear hs; intro a hs) | refine sxc hs ?_ | (refine sxa hs hw ?_; clear hs hw; intro a b W hw hs) | (refine sxs hs hw ?_; clear hs hw; intro W hs hw))
        exact ⟨hs, hw⟩
    | false =>
    have k2 := of_decide_eq_false h2
    have hone := one_new (r := r) hp (by omega) (by omega)
    refine rg_draw (V := [.int .i64 r.place, .bool false, .bool false, .int .i64 r.place, .int .i64 ((s'.l.length : Int) + 1), .bool false, .bool false, undef, undef, undef, undef, undef, undef, undef, undef, undef, undef, undef, undef, undef, undef, .bool false, .bool false]) (Rs := fun D => Cells p (cs ++ [.slice vad s'.l.length vcap]) 44 :: Sx.Own 39 5 (.slice vad s'.l.length vcap) s'.l.length ys :: Fz H' :: R) hs hw (ho := ⟨?_, ?c1_3, ?_, ?_, ?_, ?c5_3, ?_, ?_, ?_, ?_, ?_, ?_, ?_, ?_, ?_, ?_, ?_, ?_, ?_, ?_, ?_, ?_, ?_, trivial⟩) (k := ?k_3)
    case c1_3 =>
      intro LD D a W hcl hi hp hs hw
      repeat (first | (refine sxv hs hw ?_; clear hs; intro a hs) | refine sxc hs ?_ | (refine sxa hs hw ?_; clear hs hw; intro a b W hw hs) | (refine sxs hs hw ?_; clear hs hw; intro W hs hw))
      rw [h1] at hs
      exact ⟨hs, hw⟩
    case c5_3 =>
      intro LD D a W hcl hi hp hs hw
      repeat (first | (refine sxv hs hw ?_; clear hs; intro a hs) | refine sxc hs ?_ | (refine sxa hs hw ?_; clear hs hw; intro a b W hw hs) | (refine sxs hs hw ?_; clear hs hw; intro W hs hw))
      rw [h2] at hs
      exact ⟨hs, hw⟩
    case k_3 =>
      clear hs hw
      intro a W hs hw
      replace hs : Slots a 104 [(56, .bool false), (0, .pointer (some ⟨p, 0, none⟩)), (1, .slice (some ⟨g1, f1, none⟩) rows.length scap), (6, .int .i64 (n : Int)), (7, .int .i64 (j : Int)), (8, .int .i64 r.place), (9, .int .i64 ((s'.l.length : Int) + 1))] := hs.of ⟨rfl, rfl, rfl, rfl, rfl, rfl, rfl, trivial⟩
      replace hw : Has 0 w0 W (Cells p (cs ++ [.slice vad s'.l.length vcap]) 44 :: Sx.Own 39 5 (.slice vad s'.l.length vcap) s'.l.length ys :: Fz H' :: R) := hw
      repeat (first | (refine sxv hs hw ?_; clear hs; intro a hs) | refine sxc hs ?_ | (refine sxa hs hw ?_; clear hs hw; intro a b W hw hs) | (refine sxs hs hw ?_; clear hs hw; intro W hs hw))
      rw [h2] at hs
      repeat (first | (refine sxv hs hw ?_; clear hs; intro a hs) | refine sxc hs ?_ | (refine sxa hs hw ?_; clear hs hw; intro a b W hw hs) | (refine sxs hs hw ?_; clear hs hw; intro W hs hw))
      obtain ⟨N, hN⟩ : ∃ N, next s'.f r.b = N := ⟨_, rfl⟩
      have hdn := next_doc hd hok.b
      rw [hN] at hone hdn
      have hw : Has 0 w0 W (Fz H' :: Free :: Free :: Free :: Free :: Free :: Cells p (cs ++ [.slice vad s'.l.length vcap]) 44 :: Sx.Own 39 5 (.slice vad s'.l.length vcap) s'.l.length ys :: R) := (hw.free.free.free.free.free).perm (by repeat (first | exact List.Perm.refl _ | refine perm_pick (by repeat (first | exact Pick.hd | apply Pick.tl)) ?_))
      refine rg_drawU (σ := List Value × Value × Fh × Nat) (V := fun u => [.pointer (some ⟨p, 0, none⟩), .pointer (some ⟨p, 0, none⟩), .pointer (some ⟨p, 0 + 0, none⟩), .agg ⟨cs⟩, .slice (some ⟨g1, f1, none⟩) rows.length scap, .int .i64 (j : Int), .pointer (some ⟨g1, f1 + j * 5, none⟩), .pointer (some ⟨g1, f1 + j * 5 + 1, none⟩), .agg ⟨batCells r.b (.slice rad r.b.l.length rcap)⟩, .tuple ⟨[.agg ⟨(u 9).1⟩, .agg ⟨rowCells N.2.1 (u 9).2.1⟩, .bool N.2.2]⟩, .tuple ⟨[.agg ⟨(u 10).1⟩, .agg ⟨rowCells N.2.1 (u 10).2.1⟩, .bool N.2.2]⟩, .agg ⟨(u 11).1⟩, .agg ⟨rowCells N.2.1 (u 12).2.1⟩, .bool N.2.2, .pointer (some ⟨(u 14).2.2.2, 0, none⟩), .pointer (some ⟨(u 15).2.2.2, 0, none⟩), .bool true, .bool true, .bool N.2.2]) (Rs := fun u D => (if D 9 then FzF (u 9).2.2.1 (H'.le (u 9).2.2.1 ∧ RfIn (u 9).2.2.1 N.1 (u 9).1 ∧ OpsH (u 9).2.2.1 (u 9).2.1 N.2.1.b.l) else Fz H') :: (if D 14 then Cells (u 14).2.2.2 (if D 16 then (u 9).1 else zrf) 42 else Free) :: (if D 15 then Cells (u 15).2.2.2 (if D 17 then rowCells N.2.1 (u 9).2.1 else zrc) 39 else Free) :: (if D 10 then Fact (u 10 = u 9) else Free) :: (if D 11 then Fact (u 11 = u 10) else Free) :: (if D 12 then Fact (u 12 = u 10) else Free) :: Cells p (cs ++ [.slice vad s'.l.length vcap]) 44 :: Sx.Own 39 5 (.slice vad s'.l.length vcap) s'.l.length ys :: R) (fun _ => ([], .nilIface, H, 0)) hs hw (hVu := ?vu_4) (ho := ⟨?_, ?_, ?_, ?c3_4, ?_, ?_, ?c6_4, ?_, ?c8_4, ?c9_4, ?c10_4, ?c11_4, ?c12_4, ?_, ?c14_4, ?c15_4, ?c16_4, ?c17_4, ?_, trivial⟩) (k := ?k_4)
      case vu_4 =>
        intro u u' j h
        rcases j with _ | _ | _ | _ | _ | _ | _ | _ | _ | _ | _ | _ | _ | _ | _ | _ | _ | _ | _ | j
        all_goals first | rfl | simp [h]
      case c3_4 =>
        intro u LD D a W hcl hi hp hs hw
        refine st_load_agg hs (hw := hw) (hi := In.tl (In.tl (In.tl (In.tl (In.tl (In.tl In.hd)))))) (hl := by rw [List.length_append, hlen0]; rfl) (k := ?_); clear hs; intro a hs
        have hs2 : Slots a 104 ((65, .agg ⟨cut (cs ++ [.slice vad s'.l.length vcap]) 0 38⟩) :: _) := hs
        rw [cut38 hlen0] at hs2
        repeat (first | (refine sxv hs hw ?_; clear hs; intro a hs) | refine sxc hs ?_ | (refine sxa hs hw ?_; clear hs hw; intro a b W hw hs) | (refine sxs hs hw ?_; clear hs hw; intro W hs hw))
        exact Or.inl ⟨hs2, hw⟩
      case c6_4 =>
        intro u LD D a W hcl hi hp hs hw
        refine st_index_at hs (z := zrc) (h0 := by omega) (h1 := by omega) (c := ?_); clear hs; intro a hs
        repeat (first | (refine sxv hs hw ?_; clear hs; intro a hs) | refine sxc hs ?_ | (refine sxa hs hw ?_; clear hs hw; intro a b W hw hs) | (refine sxs hs hw ?_; clear hs hw; intro W hs hw))
        exact Or.inl ⟨hs, hw⟩
      case c8_4 =>
        intro u LD D a W hcl hi hp hs hw
        have h9 := Go.Sx.not_done hcl hi 9 (by kernel_rfl)
        have hw0 := hw
        simp only [h9, Bool.false_eq_true, if_false] at hw
        refine st_load_ats hs (z := [.int .i64 0, .int .i64 0, .slice none 0 0]) (cs := batCells r.b (.slice rad r.b.l.length rcap)) (hc := fun jj u h => by rw [Nat.add_assoc, Nat.add_comm 1 jj]; refine hrow In.hd hw (jj + 1) u ?_; rcases jj with _ | _ | _ | jj <;> first | exact h | (simp [batCells] at h)) (hl := rfl) (c := ?_); clear hs; intro a hs
        repeat (first | (refine sxv hs hw ?_; clear hs; intro a hs) | refine sxc hs ?_ | (refine sxa hs hw ?_; clear hs hw; intro a b W hw hs) | (refine sxs hs hw ?_; clear hs hw; intro W hs hw))
        exact Or.inl ⟨hs, hw0⟩
      case c9_4 =>
        intro u LD D a W hcl hi hp hs hw
        have h10 := Go.Sx.not_done hcl hi 10 (by kernel_rfl)
        have h16 := Go.Sx.not_done hcl (Go.Sx.not_done hcl h10 11 (by kernel_rfl)) 16 (by kernel_rfl)
        have h17 := Go.Sx.not_done hcl (Go.Sx.not_done hcl h10 12 (by kernel_rfl)) 17 (by kernel_rfl)
        simp only [hi, h10, h16, h17, Bool.false_eq_true, if_false] at hw
        refine st_call hs (hc := ref7_Next w0 _ H' s'.f r.b cs _ _ hf hd hok.b hrv hw) (k := ?_); rw [hN]; rintro e0 W1 ⟨cs', sv', H2, rfl, hle, hf2, hsv, hw1⟩; refine ⟨_, rfl, ?_⟩; clear hs hw; intro a hs; have hw := hw1; clear hw1
        repeat (first | (refine sxv hs hw ?_; clear hs; intro a hs) | refine sxc hs ?_ | (refine sxa hs hw ?_; clear hs hw; intro a b W hw hs) | (refine sxs hs hw ?_; clear hs hw; intro W hs hw))
        refine Or.inr ⟨(cs', sv', H2, 0), hs, ?_⟩
        have hw := hw.fzf (q := H'.le H2 ∧ RfIn H2 N.1 cs' ∧ OpsH H2 sv' N.2.1.b.l) ⟨hle, hf2, hsv⟩
        show Has 0 w0 _ (_ :: (if D 14 then Cells (u 14).2.2.2 (if (Nat.beq 16 9 || D 16) = true then _ else _) _ else Free) :: (if D 15 then Cells (u 15).2.2.2 (if (Nat.beq 17 9 || D 17) = true then _ else _) _ else Free) :: (if (Nat.beq 10 9 || D 10) = true then _ else _) :: _)
        rw [h10, h16, h17]
        exact hw
      case c10_4 =>
        intro u LD D a W hcl hi hp hs hw
        have h11 := Go.Sx.not_done hcl hi 11 (by kernel_rfl)
        have h12 := Go.Sx.not_done hcl hi 12 (by kernel_rfl)
        simp only [hi, h11, h12, Bool.false_eq_true, if_false] at hw
        repeat (first | (refine sxv hs hw ?_; clear hs; intro a hs) | refine sxc hs ?_ | (refine sxa hs hw ?_; clear hs hw; intro a b W hw hs) | (refine sxs hs hw ?_; clear hs hw; intro W hs hw))
        refine Or.inr ⟨u 9, hs, ?_⟩
        show Has 0 w0 _ (_ :: _ :: _ :: Fact (u 9 = u 9) :: (if (Nat.beq 11 10 || D 11) = true then _ else _) :: (if (Nat.beq 12 10 || D 12) = true then _ else _) :: _)
        rw [h11, h12]
        exact (hw.fact rfl).fill (Upd.tl (Upd.tl (Upd.tl Upd.hd)))
      case c11_4 =>
        intro u LD D a W hcl hi hp hs hw
        simp only [hi, Bool.false_eq_true, if_false] at hw
        repeat (first | (refine sxv hs hw ?_; clear hs; intro a hs) | refine sxc hs ?_ | (refine sxa hs hw ?_; clear hs hw; intro a b W hw hs) | (refine sxs hs hw ?_; clear hs hw; intro W hs hw))
        refine Or.inr ⟨u 10, hs, ?_⟩
        show Has 0 w0 _ (_ :: _ :: _ :: _ :: Fact (u 10 = u 10) :: _)
        exact (hw.fact rfl).fill (Upd.tl (Upd.tl (Upd.tl (Upd.tl Upd.hd))))
      case c12_4 =>
        intro u LD D a W hcl hi hp hs hw
        simp only [hi, Bool.false_eq_true, if_false] at hw
        repeat (first | (refine sxv hs hw ?_; clear hs; intro a hs) | refine sxc hs ?_ | (refine sxa hs hw ?_; clear hs hw; intro a b W hw hs) | (refine sxs hs hw ?_; clear hs hw; intro W hs hw))
        refine Or.inr ⟨u 10, hs, ?_⟩
        show Has 0 w0 _ (_ :: _ :: _ :: _ :: _ :: Fact (u 10 = u 10) :: _)
        exact (hw.fact rfl).fill (Upd.tl (Upd.tl (Upd.tl (Upd.tl (Upd.tl Upd.hd)))))
      case c14_4 =>
        intro u LD D a W hcl hi hp hs hw
        have h16 := Go.Sx.not_done hcl hi 16 (by kernel_rfl)
        simp only [hi, Bool.false_eq_true, if_false] at hw
        repeat (first | (refine sxv hs hw ?_; clear hs; intro a hs) | refine sxc hs ?_ | (refine sxa hs hw ?_; clear hs hw; intro a b W hw hs) | (refine sxs hs hw ?_; clear hs hw; intro W hs hw))
        refine Or.inr ⟨([], .nilIface, H, _), hs, ?_⟩
        show Has 0 w0 _ (_ :: Cells _ (if (Nat.beq 16 14 || D 16) = true then _ else _) _ :: _ :: _)
        rw [h16]
        exact hw.fill (Upd.tl Upd.hd)
      case c15_4 =>
        intro u LD D a W hcl hi hp hs hw
        have h17 := Go.Sx.not_done hcl hi 17 (by kernel_rfl)
        simp only [hi, Bool.false_eq_true, if_false] at hw
        repeat (first | (refine sxv hs hw ?_; clear hs; intro a hs) | refine sxc hs ?_ | (refine sxa hs hw ?_; clear hs hw; intro a b W hw hs) | (refine sxs hs hw ?_; clear hs hw; intro W hs hw))
        refine Or.inr ⟨([], .nilIface, H, _), hs, ?_⟩
        show Has 0 w0 _ (_ :: _ :: Cells _ (if (Nat.beq 17 15 || D 17) = true then _ else _) _ :: _)
        rw [h17]
        exact hw.fill (Upd.tl (Upd.tl Upd.hd))
      case c16_4 =>
        intro u LD D a W hcl hi hp hs hw
        have h11 := Go.Sx.done hp 11 (by kernel_rfl)
        have h14 := Go.Sx.done hp 14 (by kernel_rfl)
        have h10 := Go.Sx.done (hcl 11 _ rfl h11) 10 (by kernel_rfl)
        have h9 := Go.Sx.done (hcl 10 _ rfl h10) 9 (by kernel_rfl)
        have e1 : (if D 11 = true then Fact (u 11 = u 10) else Free) = Fact (u 11 = u 10) := by rw [h11]; rfl
        have e2 : (if D 10 = true then Fact (u 10 = u 9) else Free) = Fact (u 10 = u 9) := by rw [h10]; rfl
        have g7 : u 11 = u 9 := by
          have hw2 := hw
          simp only [e1, e2] at hw2
          exact (hw2.told (In.tl (In.tl (In.tl (In.tl In.hd))))).trans (hw2.told (In.tl (In.tl (In.tl In.hd))))
        simp only [hi, h9, h14, Bool.false_eq_true, if_false, if_true] at hw
        obtain ⟨⟨_, hf2, _⟩, _⟩ := hw.unfzf
        rw [← g7] at hf2
        refine st_store hs (vs := (u 11).1) (hw := hw) (hz := by rw [hf2.len]; rfl) (h1 := hf2.one) (hl := by rw [hf2.len]; rfl) (k := ?_); clear hs hw; intro W hs hw
        rw [ov_all _ _ (by rw [hf2.len]; rfl)] at hw
        rw [show (u 11).1 = (u 9).1 from by rw [g7]] at hw
        repeat (first | (refine sxv hs hw ?_; clear hs; intro a hs) | refine sxc hs ?_ | (refine sxa hs hw ?_; clear hs hw; intro a b W hw hs) | (refine sxs hs hw ?_; clear hs hw; intro W hs hw))
        refine Or.inl ⟨hs, ?_⟩
        show Has 0 w0 _ ((if (Nat.beq 9 16 || D 9) = true then _ else _) :: (if (Nat.beq 14 16 || D 14) = true then _ else _) :: _ :: _)
        rw [h9, h14]
        exact hw
      case c17_4 =>
        intro u LD D a W hcl hi hp hs hw
        have h12 := Go.Sx.done hp 12 (by kernel_rfl)
        have h15 := Go.Sx.done hp 15 (by kernel_rfl)
        have h10 := Go.Sx.done (hcl 12 _ rfl h12) 10 (by kernel_rfl)
        have h9 := Go.Sx.done (hcl 10 _ rfl h10) 9 (by kernel_rfl)
        have e1 : (if D 12 = true then Fact (u 12 = u 10) else Free) = Fact (u 12 = u 10) := by rw [h12]; rfl
        have e2 : (if D 10 = true then Fact (u 10 = u 9) else Free) = Fact (u 10 = u 9) := by rw [h10]; rfl
        have g8 : u 12 = u 9 := by
          have hw2 := hw
          simp only [e1, e2] at hw2
          exact (hw2.told (In.tl (In.tl (In.tl (In.tl (In.tl In.hd)))))).trans (hw2.told (In.tl (In.tl (In.tl In.hd))))
        simp only [hi, h9, h15, Bool.false_eq_true, if_false, if_true] at hw
        obtain ⟨⟨_, _, hsv⟩, _⟩ := hw.unfzf
        obtain ⟨tad, tcap, e13⟩ := hsv.slice
        refine st_store hs (hw := hw) (vs := rowCells N.2.1 (u 12).2.1) (h1 := by rw [g8, e13]; rfl) (k := ?_); clear hs hw; intro W hs hw
        rw [show (u 12).2.1 = (u 9).2.1 from by rw [g8]] at hw
        repeat (first | (refine sxv hs hw ?_; clear hs; intro a hs) | refine sxc hs ?_ | (refine sxa hs hw ?_; clear hs hw; intro a b W hw hs) | (refine sxs hs hw ?_; clear hs hw; intro W hs hw))
        refine Or.inl ⟨hs, ?_⟩
        show Has 0 w0 _ ((if (Nat.beq 9 17 || D 9) = true then _ else _) :: _ :: (if (Nat.beq 15 17 || D 15) = true then _ else _) :: _)
        rw [h9, h15]
        exact hw
      case k_4 =>
        clear hs hw
        intro u a W hs hw
        replace hw : Has 0 w0 W (FzF (u 9).2.2.1 (H'.le (u 9).2.2.1 ∧ RfIn (u 9).2.2.1 N.1 (u 9).1 ∧ OpsH (u 9).2.2.1 (u 9).2.1 N.2.1.b.l) :: Cells (u 14).2.2.2 (u 9).1 42 :: Cells (u 15).2.2.2 (rowCells N.2.1 (u 9).2.1) 39 :: Fact (u 10 = u 9) :: Fact (u 11 = u 10) :: Fact (u 12 = u 10) :: Cells p (cs ++ [.slice vad s'.l.length vcap]) 44 :: Sx.Own 39 5 (.slice vad s'.l.length vcap) s'.l.length ys :: R) := hw
        replace hw := hw.sub (L' := FzF (u 9).2.2.1 (H'.le (u 9).2.2.1 ∧ RfIn (u 9).2.2.1 N.1 (u 9).1 ∧ OpsH (u 9).2.2.1 (u 9).2.1 N.2.1.b.l) :: Cells (u 14).2.2.2 (u 9).1 42 :: Cells (u 15).2.2.2 (rowCells N.2.1 (u 9).2.1) 39 :: Cells p (cs ++ [.slice vad s'.l.length vcap]) 44 :: Sx.Own 39 5 (.slice vad s'.l.length vcap) s'.l.length ys :: R) (List.Sublist.cons_cons _ (List.Sublist.cons_cons _ (List.Sublist.cons_cons _ (List.Sublist.cons _ (List.Sublist.cons _ (List.Sublist.cons _ (List.Sublist.refl _)))))))
        replace hs : Slots a 104 [(12, .bool N.2.2), (0, .pointer (some ⟨p, 0, none⟩)), (1, .slice (some ⟨g1, f1, none⟩) rows.length scap), (6, .int .i64 (n : Int)), (7, .int .i64 (j : Int)), (10, .pointer (some ⟨(u 14).2.2.2, 0, none⟩)), (11, .pointer (some ⟨(u 15).2.2.2, 0, none⟩))] := hs.of ⟨rfl, rfl, rfl, rfl, rfl, rfl, rfl, trivial⟩
        generalize (u 14).2.2.2 = b10 at *
        generalize (u 15).2.2.2 = b11 at *
        generalize (u 9).2.2.1 = H2 at *
        generalize (u 9).2.1 = sv2 at *
        generalize (u 9).1 = cs2 at *
        clear u
        obtain ⟨⟨hle, hf2, hsv⟩, hw⟩ := hw.unfzf
        have hlen2 := hf2.len
        have hone2 := hf2.one
        obtain ⟨uad, ucap, rfl⟩ := hsv.slice
        cases hok2 : N.2.2 with
        | false =>
          rw [hok2] at hs
          rw [if_neg (fun h => by rw [hok2] at h; cases h.1)] at hone
          repeat (first | (refine sxv hs hw ?_; clear hs; intro a hs) | refine sxc hs ?_ | (refine sxa hs hw ?_; clear hs hw; intro a b W hw hs) | (refine sxs hs hw ?_; clear hs hw; intro W hs hw))
          refine rg_draw (V := [.bool false, .bool true, .bool true, undef, undef, undef, undef, undef, undef, undef, .bool true]) (Rs := fun D => Fz H2 :: Cells b10 cs2 42 :: Cells b11 (rowCells N.2.1 (.slice uad N.2.1.b.l.length ucap)) 39 :: Cells p (cs ++ [.slice vad s'.l.length vcap]) 44 :: Sx.Own 39 5 (.slice vad s'.l.length vcap) s'.l.length ys :: R) hs hw (ho := ⟨?_, ?_, ?_, ?_, ?_, ?_, ?_, ?_, ?_, ?_, ?_, trivial⟩) (k := ?k_5)
          case k_5 =>
            clear hs hw
            intro a W hs hw
            replace hs : Slots a 104 [(85, .bool true), (0, .pointer (some ⟨p, 0, none⟩)), (1, .slice (some ⟨g1, f1, none⟩) rows.length scap), (6, .int .i64 (n : Int)), (7, .int .i64 (j : Int)), (10, .pointer (some ⟨b10, 0, none⟩)), (11, .pointer (some ⟨b11, 0, none⟩))] := hs.of ⟨rfl, rfl, rfl, rfl, rfl, rfl, rfl, trivial⟩
            rw [hone, if_neg (by show ¬ (1 : Int) = 0; decide)] at hgo
            repeat (first | (refine sxv hs hw ?_; clear hs; intro a hs) | refine sxc hs ?_ | (refine sxa hs hw ?_; clear hs hw; intro a b W hw hs) | (refine sxs hs hw ?_; clear hs hw; intro W hs hw))
            rw [← hgo]
            have hw := hw.sub (L' := Fz H2 :: Cells p (cs ++ [.slice vad s'.l.length vcap]) 44 :: Sx.Own 39 5 (.slice vad s'.l.length vcap) s'.l.length ys :: R) (List.Sublist.cons_cons _ (List.Sublist.cons _ (List.Sublist.cons _ (List.Sublist.refl _))))
            have hw : Has 0 w0 W (Cells p (cs ++ [.slice vad s'.l.length vcap]) 44 :: Sx.Own 39 5 (.slice vad s'.l.length vcap) s'.l.length ys :: Fz H2 :: R) := hw.perm (by repeat (first | exact List.Perm.refl _ | refine perm_pick (by repeat (first | exact Pick.hd | apply Pick.tl)) ?_))
            exact rt2 hs rfl rfl rfl ⟨H2, rfl, hH'.trans hle, rstreamShut hw (hf.le hle) (hch2.mono (RowIn.le hle))⟩
          all_goals
            intro LD D a W hcl hi hp hs hw
            repeat (first | (refine sxv hs hw ?_; clear hs; intro a hs) | refine sxc hs ?_ | (refine sxa hs hw ?_; clear hs hw; intro a b W hw hs) | (refine sxs hs hw ?_; clear hs hw; intro W hs hw))
            exact ⟨hs, hw⟩
        | true =>
          rw [hok2] at hs
          repeat (first | (refine sxv hs hw ?_; clear hs; intro a hs) | refine sxc hs ?_ | (refine sxa hs hw ?_; clear hs hw; intro a b W hw hs) | (refine sxs hs hw ?_; clear hs hw; intro W hs hw))
          refine rg_draw (V := [.bool true, .bool false, .bool false, .agg ⟨rowCells N.2.1 (.slice uad N.2.1.b.l.length ucap)⟩, .slice (some ⟨g1, f1, none⟩) rows.length scap, .int .i64 (j : Int), .pointer (some ⟨g1, f1 + j * 5, none⟩), .agg ⟨rowCells r (.slice rad r.b.l.length rcap)⟩, .bool (eqRow N.2.1 r), .bool (!eqRow N.2.1 r), .bool (!eqRow N.2.1 r)]) (Rs := fun D => Fz H2 :: Cells b10 cs2 42 :: Cells b11 (rowCells N.2.1 (.slice uad N.2.1.b.l.length ucap)) 39 :: Cells p (cs ++ [.slice vad s'.l.length vcap]) 44 :: Sx.Own 39 5 (.slice vad s'.l.length vcap) s'.l.length ys :: R) hs hw (ho := ⟨?_, ?_, ?_, ?_, ?_, ?_, ?c6_6, ?c7_6, ?c8_6, ?_, ?_, trivial⟩) (k := ?k_6)
          case c6_6 =>
            intro LD D a W hcl hi hp hs hw
            repeat (first | (refine sxv hs hw ?_; clear hs; intro a hs) | refine sxc hs ?_ | (refine sxa hs hw ?_; clear hs hw; intro a b W hw hs) | (refine sxs hs hw ?_; clear hs hw; intro W hs hw))
            refine st_index_at hs (z := zrc) (h0 := by omega) (h1 := by omega) (c := ?_); clear hs; intro a hs
            repeat (first | (refine sxv hs hw ?_; clear hs; intro a hs) | refine sxc hs ?_ | (refine sxa hs hw ?_; clear hs hw; intro a b W hw hs) | (refine sxs hs hw ?_; clear hs hw; intro W hs hw))
            exact ⟨hs, hw⟩
          case c7_6 =>
            intro LD D a W hcl hi hp hs hw
            repeat (first | (refine sxv hs hw ?_; clear hs; intro a hs) | refine sxc hs ?_ | (refine sxa hs hw ?_; clear hs hw; intro a b W hw hs) | (refine sxs hs hw ?_; clear hs hw; intro W hs hw))
            refine st_load_ats (z := zrc) hs (cs := rowCells r (.slice rad r.b.l.length rcap)) (hc := fun j u h => hrow2 hle In.hd hw j u h) (hl := by rfl) (c := ?_); clear hs; intro a hs
            repeat (first | (refine sxv hs hw ?_; clear hs; intro a hs) | refine sxc hs ?_ | (refine sxa hs hw ?_; clear hs hw; intro a b W hw hs) | (refine sxs hs hw ?_; clear hs hw; intro W hs hw))
            exact ⟨hs, hw⟩
          case c8_6 =>
            intro LD D a W hcl hi hp hs hw
            repeat (first | (refine sxv hs hw ?_; clear hs; intro a hs) | refine sxc hs ?_ | (refine sxa hs hw ?_; clear hs hw; intro a b W hw hs) | (refine sxs hs hw ?_; clear hs hw; intro W hs hw))
            refine st_call hs (hc := ref_EqRow N.2.1 r _ _ _ (hw.rdH (by repeat (first | exact In.hd | apply In.tl)) hsv) (hw.rdH (by repeat (first | exact In.hd | apply In.tl)) (hrv.le hle))) (k := ?_); rintro e0 W1 ⟨rfl, hb⟩; refine ⟨_, rfl, ?_⟩; clear hs; intro a hs; replace hw := hw.below hb; clear hb
            repeat (first | (refine sxv hs hw ?_; clear hs; intro a hs) | refine sxc hs ?_ | (refine sxa hs hw ?_; clear hs hw; intro a b W hw hs) | (refine sxs hs hw ?_; clear hs hw; intro W hs hw))
            exact ⟨hs, hw⟩
          case k_6 =>
            clear hs hw
            intro a W hs hw
            replace hs : Slots a 104 [(85, .bool (!eqRow N.2.1 r)), (0, .pointer (some ⟨p, 0, none⟩)), (1, .slice (some ⟨g1, f1, none⟩) rows.length scap), (6, .int .i64 (n : Int)), (7, .int .i64 (j : Int)), (10, .pointer (some ⟨b10, 0, none⟩)), (11, .pointer (some ⟨b11, 0, none⟩))] := hs.of ⟨rfl, rfl, rfl, rfl, rfl, rfl, rfl, trivial⟩
            replace hw : Has 0 w0 W (Fz H2 :: Cells b10 cs2 42 :: Cells b11 (rowCells N.2.1 (.slice uad N.2.1.b.l.length ucap)) 39 :: Cells p (cs ++ [.slice vad s'.l.length vcap]) 44 :: Sx.Own 39 5 (.slice vad s'.l.length vcap) s'.l.length ys :: R) := hw
            cases he : eqRow N.2.1 r with
            | false =>
              rw [he] at hs
              rw [if_neg (fun h => by rw [he] at h; cases h.2)] at hone
              rw [hone, if_neg (by show ¬ (1 : Int) = 0; decide)] at hgo
              repeat (first | (refine sxv hs hw ?_; clear hs; intro a hs) | refine sxc hs ?_ | (refine sxa hs hw ?_; clear hs hw; intro a b W hw hs) | (refine sxs hs hw ?_; clear hs hw; intro W hs hw))
              rw [← hgo]
              have hw := hw.sub (L' := Fz H2 :: Cells p (cs ++ [.slice vad s'.l.length vcap]) 44 :: Sx.Own 39 5 (.slice vad s'.l.length vcap) s'.l.length ys :: R) (List.Sublist.cons_cons _ (List.Sublist.cons _ (List.Sublist.cons _ (List.Sublist.refl _))))
              have hw : Has 0 w0 W (Cells p (cs ++ [.slice vad s'.l.length vcap]) 44 :: Sx.Own 39 5 (.slice vad s'.l.length vcap) s'.l.length ys :: Fz H2 :: R) := hw.perm (by repeat (first | exact List.Perm.refl _ | refine perm_pick (by repeat (first | exact Pick.hd | apply Pick.tl)) ?_))
              exact rt2 hs rfl rfl rfl ⟨H2, rfl, hH'.trans hle, rstreamShut hw (hf.le hle) (hch2.mono (RowIn.le hle))⟩
            | true =>
              rw [he] at hs
              rw [if_pos ⟨hok2, he⟩] at hone
              rw [hone] at hopl hodo hol
              rw [hone, if_pos rfl, if_pos rfl] at hgo
              repeat (first | (refine sxv hs hw ?_; clear hs; intro a hs) | refine sxc hs ?_ | (refine sxa hs hw ?_; clear hs hw; intro a b W hw hs) | (refine sxs hs hw ?_; clear hs hw; intro W hs hw))
              refine st_load_agg hs (hw := hw) (hi := In.tl In.hd) (hl := by rw [hlen2]; rfl) (k := ?_); clear hs; intro a hs
              have hs2 : Slots a 104 ((88, .agg ⟨cut cs2 0 38⟩) :: _) := hs
              rw [cut_all _ _ hlen2] at hs2
              clear hs
              have hs := hs2
              clear hs2
              repeat (first | (refine sxv hs hw ?_; clear hs; intro a hs) | refine sxc hs ?_ | (refine sxa hs hw ?_; clear hs hw; intro a b W hw hs) | (refine sxs hs hw ?_; clear hs hw; intro W hs hw))
              refine st_store hs (vs := cs2) (hw := hw) (hz := by rw [hlen2]; rfl) (h1 := hone2) (hl := by rw [hlen2, List.length_append, hlen0]; rfl) (k := ?_); clear hs hw; intro W hs hw
              rw [show ov (cs ++ [.slice vad s'.l.length vcap]) (0 + 0) cs2 = cs2 ++ [.slice vad s'.l.length vcap] from by rw [Nat.add_zero, ov_left _ _ _ _ (by omega), ov_all _ _ (by omega)]] at hw
              repeat (first | (refine sxv hs hw ?_; clear hs; intro a hs) | refine sxc hs ?_ | (refine sxa hs hw ?_; clear hs hw; intro a b W hw hs) | (refine sxs hs hw ?_; clear hs hw; intro W hs hw))
              replace hs : Slots a 104 [(11, .pointer (some ⟨b11, 0, none⟩)), (0, .pointer (some ⟨p, 0, none⟩)), (1, .slice (some ⟨g1, f1, none⟩) rows.length scap), (6, .int .i64 (n : Int)), (7, .int .i64 (j : Int))] := hs.of ⟨rfl, rfl, rfl, rfl, rfl, trivial⟩
              have hw : Has 0 w0 W (Cells p (cs2 ++ [.slice vad s'.l.length vcap]) 44 :: Free :: Sx.Own 39 5 (.slice vad s'.l.length vcap) s'.l.length ys :: Fz H2 :: Cells b10 cs2 42 :: Cells b11 (rowCells N.2.1 (.slice uad N.2.1.b.l.length ucap)) 39 :: R) := hw.free.perm (by repeat (first | exact List.Perm.refl _ | refine perm_pick (by repeat (first | exact Pick.hd | apply Pick.tl)) ?_))
              refine rg_drawU (σ := Option Addr × Nat × Nat) (V := fun u => [.pointer (some ⟨p, 0, none⟩), .pointer (some ⟨p, 0, none⟩), .pointer (some ⟨p, 0, none⟩), .pointer (some ⟨p, 0 + 38, none⟩), .slice vad s'.l.length vcap, .agg ⟨rowCells N.2.1 (.slice uad N.2.1.b.l.length ucap)⟩, .slice (some ⟨(u 6).2.2, 0, none⟩) 1 1, .slice (u 7).1 (s'.l ++ [N.2.1]).length (u 7).2.1, .pointer (some ⟨p, 0, none⟩), .pointer (some ⟨p, 0 + 38, none⟩), .bool true]) (Rs := fun u D => Cells p (cs2 ++ [(if D 10 then .slice (u 7).1 (s'.l ++ [N.2.1]).length (u 7).2.1 else .slice vad s'.l.length vcap)]) 44 :: (if D 6 then Cells (u 6).2.2 (rowCells N.2.1 (.slice uad N.2.1.b.l.length ucap)) 39 else Free) :: (if D 7 then Sx.Own 39 5 (.slice (u 7).1 (s'.l ++ [N.2.1]).length (u 7).2.1) (s'.l ++ [N.2.1]).length (ys ++ rowCells N.2.1 (.slice uad N.2.1.b.l.length ucap)) else Sx.Own 39 5 (.slice vad s'.l.length vcap) s'.l.length ys) :: Fz H2 :: Cells b10 cs2 42 :: Cells b11 (rowCells N.2.1 (.slice uad N.2.1.b.l.length ucap)) 39 :: R) (fun _ => (none, 0, 0)) hs hw (hVu := ?vu_7) (ho := ⟨?_, ?_, ?_, ?_, ?c4_7, ?_, ?c6_7, ?c7_7, ?_, ?_, ?c10_7, trivial⟩) (k := ?k_7)
              case vu_7 =>
                intro u u' j h
                rcases j with _ | _ | _ | _ | _ | _ | _ | _ | _ | _ | _ | j
                all_goals first | rfl | simp [h]
              case c4_7 =>
                intro u LD D a W hcl hi hp hs hw
                have h10 := Go.Sx.not_done hcl (Go.Sx.not_done hcl hi 7 (by kernel_rfl)) 10 (by kernel_rfl)
                have hw0 := hw
                simp only [h10, Bool.false_eq_true, if_false] at hw
                refine st_load_one hs (hw := hw) (hi := In.hd) (hv := at38 hlen2 _) (k := ?_); clear hs; intro a hs
                repeat (first | (refine sxv hs hw ?_; clear hs; intro a hs) | refine sxc hs ?_ | (refine sxa hs hw ?_; clear hs hw; intro a b W hw hs) | (refine sxs hs hw ?_; clear hs hw; intro W hs hw))
                exact Or.inl ⟨hs, hw0⟩
              case c6_7 =>
                intro u LD D a W hcl hi hp hs hw
                have h7 := Go.Sx.not_done hcl hi 7 (by kernel_rfl)
                have h10 := Go.Sx.not_done hcl h7 10 (by kernel_rfl)
                simp only [hi, h7, h10, Bool.false_eq_true, if_false] at hw
                repeat (first | (refine sxv hs hw ?_; clear hs; intro a hs) | refine sxc hs ?_ | (refine sxa hs hw ?_; clear hs hw; intro a b W hw hs) | (refine sxs hs hw ?_; clear hs hw; intro W hs hw))
                refine Or.inr ⟨(none, 0, _), hs, ?_⟩
                show Has 0 w0 _ (Cells p (cs2 ++ [(if (Nat.beq 10 6 || D 10) = true then _ else _)]) _ :: _ :: (if (Nat.beq 7 6 || D 7) = true then _ else _) :: _)
                rw [h7, h10]
                exact hw.fill (Upd.tl Upd.hd)
              case c7_7 =>
                intro u LD D a W hcl hi hp hs hw
                have h6 := Go.Sx.done hp 6 (by kernel_rfl)
                have h10 := Go.Sx.not_done hcl hi 10 (by kernel_rfl)
                simp only [hi, h6, h10, Bool.false_eq_true, if_false, if_true] at hw
                have hw : Has 0 w0 W (Sx.Own 39 5 (.slice vad s'.l.length vcap) s'.l.length ys :: Cells (u 6).2.2 (rowCells N.2.1 (.slice uad N.2.1.b.l.length ucap)) 39 :: Cells p (cs2 ++ [.slice vad s'.l.length vcap]) 44 :: Fz H2 :: Cells b10 cs2 42 :: Cells b11 (rowCells N.2.1 (.slice uad N.2.1.b.l.length ucap)) 39 :: R) := hw.perm (by repeat (first | exact List.Perm.refl _ | refine perm_pick (by repeat (first | exact Pick.hd | apply Pick.tl)) ?_))
                refine st_append1 hs (hw := hw) (hi := In.hd) (ch := hch2.mono (RowIn.le hle)) (ha := (⟨_, rfl, hsv⟩ : RowIn H2 N.2.1 (rowCells N.2.1 (.slice uad N.2.1.b.l.length ucap)))) (hl := rfl) (h1 := rfl) (hb := by omega) (h63 := by omega) (k := ?_)
                clear hs hw; intro a ad cap W hs hw hc2
                repeat (first | (refine sxv hs hw ?_; clear hs; intro a hs) | refine sxc hs ?_ | (refine sxa hs hw ?_; clear hs hw; intro a b W hw hs) | (refine sxs hs hw ?_; clear hs hw; intro W hs hw))
                refine Or.inr ⟨(ad, cap, 0), hs, ?_⟩
                show Has 0 w0 _ (Cells p (cs2 ++ [(if (Nat.beq 10 7 || D 10) = true then _ else _)]) _ :: (if (Nat.beq 6 7 || D 6) = true then _ else _) :: _ :: _)
                rw [h6, h10]
                exact hw.perm (by repeat (first | exact List.Perm.refl _ | refine perm_pick (by repeat (first | exact Pick.hd | apply Pick.tl)) ?_))
              case c10_7 =>
                intro u LD D a W hcl hi hp hs hw
                have h7 := Go.Sx.done hp 7 (by kernel_rfl)
                simp only [hi, h7, Bool.false_eq_true, if_false, if_true] at hw
                refine st_store hs (vs := [.slice (u 7).1 (s'.l ++ [N.2.1]).length (u 7).2.1]) (hw := hw) (hl := by show Nat.ble (0 + 38 + 1) (cs2 ++ [Value.slice vad s'.l.length vcap]).length = true; rw [List.length_append, hlen2]; rfl) (k := ?_); clear hs hw; intro W hs hw
                rw [set38 hlen2] at hw
                repeat (first | (refine sxv hs hw ?_; clear hs; intro a hs) | refine sxc hs ?_ | (refine sxa hs hw ?_; clear hs hw; intro a b W hw hs) | (refine sxs hs hw ?_; clear hs hw; intro W hs hw))
                refine Or.inl ⟨hs, ?_⟩
                show Has 0 w0 _ (_ :: _ :: (if (Nat.beq 7 10 || D 7) = true then _ else _) :: _)
                rw [h7]
                exact hw
              case k_7 =>
                clear hs hw
                intro u a W hs hw
                replace hs : Slots a 104 [(11, .pointer (some ⟨b11, 0, none⟩)), (0, .pointer (some ⟨p, 0, none⟩)), (1, .slice (some ⟨g1, f1, none⟩) rows.length scap), (6, .int .i64 (n : Int)), (7, .int .i64 (j : Int))] := hs.of ⟨rfl, rfl, rfl, rfl, rfl, trivial⟩
                replace hw : Has 0 w0 W (Cells p (cs2 ++ [.slice (u 7).1 (s'.l ++ [N.2.1]).length (u 7).2.1]) 44 :: Cells (u 6).2.2 (rowCells N.2.1 (.slice uad N.2.1.b.l.length ucap)) 39 :: Sx.Own 39 5 (.slice (u 7).1 (s'.l ++ [N.2.1]).length (u 7).2.1) (s'.l ++ [N.2.1]).length (ys ++ rowCells N.2.1 (.slice uad N.2.1.b.l.length ucap)) :: Fz H2 :: Cells b10 cs2 42 :: Cells b11 (rowCells N.2.1 (.slice uad N.2.1.b.l.length ucap)) 39 :: R) := hw
                have hw := hw.sub (L' := Cells p (cs2 ++ [.slice (u 7).1 (s'.l ++ [N.2.1]).length (u 7).2.1]) 44 :: Sx.Own 39 5 (.slice (u 7).1 (s'.l ++ [N.2.1]).length (u 7).2.1) (s'.l ++ [N.2.1]).length (ys ++ rowCells N.2.1 (.slice uad N.2.1.b.l.length ucap)) :: Fz H2 :: R) (List.Sublist.cons_cons _ (List.Sublist.cons _ (List.Sublist.cons_cons _ (List.Sublist.cons_cons _ (List.Sublist.cons _ (List.Sublist.cons _ (List.Sublist.refl _)))))))
                have hw := rstreamShut (s := ⟨N.1, (s'.l ++ [N.2.1])⟩) hw hf2 ((hch2.mono (RowIn.le hle)).app (Ch.unit ⟨_, rfl, hsv⟩))
                repeat (first | (refine sxv hs hw ?_; clear hs; intro a hs) | refine sxc hs ?_ | (refine sxa hs hw ?_; clear hs hw; intro a b W hw hs) | (refine sxs hs hw ?_; clear hs hw; intro W hs hw))
                exact st_again (j + 1, n + 1, ⟨N.1, (s'.l ++ [N.2.1])⟩, H2) hs hw ⟨hj', by show n + 1 ≤ j + 1; omega, by show (s'.l ++ [N.2.1]).length ≤ s.l.length + (j + 1); have : (s'.l ++ [N.2.1]).length ≤ s'.l.length + 1 := hol; omega, hodo, hopl, hH'.trans hle, hgo⟩ (by show rows.length - (j + 1) < rows.length - j; omega) ⟨rfl, rfl, int_eq (by show IntKind.i64.wrap ((n : Int) + 1) = ((n + 1 : Nat) : Int); rw [IntWalk.i64_in _ (by omega)]; omega), int_eq (by show IntKind.i64.wrap ((j : Int) + 1) = ((j + 1 : Nat) : Int); rw [IntWalk.i64_in _ (by omega)]; omega), trivial⟩
              all_goals
                intro u LD D a W hcl hi hp hs hw
                repeat (first | (refine sxv hs hw ?_; clear hs; intro a hs) | refine sxc hs ?_ | (refine sxa hs hw ?_; clear hs hw; intro a b W hw hs) | (refine sxs hs hw ?_; clear hs hw; intro W hs hw))
                exact Or.inl ⟨hs, hw⟩
          all_goals
            intro LD D a W hcl hi hp hs hw
            repeat (first | (refine sxv hs hw ?_; clear hs; intro a hs) | refine sxc hs ?_ | (refine sxa hs hw ?_; clear hs hw; intro a b W hw hs) | (refine sxs hs hw ?_; clear hs hw; intro W hs hw))
            exact ⟨hs, hw⟩
      all_goals
        intro u LD D a W hcl hi hp hs hw
        repeat (first | (refine sxv hs hw ?_; clear hs; intro a hs) | refine sxc hs ?_ | (refine sxa hs hw ?_; clear hs hw; intro a b W hw hs) | (refine sxs hs hw ?_; clear hs hw; intro W hs hw))
        exact Or.inl ⟨hs, hw⟩
    all_goals
      intro LD D a W hcl hi hp hs hw
      repeat (first | (refine sxv hs hw ?_; clear hs; intro a hs) | refine sxc hs ?_ | (refine sxa hs hw ?_; clear hs hw; intro a b W hw hs) | (refine sxs hs hw ?_; clear hs hw; intro W hs hw))
      exact ⟨hs, hw⟩
  · have hj' : j = rows.length := by have : ¬ j < rows.length := by simpa using hcc
                                     omega
    subst hj'
    rw [List.drop_length] at hgo
    repeat (first | (refine sxv hs hw ?_; clear hs; intro a hs) | refine sxc hs ?_ | (refine sxa hs hw ?_; clear hs hw; intro a b W hw hs) | (refine sxs hs hw ?_; clear hs hw; intro W hs hw))
    rw [← hgo]
    exact rt2 hs rfl rfl rfl ⟨H', rfl, hH', hw⟩
end Go.Proofs.YtmalklakaalaoaaGreatDoor.Sw

set_option linter.unusedVariables false
set_option maxRecDepth 10000
namespace Go.Proofs.YtmalklakaalaoaaGreatDoor.Sw
open Go.RowKit Go.Sx
-- pieces
theorem one_mem {s : StreamD} {r x : RowD} (h : x ∈ (one s r).1.l) : x ∈ s.l ∨ x = r := by
  unfold one at h
  split at h
  · exact .inl h
  · split at h
    · split at h <;> exact .inl h
    · split at h
      · rcases List.mem_append.1 h with h | h
        · exact .inl h
        · exact .inr (List.mem_singleton.1 h)
      · exact .inl h
theorem takeN_len : ∀ {rows : List RowD} {s : StreamD} {n : Nat}, (takeN s n rows).1.l.length ≤ s.l.length + rows.length
  | [], s, n => Nat.le_refl _
  | r :: rows, s, n => by
    have h1 := one_len s r
    simp only [takeN, List.length_cons]
    split
    · have := takeN_len (rows := rows) (s := (one s r).1) (n := if (one s r).2.1 = true then n + 1 else n)
      omega
    · show (one s r).1.l.length ≤ _; omega
structure RawU where
  H : Fh
  ad : Option Addr
  cap : Nat
  ys : List Value
end Go.Proofs.YtmalklakaalaoaaGreatDoor.Sw

set_option linter.unusedVariables false
set_option maxRecDepth 10000
namespace Go.Proofs.YtmalklakaalaoaaGreatDoor.Sw
open Go.RowKit Go.Sx
theorem lessK_irr (a : ByteArray) : lessK a a = false := Ph.lessL_irr _
theorem lessK_trans {a b c : ByteArray} (h : lessK a b = true) (h' : lessK b c = true) : lessK a c = true := Ph.lessL_trans _ _ _ h h'
theorem lessK_asymm {a b : ByteArray} (h : lessK a b = true) : lessK b a = false := Ph.lessL_asymm _ _ h
theorem lessK_total {a b : ByteArray} (h : a ≠ b) : lessK a b = true ∨ lessK b a = true := by
  have : a.data.toList ≠ b.data.toList := fun e => h (by
    cases a; cases b
    simp only at e
    congr 1
    exact Array.toList_inj.1 e)
  have := Ph.lessL_total _ _ this
  unfold lessK
  simpa [Bool.or_eq_true] using this
def Srt (d : Dm) : Prop := d.Pairwise fun p q => lessK p.1 q.1 = true
theorem Srt.nil : Srt [] := List.Pairwise.nil
theorem Srt.delD {d : Dm} (h : Srt d) (k : ByteArray) : Srt (delD d k) := List.Pairwise.filter _ h
theorem delD_mem {d : Dm} {k : ByteArray} {q : ByteArray × DV} (h : q ∈ delD d k) : q ∈ d ∧ q.1 ≠ k := by
  have h2 := List.mem_filter.1 h
  refine ⟨h2.1, fun e => ?_⟩
  have := h2.2
  rw [e, ks_self] at this
  cases this
theorem Srt.setL : ∀ {d : Dm}, Srt d → ∀ (k : ByteArray) (v : DV), Srt (setL d k v)
  | [], _, k, v => by simp [Srt, Sw.setL]
  | p :: d, h, k, v => by
    have hd := List.pairwise_cons.1 h
    simp only [Sw.setL]
    cases hl : lessK p.1 k with
    | false =>
      refine List.pairwise_cons.2 ⟨fun q hq => ?_, Srt.delD h k⟩
      obtain ⟨h1, h2⟩ := delD_mem hq
      by_cases e : k = p.1
      · rcases List.mem_cons.1 h1 with rfl | h1
        · exact absurd e.symm h2
        · rw [e]; exact hd.1 q h1
      · have hkp : lessK k p.1 = true := by
          rcases lessK_total e with h | h
          · exact h
          · rw [hl] at h; cases h
        rcases List.mem_cons.1 h1 with rfl | h1
        · exact hkp
        · exact lessK_trans hkp (hd.1 q h1)
    | true =>
      have hne : ks k p.1 = false := by
        cases hk : ks k p.1 with
        | false => rfl
        | true => rw [ks_iff.1 hk, lessK_irr] at hl; cases hl
      rw [hne]
      refine List.pairwise_cons.2 ⟨fun q hq => ?_, Srt.setL (d := d) hd.2 k v⟩
      rcases List.mem_cons.1 ((setL_perm d k v).mem_iff.1 hq) with rfl | hq
      · exact hl
      · exact hd.1 q (delD_mem hq).1
theorem setRL_srt {d : Dm} (h : Srt d) (k : ByteArray) (x : Option DV) : Srt (setRL d k x).2 := by
  cases x with
  | none => exact h.delD k
  | some v =>
    unfold setRL
    simp only
    split
    · exact h
    · exact h.setL k v
theorem doL_srt {d : Dm} (h : Srt d) (o : OpD) : Srt (doL d o).2 := by
  unfold doL
  split
  · split
    · exact setRL_srt h _ _
    · exact h
  · split
    · split
      · exact h
      · split
        · exact h
        · exact setRL_srt h _ _
    · exact setRL_srt h _ _
theorem goL_srt : ∀ (l : List OpD) {d : Dm}, Srt d → Srt (goL l d).2
  | [], d, h => h
  | o :: l, d, h => by
    unfold goL
    split
    · exact h
    · split
      · exact goL_srt l (doL_srt h o)
      · exact h
theorem applyL_srt {d : Dm} (h : Srt d) (l : List OpD) : Srt (applyL d l).2 := by
  unfold applyL
  split
  · exact h
  · split
    · exact goL_srt l h
    · exact h
theorem srt_unique {l m : List ByteArray} (hp : l.Perm m) (hl : l.Pairwise fun a b => lessK a b = true) (hm : m.Pairwise fun a b => lessK a b = true) : l = m :=
  hp.eq_of_pairwise (fun a b _ _ h1 h2 => by rw [lessK_asymm h1] at h2; cases h2) hl hm
theorem Srt.keys {d : Dm} (h : Srt d) : (d.map (·.1)).Pairwise fun a b => lessK a b = true := List.pairwise_map.2 h
theorem srt_of_not {l : List ByteArray} (hn : l.Nodup) (h : l.Pairwise fun a b => lessK b a = false) : l.Pairwise fun a b => lessK a b = true := by
  refine (hn.and h).imp fun {a b} hab => ?_
  rcases lessK_total hab.1 with h1 | h1
  · exact h1
  · rw [hab.2] at h1; cases h1
end Go.Proofs.YtmalklakaalaoaaGreatDoor.Sw

set_option linter.unusedVariables false
namespace Go.Proofs.YtmalklakaalaoaaGreatDoor
open Go.RowKit
def Bel (w w' : World) : Prop := Below w.heap.size w w' ∧ w.drawn ≤ w'.drawn
theorem Bel.refl (w : World) : Bel w w := ⟨Below.refl _ _, Nat.le_refl _⟩
theorem Bel.trans {a b c : World} (h : Bel a b) (k : Bel b c) : Bel a c := ⟨h.1.trans (k.1.mono h.1.size), Nat.le_trans h.2 k.2⟩
theorem bel_iter (w : World) (s : ByteArray) (pos : Nat) : Bel w (w.iter s pos) := ⟨(Below.refl _ _).alloc (Nat.le_refl _) _, Nat.le_refl _⟩
theorem bel_drewN {w w' : World} (h : Bel w w') (n : Nat) : Bel w (w'.drewN n) := ⟨h.1.trans ⟨rfl, rfl, rfl, Nat.le_refl _, fun _ _ => rfl⟩, Nat.le_trans h.2 (Nat.le_add_right _ _)⟩
theorem Bel.grown {w w' : World} (h : Bel w w') : ∃ q os, w' = Sort.grow (w.drewN q) os := by
  obtain ⟨⟨h1, h2, h3, h4, h5⟩, h6⟩ := h
  refine ⟨w'.drawn - w.drawn, w'.heap.extract w.heap.size w'.heap.size, ?_⟩
  have e : w'.heap = w.heap ++ w'.heap.extract w.heap.size w'.heap.size := by
    refine Array.ext_getElem? fun k => ?_
    rw [Array.getElem?_append]
    split
    · rename_i hk; exact h5 k hk
    · rename_i hk
      rw [Array.getElem?_extract]
      split
      · rw [show w.heap.size + (k - w.heap.size) = k by omega]
      · rename_i hk2
        rw [Array.getElem?_eq_none (by omega)]
  have e2 : w'.drawn = w.drawn + (w'.drawn - w.drawn) := by omega
  cases w'
  cases w
  simp only at h1 h2 h3 e e2
  simp only [Sort.grow, World.drewN]
  subst h1 h2 h3
  rw [← e, ← e2]
set_option maxHeartbeats 400000 in
theorem runes_CutD (s : ByteArray) (n : Int) (w : World) (hs : s.size ≤ 9223372036854775807) :
    Calls Tryz.prog 128 #[.string s, .int .i64 n] w fun e w' => e = .returned (.string ⟨(Ph.cutL s.data.toList n).toArray⟩) ∧ Bel w w' := by
  have hcl := Ph.count_le s
  by_cases hn : n < 1
  · have HF : Hid (Ph.cutL s.data.toList n = []) := by unfold Hid Ph.cutL; rw [if_pos hn]
    go_enter Tryz.func128, Tryz.ntmps128
    go_wp2
    go_ret
    exact ⟨by rw [HF.out]; rfl, Bel.refl _⟩
  · obtain ⟨m, rfl⟩ := Int.eq_ofNat_of_zero_le (show 0 ≤ n by omega)
    go_enter Tryz.func128, Tryz.ntmps128
    go_wp2
    go_loopw [5] (fun c wr => ∃ pos k : Nat, wr = w.iter s pos ∧ c = .int .i64 k ∧ k ≤ m ∧ Hid ((Ph.rs (s.data.toList.drop pos)) = (Ph.rs s.data.toList).drop k) ∧ Hid (pos = Ph.wid ((Ph.rs s.data.toList).take k))) (fun _ wr => s.size - wr.iterPos w.heap.size)
    case atStart => exact ⟨0, 0, rfl, rfl, by omega, by unfold Hid; simp, by unfold Hid; simp [Ph.wid_nil]⟩
    case round =>
      obtain ⟨pos, k, rfl, rfl, hkm, HK, HP⟩ := hrel
      by_cases hp : pos < s.size
      · have hnx := fun ty => run_next_any (P := Tryz.prog) w s pos ty hp
        by_cases he : k = m
        · subst he
          go_wp2
          go_ret
          refine ⟨?_, bel_iter _ _ _⟩
          have HP' := HP.out
          subst HP'
          show Ending.returned (.string (s.extract 0 _)) = _
          rw [Ph.extract_eq, Ph.cutL, if_neg (by omega)]
          rfl
        · have he' : ((k : Int) == (m : Int)) = false := by simp; omega
          have hst := Ph.step_take (HK.out.symm.trans (Ph.rs_at s pos hp))
          have hkl : k + 1 ≤ s.size := by have := hst.1; unfold Ph.count at hcl; omega
          have HS : Hid ((Ph.rs s.data.toList).take (k + 1) = (Ph.rs s.data.toList).take k ++ [Utf8.decode s pos] ∧ (Ph.rs s.data.toList).drop (k + 1) = Ph.rs (s.data.toList.drop (pos + (Utf8.decode s pos).2))) := hst.2
          clear hst
          go_wp2
          go_roundw
          case rel =>
            refine ⟨pos + (Utf8.decode s pos).2, k + 1, rfl, by go_num, by omega, HS.out.2.symm, ?_⟩
            show _ = _
            rw [HS.out.1, Ph.wid_append, ← HP.out]
            simp [Ph.wid_cons, Ph.wid_nil]
          case measure =>
            have := Ph.width_pos s pos
            rw [World.iterPos_iter, World.iterPos_iter]
            omega
      · have hnx := fun ty => run_next_end (P := Tryz.prog) w s pos ty hp
        go_wp2
        go_ret
        have hle := Ph.drop_nil_le (HK.out.symm.trans (Ph.rs_end s pos hp))
        refine ⟨?_, bel_iter _ _ _⟩
        rw [Ph.cutL_all _ _ (by unfold Ph.count; omega) (by omega), Ph.eta_bytes]
        rfl
set_option maxHeartbeats 400000 in
theorem runes_DecodeD (s : ByteArray) (w : World) (hs : s.size ≤ 9223372036854775807) :
    Calls Tryz.prog 122 #[.string s] w fun e w' => e = .returned (.tuple #[.int .i32 (Ph.decZ s.data.toList).1, .int .i64 (Ph.decZ s.data.toList).2]) ∧ Bel w w' := by
  by_cases hp : 0 < s.size
  · have hnx := fun ty => run_next_any (P := Tryz.prog) w s 0 ty hp
    have HD : Hid (Ph.decZ s.data.toList = Utf8.decode s 0 ∧ (Ph.cutL s.data.toList 1).length = (Utf8.decode s 0).2) := Ph.decZ_at s hp
    go_enter Tryz.func122, Tryz.ntmps122
    go_wp2
    go_loopw [] (fun wr => wr = w.iter s 0) (fun wr => 0)
    case atStart => rfl
    case round =>
      obtain rfl := hrel
      go_wp2_with (go_at_call 128; refine (runes_CutD _ _ _ hs).mono ?_; rintro e w' ⟨rfl, hb⟩)
      go_ret2
      refine ⟨ret_tab ?_ ?_, (bel_iter _ _ _).trans hb⟩
      · rw [HD.out.1]
      · rw [HD.out.1, ← HD.out.2]
  · have hnx := fun ty => run_next_end (P := Tryz.prog) w s 0 ty hp
    have HD : Hid (Ph.decZ s.data.toList = (65533, 0)) := Ph.decZ_empty s hp
    go_enter Tryz.func122, Tryz.ntmps122
    go_wp2
    go_loopw [] (fun wr => wr = w.iter s 0) (fun wr => 0)
    case atStart => rfl
    case round =>
      obtain rfl := hrel
      go_wp2
      go_ret2
      rw [HD.out]
      exact ⟨rfl, bel_iter _ _ _⟩
def strLenD : Value → Nat | .string s => s.size | _ => 0
set_option maxHeartbeats 800000 in
theorem runes_LessD (a b : ByteArray) (w : World) (ha : a.size ≤ 9223372036854775807) (hb : b.size ≤ 9223372036854775807) :
    Calls Tryz.prog 97 #[.string a, .string b] w fun e w' => e = .returned (.bool (Ph.lessL a.data.toList b.data.toList)) ∧ Bel w w' := by
  go_enter Tryz.func97, Tryz.ntmps97
  go_wp2
  go_loopw [5, 6] (fun x y wr => ∃ X Y : ByteArray, x = .string X ∧ y = .string Y ∧ X.size ≤ 9223372036854775807 ∧ Y.size ≤ 9223372036854775807 ∧ Hid (Ph.lessL a.data.toList b.data.toList = Ph.lessAt a.data.toList b.data.toList X.data.toList Y.data.toList) ∧ Bel w wr) (fun x _ _ => strLenD x)
  case atStart => exact ⟨a, b, rfl, rfl, ha, hb, rfl, Bel.refl _⟩
  case round =>
    obtain ⟨X, Y, rfl, rfl, hX, hY, HL, hbw⟩ := hrel
    by_cases hx : 0 < X.size
    · have ex := Ph.empty_no hx
      by_cases hy : 0 < Y.size
      · have ey := Ph.empty_no hy
        obtain ⟨eX, lX, uX⟩ := Ph.decZ_ne hx
        obtain ⟨eY, lY, uY⟩ := Ph.decZ_ne hy
        have EX := Lib.hid eX
        have EY := Lib.hid eY
        clear eX eY
        go_wp2_with fail
        refine (runes_DecodeD X _ hX).mono ?_
        rintro e w1 ⟨rfl, hb1⟩
        go_wp2_with fail
        refine (runes_DecodeD Y _ hY).mono ?_
        rintro e w2 ⟨rfl, hb2⟩
        have hb3 : Bel w w2 := (hbw.trans hb1).trans hb2
        clear hb1 hb2
        by_cases hne : (Ph.decZ X.data.toList).1 = (Ph.decZ Y.data.toList).1
        · have hne' : (((Ph.decZ X.data.toList).1 : Int) != ((Ph.decZ Y.data.toList).1 : Int)) = false := by rw [hne]; simp
          have HN : Hid (Ph.lessAt a.data.toList b.data.toList X.data.toList Y.data.toList = Ph.lessAt a.data.toList b.data.toList (X.data.toList.drop (Ph.decZ X.data.toList).2) (Y.data.toList.drop (Ph.decZ Y.data.toList).2)) := by
            show _ = _
            rw [Ph.lessAt_eq _ _ _ _ (Ph.ne_of_size hx) (Ph.ne_of_size hy) (by rw [← EX.out, ← EY.out]; exact hne), EX.out, EY.out]
          clear hne
          generalize (Ph.decZ X.data.toList).2 = n at *
          generalize (Ph.decZ Y.data.toList).2 = m at *
          have g1 : (0 : Int) ≤ (n : Int) := by omega
          have g2 : (n : Int) ≤ (X.size : Int) := by omega
          have g3 : (0 : Int) ≤ (m : Int) := by omega
          have g4 : (m : Int) ≤ (Y.size : Int) := by omega
          go_wp2_with fail
          go_quiet (fail)
          go_wp2
          go_roundw
          case rel =>
            have e1 : (X.extract n X.size).size = X.size - n := by simp
            have e2 : (Y.extract m Y.size).size = Y.size - m := by simp
            refine ⟨X.extract n X.size, Y.extract m Y.size, rfl, rfl, by rw [e1]; omega, by rw [e2]; omega, ?_, bel_drewN hb3 _⟩
            show _ = _
            rw [HL.out, HN.out, Ph.extract_drop, Ph.extract_drop]
          case measure =>
            show (X.extract n X.size).size < X.size
            have e1 : (X.extract n X.size).size = X.size - n := by simp
            omega
        · have hne' : (((Ph.decZ X.data.toList).1 : Int) != ((Ph.decZ Y.data.toList).1 : Int)) = true := by rw [bne_iff_ne]; omega
          have HN : Hid (Ph.lessL a.data.toList b.data.toList = decide ((Ph.decZ X.data.toList).1 < (Ph.decZ Y.data.toList).1)) := by
            show _ = _
            rw [HL.out, Ph.lessAt_ne _ _ _ _ (Ph.ne_of_size hx) (Ph.ne_of_size hy) (by rw [← EX.out, ← EY.out]; exact hne), EX.out, EY.out]
          clear hne
          go_wp2
          go_ret
          exact ⟨ret_bool HN.out.symm, hb3⟩
      · have ey := Ph.empty_yes hy
        have HN : Hid (Ph.lessL a.data.toList b.data.toList = false) := by
          show _ = _
          rw [HL.out, Ph.nil_of_size hy, Ph.lessAt_right _ _ _ (Ph.ne_of_size hx)]
        go_wp2
        go_ret
        exact ⟨ret_bool HN.out.symm, hbw⟩
    · have ex := Ph.empty_yes hx
      by_cases hy : 0 < Y.size
      · have ey := Ph.empty_no hy
        have HN : Hid (Ph.lessL a.data.toList b.data.toList = true) := by
          show _ = _
          rw [HL.out, Ph.nil_of_size hx, Ph.lessAt_left _ _ _ (Ph.ne_of_size hy)]
        go_wp2
        go_ret
        exact ⟨ret_bool HN.out.symm, hbw⟩
      · have ey := Ph.empty_yes hy
        have HN : Hid (Ph.lessL a.data.toList b.data.toList = Op.bytesLess a.toList b.toList) := by
          show _ = _
          rw [HL.out, Ph.nil_of_size hx, Ph.nil_of_size hy, Ph.lessAt_none, Ph.bytesLess_toList]
        go_wp2
        go_ret
        exact ⟨ret_bool HN.out.symm, hbw⟩
def cmpK (a b : ByteArray) : Int := if Ph.lessL a.data.toList b.data.toList = true then -1 else if Ph.lessL b.data.toList a.data.toList = true then 1 else 0
set_option maxHeartbeats 800000 in
theorem doc_Keys1 (a b : ByteArray) (w : World) (ha : a.size ≤ 9223372036854775807) (hb : b.size ≤ 9223372036854775807) :
    Calls Tryz.prog 96 #[.string a, .string b] w fun e w' => e = .returned (.int .i64 (cmpK a b)) ∧ Bel w w' := by
  have HC : Hid (cmpK a b = if Ph.lessL a.data.toList b.data.toList = true then -1 else if Ph.lessL b.data.toList a.data.toList = true then 1 else 0) := rfl
  go_enter Tryz.func96, Tryz.ntmps96
  go_wp2_with fail
  refine (runes_LessD a b _ ha hb).mono ?_
  rintro e w1 ⟨rfl, hb1⟩
  cases h1 : Ph.lessL a.data.toList b.data.toList with
  | true =>
    rw [h1] at HC
    go_wp2
    go_ret
    exact ⟨by rw [HC.out]; rfl, hb1⟩
  | false =>
    rw [h1] at HC
    go_wp2_with fail
    refine (runes_LessD b a _ hb ha).mono ?_
    rintro e w2 ⟨rfl, hb2⟩
    cases h2 : Ph.lessL b.data.toList a.data.toList with
    | true =>
      rw [h2] at HC
      go_wp2
      go_ret
      exact ⟨by rw [HC.out]; rfl, hb1.trans hb2⟩
    | false =>
      rw [h2] at HC
      go_wp2
      go_ret
      exact ⟨by rw [HC.out]; rfl, hb1.trans hb2⟩
end Go.Proofs.YtmalklakaalaoaaGreatDoor

set_option linter.unusedVariables false
namespace Go.Sx
open Go.RowKit Go.Sort Go.Proofs
theorem put_cells {α : Type} [Inhabited α] (enc : α → Value) (d d' : Array α) (hd : d'.size = d.size) (ext : List Value) : putCells enc 0 d' ⟨d.toList.map enc ++ ext⟩ = ⟨d'.toList.map enc ++ ext⟩ := by
  apply Array.ext_getElem?
  intro k
  unfold putCells
  simp only [Array.getElem?_mapIdx, List.getElem?_toArray, Nat.zero_le, Nat.zero_add, true_and, Nat.sub_zero]
  by_cases hk : k < d'.size
  · have h1 : k < (d.toList.map enc).length := by simp; omega
    have h2 : k < (d'.toList.map enc).length := by simp; omega
    rw [List.getElem?_append_left h1, List.getElem?_append_left h2, List.getElem?_eq_getElem h1, List.getElem?_eq_getElem h2, Option.map_some, if_pos hk]
    simp [getElem!_pos d' k hk]
  · rw [List.getElem?_append_right (by simp; omega), List.getElem?_append_right (by simp; omega)]
    have e : (d.toList.map enc).length = (d'.toList.map enc).length := by simp [hd]
    rw [e]
    cases ext[k - (d'.toList.map enc).length]? with
    | none => rfl
    | some y => rw [Option.map_some, if_neg hk]
section
variable {α : Type} [Inhabited α] {enc : α → Value} {G g : Nat} {w W : World} {T : TypeId} {R : List Res} {d d' : Array α} {ext : List Value}
theorem Has.sorted (hd : d'.size = d.size) (h : Has G w W (Cells g (d.toList.map enc ++ ext) T :: R)) (m : Nat) (os : Array Obj) : Has G w (sortWorld enc W g 0 m d' os) (Cells g (d'.toList.map enc ++ ext) T :: R) := by
  obtain ⟨F1, h1, ⟨h2, h2'⟩, h3⟩ := h.has.upd (Upd.hd (r' := Cells g (d'.toList.map enc ++ ext) T))
  have hg := h1 g h2
  have hh : (sortWorld enc W g 0 m d' os).heap = W.heap.modify g (onCells (putCells enc 0 d')) ++ os := rfl
  have hsz : W.heap.size ≤ (sortWorld enc W g 0 m d' os).heap.size := by rw [hh]; simp
  have hat : (sortWorld enc W g 0 m d' os).heap[g]? = some (.cells ⟨d'.toList.map enc ++ ext⟩ T (0, 0)) := by
    rw [hh, Array.getElem?_append, if_pos (by simpa using hg.2), Array.getElem?_modify, if_pos rfl, h2', Option.map_some]
    show some (Obj.cells (putCells enc 0 d' ⟨d.toList.map enc ++ ext⟩) T (0, 0)) = _
    rw [put_cells enc d d' hd ext]
  have hne : ∀ b, b < W.heap.size → b ≠ g → (sortWorld enc W g 0 m d' os).heap[b]? = W.heap[b]? := fun b hb hn => by
    rw [hh, Array.getElem?_append, if_pos (by simpa using hb), Array.getElem?_modify, if_neg (fun e => hn e.symm)]
  refine ⟨h.ext.trans ⟨rfl, rfl, rfl, hsz, fun c hc => hne c (by have := hg.1; have := h.globW; omega) (by have := hg.1; omega)⟩, h.glob, h3 _ _ (fun c => c = g) (fun c hc => ⟨hc.1, by have := hc.2; omega⟩) ?_ ?_ ⟨rfl, hat⟩⟩
  · rintro c rfl
    exact ⟨⟨hg.1, by have := hg.2; omega⟩, fun _ => h2⟩
  · intro c hc hn
    exact hne c hc.2 fun e => hn (by rw [e]; exact h2)
theorem Has.holds (h : Has G w W (Cells g (d.toList.map enc ++ ext) T :: R)) : Holds enc W g 0 d := by
  intro j hj
  have hb := (h.block In.hd).1
  have hl : j < (d.toList.map enc).length := by simp; omega
  constructor
  · rw [cell_block hb, Nat.zero_add, List.getElem?_append_left hl, List.getElem?_eq_getElem hl]
    simp [getElem!_pos d j hj]
  · unfold World.frozen?
    simp [hb]
end
end Go.Sx

namespace Go.Proofs
open Go.Shelf
def Tryz.keysD_ren : Go.Shelf.Ren := ⟨fun | 7 => 95 | 10 => 121 | n => n, fun | 23 => 139 | 26 => 9 | 3 => 165 | 28 => 160 | 0 => 0 | 27 => 159 | 33 => 170 | 4 => 4 | n => n, fun | n => n⟩
theorem Tryz.keysD : Go.Proofs.SlLaysZ.n7 Tryz.prog Tryz.keysD_ren := {
  mixed := by kernel_rfl
  f7 := ⟨Tryz.f95.name, by decide, Tryz.func95.trans (congrArg some (by kernel_rfl))⟩
  f10 := ⟨Tryz.f121.name, by decide, Tryz.func121.trans (congrArg some (by kernel_rfl))⟩
  t0 := Tryz.underlying0
  a0 := Tryz.isAgg0
  z0 := Tryz.sizeOf0
  v0 := Tryz.zeroValue0
  t4 := Tryz.underlying4
  a4 := Tryz.isAgg4
  z4 := Tryz.sizeOf4
  v4 := Tryz.zeroValue4
  t23 := Tryz.underlying139
  a23 := Tryz.isAgg139
  z23 := Tryz.sizeOf139
  v23 := Tryz.zeroValue139
  t26 := Tryz.underlying9
  a26 := Tryz.isAgg9
  z26 := Tryz.sizeOf9
  v26 := Tryz.zeroValue9
  t27 := Tryz.underlying159
  a27 := Tryz.isAgg159
  z27 := Tryz.sizeOf159
  v27 := Tryz.zeroValue159
  t28 := Tryz.underlying160
  a28 := Tryz.isAgg160
  z28 := Tryz.sizeOf160
  v28 := Tryz.zeroValue160
  t33 := Tryz.underlying170
  a33 := Tryz.isAgg170
  z33 := Tryz.sizeOf170
  v33 := Tryz.zeroValue170 }
def Tryz.collD_ren : Go.Shelf.Ren := ⟨fun | 8 => 119 | 11 => 125 | n => n, fun | 26 => 9 | 28 => 160 | 24 => 120 | 0 => 0 | 33 => 170 | 4 => 4 | n => n, fun | n => n⟩
theorem Tryz.collD : Go.Proofs.SlLaysZ.n8 Tryz.prog Tryz.collD_ren := {
  mixed := by kernel_rfl
  f8 := ⟨Tryz.f119.name, by decide, Tryz.func119.trans (congrArg some (by kernel_rfl))⟩
  f11 := ⟨Tryz.f125.name, by decide, Tryz.func125.trans (congrArg some (by kernel_rfl))⟩
  t0 := Tryz.underlying0
  a0 := Tryz.isAgg0
  z0 := Tryz.sizeOf0
  v0 := Tryz.zeroValue0
  t24 := Tryz.underlying120
  a24 := Tryz.isAgg120
  z24 := Tryz.sizeOf120
  v24 := Tryz.zeroValue120
  t26 := Tryz.underlying9
  a26 := Tryz.isAgg9
  z26 := Tryz.sizeOf9
  v26 := Tryz.zeroValue9
  t28 := Tryz.underlying160
  a28 := Tryz.isAgg160
  z28 := Tryz.sizeOf160
  v28 := Tryz.zeroValue160
  i26 := by kernel_rfl }
def Tryz.sortD_ren : Go.Shelf.Ren := ⟨fun | 6 => 120 | 15 => 127 | 14 => 126 | 28 => 139 | 29 => 140 | 20 => 131 | 21 => 132 | 22 => 133 | 23 => 134 | 24 => 135 | 25 => 136 | 26 => 137 | 27 => 138 | 46 => 142 | 47 => 143 | 48 => 144 | 49 => 145 | 50 => 146 | 57 => 147 | n => n, fun | 22 => 120 | 24 => 9 | 25 => 167 | 3 => 3 | 39 => 157 | 0 => 0 | 53 => 209 | 55 => 156 | 4 => 4 | 46 => 202 | 45 => 201 | 50 => 206 | 5 => 5 | 9 => 9 | 66 => 216 | 70 => 220 | 76 => 222 | 77 => 223 | n => n, fun | n => n⟩
theorem Tryz.sortD : Go.Proofs.SlLaysF.n6 Tryz.prog Tryz.sortD_ren := {
  mixed := by kernel_rfl
  f6 := ⟨Tryz.f120.name, by decide, Tryz.func120.trans (congrArg some (by kernel_rfl))⟩
  f14 := ⟨Tryz.f126.name, by decide, Tryz.func126.trans (congrArg some (by kernel_rfl))⟩
  f15 := Tryz.func127.trans (congrArg some (by kernel_rfl))
  f20 := ⟨Tryz.f131.name, by decide, Tryz.func131.trans (congrArg some (by kernel_rfl))⟩
  f21 := ⟨Tryz.f132.name, by decide, Tryz.func132.trans (congrArg some (by kernel_rfl))⟩
  f22 := ⟨Tryz.f133.name, by decide, Tryz.func133.trans (congrArg some (by kernel_rfl))⟩
  f23 := ⟨Tryz.f134.name, by decide, Tryz.func134.trans (congrArg some (by kernel_rfl))⟩
  f24 := ⟨Tryz.f135.name, by decide, Tryz.func135.trans (congrArg some (by kernel_rfl))⟩
  f25 := ⟨Tryz.f136.name, by decide, Tryz.func136.trans (congrArg some (by kernel_rfl))⟩
  f26 := ⟨Tryz.f137.name, by decide, Tryz.func137.trans (congrArg some (by kernel_rfl))⟩
  f27 := ⟨Tryz.f138.name, by decide, Tryz.func138.trans (congrArg some (by kernel_rfl))⟩
  f28 := Tryz.func139.trans (congrArg some (by kernel_rfl))
  f29 := Tryz.func140.trans (congrArg some (by kernel_rfl))
  f46 := ⟨Tryz.f142.name, by decide, Tryz.func142.trans (congrArg some (by kernel_rfl))⟩
  f47 := Tryz.func143.trans (congrArg some (by kernel_rfl))
  f48 := Tryz.func144.trans (congrArg some (by kernel_rfl))
  f49 := ⟨Tryz.f145.name, by decide, Tryz.func145.trans (congrArg some (by kernel_rfl))⟩
  f50 := ⟨Tryz.f146.name, by decide, Tryz.func146.trans (congrArg some (by kernel_rfl))⟩
  f57 := ⟨Tryz.f147.name, by decide, Tryz.func147.trans (congrArg some (by kernel_rfl))⟩
  t0 := Tryz.underlying0
  a0 := Tryz.isAgg0
  z0 := Tryz.sizeOf0
  v0 := Tryz.zeroValue0
  t3 := Tryz.underlying3
  a3 := Tryz.isAgg3
  z3 := Tryz.sizeOf3
  v3 := Tryz.zeroValue3
  t4 := Tryz.underlying4
  a4 := Tryz.isAgg4
  z4 := Tryz.sizeOf4
  v4 := Tryz.zeroValue4
  t5 := Tryz.underlying5
  a5 := Tryz.isAgg5
  z5 := Tryz.sizeOf5
  v5 := Tryz.zeroValue5
  t9 := Tryz.underlying9
  a9 := Tryz.isAgg9
  z9 := Tryz.sizeOf9
  v9 := Tryz.zeroValue9
  t22 := Tryz.underlying120
  a22 := Tryz.isAgg120
  z22 := Tryz.sizeOf120
  v22 := Tryz.zeroValue120
  a24 := Tryz.isAgg9
  z24 := Tryz.sizeOf9
  t25 := Tryz.underlying167
  a25 := Tryz.isAgg167
  z25 := Tryz.sizeOf167
  v25 := Tryz.zeroValue167
  t39 := Tryz.underlying157
  a39 := Tryz.isAgg157
  z39 := Tryz.sizeOf157
  v39 := Tryz.zeroValue157
  t45 := Tryz.underlying201
  a45 := Tryz.isAgg201
  z45 := Tryz.sizeOf201
  v45 := Tryz.zeroValue201
  t46 := Tryz.underlying202
  a46 := Tryz.isAgg202
  z46 := Tryz.sizeOf202
  v46 := Tryz.zeroValue202
  t50 := Tryz.underlying206
  a50 := Tryz.isAgg206
  z50 := Tryz.sizeOf206
  v50 := Tryz.zeroValue206
  t53 := Tryz.underlying209
  a53 := Tryz.isAgg209
  z53 := Tryz.sizeOf209
  v53 := Tryz.zeroValue209
  t55 := Tryz.underlying156
  a55 := Tryz.isAgg156
  z55 := Tryz.sizeOf156
  v55 := Tryz.zeroValue156
  t66 := Tryz.underlying216
  a66 := Tryz.isAgg216
  z66 := Tryz.sizeOf216
  v66 := Tryz.zeroValue216
  t70 := Tryz.underlying220
  a70 := Tryz.isAgg220
  z70 := Tryz.sizeOf220
  v70 := Tryz.zeroValue220
  t76 := Tryz.underlying222
  a76 := Tryz.isAgg222
  z76 := Tryz.sizeOf222
  v76 := Tryz.zeroValue222
  t77 := Tryz.underlying223
  a77 := Tryz.isAgg223
  z77 := Tryz.sizeOf223
  v77 := Tryz.zeroValue223 }
end Go.Proofs

set_option linter.unusedVariables false
set_option maxRecDepth 10000
namespace Go.Proofs.YtmalklakaalaoaaGreatDoor.Sw
open Go.RowKit Go.Sx Go.Sort Go.Proofs
abbrev KA := {s : ByteArray // s.size ≤ 1000000}
instance : Inhabited KA := ⟨⟨ByteArray.empty, Nat.zero_le _⟩⟩
def encA (x : KA) : Value := .string x.1
def cfA (x y : KA) : Int := cmpK x.1 y.1
theorem lt_A (x y : KA) : ltOf cfA x y = lessK x.1 y.1 := by
  unfold ltOf cfA cmpK lessK
  cases h : Ph.lessL x.1.data.toList y.1.data.toList with
  | true => simp
  | false =>
    rw [if_neg (by simp)]
    split <;> simp
theorem swo_A : SWO (ltOf cfA) := by
  refine ⟨fun x => ?_, fun x y z h1 h2 => ?_, fun x y z h1 h2 => ?_⟩
  · rw [lt_A]; exact lessK_irr _
  · rw [lt_A] at *; exact lessK_trans h1 h2
  · rw [lt_A] at *
    cases h : lessK x.1 z.1 with
    | false => rfl
    | true =>
      by_cases e : x.1 = y.1
      · rw [e, h2] at h; cases h
      · rcases lessK_total e with k | k
        · rw [h1] at k; cases k
        · rw [lessK_trans k h] at h2; cases h2
theorem enc_list (ks : List ByteArray) (hks : ∀ k ∈ ks, k.size ≤ 1000000) : (ks.pmap (fun k h => (⟨k, h⟩ : KA)) hks).toArray.toList.map encA = ks.map Value.string := by
  rw [List.map_pmap]
  exact List.pmap_eq_map ..
theorem sort_keys (w0 W : World) (sv : Value) (ks : List ByteArray) (R : List Res) (hks : ∀ k ∈ ks, k.size ≤ 1000000) (hn : ks.length < 4611686018427387904) (hw : Has 0 w0 W (Own 9 1 sv ks.length (ks.map Value.string) :: R)) :
    Calls Tryz.prog 120 ⟨[sv, .func (.func 96) #[] #[]]⟩ W fun e W' => e = .returned (.tuple #[]) ∧ ∃ ks' : List ByteArray, ks'.Perm ks ∧ ks'.Pairwise (fun a b => lessK b a = false) ∧
      Has 0 w0 W' (Own 9 1 sv ks'.length (ks'.map Value.string) :: R) := by
  obtain ⟨ad, cap, rfl⟩ : ∃ ad cap, sv = .slice ad ks.length cap := by
    obtain ⟨F1, h1, h2, h3⟩ := hw.has
    obtain ⟨_, ⟨e, h0⟩ | ⟨g, cap, cur, e, _⟩⟩ := h2
    · exact ⟨none, 0, by rw [e, h0]⟩
    · exact ⟨_, _, e⟩
  by_cases hz : ks = []
  · subst hz
    exact (AnyF.slices_SortFunc_none { Tryz.sortD with } ad cap (.func (.func 96) #[] #[]) W).mono fun e W' ⟨h1, h2⟩ => ⟨h1, [], List.Perm.refl _, List.Pairwise.nil, by rw [h2]; exact hw⟩
  have hpos : 0 < ks.length := by cases ks with | nil => exact absurd rfl hz | cons => simp
  obtain ⟨g, cur, rfl, ht, hl, hkc, hcm, hw⟩ := hw.open_own hpos
  have he := enc_list ks hks
  have hsz : (ks.pmap (fun k h => (⟨k, h⟩ : KA)) hks).toArray.size = ks.length := by simp
  generalize hd : (ks.pmap (fun k h => (⟨k, h⟩ : KA)) hks).toArray = d at he hsz
  have hcur : cur = d.toList.map encA ++ cur.drop ks.length := by rw [he, ← ht, Nat.mul_one]; exact (List.take_append_drop _ _).symm
  generalize cur.drop ks.length = ext at hcur
  subst hcur
  have hcmp : CmpLays1 Tryz.prog 96 #[] encA cfA g 0 d.size W := by
    intro m os dk hdk x y
    refine (doc_Keys1 x.1 y.1 _ (by have := x.2; omega) (by have := y.2; omega)).mono ?_
    rintro e W' ⟨rfl, hb⟩
    exact ⟨rfl, hb.grown⟩
  have hS := Any.slices_SortFunc (P := Tryz.prog) Tryz.sortD encA (fun _ => rfl) cfA swo_A 96 #[] g 0 cap d W (enters_of Tryz.func96 (by kernel_rfl) rfl) hcmp hw.holds (hw.block In.hd).2.2 (by omega)
  rw [hsz] at hS
  refine Calls.mono hS ?_
  · rintro e W' ⟨rfl, d', n, os, hp, hs, rfl⟩
    have hd' : d'.size = d.size := hp.1
    have hpm : d'.toList.Perm d.toList := by
      have := hp.2.2
      rwa [Array.extract_eq_self_of_le (by omega), Array.extract_eq_self_of_le (by omega)] at this
    have hdk : d.toList.map (·.1) = ks := by
      rw [← hd]
      show List.map _ (List.pmap _ _ _) = _
      rw [List.map_pmap]
      simp
    have hlen : (d'.toList.map (·.1)).length = ks.length := by simp; omega
    refine ⟨rfl, d'.toList.map (·.1), hdk ▸ hpm.map _, ?_, ?_⟩
    · rw [List.pairwise_map, List.pairwise_iff_getElem]
      intro i j hi hj hij
      have h := hs i j (Nat.zero_le _) hij (by simp at hj; omega)
      rw [lt_A, getElem!_pos d' i (by simp at hi; omega), getElem!_pos d' j (by simp at hj; omega)] at h
      simpa using h
    · rw [hlen]
      refine (hw.sorted hd' n os).shut_own ?_ ?_ hkc hcm
      · rw [List.map_map, Nat.mul_one]
        show List.take ks.length (d'.toList.map encA ++ ext) = d'.toList.map encA
        rw [List.take_left']
        simp; omega
      · rw [← hl]; simp [hd']
end Go.Proofs.YtmalklakaalaoaaGreatDoor.Sw

set_option linter.unusedVariables false
namespace Go.Proofs.YtmalklakaalaoaaGreatDoor
open Go.RowKit
theorem info_byte : (Tryz.prog.info? 5).map (fun i => (i.zero, i.size, i.bytes)) = some (some (.int .u8 0), 1, 1) := by kernel_rfl
def OwnB (w : World) (B : Nat) (v : Value) (l : List UInt8) : Prop := w.ownsRow B 5 1 v l.length (Lib.byteCells l)
theorem u8w (x : Nat) (h : x < 128) : IntKind.u8.wrap (x : Int) = ((x.toUInt8).toNat : Int) := by
  rw [IntKind.wrap_u8, Ph.u8n x (by omega)]; omega
theorem u8p (x : Nat) (h : x < 128) : (x : Int) = ((x.toUInt8).toNat : Int) := by rw [Ph.u8n x (by omega)]
theorem u8o (x : Nat) : bits .or .u8 (IntKind.u8.wrap (x : Int)) 128 = (((x % 128 + 128).toUInt8).toNat : Int) := by
  have e : IntKind.u8.wrap (x : Int) = ((x % 256 : Nat) : Int) := by rw [IntKind.wrap_u8]; omega
  rw [e, Ph.or128_at _ (by omega), Ph.u8n _ (by omega)]; omega
set_option maxRecDepth 100000 in
set_option maxHeartbeats 2000000 in
theorem num_Put_pos (B : Nat) (v : Value) (l : List UInt8) (n : Int) (w : World) (h0 : -9223372036854775808 ≤ n) (h1 : n ≤ 9223372036854775807) (hn : 0 ≤ n) (ho : OwnB w B v l) (hl : l.length ≤ 1000000000) (hB : B ≤ w.heap.size) :
    Calls Tryz.prog 61 #[v, .int .i64 n] w fun e w' => ∃ v', e = .returned v' ∧ OwnB w' B v' (l ++ Ph.putI n) ∧ Below B w w' ∧ B ≤ w'.heap.size := by
  obtain ⟨ib, hib, hbz, hbs, hbb⟩ := info_parts info_byte
  have HO : Hid (w.ownsRow B 5 1 v l.length (Lib.byteCells l)) := ho
  have HZ := Lib.hid (Ph.zig_small h0 h1).1
  clear ho
  go_enter Tryz.func61, Tryz.ntmps61
  go_wp2
  go_loopw [0, 5] (fun b u wr => ∃ (acc : List UInt8) (f x : Nat), u = .int .u64 x ∧ Hid (x < 128 ^ f) ∧ 1 ≤ f ∧ f ≤ 10 ∧ acc.length + f ≤ l.length + 10 ∧ Hid (wr.ownsRow B 5 1 b acc.length (Lib.byteCells acc)) ∧ Below B w wr ∧ B ≤ wr.heap.size ∧ Hid (acc ++ Ph.putN f x = l ++ Ph.putI n)) (fun _ u _ => (intOf u).toNat)
  case atStart => exact ⟨l, 10, Ph.zig n, by rw [Ph.zig_pos n hn], HZ.out, by omega, by omega, by omega, HO.out, Below.refl _ _, hB, rfl⟩
  case round =>
    obtain ⟨acc, f, x, rfl, HX, hf1, hf2, hal, HR, hbw, hBw, HE⟩ := hrel
    have hr := HR.out
    by_cases hx : x < 128
    · have hx' : (x : Int) ≤ 127 := by omega
      go_wp2_with (at_builtin; refine wpList_append_own _ rfl (.tmp 23) (.tmp 26) 61 rfl (B) 5 ib (.int .u8 0) 1 1 Tryz.underlying61 hib hbz hbs hbb rfl (by decide) _ acc.length _ rfl (hr.alloc _) ⟨wr.heap.size, 0, none⟩ 1 1 [?xv] rfl rfl ?c1 ?c2 ?c3 ?c4 ?c5 ?_)
      case c1 => exact (cell_one_new _ _ _)
      case c2 => simp [Value.oneCell']
      case c3 => unfold maxLen; omega
      case c4 => omega
      case c5 => simp; omega
      intro b1 w1 hr1 hg1 _
      have hb1 : Below (B) w w1 := (hbw.alloc hBw _).grown hg1 (by simp; omega) (fun g hg => (hr.lt g hg).1)
      have hB1 : B ≤ w1.heap.size := by have := hg1.size; simp at this; omega
      have hr2 := own_snoc (c := x.toUInt8) hr1 (u8p x hx)
      have HF : Hid (acc ++ [x.toUInt8] = l ++ Ph.putI n) := by
        show _ = _
        rw [← HE.out]
        obtain ⟨g, rfl⟩ : ∃ g, f = g + 1 := ⟨f - 1, by omega⟩
        rw [Ph.putN_last g x hx]
      clear hr hr1
      go_wp2
      go_ret
      refine ⟨_, rfl, ?_, hb1, hB1⟩
      unfold OwnB
      rw [← HF.out]
      exact hr2
    · have hx' : (127 : Int) < (x : Int) := by omega
      obtain ⟨g, hfg, hg1', hxg, hpn⟩ := Ph.putN_split f x hx HX.out
      have HPN := Lib.hid hpn
      have HXG := Lib.hid hxg
      clear hpn hxg
      go_wp2_with (at_builtin; refine wpList_append_own _ rfl (.tmp 15) (.tmp 19) 61 rfl (B) 5 ib (.int .u8 0) 1 1 Tryz.underlying61 hib hbz hbs hbb rfl (by decide) _ acc.length _ rfl (hr.alloc _) ⟨wr.heap.size, 0, none⟩ 1 1 [?yv] rfl rfl ?d1 ?d2 ?d3 ?d4 ?d5 ?_)
      case d1 => exact (cell_one_new _ _ _)
      case d2 => simp [Value.oneCell']
      case d3 => unfold maxLen; omega
      case d4 => omega
      case d5 => simp; omega
      intro b1 w1 hr1 hg1 _
      have hb1 : Below (B) w w1 := (hbw.alloc hBw _).grown hg1 (by simp; omega) (fun g hg => (hr.lt g hg).1)
      have hB1 : B ≤ w1.heap.size := by have := hg1.size; simp at this; omega
      have hr2 := own_snoc (c := (x % 128 + 128).toUInt8) hr1 (u8o x)
      have HF : Hid (acc ++ [(x % 128 + 128).toUInt8] ++ Ph.putN g (x / 128) = l ++ Ph.putI n) := by
        show _ = _
        rw [← HE.out, HPN.out]
        simp
      have HR2 := Lib.hid hr2
      clear hr hr1 hr2
      go_wp2
      go_roundw
      case rel => exact ⟨acc ++ [(x % 128 + 128).toUInt8], g, x / 128, by go_num, HXG.out, hg1', by omega, by simp; omega, HR2.out, hb1, hB1, HF.out⟩
      case measure => simp [intOf]; omega
set_option maxRecDepth 100000 in
set_option maxHeartbeats 2000000 in
theorem num_Put_neg (B : Nat) (v : Value) (l : List UInt8) (n : Int) (w : World) (h0 : -9223372036854775808 ≤ n) (h1 : n ≤ 9223372036854775807) (hn : n < 0) (ho : OwnB w B v l) (hl : l.length ≤ 1000000000) (hB : B ≤ w.heap.size) :
    Calls Tryz.prog 61 #[v, .int .i64 n] w fun e w' => ∃ v', e = .returned v' ∧ OwnB w' B v' (l ++ Ph.putI n) ∧ Below B w w' ∧ B ≤ w'.heap.size := by
  obtain ⟨ib, hib, hbz, hbs, hbb⟩ := info_parts info_byte
  have HO : Hid (w.ownsRow B 5 1 v l.length (Lib.byteCells l)) := ho
  have HZ := Lib.hid (Ph.zig_small h0 h1).1
  clear ho
  go_enter Tryz.func61, Tryz.ntmps61
  go_wp2
  go_loopw [0, 5] (fun b u wr => ∃ (acc : List UInt8) (f x : Nat), u = .int .u64 x ∧ Hid (x < 128 ^ f) ∧ 1 ≤ f ∧ f ≤ 10 ∧ acc.length + f ≤ l.length + 10 ∧ Hid (wr.ownsRow B 5 1 b acc.length (Lib.byteCells acc)) ∧ Below B w wr ∧ B ≤ wr.heap.size ∧ Hid (acc ++ Ph.putN f x = l ++ Ph.putI n)) (fun _ u _ => (intOf u).toNat)
  case atStart => exact ⟨l, 10, Ph.zig n, by rw [Ph.zig_neg n h0 hn], HZ.out, by omega, by omega, by omega, HO.out, Below.refl _ _, hB, rfl⟩
  case round =>
    obtain ⟨acc, f, x, rfl, HX, hf1, hf2, hal, HR, hbw, hBw, HE⟩ := hrel
    have hr := HR.out
    by_cases hx : x < 128
    · have hx' : (x : Int) ≤ 127 := by omega
      go_wp2_with (at_builtin; refine wpList_append_own _ rfl (.tmp 23) (.tmp 26) 61 rfl (B) 5 ib (.int .u8 0) 1 1 Tryz.underlying61 hib hbz hbs hbb rfl (by decide) _ acc.length _ rfl (hr.alloc _) ⟨wr.heap.size, 0, none⟩ 1 1 [?xv] rfl rfl ?c1 ?c2 ?c3 ?c4 ?c5 ?_)
      case c1 => exact (cell_one_new _ _ _)
      case c2 => simp [Value.oneCell']
      case c3 => unfold maxLen; omega
      case c4 => omega
      case c5 => simp; omega
      intro b1 w1 hr1 hg1 _
      have hb1 : Below (B) w w1 := (hbw.alloc hBw _).grown hg1 (by simp; omega) (fun g hg => (hr.lt g hg).1)
      have hB1 : B ≤ w1.heap.size := by have := hg1.size; simp at this; omega
      have hr2 := own_snoc (c := x.toUInt8) hr1 (u8p x hx)
      have HF : Hid (acc ++ [x.toUInt8] = l ++ Ph.putI n) := by
        show _ = _
        rw [← HE.out]
        obtain ⟨g, rfl⟩ : ∃ g, f = g + 1 := ⟨f - 1, by omega⟩
        rw [Ph.putN_last g x hx]
      clear hr hr1
      go_wp2
      go_ret
      refine ⟨_, rfl, ?_, hb1, hB1⟩
      unfold OwnB
      rw [← HF.out]
      exact hr2
    · have hx' : (127 : Int) < (x : Int) := by omega
      obtain ⟨g, hfg, hg1', hxg, hpn⟩ := Ph.putN_split f x hx HX.out
      have HPN := Lib.hid hpn
      have HXG := Lib.hid hxg
      clear hpn hxg
      go_wp2_with (at_builtin; refine wpList_append_own _ rfl (.tmp 15) (.tmp 19) 61 rfl (B) 5 ib (.int .u8 0) 1 1 Tryz.underlying61 hib hbz hbs hbb rfl (by decide) _ acc.length _ rfl (hr.alloc _) ⟨wr.heap.size, 0, none⟩ 1 1 [?yv] rfl rfl ?d1 ?d2 ?d3 ?d4 ?d5 ?_)
      case d1 => exact (cell_one_new _ _ _)
      case d2 => simp [Value.oneCell']
      case d3 => unfold maxLen; omega
      case d4 => omega
      case d5 => simp; omega
      intro b1 w1 hr1 hg1 _
      have hb1 : Below (B) w w1 := (hbw.alloc hBw _).grown hg1 (by simp; omega) (fun g hg => (hr.lt g hg).1)
      have hB1 : B ≤ w1.heap.size := by have := hg1.size; simp at this; omega
      have hr2 := own_snoc (c := (x % 128 + 128).toUInt8) hr1 (u8o x)
      have HF : Hid (acc ++ [(x % 128 + 128).toUInt8] ++ Ph.putN g (x / 128) = l ++ Ph.putI n) := by
        show _ = _
        rw [← HE.out, HPN.out]
        simp
      have HR2 := Lib.hid hr2
      clear hr hr1 hr2
      go_wp2
      go_roundw
      case rel => exact ⟨acc ++ [(x % 128 + 128).toUInt8], g, x / 128, by go_num, HXG.out, hg1', by omega, by simp; omega, HR2.out, hb1, hB1, HF.out⟩
      case measure => simp [intOf]; omega
theorem num_Put (B : Nat) (v : Value) (l : List UInt8) (n : Int) (w : World) (h0 : -9223372036854775808 ≤ n) (h1 : n ≤ 9223372036854775807) (ho : OwnB w B v l) (hl : l.length ≤ 1000000000) (hB : B ≤ w.heap.size) :
    Calls Tryz.prog 61 #[v, .int .i64 n] w fun e w' => ∃ v', e = .returned v' ∧ OwnB w' B v' (l ++ Ph.putI n) ∧ Below B w w' ∧ B ≤ w'.heap.size := by
  by_cases hn : n < 0
  · exact num_Put_neg B v l n w h0 h1 hn ho hl hB
  · exact num_Put_pos B v l n w h0 h1 (by omega) ho hl hB
end Go.Proofs.YtmalklakaalaoaaGreatDoor

set_option linter.unusedVariables false
namespace Go.Proofs.YtmalklakaalaoaaGreatDoor
open Go.RowKit
-- pieces
end Go.Proofs.YtmalklakaalaoaaGreatDoor

set_option linter.unusedVariables false
-- pieces
namespace Go.Proofs.YtmalklakaalaoaaGreatDoor.Sw
open Go.RowKit Go.Sx
def getR (l : List UInt8) : (Int × Int × ByteArray) × Nat × Int :=
  let g := Ph.getI l
  if g.2.2 ≠ 0 then ((0, 0, ⟨#[]⟩), 0, g.2.2)
  else if g.1 = 0 then ((0, 0, ⟨#[]⟩), g.2.1, 0)
  else if g.1 = 1 then
    let h := Ph.getI (l.drop g.2.1)
    if h.2.2 ≠ 0 then ((0, 0, ⟨#[]⟩), 0, h.2.2) else ((1, h.1, ⟨#[]⟩), g.2.1 + h.2.1, 0)
  else if g.1 = 2 then
    let h := Ph.getT (l.drop g.2.1)
    if h.2.2 ≠ 0 then ((0, 0, ⟨#[]⟩), 0, h.2.2)
    else if (ofRaw 2 0 ⟨h.1.toArray⟩).2 ≠ 0 then ((0, 0, ⟨#[]⟩), 0, 1)
    else ((2, 0, ⟨h.1.toArray⟩), g.2.1 + h.2.1, 0)
  else ((0, 0, ⟨#[]⟩), 0, 1)
end Go.Proofs.YtmalklakaalaoaaGreatDoor.Sw

set_option linter.unusedVariables false
set_option maxRecDepth 10000
namespace Go.Proofs.YtmalklakaalaoaaGreatDoor.Sw
open Go.RowKit Go.Sx
-- pieces
def tk (s : List UInt8 × Bool) (n : Nat) (err : Int) : List UInt8 × Bool := (if s.2 || err != 0 then s.1 else s.1.drop n, s.2 || err != 0)
end Go.Proofs.YtmalklakaalaoaaGreatDoor.Sw

set_option linter.unusedVariables false
set_option maxRecDepth 10000
namespace Go.Proofs.YtmalklakaalaoaaGreatDoor.Sw
open Go.RowKit Go.Sx
-- pieces
def rdNum (s : List UInt8 × Bool) : List UInt8 × Bool := tk s (Ph.getI s.1).2.1 (Ph.getI s.1).2.2
def rdTxt (s : List UInt8 × Bool) : List UInt8 × Bool := tk s (Ph.getT s.1).2.1 (Ph.getT s.1).2.2
def rdVal (s : List UInt8 × Bool) : List UInt8 × Bool := tk s (getR s.1).2.1 (getR s.1).2.2
def rdOp (s : List UInt8 × Bool) : OpD × (List UInt8 × Bool) :=
  let kind := (Ph.getI s.1).1
  let s1 := rdNum s
  let key : ByteArray := ⟨(Ph.getT s1.1).1.toArray⟩
  let s2 := rdTxt s1
  if kind = 3 then
    let s3 := rdVal s2
    (⟨kind, key, (getR s2.1).1.1, (getR s2.1).1.2.1, (getR s2.1).1.2.2, (getR s3.1).1.1, (getR s3.1).1.2.1, (getR s3.1).1.2.2, 0⟩, rdVal s3)
  else if kind = 1 then (⟨kind, key, (getR s2.1).1.1, (getR s2.1).1.2.1, (getR s2.1).1.2.2, 0, 0, ⟨#[]⟩, 0⟩, rdVal s2)
  else if kind = 4 then (⟨kind, key, 0, 0, ⟨#[]⟩, 0, 0, ⟨#[]⟩, (Ph.getI s2.1).1⟩, rdNum s2)
  else (⟨kind, key, 0, 0, ⟨#[]⟩, 0, 0, ⟨#[]⟩, 0⟩, s2)
end Go.Proofs.YtmalklakaalaoaaGreatDoor.Sw

set_option linter.unusedVariables false
set_option maxRecDepth 10000
namespace Go.Proofs.YtmalklakaalaoaaGreatDoor.Sw
open Go.RowKit Go.Sx
def rdOps : Nat → Int → List OpD → (List UInt8 × Bool) → List OpD × (List UInt8 × Bool)
  | 0, _, l, s => (l, s)
  | f + 1, n, l, s => if 0 < n ∧ s.2 = false ∧ l.length ≤ 8 then rdOps f (n - 1) (l ++ [(rdOp s).1]) (rdOp s).2 else (l, s)
def parse (b : List UInt8) : (Int × Int × List OpD) × (List UInt8 × Bool) :=
  let s1 := rdNum (b, false)
  let s2 := rdNum s1
  let r := rdOps 10 (Ph.getI s2.1).1 [] (rdNum s2)
  (((Ph.getI b).1, (Ph.getI s1.1).1, r.1), r.2)
def decode (b : List UInt8) : Option (Int × Int × List OpD) :=
  let p := parse b
  if p.2.2 = false ∧ mayBatch p.1.1 p.1.2.1 p.1.2.2 = true ∧ textB p.1.1 p.1.2.1 p.1.2.2 = b then some p.1 else none
end Go.Proofs.YtmalklakaalaoaaGreatDoor.Sw

set_option linter.unusedVariables false
set_option maxRecDepth 10000
namespace Go.Proofs.YtmalklakaalaoaaGreatDoor.Sw
open Go.RowKit Go.Sx
structure DocFine (d : Dm) : Prop where
  ok : DocOk d
  srt : Srt d
  key : ∀ p ∈ d, Ph.keyB p.1.data.toList = true
theorem DocFine.nil : DocFine [] := ⟨DocOk.nil, Srt.nil, by simp⟩
theorem mayD_key {o : OpD} (h : mayD o = true) : Ph.keyB o.key.data.toList = true := by
  unfold mayD mayOp at h
  simp only [Bool.and_eq_true] at h
  exact h.1.1.1
theorem setRL_key {d : Dm} (h : ∀ p ∈ d, Ph.keyB p.1.data.toList = true) {k : ByteArray} (hk : Ph.keyB k.data.toList = true) (x : Option DV) : ∀ p ∈ (setRL d k x).2, Ph.keyB p.1.data.toList = true := by
  cases x with
  | none => exact fun p hp => h p (delD_mem hp).1
  | some v =>
    unfold setRL
    simp only
    split
    · exact h
    · intro p hp
      rcases List.mem_cons.1 ((setL_perm d k v).mem_iff.1 hp) with rfl | hp
      · exact hk
      · exact h p (delD_mem hp).1
theorem doL_key {d : Dm} (h : ∀ p ∈ d, Ph.keyB p.1.data.toList = true) {o : OpD} (hk : Ph.keyB o.key.data.toList = true) : ∀ p ∈ (doL d o).2, Ph.keyB p.1.data.toList = true := by
  unfold doL
  split
  · split
    · exact setRL_key h hk _
    · exact h
  · split
    · split
      · exact h
      · split
        · exact h
        · exact setRL_key h hk _
    · exact setRL_key h hk _
theorem goL_key : ∀ (l : List OpD) {d : Dm}, (∀ p ∈ d, Ph.keyB p.1.data.toList = true) → ∀ p ∈ (goL l d).2, Ph.keyB p.1.data.toList = true
  | [], d, h => h
  | o :: l, d, h => by
    unfold goL
    split
    · exact h
    · rename_i hm
      split
      · exact goL_key l (doL_key h (mayD_key (by simpa using hm)))
      · exact h
theorem applyL_fine {d : Dm} (h : DocFine d) {l : List OpD} (ho : ∀ o ∈ l, OpOk o) : DocFine (applyL d l).2 := by
  refine ⟨applyL_ok h.ok ho, applyL_srt h.srt l, ?_⟩
  unfold applyL
  split
  · exact h.key
  · split
    · exact goL_key l h.key
    · exact h.key
end Go.Proofs.YtmalklakaalaoaaGreatDoor.Sw

set_option linter.unusedVariables false
namespace Go.Sx
open Go.RowKit Go.Maps
open Go.WideElems (Fit rd rg rd_mk rg_of)
theorem key_str {P : Program} {K : TypeId} (hK : P.underlying K = some .string) {s : ByteArray} (hs : s.size ≤ maxLen) : keyOf P K (.string s) = some (.string s.data.toList) := by
  unfold keyOf
  rw [hK]
  simp [mapKey, hK, hs]
theorem map_owns {P : Program} {K : TypeId} (hK : P.underlying K = some .string) {W : World} {b c : Nat} {es : List Ent} (h : MapAt W b es c) (hn : (es.map (·.k)).Nodup) (hs : ∀ e ∈ es, e.k.size ≤ maxLen) (hl : es.length ≤ maxLen) :
    ∃ D0 : DataW Unit, W.ownsMap P K (fun _ => some (.nil, [])) b es.length D0 ∧ (strKeys D0).Perm (es.map fun e => e.k.data.toList) ∧ Maps.size D0 = es.length := by
  have hrd : ∀ e ∈ es, rd (H := Unit) P K (fun _ => some (.nil, [])) e.raw = some (.string e.k.data.toList, .nil) := fun e he => rd_mk (yv := (.nil, [])) (key_str hK (hs e he)) rfl
  refine ⟨_, ⟨⟨es.map Ent.raw⟩, c, h.at_, ⟨by simpa using hl, ⟨?_, ?_, ?_⟩, ?_⟩, by simp, rfl⟩, ?_, ?_⟩
  · intro x hx
    obtain ⟨e, he, rfl⟩ := List.mem_map.1 hx
    exact h.lt e he
  · show ((es.map Ent.raw).map (·.born)).Nodup
    rw [List.map_map]
    exact h.nodup
  · show ((es.map Ent.raw).map (·.key)).Nodup
    rw [List.map_map]
    have : es.map ((·.key) ∘ Ent.raw) = (es.map (·.k)).map Value.string := by rw [List.map_map]; rfl
    rw [this]
    exact List.Pairwise.map (R := (· ≠ ·)) (S := (· ≠ ·)) Value.string (fun a b hab e => hab (by injection e)) hn
  · intro x hx
    obtain ⟨e, he, rfl⟩ := List.mem_map.1 hx
    exact ⟨_, hrd e he⟩
  · show (List.map (fun p : Lit × DataW Unit => strOf p.1) _).Perm _
    refine ((WideShapes.sorted_perm _).map _).trans ?_
    show (List.map _ (List.map _ (es.map Ent.raw))).Perm _
    rw [List.map_map, List.map_map]
    refine List.Perm.of_eq (List.map_congr_left fun e he => ?_)
    show strOf (rg P K _ e.raw).1 = _
    rw [rg_of (hrd e he)]
    rfl
  · show List.length _ = _
    rw [(WideShapes.sorted_perm _).length_eq]
    simp
end Go.Sx

set_option linter.unusedVariables false
set_option maxRecDepth 10000
namespace Go.Sx
open Go.RowKit
theorem Has.newOwn {G : Nat} {w W W' : World} {R : List Res} {E : TypeId} {size n : Nat} {v : Value} {xs : List Value} (h : Has G w W R) (hb : Below W.heap.size W W') (ho : OwnAt (fun b => W.heap.size ≤ b ∧ b < W'.heap.size) W' E size v n xs) : Has G w W' (Own E size v n xs :: R) := by
  have h1 := h.below hb
  refine ⟨h1.ext, h1.glob, _, ?_, ho, ?_⟩
  · rintro b ⟨hb1, hb2⟩
    exact ⟨Nat.le_trans h.globW hb1, hb2⟩
  · refine (h.has.loc fun b hb' => hb.block b hb'.2).mono fun b hb' => ⟨⟨hb'.1, Nat.lt_of_lt_of_le hb'.2 hb.size⟩, by omega⟩
section
variable {P : Program} {W : World}
end
section
variable {P : Program} {ops : Array Oper} {rest : List Oper} {Q : Exit → Act → World → Prop} {a : Act} {n G : Nat} {L : List (Nat × Value)} {w W : World} {R : List Res} {d : Nat} {T S S' E E' : TypeId} {p : String} {e : Array Edge} {x y hi mx : Operand} {v u : Value} {cur xs news : List Value} {g k m len cap size bytes : Nat} {q q' : IntKind} {z : List Value}
end
section
variable {P : Program} {ops : Array Oper} {rest : List Oper} {Q : Exit → Act → World → Prop} {a : Act} {n G : Nat} {L : List (Nat × Value)} {w W : World} {R : List Res} {d : Nat} {T S E : TypeId} {p : String} {e : Array Edge} {x lo : Operand} {g k m cap size : Nat} {q : IntKind} {z cur : List Value} {H : Fh}
end
end Go.Sx

set_option linter.unusedVariables false
set_option maxRecDepth 10000
namespace Go.Proofs.YtmalklakaalaoaaGreatDoor.Sw
open Go.RowKit Go.Sx Go.Sort Go.Proofs Go.Maps
theorem maps_Keys (w0 W : World) (m : Nat) (R : List Res) (hw : Has 0 w0 W R) :
    Calls Tryz.prog 95 ⟨[.map (some m)]⟩ W fun e W' => ∃ q, e = .returned (.func (.func 121) #[] #[.pointer (some ⟨q, 0, none⟩)]) ∧ Has 0 w0 W' (Cells q [.map (some m)] (Tryz.keysD_ren.t 23) :: R) :=
  (callsIn_wide.1 (AnyZ.keys_in Tryz.keysD Fence.wide 5 trivial rfl (some m) W)).mono (by
    rintro e W' ⟨rfl, rfl⟩
    exact ⟨_, rfl, hw.new [.map (some m)] _⟩)
theorem keys_collect (w0 W : World) (q m : Nat) (d : Dm) (R : List Res) (hd : DocOk d) (hw : Has 0 w0 W (Cells q [.map (some m)] (Tryz.keysD_ren.t 23) :: MapOf m (kvOf d) :: R)) :
    Calls Tryz.prog 119 ⟨[.func (.func 121) #[] #[.pointer (some ⟨q, 0, none⟩)]]⟩ W fun e W' => ∃ (sv : Value) (ks : List ByteArray), e = .returned sv ∧ ks.Perm (d.map (·.1)) ∧
      Has 0 w0 W' (Own 9 1 sv ks.length (ks.map Value.string) :: Cells q [.map (some m)] (Tryz.keysD_ren.t 23) :: MapOf m (kvOf d) :: R) := by
  obtain ⟨es, c, hm, he⟩ := hw.map_at (In.tl In.hd)
  have hk : es.map (·.k) = d.map (·.1) := by
    have := congrArg (List.map (·.1)) he
    rw [kvOf_keys] at this
    rw [← this, List.map_map]
    rfl
  have hlen : es.length = d.length := by simpa using congrArg List.length hk
  have hl := hd.len
  have hsz : ∀ e ∈ es, e.k.size ≤ maxLen := by
    intro e he'
    have h1 : e.k ∈ d.map (·.1) := hk ▸ List.mem_map_of_mem he'
    obtain ⟨p, hp, hpe⟩ := List.mem_map.1 h1
    have h2 := (hd.all p hp).key
    rw [hpe] at h2
    exact Nat.le_trans h2 (by decide)
  obtain ⟨D0, ho, hp, hs⟩ := map_owns (P := Tryz.prog) (K := Tryz.keysD_ren.t 26) (by kernel_rfl) hm (by rw [hk]; exact hd.keys) hsz (Nat.le_trans (by omega : es.length ≤ 50) (by decide))
  have hq := hw.block In.hd
  have hseq : SeqGives Fence.wide 3 Tryz.prog (Tryz.keysD_ren.f 10) #[.pointer (some ⟨q, 0, none⟩)] encStr (fun ss => ss.Perm (strKeys D0)) (Maps.size D0) W :=
    AnyZ.keys_gives (ρ := Tryz.keysD_ren) { Tryz.keysD with } Fence.wide _ trivial rfl (by omega) q m es.length D0 W hq.2.2 (by rw [cell_block hq.1]; rfl) ho
  refine (callsIn_wide.1 (AnyZ.collect_in Tryz.collD Fence.wide 5 trivial trivial rfl (by omega) (Tryz.keysD_ren.f 10) #[.pointer (some ⟨q, 0, none⟩)] trivial (enters_of Tryz.func121 (by kernel_rfl) rfl) _ _ (by rw [hs]; exact Nat.le_trans (by omega : es.length ≤ 50) (by decide)) (by rw [hs]; omega) W hseq)).mono ?_
  rintro e W' ⟨v, ss, rfl, hS, hrow, hnil, hb⟩
  have hks : (ss.map fun s => (⟨s.toArray⟩ : ByteArray)).map Value.string = ss.map encStr := by rw [List.map_map]; rfl
  refine ⟨v, ss.map fun s => (⟨s.toArray⟩ : ByteArray), rfl, ?_, ?_⟩
  · refine ((hS.trans hp).map _).trans (List.Perm.of_eq ?_)
    rw [List.map_map, ← hk]
    refine List.map_congr_left fun e _ => ?_
    show (⟨e.k.data.toList.toArray⟩ : ByteArray) = e.k
    simp
  · rw [hks, List.length_map]
    refine hw.newOwn hb ?_
    obtain ⟨h1, h2⟩ := hrow
    refine ⟨h1, h2.imp id ?_⟩
    rintro ⟨g, cap, cur, h3, h4, h5, h6, h7, h8, h9⟩
    exact ⟨g, cap, cur.toList, h3, ⟨h4, (Array.getElem?_eq_some_iff.1 h5).1⟩, h5, h6, h7, by simpa using h8, h9⟩
set_option maxHeartbeats 8000000 in
theorem sorted_keys (w0 W : World) (q m : Nat) (d : Dm) (R : List Res) (hd : DocOk d) (hw : Has 0 w0 W (Cells q [.map (some m)] (Tryz.keysD_ren.t 23) :: MapOf m (kvOf d) :: R)) :
    Calls Tryz.prog 94 ⟨[.func (.func 121) #[] #[.pointer (some ⟨q, 0, none⟩)], .func (.func 96) #[] #[]]⟩ W fun e W' => ∃ (sv : Value) (ks : List ByteArray), e = .returned sv ∧ ks.Perm (d.map (·.1)) ∧ ks.Pairwise (fun a b => lessK b a = false) ∧
      Has 0 w0 W' (Own 9 1 sv ks.length (ks.map Value.string) :: Cells q [.map (some m)] (Tryz.keysD_ren.t 23) :: MapOf m (kvOf d) :: R) := by
  refine enter Tryz.func94 Tryz.ntmps94 rfl rfl fun a hs => ?_
  repeat (first | (refine sxv hs hw ?_; clear hs; intro a hs) | refine sxc hs ?_ | (refine sxa hs hw ?_; clear hs hw; intro a b W hw hs) | (refine sxs hs hw ?_; clear hs hw; intro W hs hw) | ((with_reducible first | refine st_ptrSome hs (k := ?_) | refine st_ptrNone hs (k := ?_)); clear hs; intro a hs))
  refine st_call hs (hc := keys_collect w0 _ q m d _ hd hw) (k := ?_); rintro e0 W1 ⟨sv, ks, rfl, hp, hw1⟩; refine ⟨_, rfl, ?_⟩; clear hs hw; intro a hs; have hw := hw1; clear hw1
  repeat (first | (refine sxv hs hw ?_; clear hs; intro a hs) | refine sxc hs ?_ | (refine sxa hs hw ?_; clear hs hw; intro a b W hw hs) | (refine sxs hs hw ?_; clear hs hw; intro W hs hw) | ((with_reducible first | refine st_ptrSome hs (k := ?_) | refine st_ptrNone hs (k := ?_)); clear hs; intro a hs))
  have hlen : ks.length = d.length := by simpa using hp.length_eq
  have hl := hd.len
  refine st_call hs (hc := sort_keys w0 _ sv ks _ (fun k hk => ?hk) (by omega) hw) (k := ?_)
  case hk =>
    obtain ⟨p, hp', rfl⟩ := List.mem_map.1 (hp.mem_iff.1 hk)
    exact (hd.all p hp').key
  rintro e0 W1 ⟨rfl, ks', hp2, hsr, hw1⟩; refine ⟨_, rfl, ?_⟩; clear hs hw; intro a hs; have hw := hw1; clear hw1
  repeat (first | (refine sxv hs hw ?_; clear hs; intro a hs) | refine sxc hs ?_ | (refine sxa hs hw ?_; clear hs hw; intro a b W hw hs) | (refine sxs hs hw ?_; clear hs hw; intro W hs hw) | ((with_reducible first | refine st_ptrSome hs (k := ?_) | refine st_ptrNone hs (k := ?_)); clear hs; intro a hs))
  exact rt1 hs rfl rfl ⟨_, ks', rfl, hp2.trans hp, hsr, hw⟩
set_option maxHeartbeats 8000000 in
theorem doc_Keys (w0 W : World) (p : Nat) (d : Dm) (R : List Res) (hd : DocFine d) (hw : Has 0 w0 W (DocAt p d :: R)) :
    Calls Tryz.prog 64 ⟨[.pointer (some ⟨p, 0, none⟩)]⟩ W fun e W' => ∃ sv, e = .returned sv ∧ Has 0 w0 W' (Own 9 1 sv d.length (d.map fun x => Value.string x.1) :: DocAt p d :: R) := by
  obtain ⟨m, d', hp, hk, hw⟩ := docOpen hw
  have hd' : DocOk d' := ⟨(dKeys_perm hp).2 hk, by rw [hp.length_eq]; exact hd.ok.len, fun x hx => hd.ok.all x (hp.mem_iff.1 hx)⟩
  refine enter Tryz.func64 Tryz.ntmps64 rfl rfl fun a hs => ?_
  repeat (first | (refine sxv hs hw ?_; clear hs; intro a hs) | refine sxc hs ?_ | (refine sxa hs hw ?_; clear hs hw; intro a b W hw hs) | (refine sxs hs hw ?_; clear hs hw; intro W hs hw) | ((with_reducible first | refine st_ptrSome hs (k := ?_) | refine st_ptrNone hs (k := ?_)); clear hs; intro a hs))
  refine st_call hs (hc := maps_Keys w0 _ m _ hw) (k := ?_); rintro e0 W1 ⟨q, rfl, hw1⟩; refine ⟨_, rfl, ?_⟩; clear hs hw; intro a hs
  have hw : Has 0 w0 W1 (Cells q [.map (some m)] (Tryz.keysD_ren.t 23) :: MapOf m (kvOf d') :: Cells p [.map (some m)] 141 :: R) := hw1.perm (by repeat (first | exact List.Perm.refl _ | refine perm_pick (by repeat (first | exact Pick.hd | apply Pick.tl)) ?_))
  clear hw1
  repeat (first | (refine sxv hs hw ?_; clear hs; intro a hs) | refine sxc hs ?_ | (refine sxa hs hw ?_; clear hs hw; intro a b W hw hs) | (refine sxs hs hw ?_; clear hs hw; intro W hs hw) | ((with_reducible first | refine st_ptrSome hs (k := ?_) | refine st_ptrNone hs (k := ?_)); clear hs; intro a hs))
  refine st_call hs (hc := sorted_keys w0 _ q m d' _ hd' hw) (k := ?_); rintro e0 W2 ⟨sv, ks, rfl, hpk, hsr, hw1⟩; refine ⟨_, rfl, ?_⟩; clear hs hw; intro a hs; have hw := hw1; clear hw1
  have hpd : ks.Perm (d.map (·.1)) := hpk.trans (hp.map _)
  have hks : ks = d.map (·.1) := srt_unique hpd (srt_of_not (hpd.nodup_iff.2 hk) hsr) hd.srt.keys
  subst hks
  repeat (first | (refine sxv hs hw ?_; clear hs; intro a hs) | refine sxc hs ?_ | (refine sxa hs hw ?_; clear hs hw; intro a b W hw hs) | (refine sxs hs hw ?_; clear hs hw; intro W hs hw) | ((with_reducible first | refine st_ptrSome hs (k := ?_) | refine st_ptrNone hs (k := ?_)); clear hs; intro a hs))
  refine rt1 hs rfl rfl ⟨sv, rfl, ?_⟩
  have hw : Has 0 w0 W2 (Cells p [.map (some m)] 141 :: MapOf m (kvOf d') :: Own 9 1 sv (d.map (·.1)).length ((d.map (·.1)).map Value.string) :: R) := (hw.sub (List.Sublist.cons_cons _ (List.Sublist.cons _ (List.Sublist.refl _)))).perm (by repeat (first | exact List.Perm.refl _ | refine perm_pick (by repeat (first | exact Pick.hd | apply Pick.tl)) ?_))
  have hw := (docShut hw hp hk).perm (List.Perm.swap _ _ _)
  rwa [List.length_map, List.map_map] at hw
end Go.Proofs.YtmalklakaalaoaaGreatDoor.Sw

set_option linter.unusedVariables false
set_option maxRecDepth 10000
namespace Go.Proofs.YtmalklakaalaoaaGreatDoor.Sw
open Go.RowKit Go.Sx
set_option maxHeartbeats 8000000 in
theorem doc_Get (w0 W : World) (p : Nat) (d : Dm) (k : ByteArray) (R : List Res) (hw : Has 0 w0 W (DocAt p d :: R)) :
    Calls Tryz.prog 83 ⟨[.pointer (some ⟨p, 0, none⟩), .string k]⟩ W fun e W' => e = .returned (.tuple ⟨[.agg ⟨rawCells (getK d k)⟩, .bool (getK d k).isSome]⟩) ∧ Has 0 w0 W' (DocAt p d :: R) := by
  refine enter Tryz.func83 Tryz.ntmps83 rfl rfl fun a hs => ?_
  repeat (first | (refine sxv hs hw ?_; clear hs; intro a hs) | refine sxc hs ?_ | (refine sxa hs hw ?_; clear hs hw; intro a b W hw hs) | (refine sxs hs hw ?_; clear hs hw; intro W hs hw) | ((with_reducible first | refine st_ptrSome hs (k := ?_) | refine st_ptrNone hs (k := ?_)); clear hs; intro a hs))
  obtain ⟨b4, q4⟩ := nm1 hw; subst q4
  refine st_call hs (hc := doc_has w0 _ p d k _ (hw.perm (List.Perm.swap _ _ _))) (k := ?_); rintro e0 W1 ⟨rfl, hw1⟩; refine ⟨_, rfl, ?_⟩; clear hs hw; intro a hs; have hw := hw1; clear hw1
  cases hg : (getK d k).isSome with
  | false =>
    rw [hg] at hs
    have hn : getK d k = none := by simpa using hg
    repeat (first | (refine sxv hs hw ?_; clear hs; intro a hs) | refine sxc hs ?_ | (refine sxa hs hw ?_; clear hs hw; intro a b W hw hs) | (refine sxs hs hw ?_; clear hs hw; intro W hs hw) | ((with_reducible first | refine st_ptrSome hs (k := ?_) | refine st_ptrNone hs (k := ?_)); clear hs; intro a hs))
    refine rc2 hs rfl rfl hw (In.tl In.hd) rfl rfl ?_
    rw [hn]
    exact ⟨rfl, hw.sub (List.Sublist.cons_cons _ (List.Sublist.cons _ (List.Sublist.refl _)))⟩
  | true =>
    rw [hg] at hs
    obtain ⟨m, d', hp, hk, hw⟩ := docOpen hw
    repeat (first | (refine sxv hs hw ?_; clear hs; intro a hs) | refine sxc hs ?_ | (refine sxa hs hw ?_; clear hs hw; intro a b W hw hs) | (refine sxs hs hw ?_; clear hs hw; intro W hs hw) | ((with_reducible first | refine st_ptrSome hs (k := ?_) | refine st_ptrNone hs (k := ?_)); clear hs; intro a hs))
    refine st_lookup hs (hw := hw) (hz := zeroVal) (c := ?_); clear hs; intro a hs
    rw [dget_kv, getK_perm hp ((dKeys_perm hp).2 hk)] at hs
    repeat (first | (refine sxv hs hw ?_; clear hs; intro a hs) | refine sxc hs ?_ | (refine sxa hs hw ?_; clear hs hw; intro a b W hw hs) | (refine sxs hs hw ?_; clear hs hw; intro W hs hw) | ((with_reducible first | refine st_ptrSome hs (k := ?_) | refine st_ptrNone hs (k := ?_)); clear hs; intro a hs))
    refine st_call hs (hc := Raw_any (getK d k) _) (k := ?_); rintro e0 W1 ⟨rfl, hb⟩; refine ⟨_, rfl, ?_⟩; clear hs; intro a hs; replace hw := hw.below hb; clear hb
    repeat (first | (refine sxv hs hw ?_; clear hs; intro a hs) | refine sxc hs ?_ | (refine sxa hs hw ?_; clear hs hw; intro a b W hw hs) | (refine sxs hs hw ?_; clear hs hw; intro W hs hw) | ((with_reducible first | refine st_ptrSome hs (k := ?_) | refine st_ptrNone hs (k := ?_)); clear hs; intro a hs))
    refine rc2 hs rfl rfl hw (In.tl (In.tl In.hd)) rfl rfl ?_
    exact ⟨rfl, docShut (hw.sub (List.Sublist.cons_cons _ (List.Sublist.cons_cons _ (List.Sublist.cons _ (List.Sublist.refl _))))) hp hk⟩
end Go.Proofs.YtmalklakaalaoaaGreatDoor.Sw

set_option linter.unusedVariables false
set_option maxRecDepth 10000
namespace Go.Sx
open Go.RowKit
section
variable {P : Program} {ops : Array Oper} {rest : List Oper} {Q : Exit → Act → World → Prop} {a : Act} {n : Nat} {L : List (Nat × Value)} {W : World} {d : Nat} {T : TypeId} {p : String} {e : Array Edge}
end
theorem Ch.mem {α : Type} {R : α → List Value → Prop} {k : Nat} (hk : ∀ a c, R a c → c.length = k) {l : List α} {cs : List Value} (h : Ch R l cs) {i : Nat} {a : α} (hi : l[i]? = some a) : ∃ c, R a c ∧ cut cs (i * k) k = c := by
  obtain ⟨c, h1, h2, h3⟩ := h.get hk hi
  exact ⟨c, h1, h3⟩
theorem set_mid {cs1 c cs2 : List Value} {m : Nat} {x : Value} (hm : m < c.length) : (cs1 ++ (c ++ cs2)).set (cs1.length + m) x = cs1 ++ (c.set m x ++ cs2) := by
  rw [List.set_append_right _ _ (Nat.le_add_right _ _), Nat.add_sub_cancel_left, List.set_append_left _ _ hm]
theorem Ch.set_in {α : Type} {R R' : α → List Value → Prop} {k m i : Nat} {x : Value} {l : List α} {a a' : α} {cs : List Value} (hk : ∀ a c, R a c → c.length = k) (h : Ch R l cs) (hi : l[i]? = some a) (hm : m < k) (hx : ∀ c, R a c → R a' (c.set m x)) : Ch R (l.set i a') (cs.set (i * k + m) x) := by
  obtain ⟨cs1, c, cs2, rfl, h1, h2, h3, h4⟩ := h.split hk hi
  have hl := hk a c h2
  have hlt := (List.getElem?_eq_some_iff.1 hi).1
  rw [← h1, set_mid (by omega), List.set_eq_take_append_cons_drop, if_pos hlt]
  exact h3.app ⟨c.set m x, cs2, rfl, hx c h2, h4⟩
theorem Ch.at_cur {α : Type} {R : α → List Value → Prop} {k i n j : Nat} {l : List α} {a : α} {cs cur c : List Value} {u : Value} (hcut : cut cs (i * k) k = c) (ht : cur.take n = cs) (hu : c[j]? = some u) : cur[i * k + j]? = some u := by
  have h1 := congrArg (fun t => t[j]?) hcut
  simp only [cut_eq, List.getElem?_take, List.getElem?_drop, hu] at h1
  split at h1
  · rw [← ht, List.getElem?_take] at h1
    split at h1
    · exact h1
    · cases h1
  · cases h1
theorem keepB {w W : World} {p : Fh → Prop} {b : Bool} (h : Has 0 w W ((if b = true then Ex (fun H => Fz H :: Fact ((fr w).le H ∧ p H) :: []) else Fz (fr w)) :: [])) : Below w.heap.size w W := by
  cases b with
  | false => exact h.endF In.hd (Fh.le.refl _)
  | true =>
    have h : Has 0 w W (Ex (fun H => Fz H :: Fact ((fr w).le H ∧ p H) :: []) :: []) := h
    obtain ⟨H, h⟩ := Has.open h
    have h : Has 0 w W (Fz H :: Fact ((fr w).le H ∧ p H) :: []) := h
    have h2 := h.told (In.tl In.hd)
    exact h.endF In.hd h2.1
inductive Sel : List Res → List Res → Prop
  | nil {L : List Res} : Sel [] L
  | refl (L : List Res) : Sel L L
  | cons {r : Res} {K L L' : List Res} : Pick r L L' → Sel K L' → Sel (r :: K) L
  | skip {r : Res} {K L : List Res} : Sel K L → Sel K (r :: L)
theorem Sel.perm {K L : List Res} (s : Sel K L) : ∃ M, L.Perm (K ++ M) := by
  induction s with
  | nil => exact ⟨_, List.Perm.refl _⟩
  | refl L => exact ⟨[], by rw [List.append_nil]⟩
  | cons p _ ih =>
    obtain ⟨M, h⟩ := ih
    exact ⟨M, perm_pick p h⟩
  | @skip r K L _ ih =>
    obtain ⟨M, h⟩ := ih
    exact ⟨r :: M, (h.cons r).trans List.perm_middle.symm⟩
theorem Has.sel {G : Nat} {w W : World} {K L : List Res} (h : Has G w W L) (s : Sel K L) : Has G w W K := by
  obtain ⟨M, hp⟩ := s.perm
  exact (h.perm hp).sub (List.sublist_append_left K M)
end Go.Sx

set_option linter.unusedVariables false
namespace Go.Sx
open Go.RowKit
theorem chH_at {α : Type} {Rr : α → List Value → Prop} {H : Fh} {sad : Option Addr} {scap n k : Nat} {l : List α} {xs : List Value} {i : Nat} {o : α} (hk : ∀ a c, Rr a c → c.length = k) (r : RdH H k (.slice sad n scap) n xs) (hc : Ch Rr l xs) (hn : l.length = n) (h : l[i]? = some o) :
    ∃ g off c, sad = some ⟨g, off, none⟩ ∧ Rr o c ∧ ∀ {G : Nat} {w0 W : World} {L : List Res}, Has G w0 W L → In (Fz H) L → ∀ j u, c[j]? = some u → W.cell? ⟨g, off + i * k + j, none⟩ = some u := by
  have hi : i < l.length := (List.getElem?_eq_some_iff.1 h).1
  obtain ⟨c, h1, h2, h3⟩ := hc.get hk h
  obtain ⟨_, ad, cap, e, h4, h5, h6⟩ := r
  injection e with e1 e2 e3
  subst e1
  rcases h6 with h6 | ⟨b, off, cs, T, z, rfl, hb, hcell⟩
  · omega
  · refine ⟨b, off, c, rfl, h1, fun hw hin j u hu => ?_⟩
    obtain ⟨F, hF, h7⟩ := hw.of_in hin
    unfold World.cell?
    rw [(h7 b _ hb).2, Nat.add_assoc]
    have : cs[off + (i * k + j)]? = some u := by
      refine hcell _ _ ?_
      rw [← h3, cut_eq, List.getElem?_take] at hu
      split at hu
      · rw [List.getElem?_drop] at hu; exact hu
      · cases hu
    simpa using this
theorem Has.thaw {G : Nat} {w W : World} {R : List Res} {H H' : Fh} (h : Has G w W (Fz H' :: R)) (hl : H.le H') : Has G w W (Fz H :: R) := by
  obtain ⟨F1, h1, h2, h3⟩ := h.has
  exact ⟨h.ext, h.glob, F1, h1, fun b o hb => h2 b o (hl b o hb), h3⟩
theorem chMap {α : Type} (f : α → Value) : ∀ l : List α, Ch (fun a c => c = [f a]) l (l.map f)
  | [] => rfl
  | a :: l => ⟨[f a], l.map f, rfl, rfl, chMap f l⟩
end Go.Sx

set_option linter.unusedVariables false
set_option maxRecDepth 10000
namespace Go.Proofs.YtmalklakaalaoaaGreatDoor.Sw
open Go.RowKit Go.Sx
-- pieces
set_option maxHeartbeats 4000000 in
theorem ref_Eq_self (k n : Int) (s : ByteArray) (w : World) :
    Calls Tryz.prog 84 ⟨[.agg ⟨[.int .i64 k, .int .i64 n, .string s]⟩, .agg ⟨[.int .i64 k, .int .i64 n, .string s]⟩]⟩ w fun e w' => e = .returned (.bool true) ∧ Below w.heap.size w w' := by
  have hw := Has.start (G := 0) (w := w) (Nat.zero_le _)
  refine enter Tryz.func84 Tryz.ntmps84 rfl rfl fun a hs => ?_
  repeat (first | (refine sxv hs hw ?_; clear hs; intro a hs) | refine sxc hs ?_ | (refine sxa hs hw ?_; clear hs hw; intro a b W hw hs) | (refine sxs hs hw ?_; clear hs hw; intro W hs hw) | ((with_reducible first | refine st_ptrSome hs (k := ?_) | refine st_ptrNone hs (k := ?_)); clear hs; intro a hs))
  rw [beq_self_eq_true] at hs
  repeat (first | (refine sxv hs hw ?_; clear hs; intro a hs) | refine sxc hs ?_ | (refine sxa hs hw ?_; clear hs hw; intro a b W hw hs) | (refine sxs hs hw ?_; clear hs hw; intro W hs hw) | ((with_reducible first | refine st_ptrSome hs (k := ?_) | refine st_ptrNone hs (k := ?_)); clear hs; intro a hs))
  rw [beq_self_eq_true] at hs
  repeat (first | (refine sxv hs hw ?_; clear hs; intro a hs) | refine sxc hs ?_ | (refine sxa hs hw ?_; clear hs hw; intro a b W hw hs) | (refine sxs hs hw ?_; clear hs hw; intro W hs hw) | ((with_reducible first | refine st_ptrSome hs (k := ?_) | refine st_ptrNone hs (k := ?_)); clear hs; intro a hs))
  rw [beq_self_eq_true] at hs
  repeat (first | (refine sxv hs hw ?_; clear hs; intro a hs) | refine sxc hs ?_ | (refine sxa hs hw ?_; clear hs hw; intro a b W hw hs) | (refine sxs hs hw ?_; clear hs hw; intro W hs hw) | ((with_reducible first | refine st_ptrSome hs (k := ?_) | refine st_ptrNone hs (k := ?_)); clear hs; intro a hs))
  exact rt1 hs rfl rfl ⟨rfl, hw.end (by repeat (first | exact In.hd | apply In.tl))⟩
theorem getK_at {d : Dm} (hk : dKeys d) {i : Nat} {o : ByteArray × DV} (h : d[i]? = some o) : getK d o.1 = some o.2 := (getK_mem hk).2 (List.mem_of_getElem? h)
set_option maxHeartbeats 8000000 in
theorem law6_Same (w0 W : World) (H : Fh) (p : Nat) (d : Dm) (dv : Value) (R : List Res) (hd : DocFine d) (r : DocH H dv d) (hw : Has 0 w0 W (DocAt p d :: Fz H :: R)) :
    Calls Tryz.prog 49 ⟨[.pointer (some ⟨p, 0, none⟩), .agg ⟨[dv]⟩]⟩ W fun e W' => e = .returned (.bool true) ∧ Has 0 w0 W' (DocAt p d :: Fz H :: R) := by
  obtain ⟨dad, dcap, rfl⟩ := r.slice
  have hl := hd.ok.len
  refine enter Tryz.func49 Tryz.ntmps49 rfl rfl fun a hs => ?_
  repeat (first | (refine sxv hs hw ?_; clear hs; intro a hs) | refine sxc hs ?_ | (refine sxa hs hw ?_; clear hs hw; intro a b W hw hs) | (refine sxs hs hw ?_; clear hs hw; intro W hs hw) | ((with_reducible first | refine st_ptrSome hs (k := ?_) | refine st_ptrNone hs (k := ?_)); clear hs; intro a hs))
  obtain ⟨b3, q3⟩ := nm1 hw; subst q3
  refine st_call hs (hc := doc_Keys w0 _ p d _ hd (hw.perm (List.Perm.swap _ _ _))) (k := ?_); rintro e0 W1 ⟨kv, rfl, hw1⟩; refine ⟨_, rfl, ?_⟩; clear hs hw; intro a hs
  have hw : Has 0 w0 W1 (Own 9 1 kv d.length (d.map fun x => Value.string x.1) :: Fz H :: Cells b3 [.slice dad d.length dcap] 32 :: DocAt p d :: R) := hw1.perm (by repeat (first | exact List.Perm.refl _ | refine perm_pick (by repeat (first | exact Pick.hd | apply Pick.tl)) ?_))
  clear hw1
  obtain ⟨H1, hle, hw2, rk⟩ := hw.freeze_own
  clear hw; have hw := hw2; clear hw2
  obtain ⟨kad, kcap, rfl⟩ := rk.slice
  have r1 := r.le hle
  repeat (first | (refine sxv hs hw ?_; clear hs; intro a hs) | refine sxc hs ?_ | (refine sxa hs hw ?_; clear hs hw; intro a b W hw hs) | (refine sxs hs hw ?_; clear hs hw; intro W hs hw) | ((with_reducible first | refine st_ptrSome hs (k := ?_) | refine st_ptrNone hs (k := ?_)); clear hs; intro a hs))
  rw [show (((d.length : Int)) != (d.length : Int)) = false from bne_self_eq_false _] at hs
  repeat (first | (refine sxv hs hw ?_; clear hs; intro a hs) | refine sxc hs ?_ | (refine sxa hs hw ?_; clear hs hw; intro a b W hw hs) | (refine sxs hs hw ?_; clear hs hw; intro W hs hw) | ((with_reducible first | refine st_ptrSome hs (k := ?_) | refine st_ptrNone hs (k := ?_)); clear hs; intro a hs))
  refine st_loop (σ := Nat) (fun i => [(0, .pointer (some ⟨p, 0, none⟩)), (3, .pointer (some ⟨b3, 0, none⟩)), (5, .slice kad d.length kcap), (6, .int .i64 (i : Int))]) (fun _ => DocAt p d :: Cells b3 [.slice dad d.length dcap] 32 :: Fz H1 :: R) (fun i => i ≤ d.length) (fun i => d.length - i) 0 (Nat.zero_le _) hs ⟨rfl, rfl, rfl, rfl, trivial⟩ (hw.perm (by repeat (first | exact List.Perm.refl _ | refine perm_pick (by repeat (first | exact Pick.hd | apply Pick.tl)) ?_))) ?_
  clear hs hw
  rintro i a W hi hs hw
  repeat (first | (refine sxv hs hw ?_; clear hs; intro a hs) | refine sxc hs ?_ | (refine sxa hs hw ?_; clear hs hw; intro a b W hw hs) | (refine sxs hs hw ?_; clear hs hw; intro W hs hw) | ((with_reducible first | refine st_ptrSome hs (k := ?_) | refine st_ptrNone hs (k := ?_)); clear hs; intro a hs))
  refine cd_split hs (kt := fun hcc => ?_) (kf := fun hcc => ?_)
  · have hi' : i < d.length := by simpa using hcc
    obtain ⟨o, hoi⟩ : ∃ o, d[i]? = some o := ⟨d[i], List.getElem?_eq_getElem hi'⟩
    have hgk := getK_at hd.ok.keys hoi
    obtain ⟨g1, f1, c1, rfl, rfl, hc1⟩ := chH_at (fun _ _ h => by rw [h]; rfl) rk (chMap (fun x : ByteArray × DV => Value.string x.1) d) rfl hoi
    obtain ⟨g2, f2, c2, rfl, rfl, hc2⟩ := chH_at pair_len r1 (chFlat pairCells d) rfl hoi
    repeat (first | (refine sxv hs hw ?_; clear hs; intro a hs) | refine sxc hs ?_ | (refine sxa hs hw ?_; clear hs hw; intro a b W hw hs) | (refine sxs hs hw ?_; clear hs hw; intro W hs hw) | ((with_reducible first | refine st_ptrSome hs (k := ?_) | refine st_ptrNone hs (k := ?_)); clear hs; intro a hs))
    refine st_index_at hs (z := [.string ⟨#[]⟩]) (h0 := by omega) (h1 := by omega) (c := ?_); clear hs; intro a hs
    repeat (first | (refine sxv hs hw ?_; clear hs; intro a hs) | refine sxc hs ?_ | (refine sxa hs hw ?_; clear hs hw; intro a b W hw hs) | (refine sxs hs hw ?_; clear hs hw; intro W hs hw) | ((with_reducible first | refine st_ptrSome hs (k := ?_) | refine st_ptrNone hs (k := ?_)); clear hs; intro a hs))
    refine st_load_at hs (hc := hc1 hw (by repeat (first | exact In.hd | apply In.tl)) 0 _ rfl) (c := ?_); clear hs; intro a hs
    repeat (first | (refine sxv hs hw ?_; clear hs; intro a hs) | refine sxc hs ?_ | (refine sxa hs hw ?_; clear hs hw; intro a b W hw hs) | (refine sxs hs hw ?_; clear hs hw; intro W hs hw) | ((with_reducible first | refine st_ptrSome hs (k := ?_) | refine st_ptrNone hs (k := ?_)); clear hs; intro a hs))
    refine st_call hs (hc := doc_Get w0 _ p d o.1 _ hw) (k := ?_); rintro e0 W1 ⟨rfl, hw1⟩; refine ⟨_, rfl, ?_⟩; clear hs hw; intro a hs; have hw := hw1; clear hw1
    rw [hgk, show (some o.2).isSome = true from rfl] at hs
    repeat (first | (refine sxv hs hw ?_; clear hs; intro a hs) | refine sxc hs ?_ | (refine sxa hs hw ?_; clear hs hw; intro a b W hw hs) | (refine sxs hs hw ?_; clear hs hw; intro W hs hw) | ((with_reducible first | refine st_ptrSome hs (k := ?_) | refine st_ptrNone hs (k := ?_)); clear hs; intro a hs))
    obtain ⟨b7, q7⟩ := nm1 hw; subst q7
    refine rg_draw (V := [.slice (some ⟨g1, f1, none⟩) d.length kcap, .int .i64 (i : Int), .pointer (some ⟨g1, f1 + i * 1, none⟩), .string o.1, .pointer (some ⟨b3, 0 + 0, none⟩), .slice (some ⟨g2, f2, none⟩) d.length dcap, .int .i64 (i : Int), .pointer (some ⟨g2, f2 + i * 4, none⟩), .pointer (some ⟨g2, f2 + i * 4 + 0, none⟩), .string o.1, .bool false, .bool false, .bool true, .bool false, .bool false, .bool false, .agg ⟨rawCells (some o.2)⟩, .pointer (some ⟨b3, 0 + 0, none⟩), .slice (some ⟨g2, f2, none⟩) d.length dcap, .int .i64 (i : Int), .pointer (some ⟨g2, f2 + i * 4, none⟩), .pointer (some ⟨g2, f2 + i * 4 + 1, none⟩), .agg ⟨rawCells (some o.2)⟩, .bool true, .bool false, .bool false])
      (Rs := fun D => Cells b7 (rawCells (some o.2)) 93 :: DocAt p d :: Cells b3 [.slice (some ⟨g2, f2, none⟩) d.length dcap] 32 :: Fz H1 :: R) hs hw (ho := ⟨?_, ?_, ?c2_c, ?c3_c, ?_, ?_, ?_, ?c7_c, ?_, ?c9_c, ?c10_c, ?_, ?_, ?_, ?_, ?_, ?_, ?_, ?_, ?_, ?c20_c, ?_, ?c22_c, ?c23_c, ?_, ?_, trivial⟩) (k := ?k_c)
    case c2_c =>
      intro LD D a W hcl hi hp hs hw
      refine st_index_at hs (z := [.string ⟨#[]⟩]) (h0 := by omega) (h1 := by omega) (c := ?_); clear hs; intro a hs
      repeat (first | (refine sxv hs hw ?_; clear hs; intro a hs) | refine sxc hs ?_ | (refine sxa hs hw ?_; clear hs hw; intro a b W hw hs) | (refine sxs hs hw ?_; clear hs hw; intro W hs hw) | ((with_reducible first | refine st_ptrSome hs (k := ?_) | refine st_ptrNone hs (k := ?_)); clear hs; intro a hs))
      exact ⟨hs, hw⟩
    case c3_c =>
      intro LD D a W hcl hi hp hs hw
      refine st_load_at hs (hc := hc1 hw (by repeat (first | exact In.hd | apply In.tl)) 0 _ rfl) (c := ?_); clear hs; intro a hs
      repeat (first | (refine sxv hs hw ?_; clear hs; intro a hs) | refine sxc hs ?_ | (refine sxa hs hw ?_; clear hs hw; intro a b W hw hs) | (refine sxs hs hw ?_; clear hs hw; intro W hs hw) | ((with_reducible first | refine st_ptrSome hs (k := ?_) | refine st_ptrNone hs (k := ?_)); clear hs; intro a hs))
      exact ⟨hs, hw⟩
    case c7_c =>
      intro LD D a W hcl hi hp hs hw
      refine st_index_at hs (z := [.string ⟨#[]⟩, .int .i64 0, .int .i64 0, .string ⟨#[]⟩]) (h0 := by omega) (h1 := by omega) (c := ?_); clear hs; intro a hs
      repeat (first | (refine sxv hs hw ?_; clear hs; intro a hs) | refine sxc hs ?_ | (refine sxa hs hw ?_; clear hs hw; intro a b W hw hs) | (refine sxs hs hw ?_; clear hs hw; intro W hs hw) | ((with_reducible first | refine st_ptrSome hs (k := ?_) | refine st_ptrNone hs (k := ?_)); clear hs; intro a hs))
      exact ⟨hs, hw⟩
    case c9_c =>
      intro LD D a W hcl hi hp hs hw
      refine st_load_at hs (hc := hc2 hw (by repeat (first | exact In.hd | apply In.tl)) 0 _ rfl) (c := ?_); clear hs; intro a hs
      repeat (first | (refine sxv hs hw ?_; clear hs; intro a hs) | refine sxc hs ?_ | (refine sxa hs hw ?_; clear hs hw; intro a b W hw hs) | (refine sxs hs hw ?_; clear hs hw; intro W hs hw) | ((with_reducible first | refine st_ptrSome hs (k := ?_) | refine st_ptrNone hs (k := ?_)); clear hs; intro a hs))
      exact ⟨hs, hw⟩
    case c10_c =>
      intro LD D a W hcl hi hp hs hw
      repeat (first | (refine sxv hs hw ?_; clear hs; intro a hs) | refine sxc hs ?_ | (refine sxa hs hw ?_; clear hs hw; intro a b W hw hs) | (refine sxs hs hw ?_; clear hs hw; intro W hs hw) | ((with_reducible first | refine st_ptrSome hs (k := ?_) | refine st_ptrNone hs (k := ?_)); clear hs; intro a hs))
      rw [beq_self_eq_true] at hs
      repeat (first | (refine sxv hs hw ?_; clear hs; intro a hs) | refine sxc hs ?_ | (refine sxa hs hw ?_; clear hs hw; intro a b W hw hs) | (refine sxs hs hw ?_; clear hs hw; intro W hs hw) | ((with_reducible first | refine st_ptrSome hs (k := ?_) | refine st_ptrNone hs (k := ?_)); clear hs; intro a hs))
      exact ⟨hs, hw⟩
    case c20_c =>
      intro LD D a W hcl hi hp hs hw
      repeat (first | (refine sxv hs hw ?_; clear hs; intro a hs) | refine sxc hs ?_ | (refine sxa hs hw ?_; clear hs hw; intro a b W hw hs) | (refine sxs hs hw ?_; clear hs hw; intro W hs hw) | ((with_reducible first | refine st_ptrSome hs (k := ?_) | refine st_ptrNone hs (k := ?_)); clear hs; intro a hs))
      refine st_index_at hs (z := [.string ⟨#[]⟩, .int .i64 0, .int .i64 0, .string ⟨#[]⟩]) (h0 := by omega) (h1 := by omega) (c := ?_); clear hs; intro a hs
      repeat (first | (refine sxv hs hw ?_; clear hs; intro a hs) | refine sxc hs ?_ | (refine sxa hs hw ?_; clear hs hw; intro a b W hw hs) | (refine sxs hs hw ?_; clear hs hw; intro W hs hw) | ((with_reducible first | refine st_ptrSome hs (k := ?_) | refine st_ptrNone hs (k := ?_)); clear hs; intro a hs))
      exact ⟨hs, hw⟩
    case c22_c =>
      intro LD D a W hcl hi hp hs hw
      repeat (first | (refine sxv hs hw ?_; clear hs; intro a hs) | refine sxc hs ?_ | (refine sxa hs hw ?_; clear hs hw; intro a b W hw hs) | (refine sxs hs hw ?_; clear hs hw; intro W hs hw) | ((with_reducible first | refine st_ptrSome hs (k := ?_) | refine st_ptrNone hs (k := ?_)); clear hs; intro a hs))
      refine st_load_ats hs (cs := rawCells (some o.2)) (hc := fun j u h => by rw [Nat.add_assoc _ 1 j, Nat.add_comm 1 j]; exact hc2 hw (by repeat (first | exact In.hd | apply In.tl)) (j + 1) u h) (hl := by rfl) (c := ?_); clear hs; intro a hs
      repeat (first | (refine sxv hs hw ?_; clear hs; intro a hs) | refine sxc hs ?_ | (refine sxa hs hw ?_; clear hs hw; intro a b W hw hs) | (refine sxs hs hw ?_; clear hs hw; intro W hs hw) | ((with_reducible first | refine st_ptrSome hs (k := ?_) | refine st_ptrNone hs (k := ?_)); clear hs; intro a hs))
      exact ⟨hs, hw⟩
    case c23_c =>
      intro LD D a W hcl hi hp hs hw
      repeat (first | (refine sxv hs hw ?_; clear hs; intro a hs) | refine sxc hs ?_ | (refine sxa hs hw ?_; clear hs hw; intro a b W hw hs) | (refine sxs hs hw ?_; clear hs hw; intro W hs hw) | ((with_reducible first | refine st_ptrSome hs (k := ?_) | refine st_ptrNone hs (k := ?_)); clear hs; intro a hs))
      refine st_call hs (hc := ref_Eq_self (kindOf (some o.2)) (intIn (some o.2)) (textIn (some o.2)) _) (k := ?_); rintro e0 W1 ⟨rfl, hb⟩; refine ⟨_, rfl, ?_⟩; clear hs; intro a hs; replace hw := hw.below hb; clear hb
      repeat (first | (refine sxv hs hw ?_; clear hs; intro a hs) | refine sxc hs ?_ | (refine sxa hs hw ?_; clear hs hw; intro a b W hw hs) | (refine sxs hs hw ?_; clear hs hw; intro W hs hw) | ((with_reducible first | refine st_ptrSome hs (k := ?_) | refine st_ptrNone hs (k := ?_)); clear hs; intro a hs))
      exact ⟨hs, hw⟩
    case k_c =>
      clear hs hw
      intro a W hs hw
      replace hw : Has 0 w0 W (Cells b7 (rawCells (some o.2)) 93 :: DocAt p d :: Cells b3 [.slice (some ⟨g2, f2, none⟩) d.length dcap] 32 :: Fz H1 :: R) := hw
      replace hs : Slots a 60 [(59, .bool false), (0, .pointer (some ⟨p, 0, none⟩)), (3, .pointer (some ⟨b3, 0, none⟩)), (5, .slice (some ⟨g1, f1, none⟩) d.length kcap), (6, .int .i64 (i : Int))] := hs.of ⟨rfl, rfl, rfl, rfl, rfl, trivial⟩
      repeat (first | (refine sxv hs hw ?_; clear hs; intro a hs) | refine sxc hs ?_ | (refine sxa hs hw ?_; clear hs hw; intro a b W hw hs) | (refine sxs hs hw ?_; clear hs hw; intro W hs hw) | ((with_reducible first | refine st_ptrSome hs (k := ?_) | refine st_ptrNone hs (k := ?_)); clear hs; intro a hs))
      exact st_again (i + 1) hs (hw.sub (List.Sublist.cons _ (List.Sublist.refl _))) hi' (by show d.length - (i + 1) < d.length - i; omega) ⟨rfl, rfl, rfl, int_eq (by show IntKind.i64.wrap ((i : Int) + 1) = ((i + 1 : Nat) : Int); rw [IntWalk.i64_in _ (by omega)]; omega), trivial⟩
    all_goals
      intro LD D a W hcl hi hp hs hw
      repeat (first | (refine sxv hs hw ?_; clear hs; intro a hs) | refine sxc hs ?_ | (refine sxa hs hw ?_; clear hs hw; intro a b W hw hs) | (refine sxs hs hw ?_; clear hs hw; intro W hs hw) | ((with_reducible first | refine st_ptrSome hs (k := ?_) | refine st_ptrNone hs (k := ?_)); clear hs; intro a hs))
      exact ⟨hs, hw⟩
  · repeat (first | (refine sxv hs hw ?_; clear hs; intro a hs) | refine sxc hs ?_ | (refine sxa hs hw ?_; clear hs hw; intro a b W hw hs) | (refine sxs hs hw ?_; clear hs hw; intro W hs hw) | ((with_reducible first | refine st_ptrSome hs (k := ?_) | refine st_ptrNone hs (k := ?_)); clear hs; intro a hs))
    refine rt1 hs rfl rfl ⟨rfl, ?_⟩
    have hw : Has 0 w0 _ (Fz H1 :: DocAt p d :: Cells b3 [.slice dad d.length dcap] 32 :: R) := hw.perm (by repeat (first | exact List.Perm.refl _ | refine perm_pick (by repeat (first | exact Pick.hd | apply Pick.tl)) ?_))
    have hw := hw.thaw hle
    have hw : Has 0 w0 _ (Cells b3 [.slice dad d.length dcap] 32 :: DocAt p d :: Fz H :: R) := hw.perm (by repeat (first | exact List.Perm.refl _ | refine perm_pick (by repeat (first | exact Pick.hd | apply Pick.tl)) ?_))
    exact hw.sub (List.Sublist.cons _ (List.Sublist.refl _))
end Go.Proofs.YtmalklakaalaoaaGreatDoor.Sw
