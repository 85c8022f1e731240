/-
  Texts of the proof, one behind the other (part 12).
-/
import Derived.Test.YtajidlglbkopjaaDoorM11
/-
  The walk of the reference's Stream.Take.
-/
set_option linter.unusedVariables false
set_option maxRecDepth 10000
namespace Go.Sx
theorem ch_atH2 {α : Type} {Rr : α → List Value → Prop} {H : Fh} {sad : Option Addr} {scap n k : Nat} {l : List α} {xs : List Value} {i : Nat} {o : α} (hk : ∀ a c, Rr a c → c.length = k) (r : RdH H k (.slice sad n scap) n xs) (hc : Ch Rr l xs) (hn : l.length = n) (h : l[i]? = some o) :
    ∃ g off c, sad = some ⟨g, off, none⟩ ∧ Rr o c ∧ ∀ {H2 : Fh} {G : Nat} {w0 W : World} {L : List Res}, H.le H2 → In (Fz H2) L → Has G w0 W L → ∀ j u, c[j]? = some u → W.cell? ⟨g, off + i * k + j, none⟩ = some u := by
  have hi : i < l.length := (List.getElem?_eq_some_iff.1 h).1
  obtain ⟨c, h1, h2, h3⟩ := hc.get hk h
  obtain ⟨_, ad, cap, e, h4, h5, h6⟩ := r
  injection e with e1 e2 e3
  subst e1
  rcases h6 with h6 | ⟨b, off, cs, T, z, rfl, hb, hcell⟩
  · omega
  · refine ⟨b, off, c, rfl, h1, fun {H2 G w0 W L} hle hin hw j u hu => ?_⟩
    obtain ⟨F, hF, hfz⟩ := hw.of_in hin
    have hbl := (hfz b _ (hle _ _ hb)).2
    unfold World.cell?
    rw [hbl]
    rw [← h3, cut_eq, List.getElem?_take] at hu
    split at hu
    · rw [List.getElem?_drop] at hu
      have := hcell _ _ hu
      rw [← Nat.add_assoc] at this
      simpa using this
    · cases hu
end Go.Sx
namespace Go.Proofs.YtajidlglbkopjaaDoor.Sw
open Go.RowKit Go.Sx

/-- The reference's stream behind a pointer. -/
def RStreamAt (H : Fh) (p : Nat) (s : StreamD) : Res := Ex fun x : List Value × Value × List Value => Cells p (x.1 ++ [x.2.1]) 43 :: Sx.Own 29 5 x.2.1 s.l.length x.2.2 :: Fact (RfIn H s.f x.1 ∧ Ch (RowIn H) s.l x.2.2) :: []
section
variable {G p : Nat} {w W : World} {R : List Res} {s : StreamD} {H H' : Fh} {v : Value} {cs xs : List Value}
theorem rstreamShut (h : Has G w W (Cells p (cs ++ [v]) 43 :: Sx.Own 29 5 v s.l.length xs :: R)) (h1 : RfIn H s.f cs) (hc : Ch (RowIn H) s.l xs) : Has G w W (RStreamAt H p s :: R) :=
  Has.shut (cs, v, xs) ((h.fact (p := RfIn H s.f cs ∧ Ch (RowIn H) s.l xs) ⟨h1, hc⟩).perm (by repeat (first | exact List.Perm.refl _ | refine perm_pick (by repeat (first | exact Pick.hd | apply Pick.tl)) ?_)))
theorem rstreamOpen (h : Has G w W (RStreamAt H p s :: R)) : ∃ cs vad vcap xs, RfIn H s.f cs ∧ Ch (RowIn H) s.l xs ∧ Has G w W (Cells p (cs ++ [.slice vad s.l.length vcap]) 43 :: Sx.Own 29 5 (.slice vad s.l.length vcap) s.l.length xs :: R) := by
  obtain ⟨⟨cs, v, xs⟩, h⟩ := Has.open h
  have h : Has G w W (Cells p (cs ++ [v]) 43 :: Sx.Own 29 5 v s.l.length xs :: Fact (RfIn H s.f cs ∧ Ch (RowIn H) s.l xs) :: R) := h
  have hf := h.told (In.tl (In.tl In.hd))
  have h : Has G w W (Cells p (cs ++ [v]) 43 :: Sx.Own 29 5 v s.l.length xs :: R) := h.sub (List.Sublist.cons_cons _ (List.Sublist.cons_cons _ (List.Sublist.cons _ (List.Sublist.refl _))))
  obtain ⟨ad, cap, rfl⟩ := (h.swap2).own_slice
  exact ⟨cs, ad, cap, xs, hf.1, hf.2, h⟩
end
theorem at38 {cs : List Value} (h : cs.length = 38) (v : Value) : (cs ++ [v])[0 + 38]? = some v := by
  rw [List.getElem?_append_right (by omega)]
  simp [h]
theorem cut38 {cs : List Value} (h : cs.length = 38) (v : Value) : cut (cs ++ [v]) 0 38 = cs := by
  rw [cut_eq, List.drop_zero, List.take_append_of_le_length (by omega), List.take_of_length_le (by omega)]
theorem set38 {cs : List Value} (h : cs.length = 38) (v v' : Value) : ov (cs ++ [v]) (0 + 38) [v'] = cs ++ [v'] := by
  have := ov_right cs [v] [v'] 0 (by simp)
  rw [h] at this
  rw [show 0 + 38 = 38 + 0 from rfl, this]
  simp [ov]
theorem one_new {s : StreamD} {r : RowD} (hp : s.f.place = s.l.length) (hl : s.l.length ≤ 1000000) (h : r.place = (s.l.length : Int) + 1) : one s r = if (next s.f r.b).2.2 = true ∧ eqRow (next s.f r.b).2.1 r = true then (⟨(next s.f r.b).1, s.l ++ [(next s.f r.b).2.1]⟩, true, 0) else (s, false, 1) := by
  unfold one
  rw [if_neg (by omega), if_neg (by omega)]
  by_cases hok : (next s.f r.b).2.2 = true
  · have hn := (next_ok hok).2
    have e : ((next s.f r.b).2.1.err = r.err) ↔ eqRow (next s.f r.b).2.1 r = true := by
      rw [eqRow_iff, hn]
      show (nextR s.f r.b).err = r.err ↔ nextR s.f r.b = r
      constructor
      · intro he
        obtain ⟨pl, b, er⟩ := r
        simp only at h he
        unfold nextR at he ⊢
        simp only at he
        rw [he, hp, IntWalk.i64_in _ (by omega), h]
      · intro he; rw [he]
    by_cases he : (next s.f r.b).2.1.err = r.err
    · rw [if_pos ⟨hok, he⟩, if_pos ⟨hok, e.1 he⟩, eqRow_iff.1 (e.1 he)]
    · rw [if_neg (fun h => he h.2), if_neg (fun h => he (e.2 h.2))]
  · rw [if_neg (fun h => hok h.1), if_neg (fun h => hok h.1)]
theorem one_place {s : StreamD} {r : RowD} (hp : s.f.place = s.l.length) (hl : s.l.length ≤ 1000000) : (one s r).1.f.place = (one s r).1.l.length := by
  unfold one
  split
  · exact hp
  · split
    · split <;> exact hp
    · split
      · rename_i h
        rw [(next_ok h.1).2]
        show IntKind.i64.wrap (s.f.place + 1) = ((s.l ++ [r]).length : Nat)
        rw [hp, IntWalk.i64_in _ (by omega)]; simp
      · exact hp
theorem one_doc {s : StreamD} {r : RowD} (hd : DocOk s.f.d) (hb : BatOk r.b) : DocOk (one s r).1.f.d := by
  unfold one
  split
  · exact hd
  · split
    · split <;> exact hd
    · split
      · exact next_doc hd hb
      · exact hd

set_option maxHeartbeats 32000000 in
theorem ref_Take (w0 W : World) (H : Fh) (p : Nat) (s : StreamD) (rows : List RowD) (v : Value) (R : List Res) (hl : s.l.length + rows.length ≤ 1000000) (hb : ∀ r ∈ rows, RowOk r) (hr : RowsH H v rows) (hd : DocOk s.f.d) (hp : s.f.place = s.l.length) (hw : Has 0 w0 W (RStreamAt H p s :: Fz H :: R)) :
    Calls Tryd.prog 12 ⟨[.pointer (some ⟨p, 0, none⟩), v]⟩ W fun e W' => ∃ H', e = .returned (.tuple ⟨[.int .i64 ((takeN s 0 rows).2.1 : Nat), .int .i64 (takeN s 0 rows).2.2]⟩) ∧ H.le H' ∧ Has 0 w0 W' (RStreamAt H' p (takeN s 0 rows).1 :: Fz H' :: R) := by
  obtain ⟨xs, hr, hch⟩ := hr
  obtain ⟨sad, scap, rfl⟩ := hr.slice
  refine enter Tryd.func12 Tryd.ntmps12 rfl rfl fun a hs => ?_
  repeat (first | (refine sxv hs hw ?_; clear hs; intro a hs) | refine sxc hs ?_ | (refine sxa hs hw ?_; clear hs hw; intro a b W hw hs) | (refine sxs hs hw ?_; clear hs hw; intro W hs hw))
  refine st_loop (σ := Nat × Nat × StreamD × Fh) (fun t => [(0, .pointer (some ⟨p, 0, none⟩)), (1, .slice sad rows.length scap), (6, .int .i64 (t.2.1 : Int)), (7, .int .i64 (t.1 : Int))]) (fun t => RStreamAt t.2.2.2 p t.2.2.1 :: Fz t.2.2.2 :: R) (fun t => t.1 ≤ rows.length ∧ t.2.1 ≤ t.1 ∧ t.2.2.1.l.length ≤ s.l.length + t.1 ∧ DocOk t.2.2.1.f.d ∧ t.2.2.1.f.place = t.2.2.1.l.length ∧ H.le t.2.2.2 ∧ takeN t.2.2.1 t.2.1 (rows.drop t.1) = takeN s 0 rows) (fun t => rows.length - t.1) (0, 0, s, H) ⟨Nat.zero_le _, Nat.zero_le _, Nat.le_refl _, hd, hp, Fh.le.refl _, rfl⟩ hs ⟨rfl, rfl, rfl, rfl, trivial⟩ hw ?_
  clear hs hw hd hp
  rintro ⟨j, n, s', H'⟩ a W ⟨hj, hn, hsl, hd, hp, hH', hgo⟩ hs hw
  simp only at hj hn hsl hd hp hH' hgo hs hw
  repeat (first | (refine sxv hs hw ?_; clear hs; intro a hs) | refine sxc hs ?_ | (refine sxa hs hw ?_; clear hs hw; intro a b W hw hs) | (refine sxs hs hw ?_; clear hs hw; intro W hs hw))
  refine cd_split hs (kt := fun hcc => ?_) (kf := fun hcc => ?_)
  · have hj' : j < rows.length := by simpa using hcc
    obtain ⟨r, hri⟩ : ∃ o, rows[j]? = some o := ⟨rows[j], List.getElem?_eq_getElem hj'⟩
    have hok := hb r (List.mem_of_getElem? hri)
    have hpl := hok.place
    rw [drop_of hri] at hgo
    simp only [takeN] at hgo
    have hol := one_len s' r
    have hopl := one_place (r := r) hp (by omega)
    have hodo := one_doc (r := r) hd hok.b
    obtain ⟨cs, vad, vcap, ys, hf, hch2, hw⟩ := rstreamOpen hw
    have hlen0 := hf.len
    have hone0 := hf.one
    obtain ⟨g1, f1, c1, rfl, ⟨rv, rfl, hrv⟩, hrow0⟩ := ch_atH2 RowIn.len (hr.le hH') (hch.mono (RowIn.le hH')) rfl hri
    obtain ⟨rad, rcap, rfl⟩ := hrv.slice
    have hrow2 : ∀ {H2 : Fh} {W : World} {L : List Res}, H'.le H2 → In (Fz H2) L → Has 0 w0 W L → ∀ j' u, (rowCells r (.slice rad r.b.l.length rcap))[j']? = some u → W.cell? ⟨g1, f1 + j * 5 + j', none⟩ = some u := fun hl hi hw => hrow0 hl hi hw
    have hrow : ∀ {W : World} {L : List Res}, In (Fz H') L → Has 0 w0 W L → ∀ j' u, (rowCells r (.slice rad r.b.l.length rcap))[j']? = some u → W.cell? ⟨g1, f1 + j * 5 + j', none⟩ = some u := fun hi hw => hrow0 (Fh.le.refl _) hi hw
    clear hrow0
    repeat (first | (refine sxv hs hw ?_; clear hs; intro a hs) | refine sxc hs ?_ | (refine sxa hs hw ?_; clear hs hw; intro a b W hw hs) | (refine sxs hs hw ?_; clear hs hw; intro W hs hw))
    refine st_index_at hs (z := zrc) (h0 := by omega) (h1 := by omega) (c := ?_); clear hs; intro a hs
    repeat (first | (refine sxv hs hw ?_; clear hs; intro a hs) | refine sxc hs ?_ | (refine sxa hs hw ?_; clear hs hw; intro a b W hw hs) | (refine sxs hs hw ?_; clear hs hw; intro W hs hw))
    refine st_load_at hs (hc := hrow (In.tl (In.tl In.hd)) hw 0 _ rfl) (c := ?_); clear hs; intro a hs
    repeat (first | (refine sxv hs hw ?_; clear hs; intro a hs) | refine sxc hs ?_ | (refine sxa hs hw ?_; clear hs hw; intro a b W hw hs) | (refine sxs hs hw ?_; clear hs hw; intro W hs hw))
    refine st_load_one hs (hw := hw) (hi := In.hd) (hv := at38 hlen0 _) (k := ?_); clear hs; intro a hs
    repeat (first | (refine sxv hs hw ?_; clear hs; intro a hs) | refine sxc hs ?_ | (refine sxa hs hw ?_; clear hs hw; intro a b W hw hs) | (refine sxs hs hw ?_; clear hs hw; intro W hs hw))
    rw [IntWalk.i64_in ((s'.l.length : Int) + 1) (by omega)] at hs
    replace hs : Slots a 104 [(32, .bool (decide (r.place > (s'.l.length : Int) + 1))), (0, .pointer (some ⟨p, 0, none⟩)), (1, .slice (some ⟨g1, f1, none⟩) rows.length scap), (6, .int .i64 (n : Int)), (7, .int .i64 (j : Int)), (8, .int .i64 r.place), (9, .int .i64 ((s'.l.length : Int) + 1))] := hs.of ⟨rfl, rfl, rfl, rfl, rfl, rfl, rfl, trivial⟩
    have stop : ∀ {e : Int} (he : e ≠ 0), one s' r = (s', false, e) → Has 0 w0 W (RStreamAt H' p s' :: Fz H' :: R) → True := fun _ _ _ => trivial
    clear stop
    repeat (first | (refine sxv hs hw ?_; clear hs; intro a hs) | refine sxc hs ?_ | (refine sxa hs hw ?_; clear hs hw; intro a b W hw hs) | (refine sxs hs hw ?_; clear hs hw; intro W hs hw))
    cases h32 : decide (r.place > (s'.l.length : Int) + 1) with
    | true =>
      rw [h32] at hs
      have hone : one s' r = (s', false, 2) := by unfold one; rw [if_pos (of_decide_eq_true h32)]
      rw [hone, if_neg (by show ¬ (2 : Int) = 0; decide)] at hgo
      repeat (first | (refine sxv hs hw ?_; clear hs; intro a hs) | refine sxc hs ?_ | (refine sxa hs hw ?_; clear hs hw; intro a b W hw hs) | (refine sxs hs hw ?_; clear hs hw; intro W hs hw))
      rw [← hgo]
      exact rt2 hs rfl rfl rfl ⟨H', rfl, hH', rstreamShut hw hf hch2⟩
    | false =>
    rw [h32] at hs
    have g32 := of_decide_eq_false h32
    repeat (first | (refine sxv hs hw ?_; clear hs; intro a hs) | refine sxc hs ?_ | (refine sxa hs hw ?_; clear hs hw; intro a b W hw hs) | (refine sxs hs hw ?_; clear hs hw; intro W hs hw))
    cases h1 : decide (r.place < 1) with
    | true =>
      have k1 := of_decide_eq_true h1
      have hone : one s' r = (s', false, 1) := by unfold one; rw [if_neg g32, if_pos (by omega), if_pos (.inl k1)]
      refine rg_draw (V := [.int .i64 r.place, .bool true, .bool true, undef, undef, undef, undef, undef, undef, undef, undef, undef, undef, undef, undef, undef, undef, undef, undef, undef, undef, undef, .bool true]) (Rs := fun D => Cells p (cs ++ [.slice vad s'.l.length vcap]) 43 :: Sx.Own 29 5 (.slice vad s'.l.length vcap) s'.l.length ys :: Fz H' :: R) hs hw (ho := ⟨?_, ?c1_1, ?_, ?_, ?_, ?_, ?_, ?_, ?_, ?_, ?_, ?_, ?_, ?_, ?_, ?_, ?_, ?_, ?_, ?_, ?_, ?_, ?_, trivial⟩) (k := ?k_1)
      case c1_1 =>
        intro LD D a W hcl hi hp hs hw
        repeat (first | (refine sxv hs hw ?_; clear hs; intro a hs) | refine sxc hs ?_ | (refine sxa hs hw ?_; clear hs hw; intro a b W hw hs) | (refine sxs hs hw ?_; clear hs hw; intro W hs hw))
        rw [h1] at hs
        exact ⟨hs, hw⟩
      case k_1 =>
        clear hs hw
        intro a W hs hw
        replace hs : Slots a 104 [(56, .bool true), (0, .pointer (some ⟨p, 0, none⟩)), (1, .slice (some ⟨g1, f1, none⟩) rows.length scap), (6, .int .i64 (n : Int)), (7, .int .i64 (j : Int)), (8, .int .i64 r.place), (9, .int .i64 ((s'.l.length : Int) + 1))] := hs.of ⟨rfl, rfl, rfl, rfl, rfl, rfl, rfl, trivial⟩
        rw [hone, if_neg (by show ¬ (1 : Int) = 0; decide)] at hgo
        repeat (first | (refine sxv hs hw ?_; clear hs; intro a hs) | refine sxc hs ?_ | (refine sxa hs hw ?_; clear hs hw; intro a b W hw hs) | (refine sxs hs hw ?_; clear hs hw; intro W hs hw))
        rw [← hgo]
        exact rt2 hs rfl rfl rfl ⟨H', rfl, hH', rstreamShut hw hf hch2⟩
      all_goals
        intro LD D a W hcl hi hp hs hw
        repeat (first | (refine sxv hs hw ?_; clear hs; intro a hs) | refine sxc hs ?_ | (refine sxa hs hw ?_; clear hs hw; intro a b W hw hs) | (refine sxs hs hw ?_; clear hs hw; intro W hs hw))
        exact ⟨hs, hw⟩
    | false =>
    have k1 := of_decide_eq_false h1
    cases h2 : decide (r.place < (s'.l.length : Int) + 1) with
    | true =>
      have k2 := of_decide_eq_true h2
      obtain ⟨i, hi0⟩ : ∃ i : Nat, r.place - 1 = i := ⟨(r.place - 1).toNat, by omega⟩
      have hi' : i < s'.l.length := by omega
      have hwrap : IntKind.i64.wrap (r.place - 1) = (i : Int) := by rw [IntWalk.i64_in _ (by omega)]; omega
      obtain ⟨x, hx⟩ : ∃ x, s'.l[i]? = some x := ⟨s'.l[i], List.getElem?_eq_getElem hi'⟩
      obtain ⟨cx, ⟨tv, rfl, hxv⟩, hcx, hcut⟩ := hch2.get RowIn.len hx
      have hone : one s' r = if eqRow x r = true then (s', false, 0) else (s', false, 1) := by
        unfold one
        rw [if_neg g32, if_pos k2, hi0, Int.toNat_natCast]
        cases hsm : eqRow x r with
        | true =>
          rw [if_neg, if_pos rfl]
          rintro (h | h)
          · exact k1 h
          · exact h ⟨x, hx, sameR_iff.2 (eqRow_iff.1 hsm).symm⟩
        | false =>
          rw [if_pos, if_neg (by decide)]
          exact .inr fun ⟨y, hy, hs⟩ => by rw [hx] at hy; cases hy; rw [eqRow_iff.2 (sameR_iff.1 hs).symm] at hsm; cases hsm
      have hwo : Has 0 w0 W (Sx.Own 29 5 (.slice vad s'.l.length vcap) s'.l.length ys :: Cells p (cs ++ [.slice vad s'.l.length vcap]) 43 :: Fz H' :: R) := hw.perm (by repeat (first | exact List.Perm.refl _ | refine perm_pick (by repeat (first | exact Pick.hd | apply Pick.tl)) ?_))
      obtain ⟨g, cur, hadg, hcur, hcl0, hkc, hcm, hwo2⟩ := hwo.open_own (by omega)
      clear hwo hw
      obtain rfl := hadg
      have hcut2 : ∀ j u, (rowCells x tv)[j]? = some u → cur[i * 5 + j]? = some u := by
        intro j u hu
        have h1 := congrArg (fun t => t[j]?) hcut
        simp only [cut_eq, List.getElem?_take, List.getElem?_drop, hu] at h1
        split at h1
        · rw [← hcur, List.getElem?_take] at h1
          split at h1
          · exact h1
          · cases h1
        · cases h1
      have hw : Has 0 w0 W (Cells g cur 29 :: Cells p (cs ++ [.slice (some ⟨g, 0, none⟩) s'.l.length vcap]) 43 :: Fz H' :: R) := hwo2
      clear hwo2
      obtain ⟨tad, tcap, rfl⟩ := hxv.slice
      refine rg_draw (V := [.int .i64 r.place, .bool false, .bool false, .int .i64 r.place, .int .i64 ((s'.l.length : Int) + 1), .bool true, .bool true, .pointer (some ⟨p, 0, none⟩), .pointer (some ⟨p, 0, none⟩), .pointer (some ⟨p, 0 + 38, none⟩), .slice (some ⟨g, 0, none⟩) s'.l.length vcap, .int .i64 r.place, .int .i64 (i : Int), .pointer (some ⟨g, 0 + i * 5, none⟩), .agg ⟨rowCells x (.slice tad x.b.l.length tcap)⟩, .slice (some ⟨g1, f1, none⟩) rows.length scap, .int .i64 (j : Int), .pointer (some ⟨g1, f1 + j * 5, none⟩), .agg ⟨rowCells r (.slice rad r.b.l.length rcap)⟩, .bool (eqRow x r), .bool (!eqRow x r), .bool (!eqRow x r), .bool (!eqRow x r)]) (Rs := fun D => Cells g cur 29 :: Cells p (cs ++ [.slice (some ⟨g, 0, none⟩) s'.l.length vcap]) 43 :: Fz H' :: R) hs hw (ho := ⟨?_, ?c1_2, ?_, ?_, ?_, ?c5_2, ?_, ?_, ?_, ?_, ?c10_2, ?_, ?c12_2, ?c13_2, ?c14_2, ?_, ?_, ?c17_2, ?c18_2, ?c19_2, ?_, ?_, ?_, trivial⟩) (k := ?k_2)
      case c1_2 =>
        intro LD D a W hcl hi hp hs hw
        repeat (first | (refine sxv hs hw ?_; clear hs; intro a hs) | refine sxc hs ?_ | (refine sxa hs hw ?_; clear hs hw; intro a b W hw hs) | (refine sxs hs hw ?_; clear hs hw; intro W hs hw))
        rw [h1] at hs
        exact ⟨hs, hw⟩
      case c5_2 =>
        intro LD D a W hcl hi hp hs hw
        repeat (first | (refine sxv hs hw ?_; clear hs; intro a hs) | refine sxc hs ?_ | (refine sxa hs hw ?_; clear hs hw; intro a b W hw hs) | (refine sxs hs hw ?_; clear hs hw; intro W hs hw))
        rw [h2] at hs
        exact ⟨hs, hw⟩
      case c10_2 =>
        intro LD D a W hcl hi hp hs hw
        repeat (first | (refine sxv hs hw ?_; clear hs; intro a hs) | refine sxc hs ?_ | (refine sxa hs hw ?_; clear hs hw; intro a b W hw hs) | (refine sxs hs hw ?_; clear hs hw; intro W hs hw))
        refine st_load_one hs (hw := hw) (hi := In.tl In.hd) (hv := at38 hlen0 _) (k := ?_); clear hs; intro a hs
        repeat (first | (refine sxv hs hw ?_; clear hs; intro a hs) | refine sxc hs ?_ | (refine sxa hs hw ?_; clear hs hw; intro a b W hw hs) | (refine sxs hs hw ?_; clear hs hw; intro W hs hw))
        exact ⟨hs, hw⟩
      case c12_2 =>
        intro LD D a W hcl hi hp hs hw
        repeat (first | (refine sxv hs hw ?_; clear hs; intro a hs) | refine sxc hs ?_ | (refine sxa hs hw ?_; clear hs hw; intro a b W hw hs) | (refine sxs hs hw ?_; clear hs hw; intro W hs hw))
        rw [hwrap] at hs
        exact ⟨hs, hw⟩
      case c13_2 =>
        intro LD D a W hcl hi hp hs hw
        repeat (first | (refine sxv hs hw ?_; clear hs; intro a hs) | refine sxc hs ?_ | (refine sxa hs hw ?_; clear hs hw; intro a b W hw hs) | (refine sxs hs hw ?_; clear hs hw; intro W hs hw))
        refine st_index_at hs (z := zrc) (h0 := by omega) (h1 := by omega) (c := ?_); clear hs; intro a hs
        repeat (first | (refine sxv hs hw ?_; clear hs; intro a hs) | refine sxc hs ?_ | (refine sxa hs hw ?_; clear hs hw; intro a b W hw hs) | (refine sxs hs hw ?_; clear hs hw; intro W hs hw))
        exact ⟨hs, hw⟩
      case c14_2 =>
        intro LD D a W hcl hi hp hs hw
        repeat (first | (refine sxv hs hw ?_; clear hs; intro a hs) | refine sxc hs ?_ | (refine sxa hs hw ?_; clear hs hw; intro a b W hw hs) | (refine sxs hs hw ?_; clear hs hw; intro W hs hw))
        refine st_load_ats (z := zrc) hs (cs := rowCells x (.slice tad x.b.l.length tcap)) (hc := fun j u h => by rw [cell_block (hw.block In.hd).1, Nat.zero_add]; exact hcut2 j u h) (hl := by rfl) (c := ?_); clear hs; intro a hs
        repeat (first | (refine sxv hs hw ?_; clear hs; intro a hs) | refine sxc hs ?_ | (refine sxa hs hw ?_; clear hs hw; intro a b W hw hs) | (refine sxs hs hw ?_; clear hs hw; intro W hs hw))
        exact ⟨hs, hw⟩
      case c17_2 =>
        intro LD D a W hcl hi hp hs hw
        repeat (first | (refine sxv hs hw ?_; clear hs; intro a hs) | refine sxc hs ?_ | (refine sxa hs hw ?_; clear hs hw; intro a b W hw hs) | (refine sxs hs hw ?_; clear hs hw; intro W hs hw))
        refine st_index_at hs (z := zrc) (h0 := by omega) (h1 := by omega) (c := ?_); clear hs; intro a hs
        repeat (first | (refine sxv hs hw ?_; clear hs; intro a hs) | refine sxc hs ?_ | (refine sxa hs hw ?_; clear hs hw; intro a b W hw hs) | (refine sxs hs hw ?_; clear hs hw; intro W hs hw))
        exact ⟨hs, hw⟩
      case c18_2 =>
        intro LD D a W hcl hi hp hs hw
        repeat (first | (refine sxv hs hw ?_; clear hs; intro a hs) | refine sxc hs ?_ | (refine sxa hs hw ?_; clear hs hw; intro a b W hw hs) | (refine sxs hs hw ?_; clear hs hw; intro W hs hw))
        refine st_load_ats (z := zrc) hs (cs := rowCells r (.slice rad r.b.l.length rcap)) (hc := fun j u h => hrow (by repeat (first | exact In.hd | apply In.tl)) hw j u h) (hl := by rfl) (c := ?_); clear hs; intro a hs
        repeat (first | (refine sxv hs hw ?_; clear hs; intro a hs) | refine sxc hs ?_ | (refine sxa hs hw ?_; clear hs hw; intro a b W hw hs) | (refine sxs hs hw ?_; clear hs hw; intro W hs hw))
        exact ⟨hs, hw⟩
      case c19_2 =>
        intro LD D a W hcl hi hp hs hw
        repeat (first | (refine sxv hs hw ?_; clear hs; intro a hs) | refine sxc hs ?_ | (refine sxa hs hw ?_; clear hs hw; intro a b W hw hs) | (refine sxs hs hw ?_; clear hs hw; intro W hs hw))
        refine st_call hs (hc := ref_EqRow x r _ _ _ (hw.rdH (by repeat (first | exact In.hd | apply In.tl)) hxv) (hw.rdH (by repeat (first | exact In.hd | apply In.tl)) hrv)) (k := ?_); rintro e0 W1 ⟨rfl, hb⟩; refine ⟨_, rfl, ?_⟩; clear hs; intro a hs; replace hw := hw.below hb; clear hb
        repeat (first | (refine sxv hs hw ?_; clear hs; intro a hs) | refine sxc hs ?_ | (refine sxa hs hw ?_; clear hs hw; intro a b W hw hs) | (refine sxs hs hw ?_; clear hs hw; intro W hs hw))
        exact ⟨hs, hw⟩
      case k_2 =>
        clear hs hw
        intro a W hs hw
        replace hs : Slots a 104 [(56, .bool (!eqRow x r)), (0, .pointer (some ⟨p, 0, none⟩)), (1, .slice (some ⟨g1, f1, none⟩) rows.length scap), (6, .int .i64 (n : Int)), (7, .int .i64 (j : Int)), (8, .int .i64 r.place), (9, .int .i64 ((s'.l.length : Int) + 1))] := hs.of ⟨rfl, rfl, rfl, rfl, rfl, rfl, rfl, trivial⟩
        replace hw : Has 0 w0 W (Cells g cur 29 :: Cells p (cs ++ [.slice (some ⟨g, 0, none⟩) s'.l.length vcap]) 43 :: Fz H' :: R) := hw
        have hw := (hw.shut_own (k := s'.l.length) (size := 5) hcur hcl0 hkc hcm).swap2
        cases he : eqRow x r with
        | false =>
          rw [he] at hs hone
          rw [if_neg (by decide)] at hone
          rw [hone, if_neg (by show ¬ (1 : Int) = 0; decide)] at hgo
          repeat (first | (refine sxv hs hw ?_; clear hs; intro a hs) | refine sxc hs ?_ | (refine sxa hs hw ?_; clear hs hw; intro a b W hw hs) | (refine sxs hs hw ?_; clear hs hw; intro W hs hw))
          rw [← hgo]
          exact rt2 hs rfl rfl rfl ⟨H', rfl, hH', rstreamShut hw hf hch2⟩
        | true =>
          rw [he] at hs hone
          rw [if_pos rfl] at hone
          rw [hone, if_pos rfl, if_neg (by show ¬ false = true; decide)] at hgo
          repeat (first | (refine sxv hs hw ?_; clear hs; intro a hs) | refine sxc hs ?_ | (refine sxa hs hw ?_; clear hs hw; intro a b W hw hs) | (refine sxs hs hw ?_; clear hs hw; intro W hs hw))
          rw [h2] at hs
          repeat (first | (refine sxv hs hw ?_; clear hs; intro a hs) | refine sxc hs ?_ | (refine sxa hs hw ?_; clear hs hw; intro a b W hw hs) | (refine sxs hs hw ?_; clear hs hw; intro W hs hw))
          exact st_again (j + 1, n, s', H') hs (rstreamShut hw hf hch2) ⟨hj', by show n ≤ j + 1; omega, by show s'.l.length ≤ s.l.length + (j + 1); omega, hd, hp, hH', hgo⟩ (by show rows.length - (j + 1) < rows.length - j; omega) ⟨rfl, rfl, rfl, int_eq (by show IntKind.i64.wrap ((j : Int) + 1) = ((j + 1 : Nat) : Int); rw [IntWalk.i64_in _ (by omega)]; omega), trivial⟩
      all_goals
        intro LD D a W hcl hi hp hs hw
        repeat (first | (refine sxv hs hw ?_; clear hs; intro a hs) | refine sxc hs ?_ | (refine sxa hs hw ?_; clear hs hw; intro a b W hw hs) | (refine sxs hs hw ?_; clear hs hw; intro W hs hw))
        exact ⟨hs, hw⟩
    | false =>
    have k2 := of_decide_eq_false h2
    have hone := one_new (r := r) hp (by omega) (by omega)
    refine rg_draw (V := [.int .i64 r.place, .bool false, .bool false, .int .i64 r.place, .int .i64 ((s'.l.length : Int) + 1), .bool false, .bool false, undef, undef, undef, undef, undef, undef, undef, undef, undef, undef, undef, undef, undef, undef, .bool false, .bool false]) (Rs := fun D => Cells p (cs ++ [.slice vad s'.l.length vcap]) 43 :: Sx.Own 29 5 (.slice vad s'.l.length vcap) s'.l.length ys :: Fz H' :: R) hs hw (ho := ⟨?_, ?c1_3, ?_, ?_, ?_, ?c5_3, ?_, ?_, ?_, ?_, ?_, ?_, ?_, ?_, ?_, ?_, ?_, ?_, ?_, ?_, ?_, ?_, ?_, trivial⟩) (k := ?k_3)
    case c1_3 =>
      intro LD D a W hcl hi hp hs hw
      repeat (first | (refine sxv hs hw ?_; clear hs; intro a hs) | refine sxc hs ?_ | (refine sxa hs hw ?_; clear hs hw; intro a b W hw hs) | (refine sxs hs hw ?_; clear hs hw; intro W hs hw))
      rw [h1] at hs
      exact ⟨hs, hw⟩
    case c5_3 =>
      intro LD D a W hcl hi hp hs hw
      repeat (first | (refine sxv hs hw ?_; clear hs; intro a hs) | refine sxc hs ?_ | (refine sxa hs hw ?_; clear hs hw; intro a b W hw hs) | (refine sxs hs hw ?_; clear hs hw; intro W hs hw))
      rw [h2] at hs
      exact ⟨hs, hw⟩
    case k_3 =>
      clear hs hw
      intro a W hs hw
      replace hs : Slots a 104 [(56, .bool false), (0, .pointer (some ⟨p, 0, none⟩)), (1, .slice (some ⟨g1, f1, none⟩) rows.length scap), (6, .int .i64 (n : Int)), (7, .int .i64 (j : Int)), (8, .int .i64 r.place), (9, .int .i64 ((s'.l.length : Int) + 1))] := hs.of ⟨rfl, rfl, rfl, rfl, rfl, rfl, rfl, trivial⟩
      replace hw : Has 0 w0 W (Cells p (cs ++ [.slice vad s'.l.length vcap]) 43 :: Sx.Own 29 5 (.slice vad s'.l.length vcap) s'.l.length ys :: Fz H' :: R) := hw
      repeat (first | (refine sxv hs hw ?_; clear hs; intro a hs) | refine sxc hs ?_ | (refine sxa hs hw ?_; clear hs hw; intro a b W hw hs) | (refine sxs hs hw ?_; clear hs hw; intro W hs hw))
      rw [h2] at hs
      repeat (first | (refine sxv hs hw ?_; clear hs; intro a hs) | refine sxc hs ?_ | (refine sxa hs hw ?_; clear hs hw; intro a b W hw hs) | (refine sxs hs hw ?_; clear hs hw; intro W hs hw))
      obtain ⟨N, hN⟩ : ∃ N, next s'.f r.b = N := ⟨_, rfl⟩
      have hdn := next_doc hd hok.b
      rw [hN] at hone hdn
      have hw : Has 0 w0 W (Fz H' :: Free :: Free :: Free :: Free :: Free :: Cells p (cs ++ [.slice vad s'.l.length vcap]) 43 :: Sx.Own 29 5 (.slice vad s'.l.length vcap) s'.l.length ys :: R) := (hw.free.free.free.free.free).perm (by repeat (first | exact List.Perm.refl _ | refine perm_pick (by repeat (first | exact Pick.hd | apply Pick.tl)) ?_))
      refine rg_drawU (σ := List Value × Value × Fh × Nat) (V := fun u => [.pointer (some ⟨p, 0, none⟩), .pointer (some ⟨p, 0, none⟩), .pointer (some ⟨p, 0 + 0, none⟩), .agg ⟨cs⟩, .slice (some ⟨g1, f1, none⟩) rows.length scap, .int .i64 (j : Int), .pointer (some ⟨g1, f1 + j * 5, none⟩), .pointer (some ⟨g1, f1 + j * 5 + 1, none⟩), .agg ⟨batCells r.b (.slice rad r.b.l.length rcap)⟩, .tuple ⟨[.agg ⟨(u 9).1⟩, .agg ⟨rowCells N.2.1 (u 9).2.1⟩, .bool N.2.2]⟩, .tuple ⟨[.agg ⟨(u 10).1⟩, .agg ⟨rowCells N.2.1 (u 10).2.1⟩, .bool N.2.2]⟩, .agg ⟨(u 11).1⟩, .agg ⟨rowCells N.2.1 (u 12).2.1⟩, .bool N.2.2, .pointer (some ⟨(u 14).2.2.2, 0, none⟩), .pointer (some ⟨(u 15).2.2.2, 0, none⟩), .bool true, .bool true, .bool N.2.2]) (Rs := fun u D => (if D 9 then FzF (u 9).2.2.1 (H'.le (u 9).2.2.1 ∧ RfIn (u 9).2.2.1 N.1 (u 9).1 ∧ OpsH (u 9).2.2.1 (u 9).2.1 N.2.1.b.l) else Fz H') :: (if D 14 then Cells (u 14).2.2.2 (if D 16 then (u 9).1 else zrf) 41 else Free) :: (if D 15 then Cells (u 15).2.2.2 (if D 17 then rowCells N.2.1 (u 9).2.1 else zrc) 29 else Free) :: (if D 10 then Fact (u 10 = u 9) else Free) :: (if D 11 then Fact (u 11 = u 10) else Free) :: (if D 12 then Fact (u 12 = u 10) else Free) :: Cells p (cs ++ [.slice vad s'.l.length vcap]) 43 :: Sx.Own 29 5 (.slice vad s'.l.length vcap) s'.l.length ys :: R) (fun _ => ([], .nilIface, H, 0)) hs hw (hVu := ?vu_4) (ho := ⟨?_, ?_, ?_, ?c3_4, ?_, ?_, ?c6_4, ?_, ?c8_4, ?c9_4, ?c10_4, ?c11_4, ?c12_4, ?_, ?c14_4, ?c15_4, ?c16_4, ?c17_4, ?_, trivial⟩) (k := ?k_4)
      case vu_4 =>
        intro u u' j h
        rcases j with _ | _ | _ | _ | _ | _ | _ | _ | _ | _ | _ | _ | _ | _ | _ | _ | _ | _ | _ | j
        all_goals first | rfl | simp [h]
      case c3_4 =>
        intro u LD D a W hcl hi hp hs hw
        refine st_load_agg hs (hw := hw) (hi := In.tl (In.tl (In.tl (In.tl (In.tl (In.tl In.hd)))))) (hl := by rw [List.length_append, hlen0]; rfl) (k := ?_); clear hs; intro a hs
        have hs2 : Slots a 104 ((65, .agg ⟨cut (cs ++ [.slice vad s'.l.length vcap]) 0 38⟩) :: _) := hs
        rw [cut38 hlen0] at hs2
        repeat (first | (refine sxv hs hw ?_; clear hs; intro a hs) | refine sxc hs ?_ | (refine sxa hs hw ?_; clear hs hw; intro a b W hw hs) | (refine sxs hs hw ?_; clear hs hw; intro W hs hw))
        exact Or.inl ⟨hs2, hw⟩
      case c6_4 =>
        intro u LD D a W hcl hi hp hs hw
        refine st_index_at hs (z := zrc) (h0 := by omega) (h1 := by omega) (c := ?_); clear hs; intro a hs
        repeat (first | (refine sxv hs hw ?_; clear hs; intro a hs) | refine sxc hs ?_ | (refine sxa hs hw ?_; clear hs hw; intro a b W hw hs) | (refine sxs hs hw ?_; clear hs hw; intro W hs hw))
        exact Or.inl ⟨hs, hw⟩
      case c8_4 =>
        intro u LD D a W hcl hi hp hs hw
        have h9 := Go.Sx.not_done hcl hi 9 (by kernel_rfl)
        have hw0 := hw
        simp only [h9, Bool.false_eq_true, if_false] at hw
        refine st_load_ats hs (z := [.int .i64 0, .int .i64 0, .slice none 0 0]) (cs := batCells r.b (.slice rad r.b.l.length rcap)) (hc := fun jj u h => by rw [Nat.add_assoc, Nat.add_comm 1 jj]; refine hrow In.hd hw (jj + 1) u ?_; rcases jj with _ | _ | _ | jj <;> first | exact h | (simp [batCells] at h)) (hl := rfl) (c := ?_); clear hs; intro a hs
        repeat (first | (refine sxv hs hw ?_; clear hs; intro a hs) | refine sxc hs ?_ | (refine sxa hs hw ?_; clear hs hw; intro a b W hw hs) | (refine sxs hs hw ?_; clear hs hw; intro W hs hw))
        exact Or.inl ⟨hs, hw0⟩
      case c9_4 =>
        intro u LD D a W hcl hi hp hs hw
        have h10 := Go.Sx.not_done hcl hi 10 (by kernel_rfl)
        have h16 := Go.Sx.not_done hcl (Go.Sx.not_done hcl h10 11 (by kernel_rfl)) 16 (by kernel_rfl)
        have h17 := Go.Sx.not_done hcl (Go.Sx.not_done hcl h10 12 (by kernel_rfl)) 17 (by kernel_rfl)
        simp only [hi, h10, h16, h17, Bool.false_eq_true, if_false] at hw
        refine st_call hs (hc := ref7_Next w0 _ H' s'.f r.b cs _ _ hf hd hok.b hrv hw) (k := ?_); rw [hN]; rintro e0 W1 ⟨cs', sv', H2, rfl, hle, hf2, hsv, hw1⟩; refine ⟨_, rfl, ?_⟩; clear hs hw; intro a hs; have hw := hw1; clear hw1
        repeat (first | (refine sxv hs hw ?_; clear hs; intro a hs) | refine sxc hs ?_ | (refine sxa hs hw ?_; clear hs hw; intro a b W hw hs) | (refine sxs hs hw ?_; clear hs hw; intro W hs hw))
        refine Or.inr ⟨(cs', sv', H2, 0), hs, ?_⟩
        have hw := hw.fzf (q := H'.le H2 ∧ RfIn H2 N.1 cs' ∧ OpsH H2 sv' N.2.1.b.l) ⟨hle, hf2, hsv⟩
        show Has 0 w0 _ (_ :: (if D 14 then Cells (u 14).2.2.2 (if (Nat.beq 16 9 || D 16) = true then _ else _) _ else Free) :: (if D 15 then Cells (u 15).2.2.2 (if (Nat.beq 17 9 || D 17) = true then _ else _) _ else Free) :: (if (Nat.beq 10 9 || D 10) = true then _ else _) :: _)
        rw [h10, h16, h17]
        exact hw
      case c10_4 =>
        intro u LD D a W hcl hi hp hs hw
        have h11 := Go.Sx.not_done hcl hi 11 (by kernel_rfl)
        have h12 := Go.Sx.not_done hcl hi 12 (by kernel_rfl)
        simp only [hi, h11, h12, Bool.false_eq_true, if_false] at hw
        repeat (first | (refine sxv hs hw ?_; clear hs; intro a hs) | refine sxc hs ?_ | (refine sxa hs hw ?_; clear hs hw; intro a b W hw hs) | (refine sxs hs hw ?_; clear hs hw; intro W hs hw))
        refine Or.inr ⟨u 9, hs, ?_⟩
        show Has 0 w0 _ (_ :: _ :: _ :: Fact (u 9 = u 9) :: (if (Nat.beq 11 10 || D 11) = true then _ else _) :: (if (Nat.beq 12 10 || D 12) = true then _ else _) :: _)
        rw [h11, h12]
        exact (hw.fact rfl).fill (Upd.tl (Upd.tl (Upd.tl Upd.hd)))
      case c11_4 =>
        intro u LD D a W hcl hi hp hs hw
        simp only [hi, Bool.false_eq_true, if_false] at hw
        repeat (first | (refine sxv hs hw ?_; clear hs; intro a hs) | refine sxc hs ?_ | (refine sxa hs hw ?_; clear hs hw; intro a b W hw hs) | (refine sxs hs hw ?_; clear hs hw; intro W hs hw))
        refine Or.inr ⟨u 10, hs, ?_⟩
        show Has 0 w0 _ (_ :: _ :: _ :: _ :: Fact (u 10 = u 10) :: _)
        exact (hw.fact rfl).fill (Upd.tl (Upd.tl (Upd.tl (Upd.tl Upd.hd))))
      case c12_4 =>
        intro u LD D a W hcl hi hp hs hw
        simp only [hi, Bool.false_eq_true, if_false] at hw
        repeat (first | (refine sxv hs hw ?_; clear hs; intro a hs) | refine sxc hs ?_ | (refine sxa hs hw ?_; clear hs hw; intro a b W hw hs) | (refine sxs hs hw ?_; clear hs hw; intro W hs hw))
        refine Or.inr ⟨u 10, hs, ?_⟩
        show Has 0 w0 _ (_ :: _ :: _ :: _ :: _ :: Fact (u 10 = u 10) :: _)
        exact (hw.fact rfl).fill (Upd.tl (Upd.tl (Upd.tl (Upd.tl (Upd.tl Upd.hd)))))
      case c14_4 =>
        intro u LD D a W hcl hi hp hs hw
        have h16 := Go.Sx.not_done hcl hi 16 (by kernel_rfl)
        simp only [hi, Bool.false_eq_true, if_false] at hw
        repeat (first | (refine sxv hs hw ?_; clear hs; intro a hs) | refine sxc hs ?_ | (refine sxa hs hw ?_; clear hs hw; intro a b W hw hs) | (refine sxs hs hw ?_; clear hs hw; intro W hs hw))
        refine Or.inr ⟨([], .nilIface, H, _), hs, ?_⟩
        show Has 0 w0 _ (_ :: Cells _ (if (Nat.beq 16 14 || D 16) = true then _ else _) _ :: _ :: _)
        rw [h16]
        exact hw.fill (Upd.tl Upd.hd)
      case c15_4 =>
        intro u LD D a W hcl hi hp hs hw
        have h17 := Go.Sx.not_done hcl hi 17 (by kernel_rfl)
        simp only [hi, Bool.false_eq_true, if_false] at hw
        repeat (first | (refine sxv hs hw ?_; clear hs; intro a hs) | refine sxc hs ?_ | (refine sxa hs hw ?_; clear hs hw; intro a b W hw hs) | (refine sxs hs hw ?_; clear hs hw; intro W hs hw))
        refine Or.inr ⟨([], .nilIface, H, _), hs, ?_⟩
        show Has 0 w0 _ (_ :: _ :: Cells _ (if (Nat.beq 17 15 || D 17) = true then _ else _) _ :: _)
        rw [h17]
        exact hw.fill (Upd.tl (Upd.tl Upd.hd))
      case c16_4 =>
        intro u LD D a W hcl hi hp hs hw
        have h11 := Go.Sx.done hp 11 (by kernel_rfl)
        have h14 := Go.Sx.done hp 14 (by kernel_rfl)
        have h10 := Go.Sx.done (hcl 11 _ rfl h11) 10 (by kernel_rfl)
        have h9 := Go.Sx.done (hcl 10 _ rfl h10) 9 (by kernel_rfl)
        have e1 : (if D 11 = true then Fact (u 11 = u 10) else Free) = Fact (u 11 = u 10) := by rw [h11]; rfl
        have e2 : (if D 10 = true then Fact (u 10 = u 9) else Free) = Fact (u 10 = u 9) := by rw [h10]; rfl
        have g7 : u 11 = u 9 := by
          have hw2 := hw
          simp only [e1, e2] at hw2
          exact (hw2.told (In.tl (In.tl (In.tl (In.tl In.hd))))).trans (hw2.told (In.tl (In.tl (In.tl In.hd))))
        simp only [hi, h9, h14, Bool.false_eq_true, if_false, if_true] at hw
        obtain ⟨⟨_, hf2, _⟩, _⟩ := hw.unfzf
        rw [← g7] at hf2
        refine st_store hs (vs := (u 11).1) (hw := hw) (hz := by rw [hf2.len]; rfl) (h1 := hf2.one) (hl := by rw [hf2.len]; rfl) (k := ?_); clear hs hw; intro W hs hw
        rw [ov_all _ _ (by rw [hf2.len]; rfl)] at hw
        rw [show (u 11).1 = (u 9).1 from by rw [g7]] at hw
        repeat (first | (refine sxv hs hw ?_; clear hs; intro a hs) | refine sxc hs ?_ | (refine sxa hs hw ?_; clear hs hw; intro a b W hw hs) | (refine sxs hs hw ?_; clear hs hw; intro W hs hw))
        refine Or.inl ⟨hs, ?_⟩
        show Has 0 w0 _ ((if (Nat.beq 9 16 || D 9) = true then _ else _) :: (if (Nat.beq 14 16 || D 14) = true then _ else _) :: _ :: _)
        rw [h9, h14]
        exact hw
      case c17_4 =>
        intro u LD D a W hcl hi hp hs hw
        have h12 := Go.Sx.done hp 12 (by kernel_rfl)
        have h15 := Go.Sx.done hp 15 (by kernel_rfl)
        have h10 := Go.Sx.done (hcl 12 _ rfl h12) 10 (by kernel_rfl)
        have h9 := Go.Sx.done (hcl 10 _ rfl h10) 9 (by kernel_rfl)
        have e1 : (if D 12 = true then Fact (u 12 = u 10) else Free) = Fact (u 12 = u 10) := by rw [h12]; rfl
        have e2 : (if D 10 = true then Fact (u 10 = u 9) else Free) = Fact (u 10 = u 9) := by rw [h10]; rfl
        have g8 : u 12 = u 9 := by
          have hw2 := hw
          simp only [e1, e2] at hw2
          exact (hw2.told (In.tl (In.tl (In.tl (In.tl (In.tl In.hd)))))).trans (hw2.told (In.tl (In.tl (In.tl In.hd))))
        simp only [hi, h9, h15, Bool.false_eq_true, if_false, if_true] at hw
        obtain ⟨⟨_, _, hsv⟩, _⟩ := hw.unfzf
        obtain ⟨tad, tcap, e13⟩ := hsv.slice
        refine st_store hs (hw := hw) (vs := rowCells N.2.1 (u 12).2.1) (h1 := by rw [g8, e13]; rfl) (k := ?_); clear hs hw; intro W hs hw
        rw [show (u 12).2.1 = (u 9).2.1 from by rw [g8]] at hw
        repeat (first | (refine sxv hs hw ?_; clear hs; intro a hs) | refine sxc hs ?_ | (refine sxa hs hw ?_; clear hs hw; intro a b W hw hs) | (refine sxs hs hw ?_; clear hs hw; intro W hs hw))
        refine Or.inl ⟨hs, ?_⟩
        show Has 0 w0 _ ((if (Nat.beq 9 17 || D 9) = true then _ else _) :: _ :: (if (Nat.beq 15 17 || D 15) = true then _ else _) :: _)
        rw [h9, h15]
        exact hw
      case k_4 =>
        clear hs hw
        intro u a W hs hw
        replace hw : Has 0 w0 W (FzF (u 9).2.2.1 (H'.le (u 9).2.2.1 ∧ RfIn (u 9).2.2.1 N.1 (u 9).1 ∧ OpsH (u 9).2.2.1 (u 9).2.1 N.2.1.b.l) :: Cells (u 14).2.2.2 (u 9).1 41 :: Cells (u 15).2.2.2 (rowCells N.2.1 (u 9).2.1) 29 :: Fact (u 10 = u 9) :: Fact (u 11 = u 10) :: Fact (u 12 = u 10) :: Cells p (cs ++ [.slice vad s'.l.length vcap]) 43 :: Sx.Own 29 5 (.slice vad s'.l.length vcap) s'.l.length ys :: R) := hw
        replace hw := hw.sub (L' := FzF (u 9).2.2.1 (H'.le (u 9).2.2.1 ∧ RfIn (u 9).2.2.1 N.1 (u 9).1 ∧ OpsH (u 9).2.2.1 (u 9).2.1 N.2.1.b.l) :: Cells (u 14).2.2.2 (u 9).1 41 :: Cells (u 15).2.2.2 (rowCells N.2.1 (u 9).2.1) 29 :: Cells p (cs ++ [.slice vad s'.l.length vcap]) 43 :: Sx.Own 29 5 (.slice vad s'.l.length vcap) s'.l.length ys :: R) (List.Sublist.cons_cons _ (List.Sublist.cons_cons _ (List.Sublist.cons_cons _ (List.Sublist.cons _ (List.Sublist.cons _ (List.Sublist.cons _ (List.Sublist.refl _)))))))
        replace hs : Slots a 104 [(12, .bool N.2.2), (0, .pointer (some ⟨p, 0, none⟩)), (1, .slice (some ⟨g1, f1, none⟩) rows.length scap), (6, .int .i64 (n : Int)), (7, .int .i64 (j : Int)), (10, .pointer (some ⟨(u 14).2.2.2, 0, none⟩)), (11, .pointer (some ⟨(u 15).2.2.2, 0, none⟩))] := hs.of ⟨rfl, rfl, rfl, rfl, rfl, rfl, rfl, trivial⟩
        generalize (u 14).2.2.2 = b10 at *
        generalize (u 15).2.2.2 = b11 at *
        generalize (u 9).2.2.1 = H2 at *
        generalize (u 9).2.1 = sv2 at *
        generalize (u 9).1 = cs2 at *
        clear u
        obtain ⟨⟨hle, hf2, hsv⟩, hw⟩ := hw.unfzf
        have hlen2 := hf2.len
        have hone2 := hf2.one
        obtain ⟨uad, ucap, rfl⟩ := hsv.slice
        cases hok2 : N.2.2 with
        | false =>
          rw [hok2] at hs
          rw [if_neg (fun h => by rw [hok2] at h; cases h.1)] at hone
          repeat (first | (refine sxv hs hw ?_; clear hs; intro a hs) | refine sxc hs ?_ | (refine sxa hs hw ?_; clear hs hw; intro a b W hw hs) | (refine sxs hs hw ?_; clear hs hw; intro W hs hw))
          refine rg_draw (V := [.bool false, .bool true, .bool true, undef, undef, undef, undef, undef, undef, undef, .bool true]) (Rs := fun D => Fz H2 :: Cells b10 cs2 41 :: Cells b11 (rowCells N.2.1 (.slice uad N.2.1.b.l.length ucap)) 29 :: Cells p (cs ++ [.slice vad s'.l.length vcap]) 43 :: Sx.Own 29 5 (.slice vad s'.l.length vcap) s'.l.length ys :: R) hs hw (ho := ⟨?_, ?_, ?_, ?_, ?_, ?_, ?_, ?_, ?_, ?_, ?_, trivial⟩) (k := ?k_5)
          case k_5 =>
            clear hs hw
            intro a W hs hw
            replace hs : Slots a 104 [(85, .bool true), (0, .pointer (some ⟨p, 0, none⟩)), (1, .slice (some ⟨g1, f1, none⟩) rows.length scap), (6, .int .i64 (n : Int)), (7, .int .i64 (j : Int)), (10, .pointer (some ⟨b10, 0, none⟩)), (11, .pointer (some ⟨b11, 0, none⟩))] := hs.of ⟨rfl, rfl, rfl, rfl, rfl, rfl, rfl, trivial⟩
            rw [hone, if_neg (by show ¬ (1 : Int) = 0; decide)] at hgo
            repeat (first | (refine sxv hs hw ?_; clear hs; intro a hs) | refine sxc hs ?_ | (refine sxa hs hw ?_; clear hs hw; intro a b W hw hs) | (refine sxs hs hw ?_; clear hs hw; intro W hs hw))
            rw [← hgo]
            have hw := hw.sub (L' := Fz H2 :: Cells p (cs ++ [.slice vad s'.l.length vcap]) 43 :: Sx.Own 29 5 (.slice vad s'.l.length vcap) s'.l.length ys :: R) (List.Sublist.cons_cons _ (List.Sublist.cons _ (List.Sublist.cons _ (List.Sublist.refl _))))
            have hw : Has 0 w0 W (Cells p (cs ++ [.slice vad s'.l.length vcap]) 43 :: Sx.Own 29 5 (.slice vad s'.l.length vcap) s'.l.length ys :: Fz H2 :: R) := hw.perm (by repeat (first | exact List.Perm.refl _ | refine perm_pick (by repeat (first | exact Pick.hd | apply Pick.tl)) ?_))
            exact rt2 hs rfl rfl rfl ⟨H2, rfl, hH'.trans hle, rstreamShut hw (hf.le hle) (hch2.mono (RowIn.le hle))⟩
          all_goals
            intro LD D a W hcl hi hp hs hw
            repeat (first | (refine sxv hs hw ?_; clear hs; intro a hs) | refine sxc hs ?_ | (refine sxa hs hw ?_; clear hs hw; intro a b W hw hs) | (refine sxs hs hw ?_; clear hs hw; intro W hs hw))
            exact ⟨hs, hw⟩
        | true =>
          rw [hok2] at hs
          repeat (first | (refine sxv hs hw ?_; clear hs; intro a hs) | refine sxc hs ?_ | (refine sxa hs hw ?_; clear hs hw; intro a b W hw hs) | (refine sxs hs hw ?_; clear hs hw; intro W hs hw))
          refine rg_draw (V := [.bool true, .bool false, .bool false, .agg ⟨rowCells N.2.1 (.slice uad N.2.1.b.l.length ucap)⟩, .slice (some ⟨g1, f1, none⟩) rows.length scap, .int .i64 (j : Int), .pointer (some ⟨g1, f1 + j * 5, none⟩), .agg ⟨rowCells r (.slice rad r.b.l.length rcap)⟩, .bool (eqRow N.2.1 r), .bool (!eqRow N.2.1 r), .bool (!eqRow N.2.1 r)]) (Rs := fun D => Fz H2 :: Cells b10 cs2 41 :: Cells b11 (rowCells N.2.1 (.slice uad N.2.1.b.l.length ucap)) 29 :: Cells p (cs ++ [.slice vad s'.l.length vcap]) 43 :: Sx.Own 29 5 (.slice vad s'.l.length vcap) s'.l.length ys :: R) hs hw (ho := ⟨?_, ?_, ?_, ?_, ?_, ?_, ?c6_6, ?c7_6, ?c8_6, ?_, ?_, trivial⟩) (k := ?k_6)
          case c6_6 =>
            intro LD D a W hcl hi hp hs hw
            repeat (first | (refine sxv hs hw ?_; clear hs; intro a hs) | refine sxc hs ?_ | (refine sxa hs hw ?_; clear hs hw; intro a b W hw hs) | (refine sxs hs hw ?_; clear hs hw; intro W hs hw))
            refine st_index_at hs (z := zrc) (h0 := by omega) (h1 := by omega) (c := ?_); clear hs; intro a hs
            repeat (first | (refine sxv hs hw ?_; clear hs; intro a hs) | refine sxc hs ?_ | (refine sxa hs hw ?_; clear hs hw; intro a b W hw hs) | (refine sxs hs hw ?_; clear hs hw; intro W hs hw))
            exact ⟨hs, hw⟩
          case c7_6 =>
            intro LD D a W hcl hi hp hs hw
            repeat (first | (refine sxv hs hw ?_; clear hs; intro a hs) | refine sxc hs ?_ | (refine sxa hs hw ?_; clear hs hw; intro a b W hw hs) | (refine sxs hs hw ?_; clear hs hw; intro W hs hw))
            refine st_load_ats (z := zrc) hs (cs := rowCells r (.slice rad r.b.l.length rcap)) (hc := fun j u h => hrow2 hle In.hd hw j u h) (hl := by rfl) (c := ?_); clear hs; intro a hs
            repeat (first | (refine sxv hs hw ?_; clear hs; intro a hs) | refine sxc hs ?_ | (refine sxa hs hw ?_; clear hs hw; intro a b W hw hs) | (refine sxs hs hw ?_; clear hs hw; intro W hs hw))
            exact ⟨hs, hw⟩
          case c8_6 =>
            intro LD D a W hcl hi hp hs hw
            repeat (first | (refine sxv hs hw ?_; clear hs; intro a hs) | refine sxc hs ?_ | (refine sxa hs hw ?_; clear hs hw; intro a b W hw hs) | (refine sxs hs hw ?_; clear hs hw; intro W hs hw))
            refine st_call hs (hc := ref_EqRow N.2.1 r _ _ _ (hw.rdH (by repeat (first | exact In.hd | apply In.tl)) hsv) (hw.rdH (by repeat (first | exact In.hd | apply In.tl)) (hrv.le hle))) (k := ?_); rintro e0 W1 ⟨rfl, hb⟩; refine ⟨_, rfl, ?_⟩; clear hs; intro a hs; replace hw := hw.below hb; clear hb
            repeat (first | (refine sxv hs hw ?_; clear hs; intro a hs) | refine sxc hs ?_ | (refine sxa hs hw ?_; clear hs hw; intro a b W hw hs) | (refine sxs hs hw ?_; clear hs hw; intro W hs hw))
            exact ⟨hs, hw⟩
          case k_6 =>
            clear hs hw
            intro a W hs hw
            replace hs : Slots a 104 [(85, .bool (!eqRow N.2.1 r)), (0, .pointer (some ⟨p, 0, none⟩)), (1, .slice (some ⟨g1, f1, none⟩) rows.length scap), (6, .int .i64 (n : Int)), (7, .int .i64 (j : Int)), (10, .pointer (some ⟨b10, 0, none⟩)), (11, .pointer (some ⟨b11, 0, none⟩))] := hs.of ⟨rfl, rfl, rfl, rfl, rfl, rfl, rfl, trivial⟩
            replace hw : Has 0 w0 W (Fz H2 :: Cells b10 cs2 41 :: Cells b11 (rowCells N.2.1 (.slice uad N.2.1.b.l.length ucap)) 29 :: Cells p (cs ++ [.slice vad s'.l.length vcap]) 43 :: Sx.Own 29 5 (.slice vad s'.l.length vcap) s'.l.length ys :: R) := hw
            cases he : eqRow N.2.1 r with
            | false =>
              rw [he] at hs
              rw [if_neg (fun h => by rw [he] at h; cases h.2)] at hone
              rw [hone, if_neg (by show ¬ (1 : Int) = 0; decide)] at hgo
              repeat (first | (refine sxv hs hw ?_; clear hs; intro a hs) | refine sxc hs ?_ | (refine sxa hs hw ?_; clear hs hw; intro a b W hw hs) | (refine sxs hs hw ?_; clear hs hw; intro W hs hw))
              rw [← hgo]
              have hw := hw.sub (L' := Fz H2 :: Cells p (cs ++ [.slice vad s'.l.length vcap]) 43 :: Sx.Own 29 5 (.slice vad s'.l.length vcap) s'.l.length ys :: R) (List.Sublist.cons_cons _ (List.Sublist.cons _ (List.Sublist.cons _ (List.Sublist.refl _))))
              have hw : Has 0 w0 W (Cells p (cs ++ [.slice vad s'.l.length vcap]) 43 :: Sx.Own 29 5 (.slice vad s'.l.length vcap) s'.l.length ys :: Fz H2 :: R) := hw.perm (by repeat (first | exact List.Perm.refl _ | refine perm_pick (by repeat (first | exact Pick.hd | apply Pick.tl)) ?_))
              exact rt2 hs rfl rfl rfl ⟨H2, rfl, hH'.trans hle, rstreamShut hw (hf.le hle) (hch2.mono (RowIn.le hle))⟩
            | true =>
              rw [he] at hs
              rw [if_pos ⟨hok2, he⟩] at hone
              rw [hone] at hopl hodo hol
              rw [hone, if_pos rfl, if_pos rfl] at hgo
              repeat (first | (refine sxv hs hw ?_; clear hs; intro a hs) | refine sxc hs ?_ | (refine sxa hs hw ?_; clear hs hw; intro a b W hw hs) | (refine sxs hs hw ?_; clear hs hw; intro W hs hw))
              refine st_load_agg hs (hw := hw) (hi := In.tl In.hd) (hl := by rw [hlen2]; rfl) (k := ?_); clear hs; intro a hs
              have hs2 : Slots a 104 ((88, .agg ⟨cut cs2 0 38⟩) :: _) := hs
              rw [cut_all _ _ hlen2] at hs2
              clear hs
              have hs := hs2
              clear hs2
              repeat (first | (refine sxv hs hw ?_; clear hs; intro a hs) | refine sxc hs ?_ | (refine sxa hs hw ?_; clear hs hw; intro a b W hw hs) | (refine sxs hs hw ?_; clear hs hw; intro W hs hw))
              refine st_store hs (vs := cs2) (hw := hw) (hz := by rw [hlen2]; rfl) (h1 := hone2) (hl := by rw [hlen2, List.length_append, hlen0]; rfl) (k := ?_); clear hs hw; intro W hs hw
              rw [show ov (cs ++ [.slice vad s'.l.length vcap]) (0 + 0) cs2 = cs2 ++ [.slice vad s'.l.length vcap] from by rw [Nat.add_zero, ov_left _ _ _ _ (by omega), ov_all _ _ (by omega)]] at hw
              repeat (first | (refine sxv hs hw ?_; clear hs; intro a hs) | refine sxc hs ?_ | (refine sxa hs hw ?_; clear hs hw; intro a b W hw hs) | (refine sxs hs hw ?_; clear hs hw; intro W hs hw))
              replace hs : Slots a 104 [(11, .pointer (some ⟨b11, 0, none⟩)), (0, .pointer (some ⟨p, 0, none⟩)), (1, .slice (some ⟨g1, f1, none⟩) rows.length scap), (6, .int .i64 (n : Int)), (7, .int .i64 (j : Int))] := hs.of ⟨rfl, rfl, rfl, rfl, rfl, trivial⟩
              have hw : Has 0 w0 W (Cells p (cs2 ++ [.slice vad s'.l.length vcap]) 43 :: Free :: Sx.Own 29 5 (.slice vad s'.l.length vcap) s'.l.length ys :: Fz H2 :: Cells b10 cs2 41 :: Cells b11 (rowCells N.2.1 (.slice uad N.2.1.b.l.length ucap)) 29 :: R) := hw.free.perm (by repeat (first | exact List.Perm.refl _ | refine perm_pick (by repeat (first | exact Pick.hd | apply Pick.tl)) ?_))
              refine rg_drawU (σ := Option Addr × Nat × Nat) (V := fun u => [.pointer (some ⟨p, 0, none⟩), .pointer (some ⟨p, 0, none⟩), .pointer (some ⟨p, 0, none⟩), .pointer (some ⟨p, 0 + 38, none⟩), .slice vad s'.l.length vcap, .agg ⟨rowCells N.2.1 (.slice uad N.2.1.b.l.length ucap)⟩, .slice (some ⟨(u 6).2.2, 0, none⟩) 1 1, .slice (u 7).1 (s'.l ++ [N.2.1]).length (u 7).2.1, .pointer (some ⟨p, 0, none⟩), .pointer (some ⟨p, 0 + 38, none⟩), .bool true]) (Rs := fun u D => Cells p (cs2 ++ [(if D 10 then .slice (u 7).1 (s'.l ++ [N.2.1]).length (u 7).2.1 else .slice vad s'.l.length vcap)]) 43 :: (if D 6 then Cells (u 6).2.2 (rowCells N.2.1 (.slice uad N.2.1.b.l.length ucap)) 29 else Free) :: (if D 7 then Sx.Own 29 5 (.slice (u 7).1 (s'.l ++ [N.2.1]).length (u 7).2.1) (s'.l ++ [N.2.1]).length (ys ++ rowCells N.2.1 (.slice uad N.2.1.b.l.length ucap)) else Sx.Own 29 5 (.slice vad s'.l.length vcap) s'.l.length ys) :: Fz H2 :: Cells b10 cs2 41 :: Cells b11 (rowCells N.2.1 (.slice uad N.2.1.b.l.length ucap)) 29 :: R) (fun _ => (none, 0, 0)) hs hw (hVu := ?vu_7) (ho := ⟨?_, ?_, ?_, ?_, ?c4_7, ?_, ?c6_7, ?c7_7, ?_, ?_, ?c10_7, trivial⟩) (k := ?k_7)
              case vu_7 =>
                intro u u' j h
                rcases j with _ | _ | _ | _ | _ | _ | _ | _ | _ | _ | _ | j
                all_goals first | rfl | simp [h]
              case c4_7 =>
                intro u LD D a W hcl hi hp hs hw
                have h10 := Go.Sx.not_done hcl (Go.Sx.not_done hcl hi 7 (by kernel_rfl)) 10 (by kernel_rfl)
                have hw0 := hw
                simp only [h10, Bool.false_eq_true, if_false] at hw
                refine st_load_one hs (hw := hw) (hi := In.hd) (hv := at38 hlen2 _) (k := ?_); clear hs; intro a hs
                repeat (first | (refine sxv hs hw ?_; clear hs; intro a hs) | refine sxc hs ?_ | (refine sxa hs hw ?_; clear hs hw; intro a b W hw hs) | (refine sxs hs hw ?_; clear hs hw; intro W hs hw))
                exact Or.inl ⟨hs, hw0⟩
              case c6_7 =>
                intro u LD D a W hcl hi hp hs hw
                have h7 := Go.Sx.not_done hcl hi 7 (by kernel_rfl)
                have h10 := Go.Sx.not_done hcl h7 10 (by kernel_rfl)
                simp only [hi, h7, h10, Bool.false_eq_true, if_false] at hw
                repeat (first | (refine sxv hs hw ?_; clear hs; intro a hs) | refine sxc hs ?_ | (refine sxa hs hw ?_; clear hs hw; intro a b W hw hs) | (refine sxs hs hw ?_; clear hs hw; intro W hs hw))
                refine Or.inr ⟨(none, 0, _), hs, ?_⟩
                show Has 0 w0 _ (Cells p (cs2 ++ [(if (Nat.beq 10 6 || D 10) = true then _ else _)]) _ :: _ :: (if (Nat.beq 7 6 || D 7) = true then _ else _) :: _)
                rw [h7, h10]
                exact hw.fill (Upd.tl Upd.hd)
              case c7_7 =>
                intro u LD D a W hcl hi hp hs hw
                have h6 := Go.Sx.done hp 6 (by kernel_rfl)
                have h10 := Go.Sx.not_done hcl hi 10 (by kernel_rfl)
                simp only [hi, h6, h10, Bool.false_eq_true, if_false, if_true] at hw
                have hw : Has 0 w0 W (Sx.Own 29 5 (.slice vad s'.l.length vcap) s'.l.length ys :: Cells (u 6).2.2 (rowCells N.2.1 (.slice uad N.2.1.b.l.length ucap)) 29 :: Cells p (cs2 ++ [.slice vad s'.l.length vcap]) 43 :: Fz H2 :: Cells b10 cs2 41 :: Cells b11 (rowCells N.2.1 (.slice uad N.2.1.b.l.length ucap)) 29 :: R) := hw.perm (by repeat (first | exact List.Perm.refl _ | refine perm_pick (by repeat (first | exact Pick.hd | apply Pick.tl)) ?_))
                refine st_append1 hs (hw := hw) (hi := In.hd) (ch := hch2.mono (RowIn.le hle)) (ha := (⟨_, rfl, hsv⟩ : RowIn H2 N.2.1 (rowCells N.2.1 (.slice uad N.2.1.b.l.length ucap)))) (hl := rfl) (h1 := rfl) (hb := by omega) (h63 := by omega) (k := ?_)
                clear hs hw; intro a ad cap W hs hw hc2
                repeat (first | (refine sxv hs hw ?_; clear hs; intro a hs) | refine sxc hs ?_ | (refine sxa hs hw ?_; clear hs hw; intro a b W hw hs) | (refine sxs hs hw ?_; clear hs hw; intro W hs hw))
                refine Or.inr ⟨(ad, cap, 0), hs, ?_⟩
                show Has 0 w0 _ (Cells p (cs2 ++ [(if (Nat.beq 10 7 || D 10) = true then _ else _)]) _ :: (if (Nat.beq 6 7 || D 6) = true then _ else _) :: _ :: _)
                rw [h6, h10]
                exact hw.perm (by repeat (first | exact List.Perm.refl _ | refine perm_pick (by repeat (first | exact Pick.hd | apply Pick.tl)) ?_))
              case c10_7 =>
                intro u LD D a W hcl hi hp hs hw
                have h7 := Go.Sx.done hp 7 (by kernel_rfl)
                simp only [hi, h7, Bool.false_eq_true, if_false, if_true] at hw
                refine st_store hs (vs := [.slice (u 7).1 (s'.l ++ [N.2.1]).length (u 7).2.1]) (hw := hw) (hl := by show Nat.ble (0 + 38 + 1) (cs2 ++ [Value.slice vad s'.l.length vcap]).length = true; rw [List.length_append, hlen2]; rfl) (k := ?_); clear hs hw; intro W hs hw
                rw [set38 hlen2] at hw
                repeat (first | (refine sxv hs hw ?_; clear hs; intro a hs) | refine sxc hs ?_ | (refine sxa hs hw ?_; clear hs hw; intro a b W hw hs) | (refine sxs hs hw ?_; clear hs hw; intro W hs hw))
                refine Or.inl ⟨hs, ?_⟩
                show Has 0 w0 _ (_ :: _ :: (if (Nat.beq 7 10 || D 7) = true then _ else _) :: _)
                rw [h7]
                exact hw
              case k_7 =>
                clear hs hw
                intro u a W hs hw
                replace hs : Slots a 104 [(11, .pointer (some ⟨b11, 0, none⟩)), (0, .pointer (some ⟨p, 0, none⟩)), (1, .slice (some ⟨g1, f1, none⟩) rows.length scap), (6, .int .i64 (n : Int)), (7, .int .i64 (j : Int))] := hs.of ⟨rfl, rfl, rfl, rfl, rfl, trivial⟩
                replace hw : Has 0 w0 W (Cells p (cs2 ++ [.slice (u 7).1 (s'.l ++ [N.2.1]).length (u 7).2.1]) 43 :: Cells (u 6).2.2 (rowCells N.2.1 (.slice uad N.2.1.b.l.length ucap)) 29 :: Sx.Own 29 5 (.slice (u 7).1 (s'.l ++ [N.2.1]).length (u 7).2.1) (s'.l ++ [N.2.1]).length (ys ++ rowCells N.2.1 (.slice uad N.2.1.b.l.length ucap)) :: Fz H2 :: Cells b10 cs2 41 :: Cells b11 (rowCells N.2.1 (.slice uad N.2.1.b.l.length ucap)) 29 :: R) := hw
                have hw := hw.sub (L' := Cells p (cs2 ++ [.slice (u 7).1 (s'.l ++ [N.2.1]).length (u 7).2.1]) 43 :: Sx.Own 29 5 (.slice (u 7).1 (s'.l ++ [N.2.1]).length (u 7).2.1) (s'.l ++ [N.2.1]).length (ys ++ rowCells N.2.1 (.slice uad N.2.1.b.l.length ucap)) :: Fz H2 :: R) (List.Sublist.cons_cons _ (List.Sublist.cons _ (List.Sublist.cons_cons _ (List.Sublist.cons_cons _ (List.Sublist.cons _ (List.Sublist.cons _ (List.Sublist.refl _)))))))
                have hw := rstreamShut (s := ⟨N.1, (s'.l ++ [N.2.1])⟩) hw hf2 ((hch2.mono (RowIn.le hle)).app (Ch.unit ⟨_, rfl, hsv⟩))
                repeat (first | (refine sxv hs hw ?_; clear hs; intro a hs) | refine sxc hs ?_ | (refine sxa hs hw ?_; clear hs hw; intro a b W hw hs) | (refine sxs hs hw ?_; clear hs hw; intro W hs hw))
                exact st_again (j + 1, n + 1, ⟨N.1, (s'.l ++ [N.2.1])⟩, H2) hs hw ⟨hj', by show n + 1 ≤ j + 1; omega, by show (s'.l ++ [N.2.1]).length ≤ s.l.length + (j + 1); have : (s'.l ++ [N.2.1]).length ≤ s'.l.length + 1 := hol; omega, hodo, hopl, hH'.trans hle, hgo⟩ (by show rows.length - (j + 1) < rows.length - j; omega) ⟨rfl, rfl, int_eq (by show IntKind.i64.wrap ((n : Int) + 1) = ((n + 1 : Nat) : Int); rw [IntWalk.i64_in _ (by omega)]; omega), int_eq (by show IntKind.i64.wrap ((j : Int) + 1) = ((j + 1 : Nat) : Int); rw [IntWalk.i64_in _ (by omega)]; omega), trivial⟩
              all_goals
                intro u LD D a W hcl hi hp hs hw
                repeat (first | (refine sxv hs hw ?_; clear hs; intro a hs) | refine sxc hs ?_ | (refine sxa hs hw ?_; clear hs hw; intro a b W hw hs) | (refine sxs hs hw ?_; clear hs hw; intro W hs hw))
                exact Or.inl ⟨hs, hw⟩
          all_goals
            intro LD D a W hcl hi hp hs hw
            repeat (first | (refine sxv hs hw ?_; clear hs; intro a hs) | refine sxc hs ?_ | (refine sxa hs hw ?_; clear hs hw; intro a b W hw hs) | (refine sxs hs hw ?_; clear hs hw; intro W hs hw))
            exact ⟨hs, hw⟩
      all_goals
        intro u LD D a W hcl hi hp hs hw
        repeat (first | (refine sxv hs hw ?_; clear hs; intro a hs) | refine sxc hs ?_ | (refine sxa hs hw ?_; clear hs hw; intro a b W hw hs) | (refine sxs hs hw ?_; clear hs hw; intro W hs hw))
        exact Or.inl ⟨hs, hw⟩
    all_goals
      intro LD D a W hcl hi hp hs hw
      repeat (first | (refine sxv hs hw ?_; clear hs; intro a hs) | refine sxc hs ?_ | (refine sxa hs hw ?_; clear hs hw; intro a b W hw hs) | (refine sxs hs hw ?_; clear hs hw; intro W hs hw))
      exact ⟨hs, hw⟩
  · have hj' : j = rows.length := by have : ¬ j < rows.length := by simpa using hcc
                                     omega
    subst hj'
    rw [List.drop_length] at hgo
    repeat (first | (refine sxv hs hw ?_; clear hs; intro a hs) | refine sxc hs ?_ | (refine sxa hs hw ?_; clear hs hw; intro a b W hw hs) | (refine sxs hs hw ?_; clear hs hw; intro W hs hw))
    rw [← hgo]
    exact rt2 hs rfl rfl rfl ⟨H', rfl, hH', hw⟩
end Go.Proofs.YtajidlglbkopjaaDoor.Sw

/-
  The walk of StreamRaw.
-/
set_option linter.unusedVariables false
set_option maxRecDepth 10000
namespace Go.Proofs.YtajidlglbkopjaaDoor.Sw
open Go.RowKit Go.Sx

def cutR (r : RowD) : RowD := ⟨r.place, cutB r.b, r.err⟩
theorem cutR_ok {r : RowD} (h : RowWf r) : RowOk (cutR r) := ⟨wf_i64 h.place, wf_i64 h.err, cutB_ok h.b⟩
theorem cutR_8 (r : RowD) : (cutR r).b.l.length ≤ 10 := by
  show (cutD r.b.l).length ≤ 10
  unfold cutD
  rw [List.length_map, List.length_take]; omega
theorem one_mem {s : StreamD} {r x : RowD} (h : x ∈ (one s r).1.l) : x ∈ s.l ∨ x = r := by
  unfold one at h
  split at h
  · exact .inl h
  · split at h
    · split at h <;> exact .inl h
    · split at h
      · rcases List.mem_append.1 h with h | h
        · exact .inl h
        · exact .inr (List.mem_singleton.1 h)
      · exact .inl h
theorem takeN_mem : ∀ {rows : List RowD} {s : StreamD} {n : Nat} {x : RowD}, x ∈ (takeN s n rows).1.l → x ∈ s.l ∨ x ∈ rows
  | [], s, n, x, h => .inl h
  | r :: rows, s, n, x, h => by
    simp only [takeN] at h
    split at h
    · rcases takeN_mem h with h | h
      · rcases one_mem h with h | h
        · exact .inl h
        · exact .inr (by simp [h])
      · exact .inr (by simp [h])
    · rcases one_mem h with h | h
      · exact .inl h
      · exact .inr (by simp [h])
theorem takeN_len : ∀ {rows : List RowD} {s : StreamD} {n : Nat}, (takeN s n rows).1.l.length ≤ s.l.length + rows.length
  | [], s, n => Nat.le_refl _
  | r :: rows, s, n => by
    have h1 := one_len s r
    simp only [takeN, List.length_cons]
    split
    · have := takeN_len (rows := rows) (s := (one s r).1) (n := if (one s r).2.1 = true then n + 1 else n)
      omega
    · show (one s r).1.l.length ≤ _; omega
structure RawU where
  H : Fh
  ad : Option Addr
  cap : Nat
  ys : List Value

set_option maxHeartbeats 16000000 in
theorem walk_StreamRaw (l : List RowD) (v : Value) (w : World) (hb : ∀ r ∈ l, RowWf r) (hr : RowsRd w v l) (hT : Tabs w) :
    Calls Tryd.prog 3 ⟨[v]⟩ w fun e w' => e = .returned (.bool true) ∧ Below w.heap.size w w' := by
  have hw := Has.startF w
  replace hr := hr.h
  obtain ⟨sad, scap, rfl⟩ := hr.slice
  refine enter Tryd.func3 Tryd.ntmps3 rfl rfl fun a hs => ?_
  repeat (first | (refine sxv hs hw ?_; clear hs; intro a hs) | refine sxc hs ?_ | (refine sxa hs hw ?_; clear hs hw; intro a b W hw hs) | (refine sxs hs hw ?_; clear hs hw; intro W hs hw))
  refine st_call hs (hc := law21_begun _ hT) (k := ?_); rintro e0 W1 ⟨rfl, hb⟩; refine ⟨_, rfl, ?_⟩; clear hs; intro a hs; replace hw := hw.below hb; clear hb
  repeat (first | (refine sxv hs hw ?_; clear hs; intro a hs) | refine sxn hs ?_ | (refine sxa hs hw ?_; clear hs hw; intro a b W hw hs) | (refine sxs hs hw ?_; clear hs hw; intro W hs hw))
  refine sq ?_
  repeat (first | (refine sxv hs hw ?_; clear hs; intro a hs) | refine sxn hs ?_ | (refine sxa hs hw ?_; clear hs hw; intro a b W hw hs) | (refine sxs hs hw ?_; clear hs hw; intro W hs hw))
  refine sq ?_
  refine merge (M := fun a W => ∃ v2 l2, l2 = l.take 20 ∧ RowsH (fr w) v2 l2 ∧ Slots a 74 [(0, v2)] ∧ Has 0 w W (Fz (fr w) :: [])) ?_ ?_
  · repeat (first | (refine sxv hs hw ?_; clear hs; intro a hs) | refine sxc hs ?_ | (refine sxa hs hw ?_; clear hs hw; intro a b W hw hs) | (refine sxs hs hw ?_; clear hs hw; intro W hs hw))
    cases c1 : decide ((l.length : Int) > 20) with
    | false =>
      rw [c1] at hs
      repeat (first | (refine sxv hs hw ?_; clear hs; intro a hs) | refine sxc hs ?_ | (refine sxa hs hw ?_; clear hs hw; intro a b W hw hs) | (refine sxs hs hw ?_; clear hs hw; intro W hs hw))
      have hl : l.length ≤ 20 := by have := of_decide_eq_false c1; omega
      exact ⟨_, _, rfl, by rw [List.take_of_length_le hl]; exact hr, hs.of ⟨rfl, trivial⟩, hw⟩
    | true =>
      rw [c1] at hs
      have hl : 20 < l.length := by have := of_decide_eq_true c1; omega
      repeat (first | (refine sxv hs hw ?_; clear hs; intro a hs) | refine sxc hs ?_ | (refine sxa hs hw ?_; clear hs hw; intro a b W hw hs) | (refine sxs hs hw ?_; clear hs hw; intro W hs hw))
      refine st_rows_hi (i := 20) hs hr (by omega) (by omega) (c := ?_); clear hs; intro a v2 hr2 hs
      repeat (first | (refine sxv hs hw ?_; clear hs; intro a hs) | refine sxc hs ?_ | (refine sxa hs hw ?_; clear hs hw; intro a b W hw hs) | (refine sxs hs hw ?_; clear hs hw; intro W hs hw))
      exact ⟨v2, _, rfl, hr2, hs.of ⟨rfl, trivial⟩, hw⟩
  clear hs hw
  rintro a W ⟨v2, l2, hl2, hr2, hs, hw⟩
  have hlen : l2.length ≤ 20 := by rw [hl2, List.length_take]; omega
  have hb2 : ∀ r ∈ l2, RowWf r := fun r h => hb r (by rw [hl2] at h; exact List.mem_of_mem_take h)
  clear hl2 hb hr
  obtain ⟨xs2, hr2, hch⟩ := hr2
  obtain ⟨tad, tcap, rfl⟩ := hr2.slice
  repeat (first | (refine sxv hs hw ?_; clear hs; intro a hs) | refine sxc hs ?_ | (refine sxa hs hw ?_; clear hs hw; intro a b W hw hs) | (refine sxs hs hw ?_; clear hs hw; intro W hs hw))
  have hw := hw.nilOwn 29 5
  refine st_loop (σ := Nat × Option Addr × Nat × List Value × Fh) (fun t => [(0, .slice tad l2.length tcap), (4, .slice t.2.1 ((l2.take t.1).map cutR).length t.2.2.1), (5, .int .i64 (t.1 : Int))]) (fun t => Sx.Own 29 5 (.slice t.2.1 ((l2.take t.1).map cutR).length t.2.2.1) ((l2.take t.1).map cutR).length t.2.2.2.1 :: Fz t.2.2.2.2 :: []) (fun t => t.1 ≤ l2.length ∧ (fr w).le t.2.2.2.2 ∧ Ch (RowIn t.2.2.2.2) ((l2.take t.1).map cutR) t.2.2.2.1) (fun t => l2.length - t.1) (0, none, 0, [], fr w) ⟨Nat.zero_le _, Fh.le.refl _, rfl⟩ hs ⟨rfl, rfl, rfl, trivial⟩ hw ?_
  clear hs hw
  rintro ⟨j, oad, ocap, ys, H1⟩ a W ⟨hj, hle1, hch2⟩ hs hw
  simp only at hj hle1 hch2 hs hw
  repeat (first | (refine sxv hs hw ?_; clear hs; intro a hs) | refine sxc hs ?_ | (refine sxa hs hw ?_; clear hs hw; intro a b W hw hs) | (refine sxs hs hw ?_; clear hs hw; intro W hs hw))
  refine cd_split hs (kt := fun hcc => ?_) (kf := fun hcc => ?_)
  · have hj' : j < l2.length := by simpa using hcc
    obtain ⟨r, hri⟩ : ∃ o, l2[j]? = some o := ⟨l2[j], List.getElem?_eq_getElem hj'⟩
    have hok := hb2 r (List.mem_of_getElem? hri)
    have hnext : ((l2.take (j + 1)).map cutR) = ((l2.take j).map cutR) ++ [cutR r] := by rw [take_of hri, List.map_append]; rfl
    have htk : ((l2.take j).map cutR).length ≤ 20 := by rw [List.length_map, List.length_take]; omega
    repeat (first | (refine sxv hs hw ?_; clear hs; intro a hs) | refine sxc hs ?_ | (refine sxa hs hw ?_; clear hs hw; intro a b W hw hs) | (refine sxs hs hw ?_; clear hs hw; intro W hs hw))
    refine st_index_ch hs (r := hw.rdH (by repeat (first | exact In.hd | apply In.tl)) (hr2.le hle1)) (hk := RowIn.len) (ch := hch.mono (RowIn.le hle1)) (ho := hri) (hlen := rfl) (c := ?_); clear hs; intro a g off c hc hcl hpc hlt hs
    obtain ⟨rv, rfl, hrv⟩ := hc
    obtain ⟨rad, rcap, rfl⟩ := hrv.slice
    refine st_load_ats hs (cs := rowCells r (.slice rad r.b.l.length rcap)) (hc := hpc) (hl := by rfl) (c := ?_); clear hs; intro a hs
    clear hpc
    repeat (first | (refine sxv hs hw ?_; clear hs; intro a hs) | refine sxc hs ?_ | (refine sxa hs hw ?_; clear hs hw; intro a b W hw hs) | (refine sxs hs hw ?_; clear hs hw; intro W hs hw))
    obtain ⟨bb, qb⟩ := nm1 hw; subst qb
    obtain ⟨b6, q6⟩ := nm2 hw; subst q6
    have hw : Has 0 w _ (Cells bb (batCells r.b (.slice rad r.b.l.length rcap)) 26 :: Fz H1 :: Cells b6 (rowCells r (.slice rad r.b.l.length rcap)) 29 :: Sx.Own 29 5 (.slice oad ((l2.take j).map cutR).length ocap) ((l2.take j).map cutR).length ys :: []) := hw.perm (by repeat (first | exact List.Perm.refl _ | refine perm_pick (by repeat (first | exact Pick.hd | apply Pick.tl)) ?_))
    obtain ⟨H2, hle2, hw, hbt⟩ := hw.freeze_lit (m := 1) (sz := 3) rfl (by decide)
    have hbats : BatsH H2 (.slice (some ⟨bb, 0, none⟩) 1 1) [r.b] := ⟨_, hbt, Ch.unit ⟨_, rfl, hrv.le hle2⟩⟩
    refine st_call hs (hc := law7_Batches w _ H2 [r.b] _ 1 _ (by decide) (fun b h => by rw [List.mem_singleton] at h; subst h; exact hok.b) hbats hw) (k := ?_); rintro e0 W1 ⟨v', H3, rfl, hle3, ⟨bxs, hbr, hbc⟩, hw1⟩; refine ⟨_, rfl, ?_⟩; clear hs hw; intro a hs; have hw := hw1; clear hw1
    replace hbr : RdH H3 3 v' 1 bxs := hbr
    obtain ⟨bad, bcap, rfl⟩ := hbr.slice
    refine st_index_ch (i := 0) hs (r := hw.rdH (by repeat (first | exact In.hd | apply In.tl)) hbr) (hk := BatIn.len) (ch := hbc) (ho := rfl) (hlen := rfl) (c := ?_); clear hs; intro a g2 off2 c hc hcl hpc hlt hs
    obtain ⟨nv, rfl, hnv⟩ := hc
    obtain ⟨nad, ncap, rfl⟩ := hnv.slice
    refine st_load_ats hs (cs := batCells (cutB r.b) (.slice nad (cutD r.b.l).length ncap)) (hc := hpc) (hl := by rfl) (c := ?_); clear hs; intro a hs
    clear hpc
    repeat (first | (refine sxv hs hw ?_; clear hs; intro a hs) | refine sxc hs ?_ | (refine sxa hs hw ?_; clear hs hw; intro a b W hw hs) | (refine sxs hs hw ?_; clear hs hw; intro W hs hw))
    obtain ⟨bx, qx⟩ := nm1 hw; subst qx
    have hw : Has 0 w _ (Sx.Own 29 5 (.slice oad ((l2.take j).map cutR).length ocap) ((l2.take j).map cutR).length ys :: Cells bx (rowCells (cutR r) (.slice nad (cutD r.b.l).length ncap)) 29 :: Fz H3 :: Cells b6 (rowCells (cutR r) (.slice nad (cutD r.b.l).length ncap)) 29 :: []) := hw.perm (by repeat (first | exact List.Perm.refl _ | refine perm_pick (by repeat (first | exact Pick.hd | apply Pick.tl)) ?_))
    refine st_append1 hs (hw := hw) (hi := In.hd) (ch := hch2.mono (RowIn.le (hle2.trans hle3))) (ha := (⟨_, rfl, hnv⟩ : RowIn H3 (cutR r) (rowCells (cutR r) (.slice nad (cutD r.b.l).length ncap)))) (hl := rfl) (h1 := rfl) (hb := by omega) (h63 := by omega) (k := ?_)
    clear hs hw; intro a ad2 cap2 W hs hw hc2
    rw [← hnext] at hs hw hc2
    repeat (first | (refine sxv hs hw ?_; clear hs; intro a hs) | refine sxc hs ?_ | (refine sxa hs hw ?_; clear hs hw; intro a b W hw hs) | (refine sxs hs hw ?_; clear hs hw; intro W hs hw))
    exact st_again (j + 1, ad2, cap2, ys ++ rowCells (cutR r) (.slice nad (cutD r.b.l).length ncap), H3) hs (hw.sub (List.Sublist.cons_cons _ (List.Sublist.cons _ (List.Sublist.cons_cons _ (List.Sublist.cons _ (List.Sublist.refl _)))))) ⟨hj', (hle1.trans hle2).trans hle3, hc2⟩ (by show l2.length - (j + 1) < l2.length - j; omega) ⟨rfl, rfl, int_eq (by show IntKind.i64.wrap ((j : Int) + 1) = ((j + 1 : Nat) : Int); rw [IntWalk.i64_in _ (by omega)]; omega), trivial⟩
  · have hj' : j = l2.length := by have : ¬ j < l2.length := by simpa using hcc
                                   omega
    subst hj'
    rw [List.take_length] at hs hw hch2
    obtain ⟨m, hm⟩ : ∃ m, l2.map cutR = m := ⟨_, rfl⟩
    have hmok : ∀ r ∈ m, RowOk r := by
      intro r h
      rw [← hm] at h
      obtain ⟨x, hx, rfl⟩ := List.mem_map.1 h
      exact cutR_ok (hb2 x hx)
    have hm8 : ∀ r ∈ m, r.b.l.length ≤ 10 := by
      intro r h
      rw [← hm] at h
      obtain ⟨x, hx, rfl⟩ := List.mem_map.1 h
      exact cutR_8 x
    have hmlen : m.length ≤ 20 := by rw [← hm, List.length_map]; exact hlen
    rw [hm] at hs hw hch2
    obtain ⟨H2, hle2, hw, hmr⟩ := hw.freeze_own
    have hrows : RowsH H2 (.slice oad m.length ocap) m := ⟨ys, hmr, hch2.mono (RowIn.le hle2)⟩
    have hle := hle1.trans hle2
    clear hch2 hch hr2 hm hb2
    repeat (first | (refine sxv hs hw ?_; clear hs; intro a hs) | refine sxc hs ?_ | (refine sxa hs hw ?_; clear hs hw; intro a b W hw hs) | (refine sxs hs hw ?_; clear hs hw; intro W hs hw))
    refine st_call hs (hc := stream_New w _ H2 _ hw) (k := ?_); rintro e0 W1 ⟨p, rfl, hw1⟩; refine ⟨_, rfl, ?_⟩; clear hs hw; intro a hs; have hw := hw1; clear hw1
    repeat (first | (refine sxv hs hw ?_; clear hs; intro a hs) | refine sxc hs ?_ | (refine sxa hs hw ?_; clear hs hw; intro a b W hw hs) | (refine sxs hs hw ?_; clear hs hw; intro W hs hw))
    obtain ⟨b8, q8⟩ := nm1 hw; subst q8
    have hw : Has 0 w W (Cells b8 (zrf ++ [.slice none 0 0]) 43 :: StreamAt H2 p ⟨emptyF, []⟩ :: Fz H2 :: []) := by with_unfolding_all exact hw
    obtain ⟨T, hTk⟩ : ∃ T, takeN ⟨emptyF, []⟩ 0 m = T := ⟨_, rfl⟩
    have hTlen : T.1.l.length ≤ 20 := by
      have := takeN_len (rows := m) (s := ⟨emptyF, []⟩) (n := 0)
      rw [hTk] at this
      have e : (([] : List RowD).length) = 0 := rfl
      simp only [e] at this
      omega
    have hT8 : ∀ r ∈ T.1.l, r.b.l.length ≤ 1000 := by
      intro r h
      rw [← hTk] at h
      rcases takeN_mem h with h | h
      · cases h
      · have := hm8 r h; omega
    refine st_call hs (hc := stream_Take w _ H2 p _ m _ _ (by show ([] : List RowD).length + m.length ≤ 1000000; rw [List.length_nil]; omega) hmok hrows hle hT (hw.perm (B := StreamAt H2 p ⟨emptyF, []⟩ :: Fz H2 :: Cells b8 (zrf ++ [.slice none 0 0]) 43 :: []) (by repeat (first | exact List.Perm.refl _ | refine perm_pick (by repeat (first | exact Pick.hd | apply Pick.tl)) ?_)))) (k := ?_); rintro e0 W1 ⟨H3, rfl, hle3, hw1⟩; refine ⟨_, rfl, ?_⟩; clear hs hw; intro a hs; have hw := hw1; clear hw1
    rw [hTk] at hs hw
    repeat (first | (refine sxv hs hw ?_; clear hs; intro a hs) | refine sxc hs ?_ | (refine sxa hs hw ?_; clear hs hw; intro a b W hw hs) | (refine sxs hs hw ?_; clear hs hw; intro W hs hw))
    have hw : Has 0 w _ (Cells b8 (zrf ++ [.slice none 0 0]) 43 :: StreamAt H3 p T.1 :: Fz H3 :: []) := hw.perm (by repeat (first | exact List.Perm.refl _ | refine perm_pick (by repeat (first | exact Pick.hd | apply Pick.tl)) ?_))
    have hw := hw.nilOwn 29 5
    have hw := rstreamShut (s := ⟨emptyF, []⟩) (xs := []) hw.swap2 (rf_empty H3) rfl
    have hw : Has 0 w _ (RStreamAt H3 b8 ⟨emptyF, []⟩ :: Fz H3 :: StreamAt H3 p T.1 :: []) := hw.perm (by repeat (first | exact List.Perm.refl _ | refine perm_pick (by repeat (first | exact Pick.hd | apply Pick.tl)) ?_))
    refine st_call hs (hc := ref_Take w _ H3 b8 _ m _ _ (by show ([] : List RowD).length + m.length ≤ 1000000; rw [List.length_nil]; omega) hmok (hrows.le hle3) DocOk.nil rfl hw) (k := ?_); rintro e0 W1 ⟨H4, rfl, hle4, hw1⟩; refine ⟨_, rfl, ?_⟩; clear hs hw; intro a hs; have hw := hw1; clear hw1
    rw [hTk] at hs hw
    have hleA := (hle.trans hle3).trans hle4
    obtain ⟨X, N, E⟩ := T
    simp only at hs hw hTlen hT8
    repeat (first | (refine sxv hs hw ?_; clear hs; intro a hs) | refine sxc hs ?_ | (refine sxa hs hw ?_; clear hs hw; intro a b W hw hs) | (refine sxs hs hw ?_; clear hs hw; intro W hs hw))
    obtain ⟨cs, vad, vcap, xs, hf, hxs, hw⟩ := rstreamOpen hw
    have hlenc := hf.len
    have hw : Has 0 w _ (StreamAt H3 p X :: Fz H4 :: Free :: Cells b8 (cs ++ [.slice vad X.l.length vcap]) 43 :: Sx.Own 29 5 (.slice vad X.l.length vcap) X.l.length xs :: []) := hw.free.perm (by repeat (first | exact List.Perm.refl _ | refine perm_pick (by repeat (first | exact Pick.hd | apply Pick.tl)) ?_))
    have hw := streamLe hw hle4
    have hw : Has 0 w _ (Fz H4 :: Free :: StreamAt H4 p X :: Cells b8 (cs ++ [.slice vad X.l.length vcap]) 43 :: Sx.Own 29 5 (.slice vad X.l.length vcap) X.l.length xs :: []) := hw.perm (by repeat (first | exact List.Perm.refl _ | refine perm_pick (by repeat (first | exact Pick.hd | apply Pick.tl)) ?_))
    refine rg_drawU (σ := RawU) (V := fun u => [.int .i64 (N : Int), .int .i64 (N : Int), .bool true, .bool true, .int .i64 E, .int .i64 E, .bool true, .bool true, .bool true, .pointer (some ⟨p, 0, none⟩), .slice (u 10).ad X.l.length (u 10).cap, .pointer (some ⟨b8, 0, none⟩), .pointer (some ⟨b8, 0, none⟩), .pointer (some ⟨b8, 0 + 38, none⟩), .slice vad X.l.length vcap, .bool true, .bool true, .bool true]) (Rs := fun u D => (if D 10 then FzF (u 10).H (H4.le (u 10).H ∧ Ch (RowIn (u 10).H) X.l (u 10).ys) else Fz H4) :: (if D 10 then Sx.Own 29 5 (.slice (u 10).ad X.l.length (u 10).cap) X.l.length (u 10).ys else Free) :: (if D 10 then StreamAt (u 10).H p X else StreamAt H4 p X) :: Cells b8 (cs ++ [.slice vad X.l.length vcap]) 43 :: Sx.Own 29 5 (.slice vad X.l.length vcap) X.l.length xs :: []) (fun _ => ⟨H4, none, 0, []⟩) hs hw (hVu := ?vu_7) (ho := ⟨?_, ?_, ?c2_7, ?_, ?_, ?_, ?c6_7, ?_, ?_, ?_, ?c10_7, ?_, ?_, ?_, ?c14_7, ?c15_7, ?_, ?_, trivial⟩) (k := ?k_7)
    case vu_7 =>
      intro u u' j h
      rcases j with _ | _ | _ | _ | _ | _ | _ | _ | _ | _ | _ | _ | _ | _ | _ | _ | _ | _ | j
      all_goals first | rfl | simp [h]
    case c2_7 =>
      intro u LD D a W hcl hi hp hs hw
      repeat (first | (refine sxv hs hw ?_; clear hs; intro a hs) | refine sxc hs ?_ | (refine sxa hs hw ?_; clear hs hw; intro a b W hw hs) | (refine sxs hs hw ?_; clear hs hw; intro W hs hw))
      rw [show ((N : Int) == (N : Int)) = true from beq_self_eq_true _] at hs
      exact Or.inl ⟨hs, hw⟩
    case c6_7 =>
      intro u LD D a W hcl hi hp hs hw
      repeat (first | (refine sxv hs hw ?_; clear hs; intro a hs) | refine sxc hs ?_ | (refine sxa hs hw ?_; clear hs hw; intro a b W hw hs) | (refine sxs hs hw ?_; clear hs hw; intro W hs hw))
      rw [show (E == E) = true from beq_self_eq_true _] at hs
      exact Or.inl ⟨hs, hw⟩
    case c10_7 =>
      intro u LD D a W hcl hi hp hs hw
      simp only [hi, Bool.false_eq_true, if_false] at hw
      repeat (first | (refine sxv hs hw ?_; clear hs; intro a hs) | refine sxc hs ?_ | (refine sxa hs hw ?_; clear hs hw; intro a b W hw hs) | (refine sxs hs hw ?_; clear hs hw; intro W hs hw))
      have hw : Has 0 w W (StreamAt H4 p X :: Fz H4 :: Free :: Cells b8 (cs ++ [.slice vad X.l.length vcap]) 43 :: Sx.Own 29 5 (.slice vad X.l.length vcap) X.l.length xs :: []) := hw.perm (by repeat (first | exact List.Perm.refl _ | refine perm_pick (by repeat (first | exact Pick.hd | apply Pick.tl)) ?_))
      refine st_call hs (hc := stream_Rows w _ H4 p X _ (by omega) hT8 hw) (k := ?_); rintro e0 W1 ⟨ad, cap, ys', H5, rfl, hle5, hc5, hw1⟩; refine ⟨_, rfl, ?_⟩; clear hs hw; intro a hs; have hw := hw1; clear hw1
      repeat (first | (refine sxv hs hw ?_; clear hs; intro a hs) | refine sxc hs ?_ | (refine sxa hs hw ?_; clear hs hw; intro a b W hw hs) | (refine sxs hs hw ?_; clear hs hw; intro W hs hw))
      refine Or.inr ⟨⟨H5, ad, cap, ys'⟩, hs, ?_⟩
      have hw : Has 0 w _ (Fz H5 :: Sx.Own 29 5 (.slice ad X.l.length cap) X.l.length ys' :: StreamAt H5 p X :: Cells b8 (cs ++ [.slice vad X.l.length vcap]) 43 :: Sx.Own 29 5 (.slice vad X.l.length vcap) X.l.length xs :: []) := (hw.perm (B := Free :: Fz H5 :: Sx.Own 29 5 (.slice ad X.l.length cap) X.l.length ys' :: StreamAt H5 p X :: Cells b8 (cs ++ [.slice vad X.l.length vcap]) 43 :: Sx.Own 29 5 (.slice vad X.l.length vcap) X.l.length xs :: []) (by repeat (first | exact List.Perm.refl _ | refine perm_pick (by repeat (first | exact Pick.hd | apply Pick.tl)) ?_))).sub (List.Sublist.cons _ (List.Sublist.refl _))
      exact hw.fzf ⟨hle5, hc5⟩
    case c14_7 =>
      intro u LD D a W hcl hi hp hs hw
      repeat (first | (refine sxv hs hw ?_; clear hs; intro a hs) | refine sxc hs ?_ | (refine sxa hs hw ?_; clear hs hw; intro a b W hw hs) | (refine sxs hs hw ?_; clear hs hw; intro W hs hw))
      refine st_load_one hs (hw := hw) (hi := In.tl (In.tl (In.tl In.hd))) (hv := at38 hlenc _) (k := ?_); clear hs; intro a hs
      repeat (first | (refine sxv hs hw ?_; clear hs; intro a hs) | refine sxc hs ?_ | (refine sxa hs hw ?_; clear hs hw; intro a b W hw hs) | (refine sxs hs hw ?_; clear hs hw; intro W hs hw))
      exact Or.inl ⟨hs, hw⟩
    case c15_7 =>
      intro u LD D a W hcl hi hp hs hw
      have h10 := Go.Sx.done hp 10 (by kernel_rfl)
      have hw0 := hw
      simp only [h10, if_true] at hw
      obtain ⟨⟨hle5, hc5⟩, hw⟩ := hw.unfzf
      repeat (first | (refine sxv hs hw ?_; clear hs; intro a hs) | refine sxc hs ?_ | (refine sxa hs hw ?_; clear hs hw; intro a b W hw hs) | (refine sxs hs hw ?_; clear hs hw; intro W hs hw))
      refine st_call hs (hc := ref_EqRows X.l _ (u 10).ys X.l _ xs _ (hw.rd_own (In.tl In.hd)) (rowRd hw In.hd hc5) (hw.rd_own (In.tl (In.tl (In.tl (In.tl In.hd))))) (rowRd hw In.hd (hxs.mono (RowIn.le hle5)))) (k := ?_); rintro e0 W1 ⟨rfl, hb⟩; refine ⟨_, rfl, ?_⟩; clear hs; intro a hs; replace hw := hw.below hb; clear hb
      rw [eqRows_iff.2 rfl] at hs
      repeat (first | (refine sxv hs hw ?_; clear hs; intro a hs) | refine sxc hs ?_ | (refine sxa hs hw ?_; clear hs hw; intro a b W hw hs) | (refine sxs hs hw ?_; clear hs hw; intro W hs hw))
      refine Or.inl ⟨hs, ?_⟩
      have hw := hw.fzf (q := H4.le (u 10).H ∧ Ch (RowIn (u 10).H) X.l (u 10).ys) ⟨hle5, hc5⟩
      show Has 0 w _ ((if (Nat.beq 10 15 || D 10) = true then _ else _) :: (if (Nat.beq 10 15 || D 10) = true then _ else _) :: (if (Nat.beq 10 15 || D 10) = true then _ else _) :: _)
      rw [h10]
      exact hw
    case k_7 =>
      clear hs hw
      intro u a W hs hw
      replace hw : Has 0 w W (FzF (u 10).H (H4.le (u 10).H ∧ Ch (RowIn (u 10).H) X.l (u 10).ys) :: Sx.Own 29 5 (.slice (u 10).ad X.l.length (u 10).cap) X.l.length (u 10).ys :: StreamAt (u 10).H p X :: Cells b8 (cs ++ [.slice vad X.l.length vcap]) 43 :: Sx.Own 29 5 (.slice vad X.l.length vcap) X.l.length xs :: []) := hw
      obtain ⟨⟨hle5, _⟩, hw⟩ := hw.unfzf
      repeat (first | (refine sxv hs hw ?_; clear hs; intro a hs) | refine sxc hs ?_ | (refine sxa hs hw ?_; clear hs hw; intro a b W hw hs) | (refine sxs hs hw ?_; clear hs hw; intro W hs hw))
      exact rt1 hs rfl rfl ⟨rfl, hw.endF In.hd (hleA.trans hle5)⟩
    all_goals
      intro u LD D a W hcl hi hp hs hw
      repeat (first | (refine sxv hs hw ?_; clear hs; intro a hs) | refine sxc hs ?_ | (refine sxa hs hw ?_; clear hs hw; intro a b W hw hs) | (refine sxs hs hw ?_; clear hs hw; intro W hs hw))
      exact Or.inl ⟨hs, hw⟩
end Go.Proofs.YtajidlglbkopjaaDoor.Sw

/-
  The walk of StreamPieces.
-/
set_option linter.unusedVariables false
set_option maxRecDepth 10000
namespace Go.Proofs.YtajidlglbkopjaaDoor.Sw
open Go.RowKit Go.Sx

def step5 (x : Int) : Int := IntKind.i64.wrap (1 + (IntKind.i64.wrap (x.tmod 5 + 5)).tmod 5)
theorem step5_at (x : Int) : ∃ m : Nat, step5 x = m ∧ 1 ≤ m ∧ m ≤ 5 := by
  unfold step5
  have h1 := Int.lt_tmod_of_pos x (b := 5) (by decide)
  have h2 := Int.tmod_lt_of_pos x (b := 5) (by decide)
  rw [IntWalk.i64_in (x.tmod 5 + 5) (by omega)]
  have h3 := Int.lt_tmod_of_pos (x.tmod 5 + 5) (b := 5) (by decide)
  have h4 := Int.tmod_lt_of_pos (x.tmod 5 + 5) (b := 5) (by decide)
  have h5 := Int.tmod_eq_emod_of_nonneg (a := x.tmod 5 + 5) (b := 5) (by omega)
  rw [h5] at h3 h4 ⊢
  rw [IntWalk.i64_in _ (by omega)]
  exact ⟨(1 + (x.tmod 5 + 5) % 5).toNat, by omega, by omega, by omega⟩
theorem piece_law {l : List BatchD} {k m : Nat} {f : FoldD} (hp : Play emptyF ((rowsOf l).take k) f) (hkm : k ≤ m) (hm : m ≤ (rowsOf l).length) : ∃ f', takeN ⟨f, (rowsOf l).take k⟩ 0 (((rowsOf l).drop k).take (m - k)) = (⟨f', (rowsOf l).take m⟩, m - k, 0) ∧ Play emptyF ((rowsOf l).take m) f' := by
  obtain ⟨hpl, hl⟩ := rows_play l
  generalize rowsOf l = rows at *
  have e : rows.take m = rows.take k ++ (rows.drop k).take (m - k) := by
    rw [← List.take_append_drop k (rows.take m), List.take_take, Nat.min_eq_left hkm, List.drop_take]
  have hm' : Play emptyF (rows.take m ++ rows.drop m) (foldOf l) := by rw [List.take_append_drop]; exact hpl
  obtain ⟨f', hp1, _⟩ := hm'.split
  have hp1' := hp1
  rw [e] at hp1
  obtain ⟨g, hg1, hg2⟩ := hp1.split
  have : f = g := play_det hp hg1
  subst this
  refine ⟨f', ?_, hp1'⟩
  have hlt : (rows.take k).length = k := by rw [List.length_take]; omega
  have hld : ((rows.drop k).take (m - k)).length = m - k := by rw [List.length_take, List.length_drop]; omega
  have hf := (play_places (k := 0) hp rfl (by omega)).1
  rw [Nat.zero_add] at hf
  rw [take_play hg2 hf (by omega), ← e, hld, Nat.zero_add]

set_option maxHeartbeats 16000000 in
theorem walk_StreamPieces (l : List BatchD) (v : Value) (cl : List Int) (cv : Value) (w : World) (hb : ∀ b ∈ l, BatWf b) (hr : BatsRd w v l) (hci : ∀ k ∈ cl, (Lit.int .i64 k).wf = true) (hc : IntsRd w cv cl) (hT : Tabs w) :
    Calls Tryd.prog 5 ⟨[v, cv]⟩ w fun e w' => e = .returned (.bool true) ∧ Below w.heap.size w w' := by
  have hw := Has.startF w
  obtain ⟨cxs, hcr, hcc⟩ := hc
  replace hcr := RdH.of_rd hcr (Fh.le.refl _) (by decide)
  obtain ⟨cad, ccap, rfl⟩ := hcr.slice
  refine enter Tryd.func5 Tryd.ntmps5 rfl rfl fun a hs => ?_
  repeat (first | (refine sxv hs hw ?_; clear hs; intro a hs) | refine sxc hs ?_ | (refine sxa hs hw ?_; clear hs hw; intro a b W hw hs) | (refine sxs hs hw ?_; clear hs hw; intro W hs hw))
  refine st_call hs (hc := law21_begun _ hT) (k := ?_); rintro e0 W1 ⟨rfl, hb⟩; refine ⟨_, rfl, ?_⟩; clear hs; intro a hs; replace hw := hw.below hb; clear hb
  repeat (first | (refine sxv hs hw ?_; clear hs; intro a hs) | refine sxc hs ?_ | (refine sxa hs hw ?_; clear hs hw; intro a b W hw hs) | (refine sxs hs hw ?_; clear hs hw; intro W hs hw))
  refine st_call hs (hc := law21_Rows w _ (fr w) l _ _ hb hr.h hw) (k := ?_); rintro e0 W1 ⟨rv, H1, rfl, hle1, hrows, hw1⟩; refine ⟨_, rfl, ?_⟩; clear hs hw; intro a hs; have hw := hw1; clear hw1
  obtain ⟨rad, rcap, rfl⟩ := hrows.slice
  have hlen40 := (rows_play l).2
  have hok := rows_ok hb
  have h8 := rows_8 l
  have hpiece : ∀ {k m : Nat} {f : FoldD}, Play emptyF ((rowsOf l).take k) f → k ≤ m → m ≤ (rowsOf l).length → ∃ f', takeN ⟨f, (rowsOf l).take k⟩ 0 (((rowsOf l).drop k).take (m - k)) = (⟨f', (rowsOf l).take m⟩, m - k, 0) ∧ Play emptyF ((rowsOf l).take m) f' := fun hp h1 h2 => piece_law hp h1 h2
  generalize rowsOf l = rows at *
  have h8' : ∀ r ∈ rows, r.b.l.length ≤ 1000 := fun r hr => Nat.le_trans (h8 r hr) (by decide)
  repeat (first | (refine sxv hs hw ?_; clear hs; intro a hs) | refine sxc hs ?_ | (refine sxa hs hw ?_; clear hs hw; intro a b W hw hs) | (refine sxs hs hw ?_; clear hs hw; intro W hs hw))
  refine st_call hs (hc := stream_New w _ H1 _ hw) (k := ?_); rintro e0 W1 ⟨p, rfl, hw1⟩; refine ⟨_, rfl, ?_⟩; clear hs hw; intro a hs; have hw := hw1; clear hw1
  repeat (first | (refine sxv hs hw ?_; clear hs; intro a hs) | refine sxc hs ?_ | (refine sxa hs hw ?_; clear hs hw; intro a b W hw hs) | (refine sxs hs hw ?_; clear hs hw; intro W hs hw))
  refine st_loop (σ := Nat × Nat × FoldD × Fh) (fun t => [(1, .slice cad cl.length ccap), (6, .slice rad rows.length rcap), (7, .pointer (some ⟨p, 0, none⟩)), (8, .int .i64 (t.1 : Int)), (9, .int .i64 (t.2.1 : Int))]) (fun t => StreamAt t.2.2.2 p ⟨t.2.2.1, rows.take t.1⟩ :: Fz t.2.2.2 :: []) (fun t => t.1 ≤ rows.length ∧ t.2.1 ≤ t.1 ∧ H1.le t.2.2.2 ∧ Play emptyF (rows.take t.1) t.2.2.1) (fun t => rows.length - t.1) (0, 0, emptyF, H1) ⟨Nat.zero_le _, Nat.zero_le _, Fh.le.refl _, rfl⟩ hs ⟨rfl, rfl, rfl, rfl, rfl, trivial⟩ hw ?_
  clear hs hw
  rintro ⟨k, i, f, H2⟩ a W ⟨hk, hi, hle2, hp⟩ hs hw
  simp only at hk hi hle2 hp hs hw
  repeat (first | (refine sxv hs hw ?_; clear hs; intro a hs) | refine sxc hs ?_ | (refine sxa hs hw ?_; clear hs hw; intro a b W hw hs) | (refine sxs hs hw ?_; clear hs hw; intro W hs hw))
  refine cd_split hs (kt := fun hcc => ?_) (kf := fun hcc => ?_)
  · have hk' : k < rows.length := by simpa using hcc
    refine wp_skip ?_; refine ex_then_n ?_; refine sq ?_; refine wp_block ?_
    repeat (first | (refine sxv hs hw ?_; clear hs; intro a hs) | refine sxn hs ?_ | (refine sxa hs hw ?_; clear hs hw; intro a b W hw hs) | (refine sxs hs hw ?_; clear hs hw; intro W hs hw))
    refine sq ?_
    refine merge (M := fun a W => ∃ m : Nat, 1 ≤ m ∧ m ≤ 5 ∧ Slots a 75 [(10, .int .i64 (m : Int)), (1, .slice cad cl.length ccap), (6, .slice rad rows.length rcap), (7, .pointer (some ⟨p, 0, none⟩)), (8, .int .i64 (k : Int)), (9, .int .i64 (i : Int))] ∧ Has 0 w W (StreamAt H2 p ⟨f, rows.take k⟩ :: Fz H2 :: [])) ?_ ?_
    · repeat (first | (refine sxv hs hw ?_; clear hs; intro a hs) | refine sxc hs ?_ | (refine sxa hs hw ?_; clear hs hw; intro a b W hw hs) | (refine sxs hs hw ?_; clear hs hw; intro W hs hw))
      cases c1 : decide ((i : Int) < (cl.length : Int)) with
      | false =>
        rw [c1] at hs
        repeat (first | (refine sxv hs hw ?_; clear hs; intro a hs) | refine sxc hs ?_ | (refine sxa hs hw ?_; clear hs hw; intro a b W hw hs) | (refine sxs hs hw ?_; clear hs hw; intro W hs hw))
        exact ⟨1, by decide, by decide, hs.of ⟨rfl, rfl, rfl, rfl, rfl, rfl, trivial⟩, hw⟩
      | true =>
        rw [c1] at hs
        have hi' : i < cl.length := by have := of_decide_eq_true c1; omega
        obtain ⟨x, hx⟩ : ∃ o, cl[i]? = some o := ⟨cl[i], List.getElem?_eq_getElem hi'⟩
        repeat (first | (refine sxv hs hw ?_; clear hs; intro a hs) | refine sxc hs ?_ | (refine sxa hs hw ?_; clear hs hw; intro a b W hw hs) | (refine sxs hs hw ?_; clear hs hw; intro W hs hw))
        refine st_index_ch hs (r := hw.rdH (by repeat (first | exact In.hd | apply In.tl)) (hcr.le (hle1.trans hle2))) (hk := IntIn.len) (ch := ‹Ch IntIn cl cxs›) (ho := hx) (hlen := rfl) (c := ?_); clear hs; intro a g off c hc hcl hpc hlt hs
        have hc : c = [.int .i64 x] := hc
        subst hc
        refine st_load_at hs (hc := hpc 0 _ rfl) (c := ?_); clear hs; intro a hs
        repeat (first | (refine sxv hs hw ?_; clear hs; intro a hs) | refine sxc hs ?_ | (refine sxa hs hw ?_; clear hs hw; intro a b W hw hs) | (refine sxs hs hw ?_; clear hs hw; intro W hs hw))
        obtain ⟨m, hm, hm1, hm5⟩ := step5_at x
        exact ⟨m, hm1, hm5, hs.of ⟨int_eq hm, rfl, rfl, rfl, rfl, rfl, trivial⟩, hw⟩
    · clear hs hw
      rintro a W ⟨m, hm1, hm5, hs, hw⟩
      repeat (first | (refine sxv hs hw ?_; clear hs; intro a hs) | refine sxc hs ?_ | (refine sxa hs hw ?_; clear hs hw; intro a b W hw hs) | (refine sxs hs hw ?_; clear hs hw; intro W hs hw))
      refine st_min hs (k := ?_); clear hs; intro a hs
      rw [IntWalk.i64_in ((k : Int) + (m : Int)) (by omega)] at hs
      obtain ⟨tq, hto, hkt, htl, hki⟩ : ∃ tq : Nat, (if (k : Int) + (m : Int) < (rows.length : Int) then (k : Int) + (m : Int) else (rows.length : Int)) = (tq : Int) ∧ k + 1 ≤ tq ∧ tq ≤ rows.length ∧ k ≤ tq := by
        by_cases h : (k : Int) + (m : Int) < (rows.length : Int)
        · rw [if_pos h]; exact ⟨k + m, by omega, by omega, by omega, by omega⟩
        · rw [if_neg h]; exact ⟨rows.length, rfl, by omega, by omega, by omega⟩
      rw [hto] at hs
      obtain ⟨f', ht, hp'⟩ := hpiece hp hki htl
      repeat (first | (refine sxv hs hw ?_; clear hs; intro a hs) | refine sxc hs ?_ | (refine sxa hs hw ?_; clear hs hw; intro a b W hw hs) | (refine sxs hs hw ?_; clear hs hw; intro W hs hw))
      refine st_rows_lh (i := (k : Int)) (j := (tq : Int)) hs (hrows.le hle2) (by omega) (by omega) (by omega) (c := ?_); clear hs; intro a v1 hr1 hs
      rw [Int.toNat_natCast, Int.toNat_natCast] at hr1
      refine st_call hs (hc := stream_Take w _ H2 p _ ((rows.drop k).take (tq - k)) _ _ (by rw [List.length_take, List.length_take, List.length_drop]; omega) (fun r hr => hok r (List.mem_of_mem_drop (List.mem_of_mem_take hr))) hr1 (hle1.trans hle2) hT hw) (k := ?_); rintro e0 W1 ⟨H3, rfl, hle3, hw1⟩; refine ⟨_, rfl, ?_⟩; clear hs hw; intro a hs; have hw := hw1; clear hw1
      rw [ht] at hs hw
      simp only at hs hw
      repeat (first | (refine sxv hs hw ?_; clear hs; intro a hs) | refine sxc hs ?_ | (refine sxa hs hw ?_; clear hs hw; intro a b W hw hs) | (refine sxs hs hw ?_; clear hs hw; intro W hs hw))
      rw [show (((tq - k : Nat) : Int) != IntKind.i64.wrap ((tq : Int) - (k : Int))) = false from by rw [IntWalk.i64_in _ (by omega), bne_eq_false_iff_eq]; omega] at hs
      repeat (first | (refine sxv hs hw ?_; clear hs; intro a hs) | refine sxc hs ?_ | (refine sxa hs hw ?_; clear hs hw; intro a b W hw hs) | (refine sxs hs hw ?_; clear hs hw; intro W hs hw))
      exact st_again (tq, i + 1, f', H3) hs hw ⟨htl, by show i + 1 ≤ tq; omega, hle2.trans hle3, hp'⟩ (by show rows.length - tq < rows.length - k; omega) ⟨rfl, rfl, rfl, rfl, int_eq (by show IntKind.i64.wrap ((i : Int) + 1) = ((i + 1 : Nat) : Int); rw [IntWalk.i64_in _ (by omega)]; omega), trivial⟩
  · have hk' : k = rows.length := by have : ¬ k < rows.length := by simpa using hcc
                                     omega
    subst hk'
    rw [List.take_length] at hw
    repeat (first | (refine sxv hs hw ?_; clear hs; intro a hs) | refine sxc hs ?_ | (refine sxa hs hw ?_; clear hs hw; intro a b W hw hs) | (refine sxs hs hw ?_; clear hs hw; intro W hs hw))
    refine st_call hs (hc := stream_Rows w _ H2 p _ _ (by show rows.length ≤ 1000000; omega) h8' hw) (k := ?_); rintro e0 W1 ⟨oad, ocap, ys, H3, rfl, hle3, hch, hw1⟩; refine ⟨_, rfl, ?_⟩; clear hs hw; intro a hs; have hw := hw1; clear hw1
    repeat (first | (refine sxv hs hw ?_; clear hs; intro a hs) | refine sxc hs ?_ | (refine sxa hs hw ?_; clear hs hw; intro a b W hw hs) | (refine sxs hs hw ?_; clear hs hw; intro W hs hw))
    obtain ⟨xs, hx1, hx2⟩ := (hrows.le (hle2.trans hle3)).rd hw (by repeat (first | exact In.hd | apply In.tl))
    refine st_call hs (hc := ref_EqRows rows _ ys rows _ xs _ (hw.rd_own In.hd) (rowRd hw (by repeat (first | exact In.hd | apply In.tl)) hch) hx1 hx2) (k := ?_); rintro e0 W1 ⟨rfl, hb⟩; refine ⟨_, rfl, ?_⟩; clear hs; intro a hs; replace hw := hw.below hb; clear hb
    rw [eqRows_iff.2 rfl] at hs
    repeat (first | (refine sxv hs hw ?_; clear hs; intro a hs) | refine sxc hs ?_ | (refine sxa hs hw ?_; clear hs hw; intro a b W hw hs) | (refine sxs hs hw ?_; clear hs hw; intro W hs hw))
    refine st_call hs (hc := stream_Next w _ H3 p _ _ (by show rows.length ≤ 1000000; omega) (hw.sub (List.Sublist.cons _ (List.Sublist.refl _)))) (k := ?_); rintro e0 W1 ⟨rfl, hw1⟩; refine ⟨_, rfl, ?_⟩; clear hs hw; intro a hs; have hw := hw1; clear hw1
    repeat (first | (refine sxv hs hw ?_; clear hs; intro a hs) | refine sxc hs ?_ | (refine sxa hs hw ?_; clear hs hw; intro a b W hw hs) | (refine sxs hs hw ?_; clear hs hw; intro W hs hw))
    rw [show (((rows.length : Int) + 1) == IntKind.i64.wrap ((rows.length : Int) + 1)) = true from by rw [IntWalk.i64_in _ (by omega)]; exact beq_self_eq_true _] at hs
    repeat (first | (refine sxv hs hw ?_; clear hs; intro a hs) | refine sxc hs ?_ | (refine sxa hs hw ?_; clear hs hw; intro a b W hw hs) | (refine sxs hs hw ?_; clear hs hw; intro W hs hw))
    exact rt1 hs rfl rfl ⟨rfl, hw.endF (by repeat (first | exact In.hd | apply In.tl)) ((hle1.trans hle2).trans hle3)⟩
end Go.Proofs.YtajidlglbkopjaaDoor.Sw
