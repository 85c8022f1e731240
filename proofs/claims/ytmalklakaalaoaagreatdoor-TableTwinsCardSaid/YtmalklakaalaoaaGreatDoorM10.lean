/-
  Texts of the proof, one behind the other (part 10).
-/
import Derived.Test.YtmalklakaalaoaaGreatDoorM9
set_option linter.unusedVariables false
set_option maxRecDepth 10000
namespace Go.Sx
theorem done_up {l : List Oper} {D : Nat → Bool} (hcl : ∀ k o', l[k]? = some o' → D k = true → ∀ e ∈ o'.after.toList, Region.binds .any e = true → D e.on = true) (j : Nat) {k : Nat} (hk : D k = true) (h : (match l[k]? with | some o => o.after.toList.any (fun e => Region.binds .any e && Nat.beq e.on j) | none => false) = true) : D j = true := by
  cases hj : D j with
  | true => rfl
  | false => rw [not_done hcl hj k h] at hk; cases hk
end Go.Sx
namespace Go.Proofs.YtmalklakaalaoaaGreatDoor.Sw
open Go.RowKit Go.Sx
theorem mod_at (q : Int) {n : Nat} (h : 0 < n) (h2 : n ≤ 1000000) : ∃ k : Nat, k < n ∧ (IntKind.i64.wrap (q.tmod (n : Int) + (n : Int))).tmod (n : Int) = (k : Int) := by
  have h1 := Int.tmod_lt_of_pos q (show (0 : Int) < (n : Int) by omega)
  have h3 := Int.tmod_lt_of_pos (-q) (show (0 : Int) < (n : Int) by omega)
  rw [Int.neg_tmod] at h3
  have hw : IntKind.i64.wrap (q.tmod (n : Int) + (n : Int)) = q.tmod (n : Int) + (n : Int) := IntWalk.i64_in _ (by omega)
  rw [hw]
  have h4 := Int.tmod_nonneg (n : Int) (show 0 ≤ q.tmod (n : Int) + (n : Int) by omega)
  have h5 := Int.tmod_lt_of_pos (q.tmod (n : Int) + (n : Int)) (show (0 : Int) < (n : Int) by omega)
  exact ⟨((q.tmod (n : Int) + (n : Int)).tmod (n : Int)).toNat, by omega, by omega⟩
structure StrFine (s : StreamD) : Prop where
  fine : FoldFine s.f
  place : s.f.place = s.l.length
  rows : ∀ r ∈ s.l, r.b.l.length ≤ 1000
theorem StrFine.empty : StrFine ⟨emptyF, []⟩ := ⟨FoldFine.empty, rfl, by simp⟩
theorem one_fine {s : StreamD} {r : RowD} (h : StrFine s) (hr : BatOk r.b ∧ r.b.l.length ≤ 1000) (hl : s.l.length ≤ 100000) : StrFine (one s r).1 := by
  refine ⟨?_, one_place h.place (by omega), fun x hx => ?_⟩
  · unfold one
    split
    · exact h.fine
    · split
      · split <;> exact h.fine
      · split
        · exact (h.fine.next hr.1 (by rw [h.place]; omega)).1
        · exact h.fine
  · rcases one_mem hx with hx | rfl
    · exact h.rows x hx
    · exact hr.2
theorem take_fine : ∀ {rows : List RowD} {s : StreamD} {n : Nat}, StrFine s → (∀ r ∈ rows, BatOk r.b ∧ r.b.l.length ≤ 1000) → s.l.length + rows.length ≤ 100000 → StrFine (takeN s n rows).1
  | [], s, n, h, _, _ => h
  | r :: rows, s, n, h, hr, hl => by
    rw [List.length_cons] at hl
    have h1 := one_fine h (hr r (by simp)) (by omega)
    have h2 := one_len s r
    simp only [takeN]
    split
    · exact take_fine h1 (fun x hx => hr x (by simp [hx])) (by omega)
    · exact h1
theorem row_set {rows : List RowD} (h : ∀ r ∈ rows, RowOk r ∧ r.b.l.length ≤ 1000) {k : Nat} {x : RowD} (hx : RowOk x ∧ x.b.l.length ≤ 1000) : ∀ r ∈ rows.set k x, RowOk r ∧ r.b.l.length ≤ 1000 := fun r hr => by
  rcases List.mem_or_eq_of_mem_set hr with hr | rfl
  · exact h r hr
  · exact hx
theorem bat_seq2 {b : BatchD} (h : BatOk b) (n : Int) : BatOk ⟨b.c, IntKind.i64.wrap n, b.l⟩ := ⟨h.c, wrap_i64 n, h.ops⟩
theorem rstreamLe {G : Nat} {w W : World} {R : List Res} {H H' : Fh} {p : Nat} {s : StreamD} (h : Has G w W (RStreamAt H p s :: R)) (hl : H.le H') : Has G w W (RStreamAt H' p s :: R) := by
  obtain ⟨cs, vad, vcap, xs, h1, h2, h3⟩ := rstreamOpen h
  exact rstreamShut h3 (h1.le hl) (h2.mono (RowIn.le hl))
set_option maxHeartbeats 64000000 in
theorem walk_StreamAll (l : List BatchD) (v : Value) (fl : List Int) (fv : Value) (nl : List Int) (nv : Value) (sl : List Int) (sv : Value) (w : World) (hb : ∀ b ∈ l, BatWf b) (hr : BatsRd w v l) (hfi : ∀ k ∈ fl, (Lit.int .i64 k).wf = true) (hfr : IntsRd w fv fl) (hni : ∀ k ∈ nl, (Lit.int .i64 k).wf = true) (hnr : IntsRd w nv nl) (hsi : ∀ k ∈ sl, (Lit.int .i64 k).wf = true) (hsr : IntsRd w sv sl) (hT : Tabs w) :
    Calls Tryz.prog 3 ⟨[v, fv, nv, sv]⟩ w fun e w' => e = .returned (.bool true) ∧ Below w.heap.size w w' := by
  have hw := Has.startF w
  obtain ⟨fxs, hfr, hfc⟩ := hfr
  replace hfr := RdH.of_rd hfr (Fh.le.refl _) (by decide)
  obtain ⟨fad, fcap, rfl⟩ := hfr.slice
  obtain ⟨nxs, hnr, hnc⟩ := hnr
  replace hnr := RdH.of_rd hnr (Fh.le.refl _) (by decide)
  obtain ⟨nad, ncap, rfl⟩ := hnr.slice
  obtain ⟨pxs, hsr, hsc⟩ := hsr
  replace hsr := RdH.of_rd hsr (Fh.le.refl _) (by decide)
  obtain ⟨pad, pcap, rfl⟩ := hsr.slice
  have hf63 := hfr.len
  have hn63 := hnr.len
  have hs63 := hsr.len
  refine enter Tryz.func3 Tryz.ntmps3 rfl rfl fun a hs => ?_
  repeat (first | (refine sxv hs hw ?_; clear hs; intro a hs) | refine sxc hs ?_ | (refine sxa hs hw ?_; clear hs hw; intro a b W hw hs) | (refine sxs hs hw ?_; clear hs hw; intro W hs hw))
  refine st_call hs (hc := law21_begun _ hT) (k := ?_); rintro e0 W1 ⟨rfl, hb⟩; refine ⟨_, rfl, ?_⟩; clear hs; intro a hs; replace hw := hw.below hb; clear hb
  repeat (first | (refine sxv hs hw ?_; clear hs; intro a hs) | refine sxc hs ?_ | (refine sxa hs hw ?_; clear hs hw; intro a b W hw hs) | (refine sxs hs hw ?_; clear hs hw; intro W hs hw))
  refine st_call hs (hc := law21_Rows w _ (fr w) l _ _ hb hr.h hw) (k := ?_); rintro e0 W1 ⟨rv, H1, rfl, hle1, hrows, hw1⟩; refine ⟨_, rfl, ?_⟩; clear hs hw; intro a hs; have hw := hw1; clear hw1
  obtain ⟨rad, rcap, rfl⟩ := hrows.slice
  have hlen40 := (rows_play l).2
  have hok0 := rows_ok hb
  have h8 := rows_8 l
  generalize rowsOf l = rows at *
  have hok : ∀ r ∈ rows, RowOk r ∧ r.b.l.length ≤ 1000 := fun r hr => ⟨hok0 r hr, Nat.le_trans (h8 r hr) (by decide)⟩
  clear hok0 h8
  repeat (first | (refine sxv hs hw ?_; clear hs; intro a hs) | refine sxc hs ?_ | (refine sxa hs hw ?_; clear hs hw; intro a b W hw hs) | (refine sxs hs hw ?_; clear hs hw; intro W hs hw))
  refine st_call hs (hc := stream_New w _ H1 _ hw) (k := ?_); rintro e0 W1 ⟨p, rfl, hw1⟩; refine ⟨_, rfl, ?_⟩; clear hs hw; intro a hs; have hw := hw1; clear hw1
  repeat (first | (refine sxv hs hw ?_; clear hs; intro a hs) | refine sxc hs ?_ | (refine sxa hs hw ?_; clear hs hw; intro a b W hw hs) | (refine sxs hs hw ?_; clear hs hw; intro W hs hw))
  obtain ⟨b12, q12⟩ := nm1 hw; subst q12
  replace hw : Has 0 w W (Cells b12 (zrf ++ [.slice none 0 0]) 44 :: StreamAt H1 p ⟨emptyF, []⟩ :: Fz H1 :: []) := by with_unfolding_all exact hw
  replace hw := hw.nilOwn 39 5
  replace hw := rstreamShut (s := ⟨emptyF, []⟩) (xs := []) hw.swap2 (rf_empty H1) rfl
  replace hw : Has 0 w _ (StreamAt H1 p ⟨emptyF, []⟩ :: RStreamAt H1 b12 ⟨emptyF, []⟩ :: Fz H1 :: []) := hw.swap2
  refine st_loop (σ := Nat × StreamD × Fh) (fun t => [(1, .slice fad fl.length fcap), (2, .slice nad nl.length ncap), (3, .slice pad sl.length pcap), (10, .slice rad rows.length rcap), (11, .pointer (some ⟨p, 0, none⟩)), (12, .pointer (some ⟨b12, 0, none⟩)), (13, .int .i64 (t.1 : Int))]) (fun t => StreamAt t.2.2 p t.2.1 :: RStreamAt t.2.2 b12 t.2.1 :: Fz t.2.2 :: []) (fun t => t.1 ≤ fl.length ∧ t.1 ≤ 20 ∧ StrFine t.2.1 ∧ t.2.1.l.length ≤ 7 * t.1 ∧ H1.le t.2.2) (fun t => fl.length - t.1) (0, ⟨emptyF, []⟩, H1) ⟨Nat.zero_le _, Nat.zero_le _, StrFine.empty, Nat.zero_le _, Fh.le.refl _⟩ hs ⟨rfl, rfl, rfl, rfl, rfl, rfl, rfl, trivial⟩ hw ?_
  clear hs hw
  rintro ⟨i, s, H⟩ a W ⟨hi, hi20, hsf, hsl, hH⟩ hs hw
  simp only at hi hi20 hsf hsl hH hs hw
  have hle := hle1.trans hH
  repeat (first | (refine sxv hs hw ?_; clear hs; intro a hs) | refine sxc hs ?_ | (refine sxa hs hw ?_; clear hs hw; intro a b W hw hs) | (refine sxs hs hw ?_; clear hs hw; intro W hs hw))
  cases c1 : decide ((i : Int) < (fl.length : Int)) with
  | false =>
    rw [c1] at hs
    repeat (first | (refine sxv hs hw ?_; clear hs; intro a hs) | refine sxc hs ?_ | (refine sxa hs hw ?_; clear hs hw; intro a b W hw hs) | (refine sxs hs hw ?_; clear hs hw; intro W hs hw))
    exact rt1 hs rfl rfl ⟨rfl, hw.endF (by repeat (first | exact In.hd | apply In.tl)) hle⟩
  | true =>
  rw [c1] at hs
  have g1 := of_decide_eq_true c1
  repeat (first | (refine sxv hs hw ?_; clear hs; intro a hs) | refine sxc hs ?_ | (refine sxa hs hw ?_; clear hs hw; intro a b W hw hs) | (refine sxs hs hw ?_; clear hs hw; intro W hs hw))
  cases c2 : decide ((i : Int) < (nl.length : Int)) with
  | false =>
    rw [c2] at hs
    repeat (first | (refine sxv hs hw ?_; clear hs; intro a hs) | refine sxc hs ?_ | (refine sxa hs hw ?_; clear hs hw; intro a b W hw hs) | (refine sxs hs hw ?_; clear hs hw; intro W hs hw))
    exact rt1 hs rfl rfl ⟨rfl, hw.endF (by repeat (first | exact In.hd | apply In.tl)) hle⟩
  | true =>
  rw [c2] at hs
  have g2 := of_decide_eq_true c2
  repeat (first | (refine sxv hs hw ?_; clear hs; intro a hs) | refine sxc hs ?_ | (refine sxa hs hw ?_; clear hs hw; intro a b W hw hs) | (refine sxs hs hw ?_; clear hs hw; intro W hs hw))
  cases c3 : decide ((i : Int) < 20) with
  | false =>
    rw [c3] at hs
    repeat (first | (refine sxv hs hw ?_; clear hs; intro a hs) | refine sxc hs ?_ | (refine sxa hs hw ?_; clear hs hw; intro a b W hw hs) | (refine sxs hs hw ?_; clear hs hw; intro W hs hw))
    exact rt1 hs rfl rfl ⟨rfl, hw.endF (by repeat (first | exact In.hd | apply In.tl)) hle⟩
  | true =>
  rw [c3] at hs
  have g3 := of_decide_eq_true c3
  repeat (first | (refine sxv hs hw ?_; clear hs; intro a hs) | refine sxc hs ?_ | (refine sxa hs hw ?_; clear hs hw; intro a b W hw hs) | (refine sxs hs hw ?_; clear hs hw; intro W hs hw))
  cases c4 : ((rows.length : Int) == 0) with
  | true =>
    rw [c4] at hs
    repeat (first | (refine sxv hs hw ?_; clear hs; intro a hs) | refine sxc hs ?_ | (refine sxa hs hw ?_; clear hs hw; intro a b W hw hs) | (refine sxs hs hw ?_; clear hs hw; intro W hs hw))
    exact rt1 hs rfl rfl ⟨rfl, hw.endF (by repeat (first | exact In.hd | apply In.tl)) hle⟩
  | false =>
  rw [c4] at hs
  have hpos : 0 < rows.length := by
    rcases Nat.eq_zero_or_pos rows.length with h | h
    · rw [h] at c4; cases c4
    · exact h
  obtain ⟨x0, hx0⟩ : ∃ o, fl[i]? = some o := ⟨fl[i]'(by omega), List.getElem?_eq_getElem _⟩
  obtain ⟨y0, hy0⟩ : ∃ o, nl[i]? = some o := ⟨nl[i]'(by omega), List.getElem?_eq_getElem _⟩
  repeat (first | (refine sxv hs hw ?_; clear hs; intro a hs) | refine sxc hs ?_ | (refine sxa hs hw ?_; clear hs hw; intro a b W hw hs) | (refine sxs hs hw ?_; clear hs hw; intro W hs hw))
  refine st_index_ch hs (r := hw.rdH (by repeat (first | exact In.hd | apply In.tl)) (hfr.le hle)) (hk := IntIn.len) (ch := hfc) (ho := hx0) (hlen := rfl) (c := ?_); clear hs; intro a g off c hc hcl hpc hlt hs
  have hc : c = [.int .i64 x0] := hc
  subst hc
  refine st_load_at hs (hc := hpc 0 _ rfl) (c := ?_); clear hs; intro a hs
  repeat (first | (refine sxv hs hw ?_; clear hs; intro a hs) | refine sxc hs ?_ | (refine sxa hs hw ?_; clear hs hw; intro a b W hw hs) | (refine sxs hs hw ?_; clear hs hw; intro W hs hw))
  refine st_idiv hs (hne := by rw [beq_eq_false_iff_ne]; omega) (k := ?_); clear hs; intro a hs
  repeat (first | (refine sxv hs hw ?_; clear hs; intro a hs) | refine sxc hs ?_ | (refine sxa hs hw ?_; clear hs hw; intro a b W hw hs) | (refine sxs hs hw ?_; clear hs hw; intro W hs hw))
  refine st_idiv hs (hne := by rw [beq_eq_false_iff_ne]; omega) (k := ?_); clear hs; intro a hs
  obtain ⟨aa, haa, hae⟩ := mod_at x0 hpos (by omega)
  rw [hae] at hs
  repeat (first | (refine sxv hs hw ?_; clear hs; intro a hs) | refine sxc hs ?_ | (refine sxa hs hw ?_; clear hs hw; intro a b W hw hs) | (refine sxs hs hw ?_; clear hs hw; intro W hs hw))
  refine st_index_ch hs (r := hw.rdH (by repeat (first | exact In.hd | apply In.tl)) (hnr.le hle)) (hk := IntIn.len) (ch := hnc) (ho := hy0) (hlen := rfl) (c := ?_); clear hs; intro a g off c hc hcl hpc hlt hs
  have hc : c = [.int .i64 y0] := hc
  subst hc
  refine st_load_at hs (hc := hpc 0 _ rfl) (c := ?_); clear hs; intro a hs
  repeat (first | (refine sxv hs hw ?_; clear hs; intro a hs) | refine sxc hs ?_ | (refine sxa hs hw ?_; clear hs hw; intro a b W hw hs) | (refine sxs hs hw ?_; clear hs hw; intro W hs hw))
  obtain ⟨mm, hmm, hme⟩ := mod_at y0 (n := 8) (by decide) (by decide)
  rw [show (IntKind.i64.wrap (y0.tmod 8 + 8)).tmod 8 = (mm : Int) from hme] at hs
  rw [IntWalk.i64_in ((aa : Int) + (mm : Int)) (by omega)] at hs
  refine st_min hs (k := ?_); clear hs; intro a hs
  obtain ⟨bb, hbe, hab, hbr, hb7⟩ : ∃ bb : Nat, (if (aa : Int) + (mm : Int) < (rows.length : Int) then (aa : Int) + (mm : Int) else (rows.length : Int)) = (bb : Int) ∧ aa ≤ bb ∧ bb ≤ rows.length ∧ bb - aa ≤ 7 := by
    by_cases h : (aa : Int) + (mm : Int) < (rows.length : Int)
    · rw [if_pos h]; exact ⟨aa + mm, by omega, by omega, by omega, by omega⟩
    · rw [if_neg h]; exact ⟨rows.length, rfl, by omega, by omega, by omega⟩
  rw [hbe] at hs
  repeat (first | (refine sxv hs hw ?_; clear hs; intro a hs) | refine sxc hs ?_ | (refine sxa hs hw ?_; clear hs hw; intro a b W hw hs) | (refine sxs hs hw ?_; clear hs hw; intro W hs hw))
  refine st_rows_lh (i := (aa : Int)) (j := (bb : Int)) hs (hrows.le hH) (by omega) (by omega) (by omega) (c := ?_); clear hs; intro a v1 hr1 hs
  rw [Int.toNat_natCast, Int.toNat_natCast] at hr1
  have hx1 : ∀ r ∈ (rows.drop aa).take (bb - aa), RowOk r ∧ r.b.l.length ≤ 1000 := fun r hr => hok r (List.mem_of_mem_drop (List.mem_of_mem_take hr))
  have hxl : ((rows.drop aa).take (bb - aa)).length ≤ 7 := by rw [List.length_take]; omega
  generalize (rows.drop aa).take (bb - aa) = x at *
  obtain ⟨vad, vcap, rfl⟩ := hr1.slice
  obtain ⟨xs, hxr, hxc⟩ := hr1
  replace hw := hw.nilOwn 39 5
  refine st_append hs (hw := hw) (k := 0) (m := x.length) (xs := []) (news := xs) (hsrc := src_rd (hw.rdH (by repeat (first | exact In.hd | apply In.tl)) hxr) (hxc.ones RowIn.ones)) (h63 := by omega) (hb := by omega) (c := ?_)
  clear hs hw; intro a ad2 cap2 W hs hw
  rw [List.nil_append, Nat.zero_add] at hw
  rw [Nat.zero_add] at hs
  repeat (first | (refine sxv hs hw ?_; clear hs; intro a hs) | refine sxn hs ?_ | (refine sxa hs hw ?_; clear hs hw; intro a b W hw hs) | (refine sxs hs hw ?_; clear hs hw; intro W hs hw))
  refine sq ?_
  refine merge (M := fun a W => ∃ (H' : Fh) (x2 : List RowD) (ad : Option Addr) (cap : Nat), H.le H' ∧ RowsH H' (.slice ad x2.length cap) x2 ∧ (∀ r ∈ x2, RowOk r ∧ r.b.l.length ≤ 1000) ∧ x2.length ≤ 7 ∧ Slots a 188 [(1, .slice fad fl.length fcap), (2, .slice nad nl.length ncap), (3, .slice pad sl.length pcap), (10, .slice rad rows.length rcap), (11, .pointer (some ⟨p, 0, none⟩)), (12, .pointer (some ⟨b12, 0, none⟩)), (13, .int .i64 (i : Int)), (16, .slice ad x2.length cap)] ∧ Has 0 w W (StreamAt H p s :: RStreamAt H b12 s :: Fz H' :: [])) ?_ ?_
  · clear hpc hrows hbe hab hbr hb7
    repeat (first | (refine sxv hs hw ?_; clear hs; intro a hs) | refine sxc hs ?_ | (refine sxa hs hw ?_; clear hs hw; intro a b W hw hs) | (refine sxs hs hw ?_; clear hs hw; intro W hs hw))
    cases d1 : decide ((i : Int) < (sl.length : Int)) with
    | false =>
      rw [d1] at hs
      repeat (first | (refine sxv hs hw ?_; clear hs; intro a hs) | refine sxc hs ?_ | (refine sxa hs hw ?_; clear hs hw; intro a b W hw hs) | (refine sxs hs hw ?_; clear hs hw; intro W hs hw))
      obtain ⟨H4, h4, hw2, hr4⟩ := (hw.perm (by repeat (first | exact List.Perm.refl _ | refine perm_pick (by repeat (first | exact Pick.hd | apply Pick.tl)) ?_)) : Has 0 w W (Sx.Own 39 5 (.slice ad2 x.length cap2) x.length xs :: Fz H :: StreamAt H p s :: RStreamAt H b12 s :: [])).freeze_own
      exact ⟨H4, x, ad2, cap2, h4, ⟨_, hr4, hxc.mono (RowIn.le h4)⟩, hx1, hxl, hs.of ⟨rfl, rfl, rfl, rfl, rfl, rfl, rfl, rfl, trivial⟩, hw2.perm (by repeat (first | exact List.Perm.refl _ | refine perm_pick (by repeat (first | exact Pick.hd | apply Pick.tl)) ?_))⟩
    | true =>
    rw [d1] at hs
    have k1 := of_decide_eq_true d1
    repeat (first | (refine sxv hs hw ?_; clear hs; intro a hs) | refine sxc hs ?_ | (refine sxa hs hw ?_; clear hs hw; intro a b W hw hs) | (refine sxs hs hw ?_; clear hs hw; intro W hs hw))
    cases d2 : decide ((x.length : Int) > 0) with
    | false =>
      rw [d2] at hs
      repeat (first | (refine sxv hs hw ?_; clear hs; intro a hs) | refine sxc hs ?_ | (refine sxa hs hw ?_; clear hs hw; intro a b W hw hs) | (refine sxs hs hw ?_; clear hs hw; intro W hs hw))
      obtain ⟨H4, h4, hw2, hr4⟩ := (hw.perm (by repeat (first | exact List.Perm.refl _ | refine perm_pick (by repeat (first | exact Pick.hd | apply Pick.tl)) ?_)) : Has 0 w W (Sx.Own 39 5 (.slice ad2 x.length cap2) x.length xs :: Fz H :: StreamAt H p s :: RStreamAt H b12 s :: [])).freeze_own
      exact ⟨H4, x, ad2, cap2, h4, ⟨_, hr4, hxc.mono (RowIn.le h4)⟩, hx1, hxl, hs.of ⟨rfl, rfl, rfl, rfl, rfl, rfl, rfl, rfl, trivial⟩, hw2.perm (by repeat (first | exact List.Perm.refl _ | refine perm_pick (by repeat (first | exact Pick.hd | apply Pick.tl)) ?_))⟩
    | true =>
    rw [d2] at hs
    have k2 := of_decide_eq_true d2
    obtain ⟨z0, hz0⟩ : ∃ o, sl[i]? = some o := ⟨sl[i]'(by omega), List.getElem?_eq_getElem _⟩
    repeat (first | (refine sxv hs hw ?_; clear hs; intro a hs) | refine sxc hs ?_ | (refine sxa hs hw ?_; clear hs hw; intro a b W hw hs) | (refine sxs hs hw ?_; clear hs hw; intro W hs hw))
    refine st_index_ch hs (r := hw.rdH (by repeat (first | exact In.hd | apply In.tl)) (hsr.le hle)) (hk := IntIn.len) (ch := hsc) (ho := hz0) (hlen := rfl) (c := ?_); clear hs; intro a g3 off3 c hc hcl3 hpc hlt3 hs
    have hc : c = [.int .i64 z0] := hc
    subst hc
    refine st_load_at hs (hc := hpc 0 _ rfl) (c := ?_); clear hs; intro a hs
    repeat (first | (refine sxv hs hw ?_; clear hs; intro a hs) | refine sxc hs ?_ | (refine sxa hs hw ?_; clear hs hw; intro a b W hw hs) | (refine sxs hs hw ?_; clear hs hw; intro W hs hw))
    refine st_idiv hs (hne := by rw [beq_eq_false_iff_ne]; omega) (k := ?_); clear hs; intro a hs
    repeat (first | (refine sxv hs hw ?_; clear hs; intro a hs) | refine sxc hs ?_ | (refine sxa hs hw ?_; clear hs hw; intro a b W hw hs) | (refine sxs hs hw ?_; clear hs hw; intro W hs hw))
    refine st_idiv hs (hne := by rw [beq_eq_false_iff_ne]; omega) (k := ?_); clear hs; intro a hs
    obtain ⟨kk, hkl, hke⟩ := mod_at (IntKind.i64.wrap (z0.tdiv 7)) (show 0 < x.length by omega) (by omega)
    rw [hke] at hs
    repeat (first | (refine sxv hs hw ?_; clear hs; intro a hs) | refine sxc hs ?_ | (refine sxa hs hw ?_; clear hs hw; intro a b W hw hs) | (refine sxs hs hw ?_; clear hs hw; intro W hs hw))
    refine st_index_ch hs (r := hw.rdH (by repeat (first | exact In.hd | apply In.tl)) (hsr.le hle)) (hk := IntIn.len) (ch := hsc) (ho := hz0) (hlen := rfl) (c := ?_); clear hs; intro a g4 off4 c hc hcl4 hpc hlt4 hs
    have hc : c = [.int .i64 z0] := hc
    subst hc
    refine st_load_at hs (hc := hpc 0 _ rfl) (c := ?_); clear hs; intro a hs
    clear hpc
    repeat (first | (refine sxv hs hw ?_; clear hs; intro a hs) | refine sxc hs ?_ | (refine sxa hs hw ?_; clear hs hw; intro a b W hw hs) | (refine sxs hs hw ?_; clear hs hw; intro W hs hw))
    generalize (IntKind.i64.wrap (z0.tmod 7 + 7)).tmod 7 = sp at *
    obtain ⟨g2, cur, rfl, hcur, hcl0, hkc, hcm, hw⟩ := hw.open_own (show 0 < x.length by omega)
    obtain ⟨ro, hri⟩ : ∃ o, x[kk]? = some o := ⟨x[kk], List.getElem?_eq_getElem hkl⟩
    obtain ⟨c0, ⟨ov0, rfl, hov⟩, hcut⟩ := hxc.mem RowIn.len hri
    have hok0 := hx1 ro (List.mem_of_getElem? hri)
    cases s0 : (sp == 0) with
    | true =>
      rw [s0] at hs
      repeat (first | (refine sxv hs hw ?_; clear hs; intro a hs) | refine sxc hs ?_ | (refine sxa hs hw ?_; clear hs hw; intro a b W hw hs) | (refine sxs hs hw ?_; clear hs hw; intro W hs hw))
      have hat : cur[kk * 5 + 0]? = some (.int .i64 ro.place) := Ch.at_cur (R := RowIn H) (l := x) (a := ro) (j := 0) hcut hcur rfl
      refine st_index_at hs (z := zrc) (h0 := by omega) (h1 := by omega) (c := ?_); clear hs; intro a hs
      repeat (first | (refine sxv hs hw ?_; clear hs; intro a hs) | refine sxc hs ?_ | (refine sxa hs hw ?_; clear hs hw; intro a b W hw hs) | (refine sxs hs hw ?_; clear hs hw; intro W hs hw))
      refine st_load_one hs (hw := hw) (hi := In.hd) (hv := by show cur[0 + kk * 5 + 0]? = _; rw [show 0 + kk * 5 + 0 = kk * 5 + 0 by omega]; exact hat) (k := ?_); clear hs; intro a hs
      repeat (first | (refine sxv hs hw ?_; clear hs; intro a hs) | refine sxc hs ?_ | (refine sxa hs hw ?_; clear hs hw; intro a b W hw hs) | (refine sxs hs hw ?_; clear hs hw; intro W hs hw))
      refine st_index_at hs (z := zrc) (h0 := by omega) (h1 := by omega) (c := ?_); clear hs; intro a hs
      repeat (first | (refine sxv hs hw ?_; clear hs; intro a hs) | refine sxc hs ?_ | (refine sxa hs hw ?_; clear hs hw; intro a b W hw hs) | (refine sxs hs hw ?_; clear hs hw; intro W hs hw))
      refine st_store hs (hw := hw) (vs := [.int .i64 (IntKind.i64.wrap (ro.place + 1))]) (hl := by show Nat.ble (0 + kk * 5 + 0 + 1) cur.length = true; rw [hcl0]; apply Nat.ble_eq_true_of_le; omega) (k := ?_); clear hs hw; intro W hs hw
      rw [ov_one] at hw
      repeat (first | (refine sxv hs hw ?_; clear hs; intro a hs) | refine sxc hs ?_ | (refine sxa hs hw ?_; clear hs hw; intro a b W hw hs) | (refine sxs hs hw ?_; clear hs hw; intro W hs hw))
      replace hw : Has 0 w W (Cells g2 (cur.set (kk * 5 + 0) (.int .i64 (IntKind.i64.wrap (ro.place + 1)))) 39 :: StreamAt H p s :: RStreamAt H b12 s :: Fz H :: []) := by
        have e : 0 + kk * 5 + 0 = kk * 5 + 0 := by omega
        have this : Has 0 w W (Cells g2 (cur.set (0 + kk * 5 + 0) (.int .i64 (IntKind.i64.wrap (ro.place + 1)))) 39 :: StreamAt H p s :: RStreamAt H b12 s :: Fz H :: []) := hw
        rw [e] at this
        exact this
      replace hw := hw.shut_own (k := x.length) (size := 5) (cap := cap2) (xs := xs.set (kk * 5 + 0) (.int .i64 (IntKind.i64.wrap (ro.place + 1)))) (by rw [List.take_set, hcur]) (by rw [List.length_set]; exact hcl0) hkc hcm
      have hz2 := hxc.set_in (R' := RowIn H) (m := 0) (x := .int .i64 (IntKind.i64.wrap (ro.place + 1))) (a' := ⟨(IntKind.i64.wrap (ro.place + 1)), ro.b, ro.err⟩) RowIn.len hri (by decide) (by rintro c ⟨sv, rfl, h⟩; exact ⟨sv, rfl, h⟩)
      replace hw : Has 0 w W (Sx.Own 39 5 (.slice (some ⟨g2, 0, none⟩) x.length cap2) x.length (xs.set (kk * 5 + 0) (.int .i64 (IntKind.i64.wrap (ro.place + 1)))) :: Fz H :: StreamAt H p s :: RStreamAt H b12 s :: []) := hw.perm (by repeat (first | exact List.Perm.refl _ | refine perm_pick (by repeat (first | exact Pick.hd | apply Pick.tl)) ?_))
      obtain ⟨H4, h4, hw, hr4⟩ := hw.freeze_own
      refine ⟨H4, x.set kk ⟨(IntKind.i64.wrap (ro.place + 1)), ro.b, ro.err⟩, some ⟨g2, 0, none⟩, cap2, h4, ⟨_, by rw [List.length_set]; exact hr4, hz2.mono (RowIn.le h4)⟩, row_set hx1 ⟨⟨wrap_i64 _, hok0.1.err, hok0.1.b⟩, hok0.2⟩, by rw [List.length_set]; exact hxl, ?_, hw.perm (by repeat (first | exact List.Perm.refl _ | refine perm_pick (by repeat (first | exact Pick.hd | apply Pick.tl)) ?_))⟩
      rw [List.length_set]
      exact hs.of ⟨rfl, rfl, rfl, rfl, rfl, rfl, rfl, rfl, trivial⟩
    | false =>
    rw [s0] at hs
    repeat (first | (refine sxv hs hw ?_; clear hs; intro a hs) | refine sxc hs ?_ | (refine sxa hs hw ?_; clear hs hw; intro a b W hw hs) | (refine sxs hs hw ?_; clear hs hw; intro W hs hw))
    cases s1 : (sp == 1) with
    | true =>
      rw [s1] at hs
      repeat (first | (refine sxv hs hw ?_; clear hs; intro a hs) | refine sxc hs ?_ | (refine sxa hs hw ?_; clear hs hw; intro a b W hw hs) | (refine sxs hs hw ?_; clear hs hw; intro W hs hw))
      refine st_index_at hs (z := zrc) (h0 := by omega) (h1 := by omega) (c := ?_); clear hs; intro a hs
      repeat (first | (refine sxv hs hw ?_; clear hs; intro a hs) | refine sxc hs ?_ | (refine sxa hs hw ?_; clear hs hw; intro a b W hw hs) | (refine sxs hs hw ?_; clear hs hw; intro W hs hw))
      refine st_store hs (hw := hw) (vs := [.int .i64 1]) (hl := by show Nat.ble (0 + kk * 5 + 4 + 1) cur.length = true; rw [hcl0]; apply Nat.ble_eq_true_of_le; omega) (k := ?_); clear hs hw; intro W hs hw
      rw [ov_one] at hw
      repeat (first | (refine sxv hs hw ?_; clear hs; intro a hs) | refine sxc hs ?_ | (refine sxa hs hw ?_; clear hs hw; intro a b W hw hs) | (refine sxs hs hw ?_; clear hs hw; intro W hs hw))
      replace hw : Has 0 w W (Cells g2 (cur.set (kk * 5 + 4) (.int .i64 1)) 39 :: StreamAt H p s :: RStreamAt H b12 s :: Fz H :: []) := by
        have e : 0 + kk * 5 + 4 = kk * 5 + 4 := by omega
        have this : Has 0 w W (Cells g2 (cur.set (0 + kk * 5 + 4) (.int .i64 1)) 39 :: StreamAt H p s :: RStreamAt H b12 s :: Fz H :: []) := hw
        rw [e] at this
        exact this
      replace hw := hw.shut_own (k := x.length) (size := 5) (cap := cap2) (xs := xs.set (kk * 5 + 4) (.int .i64 1)) (by rw [List.take_set, hcur]) (by rw [List.length_set]; exact hcl0) hkc hcm
      have hz2 := hxc.set_in (R' := RowIn H) (m := 4) (x := .int .i64 1) (a' := ⟨ro.place, ro.b, 1⟩) RowIn.len hri (by decide) (by rintro c ⟨sv, rfl, h⟩; exact ⟨sv, rfl, h⟩)
      replace hw : Has 0 w W (Sx.Own 39 5 (.slice (some ⟨g2, 0, none⟩) x.length cap2) x.length (xs.set (kk * 5 + 4) (.int .i64 1)) :: Fz H :: StreamAt H p s :: RStreamAt H b12 s :: []) := hw.perm (by repeat (first | exact List.Perm.refl _ | refine perm_pick (by repeat (first | exact Pick.hd | apply Pick.tl)) ?_))
      obtain ⟨H4, h4, hw, hr4⟩ := hw.freeze_own
      refine ⟨H4, x.set kk ⟨ro.place, ro.b, 1⟩, some ⟨g2, 0, none⟩, cap2, h4, ⟨_, by rw [List.length_set]; exact hr4, hz2.mono (RowIn.le h4)⟩, row_set hx1 ⟨⟨hok0.1.place, (show i64 1 from ⟨by decide, by decide⟩), hok0.1.b⟩, hok0.2⟩, by rw [List.length_set]; exact hxl, ?_, hw.perm (by repeat (first | exact List.Perm.refl _ | refine perm_pick (by repeat (first | exact Pick.hd | apply Pick.tl)) ?_))⟩
      rw [List.length_set]
      exact hs.of ⟨rfl, rfl, rfl, rfl, rfl, rfl, rfl, rfl, trivial⟩
    | false =>
    rw [s1] at hs
    repeat (first | (refine sxv hs hw ?_; clear hs; intro a hs) | refine sxc hs ?_ | (refine sxa hs hw ?_; clear hs hw; intro a b W hw hs) | (refine sxs hs hw ?_; clear hs hw; intro W hs hw))
    cases s2 : (sp == 2) with
    | true =>
      rw [s2] at hs
      repeat (first | (refine sxv hs hw ?_; clear hs; intro a hs) | refine sxc hs ?_ | (refine sxa hs hw ?_; clear hs hw; intro a b W hw hs) | (refine sxs hs hw ?_; clear hs hw; intro W hs hw))
      have hat : cur[kk * 5 + 2]? = some (.int .i64 ro.b.q) := Ch.at_cur (R := RowIn H) (l := x) (a := ro) (j := 2) hcut hcur rfl
      refine st_index_at hs (z := zrc) (h0 := by omega) (h1 := by omega) (c := ?_); clear hs; intro a hs
      repeat (first | (refine sxv hs hw ?_; clear hs; intro a hs) | refine sxc hs ?_ | (refine sxa hs hw ?_; clear hs hw; intro a b W hw hs) | (refine sxs hs hw ?_; clear hs hw; intro W hs hw))
      refine st_load_one hs (hw := hw) (hi := In.hd) (hv := by show cur[0 + kk * 5 + 1 + 1]? = _; rw [show 0 + kk * 5 + 1 + 1 = kk * 5 + 2 by omega]; exact hat) (k := ?_); clear hs; intro a hs
      repeat (first | (refine sxv hs hw ?_; clear hs; intro a hs) | refine sxc hs ?_ | (refine sxa hs hw ?_; clear hs hw; intro a b W hw hs) | (refine sxs hs hw ?_; clear hs hw; intro W hs hw))
      refine st_index_at hs (z := zrc) (h0 := by omega) (h1 := by omega) (c := ?_); clear hs; intro a hs
      repeat (first | (refine sxv hs hw ?_; clear hs; intro a hs) | refine sxc hs ?_ | (refine sxa hs hw ?_; clear hs hw; intro a b W hw hs) | (refine sxs hs hw ?_; clear hs hw; intro W hs hw))
      refine st_store hs (hw := hw) (vs := [.int .i64 (IntKind.i64.wrap (ro.b.q + 1))]) (hl := by show Nat.ble (0 + kk * 5 + 1 + 1 + 1) cur.length = true; rw [hcl0]; apply Nat.ble_eq_true_of_le; omega) (k := ?_); clear hs hw; intro W hs hw
      rw [ov_one] at hw
      repeat (first | (refine sxv hs hw ?_; clear hs; intro a hs) | refine sxc hs ?_ | (refine sxa hs hw ?_; clear hs hw; intro a b W hw hs) | (refine sxs hs hw ?_; clear hs hw; intro W hs hw))
      replace hw : Has 0 w W (Cells g2 (cur.set (kk * 5 + 2) (.int .i64 (IntKind.i64.wrap (ro.b.q + 1)))) 39 :: StreamAt H p s :: RStreamAt H b12 s :: Fz H :: []) := by
        have e : 0 + kk * 5 + 1 + 1 = kk * 5 + 2 := by omega
        have this : Has 0 w W (Cells g2 (cur.set (0 + kk * 5 + 1 + 1) (.int .i64 (IntKind.i64.wrap (ro.b.q + 1)))) 39 :: StreamAt H p s :: RStreamAt H b12 s :: Fz H :: []) := hw
        rw [e] at this
        exact this
      replace hw := hw.shut_own (k := x.length) (size := 5) (cap := cap2) (xs := xs.set (kk * 5 + 2) (.int .i64 (IntKind.i64.wrap (ro.b.q + 1)))) (by rw [List.take_set, hcur]) (by rw [List.length_set]; exact hcl0) hkc hcm
      have hz2 := hxc.set_in (R' := RowIn H) (m := 2) (x := .int .i64 (IntKind.i64.wrap (ro.b.q + 1))) (a' := ⟨ro.place, ⟨ro.b.c, (IntKind.i64.wrap (ro.b.q + 1)), ro.b.l⟩, ro.err⟩) RowIn.len hri (by decide) (by rintro c ⟨sv, rfl, h⟩; exact ⟨sv, rfl, h⟩)
      replace hw : Has 0 w W (Sx.Own 39 5 (.slice (some ⟨g2, 0, none⟩) x.length cap2) x.length (xs.set (kk * 5 + 2) (.int .i64 (IntKind.i64.wrap (ro.b.q + 1)))) :: Fz H :: StreamAt H p s :: RStreamAt H b12 s :: []) := hw.perm (by repeat (first | exact List.Perm.refl _ | refine perm_pick (by repeat (first | exact Pick.hd | apply Pick.tl)) ?_))
      obtain ⟨H4, h4, hw, hr4⟩ := hw.freeze_own
      refine ⟨H4, x.set kk ⟨ro.place, ⟨ro.b.c, (IntKind.i64.wrap (ro.b.q + 1)), ro.b.l⟩, ro.err⟩, some ⟨g2, 0, none⟩, cap2, h4, ⟨_, by rw [List.length_set]; exact hr4, hz2.mono (RowIn.le h4)⟩, row_set hx1 ⟨⟨hok0.1.place, hok0.1.err, bat_seq2 hok0.1.b _⟩, hok0.2⟩, by rw [List.length_set]; exact hxl, ?_, hw.perm (by repeat (first | exact List.Perm.refl _ | refine perm_pick (by repeat (first | exact Pick.hd | apply Pick.tl)) ?_))⟩
      rw [List.length_set]
      exact hs.of ⟨rfl, rfl, rfl, rfl, rfl, rfl, rfl, rfl, trivial⟩
    | false =>
    rw [s2] at hs
    repeat (first | (refine sxv hs hw ?_; clear hs; intro a hs) | refine sxc hs ?_ | (refine sxa hs hw ?_; clear hs hw; intro a b W hw hs) | (refine sxs hs hw ?_; clear hs hw; intro W hs hw))
    replace hw := hw.shut_own (k := x.length) (size := 5) (cap := cap2) (xs := xs) hcur hcl0 hkc hcm
    obtain ⟨H4, h4, hw2, hr4⟩ := (hw.perm (by repeat (first | exact List.Perm.refl _ | refine perm_pick (by repeat (first | exact Pick.hd | apply Pick.tl)) ?_)) : Has 0 w W (Sx.Own 39 5 (.slice (some ⟨g2, 0, none⟩) x.length cap2) x.length xs :: Fz H :: StreamAt H p s :: RStreamAt H b12 s :: [])).freeze_own
    exact ⟨H4, x, some ⟨g2, 0, none⟩, cap2, h4, ⟨_, hr4, hxc.mono (RowIn.le h4)⟩, hx1, hxl, hs.of ⟨rfl, rfl, rfl, rfl, rfl, rfl, rfl, rfl, trivial⟩, hw2.perm (by repeat (first | exact List.Perm.refl _ | refine perm_pick (by repeat (first | exact Pick.hd | apply Pick.tl)) ?_))⟩
  clear hs hw
  rintro a W ⟨H2, x2, vad2, vcap2, hle2, hr2, hx2, hx2l, hs, hw⟩
  obtain ⟨T, hTk⟩ : ∃ T, takeN s 0 x2 = T := ⟨_, rfl⟩
  have hTf := take_fine (n := 0) hsf (fun r hr => ⟨(hx2 r hr).1.b, (hx2 r hr).2⟩) (by omega)
  have hTl := takeN_len (rows := x2) (s := s) (n := 0)
  rw [hTk] at hTf hTl
  have hle3 := hle.trans hle2
  repeat (first | (refine sxv hs hw ?_; clear hs; intro a hs) | refine sxc hs ?_ | (refine sxa hs hw ?_; clear hs hw; intro a b W hw hs) | (refine sxs hs hw ?_; clear hs hw; intro W hs hw))
  replace hw : Has 0 w _ (StreamAt H2 p s :: Fz H2 :: RStreamAt H b12 s :: []) := streamLe (hw.perm (by repeat (first | exact List.Perm.refl _ | refine perm_pick (by repeat (first | exact Pick.hd | apply Pick.tl)) ?_)) : Has 0 w _ (StreamAt H p s :: Fz H2 :: RStreamAt H b12 s :: [])) hle2
  refine st_call hs (hc := stream_Take w _ H2 p s x2 _ _ (by omega) (fun r hr => (hx2 r hr).1) hr2 hle3 hT hw) (k := ?_); rintro e0 W1 ⟨H3, rfl, hle4, hw1⟩; refine ⟨_, rfl, ?_⟩; clear hs hw; intro a hs; have hw := hw1; clear hw1
  rw [hTk] at hs hw
  repeat (first | (refine sxv hs hw ?_; clear hs; intro a hs) | refine sxc hs ?_ | (refine sxa hs hw ?_; clear hs hw; intro a b W hw hs) | (refine sxs hs hw ?_; clear hs hw; intro W hs hw))
  replace hw : Has 0 w _ (RStreamAt H3 b12 s :: Fz H3 :: StreamAt H3 p T.1 :: []) := rstreamLe (hw.perm (by repeat (first | exact List.Perm.refl _ | refine perm_pick (by repeat (first | exact Pick.hd | apply Pick.tl)) ?_)) : Has 0 w _ (RStreamAt H b12 s :: Fz H3 :: StreamAt H3 p T.1 :: [])) (hle2.trans hle4)
  refine st_call hs (hc := ref_Take w _ H3 b12 s x2 _ _ (by omega) (fun r hr => (hx2 r hr).1) (hr2.le hle4) hsf.fine.doc.ok hsf.place hw) (k := ?_); rintro e0 W1 ⟨H4, rfl, hle5, hw1⟩; refine ⟨_, rfl, ?_⟩; clear hs hw; intro a hs; have hw := hw1; clear hw1
  rw [hTk] at hs hw
  have hleA := (hle3.trans hle4).trans hle5
  have hHA := ((hH.trans hle2).trans hle4).trans hle5
  obtain ⟨X, N, E⟩ := T
  simp only at hs hw hTf hTl
  repeat (first | (refine sxv hs hw ?_; clear hs; intro a hs) | refine sxc hs ?_ | (refine sxa hs hw ?_; clear hs hw; intro a b W hw hs) | (refine sxs hs hw ?_; clear hs hw; intro W hs hw))
  obtain ⟨cs, xad, xcap, xs, hf, hxs, hw⟩ := rstreamOpen hw
  have hlenc := hf.len
  have hXl : X.l.length ≤ 1000 := by omega
  replace hw : Has 0 w _ (Fz H4 :: Free :: Free :: StreamAt H4 p X :: Cells b12 (cs ++ [.slice xad X.l.length xcap]) 44 :: Sx.Own 39 5 (.slice xad X.l.length xcap) X.l.length xs :: []) := (streamLe (hw.free.free.perm (by repeat (first | exact List.Perm.refl _ | refine perm_pick (by repeat (first | exact Pick.hd | apply Pick.tl)) ?_)) : Has 0 w _ (StreamAt H3 p X :: Fz H4 :: Free :: Free :: Cells b12 (cs ++ [.slice xad X.l.length xcap]) 44 :: Sx.Own 39 5 (.slice xad X.l.length xcap) X.l.length xs :: [])) hle5).perm (by repeat (first | exact List.Perm.refl _ | refine perm_pick (by repeat (first | exact Pick.hd | apply Pick.tl)) ?_))
  have hnx : IntKind.i64.wrap ((X.l.length : Int) + 1) = (X.l.length : Int) + 1 := IntWalk.i64_in _ (by omega)
  refine rg_drawU (σ := RawU × Nat) (V := fun u => [.int .i64 (N : Int), .int .i64 (N : Int), .bool false, .bool false, .int .i64 E, .int .i64 E, .bool false, .bool false, .bool false, .pointer (some ⟨p, 0, none⟩), .int .i64 ((X.l.length : Int) + 1), .pointer (some ⟨b12, 0, none⟩), .pointer (some ⟨b12, 0, none⟩), .pointer (some ⟨b12, 0 + 38, none⟩), .slice xad X.l.length xcap, .int .i64 (X.l.length : Int), .int .i64 ((X.l.length : Int) + 1), .bool false, .bool false, .bool false, .pointer (some ⟨p, 0, none⟩), .slice (u 21).1.ad X.l.length (u 21).1.cap, .pointer (some ⟨b12, 0, none⟩), .pointer (some ⟨b12, 0, none⟩), .pointer (some ⟨b12, 0 + 38, none⟩), .slice xad X.l.length xcap, .bool true, .bool false, .bool false, .bool false, .pointer (some ⟨p, 0, none⟩), .pointer (some ⟨(u 31).2, 0, none⟩), .pointer (some ⟨b12, 0, none⟩), .pointer (some ⟨b12, 0, none⟩), .pointer (some ⟨b12, 0 + 0, none⟩), .agg ⟨cs⟩, .bool true, .bool false, .bool false])
    (Rs := fun u D => (if D 21 then FzF (u 21).1.H (H4.le (u 21).1.H ∧ Ch (RowIn (u 21).1.H) X.l (u 21).1.ys) else Fz H4) :: (if D 21 then Sx.Own 39 5 (.slice (u 21).1.ad X.l.length (u 21).1.cap) X.l.length (u 21).1.ys else Free) :: (if D 31 then FoldAt (u 21).1.H (u 31).2 X.f else Free) :: (if D 21 then StreamAt (u 21).1.H p X else StreamAt H4 p X) :: Cells b12 (cs ++ [.slice xad X.l.length xcap]) 44 :: Sx.Own 39 5 (.slice xad X.l.length xcap) X.l.length xs :: []) (fun _ => (⟨H4, none, 0, []⟩, 0)) hs hw (hVu := ?vu_7) (ho := ⟨?_, ?_, ?c2_7, ?_, ?_, ?_, ?c6_7, ?_, ?_, ?_, ?c10_7, ?_, ?_, ?_, ?c14_7, ?_, ?c16_7, ?c17_7, ?_, ?_, ?_, ?c21_7, ?_, ?_, ?_, ?c25_7, ?c26_7, ?_, ?_, ?_, ?_, ?c31_7, ?_, ?_, ?_, ?c35_7, ?c36_7, ?_, ?_, trivial⟩) (k := ?k_7)
  case vu_7 =>
    intro u u' j h
    rcases j with _ | _ | _ | _ | _ | _ | _ | _ | _ | _ | _ | _ | _ | _ | _ | _ | _ | _ | _ | _ | _ | _ | _ | _ | _ | _ | _ | _ | _ | _ | _ | _ | _ | _ | _ | _ | _ | _ | _ | j
    all_goals first | rfl | simp [h]
  case c2_7 =>
    intro u LD D a W hcl hi hp hs hw
    repeat (first | (refine sxv hs hw ?_; clear hs; intro a hs) | refine sxc hs ?_ | (refine sxa hs hw ?_; clear hs hw; intro a b W hw hs) | (refine sxs hs hw ?_; clear hs hw; intro W hs hw) | ((with_reducible first | refine st_ptrSome hs (k := ?_) | refine st_ptrNone hs (k := ?_)); clear hs; intro a hs))
    rw [bne_self_eq_false] at hs
    exact Or.inl ⟨hs, hw⟩
  case c6_7 =>
    intro u LD D a W hcl hi hp hs hw
    repeat (first | (refine sxv hs hw ?_; clear hs; intro a hs) | refine sxc hs ?_ | (refine sxa hs hw ?_; clear hs hw; intro a b W hw hs) | (refine sxs hs hw ?_; clear hs hw; intro W hs hw) | ((with_reducible first | refine st_ptrSome hs (k := ?_) | refine st_ptrNone hs (k := ?_)); clear hs; intro a hs))
    rw [bne_self_eq_false] at hs
    exact Or.inl ⟨hs, hw⟩
  case c10_7 =>
    intro u LD D a W hcl hi hp hs hw
    have h21 := Go.Sx.not_done hcl (Go.Sx.not_done hcl hi 19 (by kernel_rfl)) 21 (by kernel_rfl)
    have h31 := Go.Sx.not_done hcl (Go.Sx.not_done hcl (Go.Sx.not_done hcl h21 26 (by kernel_rfl)) 29 (by kernel_rfl)) 31 (by kernel_rfl)
    simp only [h21, h31, Bool.false_eq_true, if_false] at hw
    repeat (first | (refine sxv hs hw ?_; clear hs; intro a hs) | refine sxc hs ?_ | (refine sxa hs hw ?_; clear hs hw; intro a b W hw hs) | (refine sxs hs hw ?_; clear hs hw; intro W hs hw) | ((with_reducible first | refine st_ptrSome hs (k := ?_) | refine st_ptrNone hs (k := ?_)); clear hs; intro a hs))
    replace hw : Has 0 w W (StreamAt H4 p X :: Fz H4 :: Free :: Free :: Cells b12 (cs ++ [.slice xad X.l.length xcap]) 44 :: Sx.Own 39 5 (.slice xad X.l.length xcap) X.l.length xs :: []) := hw.perm (by repeat (first | exact List.Perm.refl _ | refine perm_pick (by repeat (first | exact Pick.hd | apply Pick.tl)) ?_))
    refine st_call hs (hc := stream_Next w _ H4 p X _ (by omega) hw) (k := ?_); rintro e0 W1 ⟨rfl, hw1⟩; refine ⟨_, rfl, ?_⟩; clear hs hw; intro a hs; have hw := hw1; clear hw1
    repeat (first | (refine sxv hs hw ?_; clear hs; intro a hs) | refine sxc hs ?_ | (refine sxa hs hw ?_; clear hs hw; intro a b W hw hs) | (refine sxs hs hw ?_; clear hs hw; intro W hs hw) | ((with_reducible first | refine st_ptrSome hs (k := ?_) | refine st_ptrNone hs (k := ?_)); clear hs; intro a hs))
    refine Or.inl ⟨hs, ?_⟩
    show Has 0 w _ ((if (Nat.beq 21 10 || D 21) = true then _ else _) :: (if (Nat.beq 21 10 || D 21) = true then _ else _) :: (if (Nat.beq 31 10 || D 31) = true then _ else _) :: (if (Nat.beq 21 10 || D 21) = true then _ else _) :: _)
    rw [h21, h31]
    exact hw.perm (by repeat (first | exact List.Perm.refl _ | refine perm_pick (by repeat (first | exact Pick.hd | apply Pick.tl)) ?_))
  case c14_7 =>
    intro u LD D a W hcl hi hp hs hw
    repeat (first | (refine sxv hs hw ?_; clear hs; intro a hs) | refine sxc hs ?_ | (refine sxa hs hw ?_; clear hs hw; intro a b W hw hs) | (refine sxs hs hw ?_; clear hs hw; intro W hs hw) | ((with_reducible first | refine st_ptrSome hs (k := ?_) | refine st_ptrNone hs (k := ?_)); clear hs; intro a hs))
    refine st_load_one hs (hw := hw) (hi := In.tl (In.tl (In.tl (In.tl In.hd)))) (hv := at38 hlenc _) (k := ?_); clear hs; intro a hs
    repeat (first | (refine sxv hs hw ?_; clear hs; intro a hs) | refine sxc hs ?_ | (refine sxa hs hw ?_; clear hs hw; intro a b W hw hs) | (refine sxs hs hw ?_; clear hs hw; intro W hs hw) | ((with_reducible first | refine st_ptrSome hs (k := ?_) | refine st_ptrNone hs (k := ?_)); clear hs; intro a hs))
    exact Or.inl ⟨hs, hw⟩
  case c25_7 =>
    intro u LD D a W hcl hi hp hs hw
    repeat (first | (refine sxv hs hw ?_; clear hs; intro a hs) | refine sxc hs ?_ | (refine sxa hs hw ?_; clear hs hw; intro a b W hw hs) | (refine sxs hs hw ?_; clear hs hw; intro W hs hw) | ((with_reducible first | refine st_ptrSome hs (k := ?_) | refine st_ptrNone hs (k := ?_)); clear hs; intro a hs))
    refine st_load_one hs (hw := hw) (hi := In.tl (In.tl (In.tl (In.tl In.hd)))) (hv := at38 hlenc _) (k := ?_); clear hs; intro a hs
    repeat (first | (refine sxv hs hw ?_; clear hs; intro a hs) | refine sxc hs ?_ | (refine sxa hs hw ?_; clear hs hw; intro a b W hw hs) | (refine sxs hs hw ?_; clear hs hw; intro W hs hw) | ((with_reducible first | refine st_ptrSome hs (k := ?_) | refine st_ptrNone hs (k := ?_)); clear hs; intro a hs))
    exact Or.inl ⟨hs, hw⟩
  case c16_7 =>
    intro u LD D a W hcl hi hp hs hw
    repeat (first | (refine sxv hs hw ?_; clear hs; intro a hs) | refine sxc hs ?_ | (refine sxa hs hw ?_; clear hs hw; intro a b W hw hs) | (refine sxs hs hw ?_; clear hs hw; intro W hs hw) | ((with_reducible first | refine st_ptrSome hs (k := ?_) | refine st_ptrNone hs (k := ?_)); clear hs; intro a hs))
    rw [hnx] at hs
    exact Or.inl ⟨hs, hw⟩
  case c17_7 =>
    intro u LD D a W hcl hi hp hs hw
    repeat (first | (refine sxv hs hw ?_; clear hs; intro a hs) | refine sxc hs ?_ | (refine sxa hs hw ?_; clear hs hw; intro a b W hw hs) | (refine sxs hs hw ?_; clear hs hw; intro W hs hw) | ((with_reducible first | refine st_ptrSome hs (k := ?_) | refine st_ptrNone hs (k := ?_)); clear hs; intro a hs))
    rw [bne_self_eq_false] at hs
    exact Or.inl ⟨hs, hw⟩
  case c21_7 =>
    intro u LD D a W hcl hi hp hs hw
    have h31 := Go.Sx.not_done hcl (Go.Sx.not_done hcl (Go.Sx.not_done hcl hi 26 (by kernel_rfl)) 29 (by kernel_rfl)) 31 (by kernel_rfl)
    simp only [hi, h31, Bool.false_eq_true, if_false] at hw
    repeat (first | (refine sxv hs hw ?_; clear hs; intro a hs) | refine sxc hs ?_ | (refine sxa hs hw ?_; clear hs hw; intro a b W hw hs) | (refine sxs hs hw ?_; clear hs hw; intro W hs hw) | ((with_reducible first | refine st_ptrSome hs (k := ?_) | refine st_ptrNone hs (k := ?_)); clear hs; intro a hs))
    replace hw : Has 0 w W (StreamAt H4 p X :: Fz H4 :: Free :: Free :: Cells b12 (cs ++ [.slice xad X.l.length xcap]) 44 :: Sx.Own 39 5 (.slice xad X.l.length xcap) X.l.length xs :: []) := hw.perm (by repeat (first | exact List.Perm.refl _ | refine perm_pick (by repeat (first | exact Pick.hd | apply Pick.tl)) ?_))
    refine st_call hs (hc := stream_Rows w _ H4 p X _ (by omega) hTf.rows hw) (k := ?_); rintro e0 W1 ⟨ad, cap, ys', H5, rfl, hle6, hc5, hw1⟩; refine ⟨_, rfl, ?_⟩; clear hs hw; intro a hs; have hw := hw1; clear hw1
    repeat (first | (refine sxv hs hw ?_; clear hs; intro a hs) | refine sxc hs ?_ | (refine sxa hs hw ?_; clear hs hw; intro a b W hw hs) | (refine sxs hs hw ?_; clear hs hw; intro W hs hw) | ((with_reducible first | refine st_ptrSome hs (k := ?_) | refine st_ptrNone hs (k := ?_)); clear hs; intro a hs))
    refine Or.inr ⟨(⟨H5, ad, cap, ys'⟩, 0), hs, ?_⟩
    show Has 0 w _ (_ :: _ :: (if (Nat.beq 31 21 || D 31) = true then _ else _) :: _)
    rw [h31]
    replace hw : Has 0 w _ (Fz H5 :: Sx.Own 39 5 (.slice ad X.l.length cap) X.l.length ys' :: Free :: StreamAt H5 p X :: Cells b12 (cs ++ [.slice xad X.l.length xcap]) 44 :: Sx.Own 39 5 (.slice xad X.l.length xcap) X.l.length xs :: []) := (hw.perm (B := Free :: Fz H5 :: Sx.Own 39 5 (.slice ad X.l.length cap) X.l.length ys' :: Free :: StreamAt H5 p X :: Cells b12 (cs ++ [.slice xad X.l.length xcap]) 44 :: Sx.Own 39 5 (.slice xad X.l.length xcap) X.l.length xs :: []) (by repeat (first | exact List.Perm.refl _ | refine perm_pick (by repeat (first | exact Pick.hd | apply Pick.tl)) ?_))).sub (List.Sublist.cons _ (List.Sublist.refl _))
    exact hw.fzf ⟨hle6, hc5⟩
  case c26_7 =>
    intro u LD D a W hcl hi hp hs hw
    have h21 := Go.Sx.done hp 21 (by kernel_rfl)
    simp only [h21, if_true] at hw
    obtain ⟨⟨hle6, hc5⟩, hw⟩ := hw.unfzf
    repeat (first | (refine sxv hs hw ?_; clear hs; intro a hs) | refine sxc hs ?_ | (refine sxa hs hw ?_; clear hs hw; intro a b W hw hs) | (refine sxs hs hw ?_; clear hs hw; intro W hs hw) | ((with_reducible first | refine st_ptrSome hs (k := ?_) | refine st_ptrNone hs (k := ?_)); clear hs; intro a hs))
    refine st_call hs (hc := ref_EqRows X.l _ (u 21).1.ys X.l _ xs _ (hw.rd_own (In.tl In.hd)) (rowRd hw In.hd hc5) (hw.rd_own (In.tl (In.tl (In.tl (In.tl (In.tl In.hd)))))) (rowRd hw In.hd (hxs.mono (RowIn.le hle6)))) (k := ?_); rintro e0 W1 ⟨rfl, hb⟩; refine ⟨_, rfl, ?_⟩; clear hs; intro a hs; replace hw := hw.below hb; clear hb
    rw [eqRows_iff.2 rfl] at hs
    repeat (first | (refine sxv hs hw ?_; clear hs; intro a hs) | refine sxc hs ?_ | (refine sxa hs hw ?_; clear hs hw; intro a b W hw hs) | (refine sxs hs hw ?_; clear hs hw; intro W hs hw) | ((with_reducible first | refine st_ptrSome hs (k := ?_) | refine st_ptrNone hs (k := ?_)); clear hs; intro a hs))
    refine Or.inl ⟨hs, ?_⟩
    replace hw := hw.fzf (q := H4.le (u 21).1.H ∧ Ch (RowIn (u 21).1.H) X.l (u 21).1.ys) ⟨hle6, hc5⟩
    show Has 0 w _ ((if (Nat.beq 21 26 || D 21) = true then _ else _) :: (if (Nat.beq 21 26 || D 21) = true then _ else _) :: (if (Nat.beq 31 26 || D 31) = true then _ else _) :: (if (Nat.beq 21 26 || D 21) = true then _ else _) :: _)
    rw [h21]
    exact hw
  case c31_7 =>
    intro u LD D a W hcl hi hp hs hw
    have h21 := Go.Sx.done_up hcl 21 (Go.Sx.done_up hcl 26 (Go.Sx.done hp 29 (by kernel_rfl)) (by kernel_rfl)) (by kernel_rfl)
    simp only [hi, h21, Bool.false_eq_true, if_false, if_true] at hw
    repeat (first | (refine sxv hs hw ?_; clear hs; intro a hs) | refine sxc hs ?_ | (refine sxa hs hw ?_; clear hs hw; intro a b W hw hs) | (refine sxs hs hw ?_; clear hs hw; intro W hs hw) | ((with_reducible first | refine st_ptrSome hs (k := ?_) | refine st_ptrNone hs (k := ?_)); clear hs; intro a hs))
    replace hw : Has 0 w W (StreamAt (u 21).1.H p X :: Free :: FzF (u 21).1.H (H4.le (u 21).1.H ∧ Ch (RowIn (u 21).1.H) X.l (u 21).1.ys) :: Sx.Own 39 5 (.slice (u 21).1.ad X.l.length (u 21).1.cap) X.l.length (u 21).1.ys :: Cells b12 (cs ++ [.slice xad X.l.length xcap]) 44 :: Sx.Own 39 5 (.slice xad X.l.length xcap) X.l.length xs :: []) := hw.perm (by repeat (first | exact List.Perm.refl _ | refine perm_pick (by repeat (first | exact Pick.hd | apply Pick.tl)) ?_))
    refine st_call hs (hc := stream_Fold w _ (u 21).1.H p X _ hw) (k := ?_); rintro e0 W1 ⟨q, rfl, hw1⟩; refine ⟨_, rfl, ?_⟩; clear hs hw; intro a hs; have hw := hw1; clear hw1
    repeat (first | (refine sxv hs hw ?_; clear hs; intro a hs) | refine sxc hs ?_ | (refine sxa hs hw ?_; clear hs hw; intro a b W hw hs) | (refine sxs hs hw ?_; clear hs hw; intro W hs hw) | ((with_reducible first | refine st_ptrSome hs (k := ?_) | refine st_ptrNone hs (k := ?_)); clear hs; intro a hs))
    refine Or.inr ⟨(⟨H4, none, 0, []⟩, q), hs, ?_⟩
    show Has 0 w _ ((if (Nat.beq 21 31 || D 21) = true then _ else _) :: (if (Nat.beq 21 31 || D 21) = true then _ else _) :: _ :: (if (Nat.beq 21 31 || D 21) = true then _ else _) :: _)
    rw [h21]
    replace hw := hw.fill (Upd.tl Upd.hd)
    exact hw.perm (by repeat (first | exact List.Perm.refl _ | refine perm_pick (by repeat (first | exact Pick.hd | apply Pick.tl)) ?_))
  case c35_7 =>
    intro u LD D a W hcl hi hp hs hw
    repeat (first | (refine sxv hs hw ?_; clear hs; intro a hs) | refine sxc hs ?_ | (refine sxa hs hw ?_; clear hs hw; intro a b W hw hs) | (refine sxs hs hw ?_; clear hs hw; intro W hs hw) | ((with_reducible first | refine st_ptrSome hs (k := ?_) | refine st_ptrNone hs (k := ?_)); clear hs; intro a hs))
    refine st_load_agg hs (hw := hw) (hi := In.tl (In.tl (In.tl (In.tl In.hd)))) (hl := by simp [hlenc]) (k := ?_); clear hs; intro a hs
    have hs2 : Slots a 188 ((184, .agg ⟨cut (cs ++ [.slice xad X.l.length xcap]) (0 + 0) 38⟩) :: _) := hs
    rw [cut38 hlenc] at hs2
    clear hs; have hs := hs2; clear hs2
    repeat (first | (refine sxv hs hw ?_; clear hs; intro a hs) | refine sxc hs ?_ | (refine sxa hs hw ?_; clear hs hw; intro a b W hw hs) | (refine sxs hs hw ?_; clear hs hw; intro W hs hw) | ((with_reducible first | refine st_ptrSome hs (k := ?_) | refine st_ptrNone hs (k := ?_)); clear hs; intro a hs))
    exact Or.inl ⟨hs, hw⟩
  case c36_7 =>
    intro u LD D a W hcl hi hp hs hw
    have h21 := Go.Sx.done_up hcl 21 (Go.Sx.done_up hcl 26 (Go.Sx.done hp 29 (by kernel_rfl)) (by kernel_rfl)) (by kernel_rfl)
    have h31 := Go.Sx.done hp 31 (by kernel_rfl)
    simp only [h21, h31, if_true] at hw
    obtain ⟨⟨hle6, hc5⟩, hw⟩ := hw.unfzf
    repeat (first | (refine sxv hs hw ?_; clear hs; intro a hs) | refine sxc hs ?_ | (refine sxa hs hw ?_; clear hs hw; intro a b W hw hs) | (refine sxs hs hw ?_; clear hs hw; intro W hs hw) | ((with_reducible first | refine st_ptrSome hs (k := ?_) | refine st_ptrNone hs (k := ?_)); clear hs; intro a hs))
    replace hw : Has 0 w W (FoldAt (u 21).1.H (u 31).2 X.f :: Fz (u 21).1.H :: Sx.Own 39 5 (.slice (u 21).1.ad X.l.length (u 21).1.cap) X.l.length (u 21).1.ys :: StreamAt (u 21).1.H p X :: Cells b12 (cs ++ [.slice xad X.l.length xcap]) 44 :: Sx.Own 39 5 (.slice xad X.l.length xcap) X.l.length xs :: []) := hw.perm (by repeat (first | exact List.Perm.refl _ | refine perm_pick (by repeat (first | exact Pick.hd | apply Pick.tl)) ?_))
    refine st_call hs (hc := law7_Same w _ (u 21).1.H (u 31).2 X.f cs _ hTf.fine.ok (hf.le hle6) hw) (k := ?_); rintro e0 W1 ⟨rfl, hw1⟩; refine ⟨_, rfl, ?_⟩; clear hs hw; intro a hs; have hw := hw1; clear hw1
    repeat (first | (refine sxv hs hw ?_; clear hs; intro a hs) | refine sxc hs ?_ | (refine sxa hs hw ?_; clear hs hw; intro a b W hw hs) | (refine sxs hs hw ?_; clear hs hw; intro W hs hw) | ((with_reducible first | refine st_ptrSome hs (k := ?_) | refine st_ptrNone hs (k := ?_)); clear hs; intro a hs))
    refine Or.inl ⟨hs, ?_⟩
    replace hw : Has 0 w _ (Fz (u 21).1.H :: Sx.Own 39 5 (.slice (u 21).1.ad X.l.length (u 21).1.cap) X.l.length (u 21).1.ys :: FoldAt (u 21).1.H (u 31).2 X.f :: StreamAt (u 21).1.H p X :: Cells b12 (cs ++ [.slice xad X.l.length xcap]) 44 :: Sx.Own 39 5 (.slice xad X.l.length xcap) X.l.length xs :: []) := hw.perm (by repeat (first | exact List.Perm.refl _ | refine perm_pick (by repeat (first | exact Pick.hd | apply Pick.tl)) ?_))
    replace hw := hw.fzf (q := H4.le (u 21).1.H ∧ Ch (RowIn (u 21).1.H) X.l (u 21).1.ys) ⟨hle6, hc5⟩
    show Has 0 w _ ((if (Nat.beq 21 36 || D 21) = true then _ else _) :: (if (Nat.beq 21 36 || D 21) = true then _ else _) :: (if (Nat.beq 31 36 || D 31) = true then _ else _) :: (if (Nat.beq 21 36 || D 21) = true then _ else _) :: _)
    rw [h21, h31]
    exact hw
  case k_7 =>
    clear hs hw
    intro u a W hs hw
    replace hw : Has 0 w W (FzF (u 21).1.H (H4.le (u 21).1.H ∧ Ch (RowIn (u 21).1.H) X.l (u 21).1.ys) :: Sx.Own 39 5 (.slice (u 21).1.ad X.l.length (u 21).1.cap) X.l.length (u 21).1.ys :: FoldAt (u 21).1.H (u 31).2 X.f :: StreamAt (u 21).1.H p X :: Cells b12 (cs ++ [.slice xad X.l.length xcap]) 44 :: Sx.Own 39 5 (.slice xad X.l.length xcap) X.l.length xs :: []) := hw
    obtain ⟨⟨hle6, hc5⟩, hw⟩ := hw.unfzf
    replace hs : Slots a 188 [(187, .bool false), (1, .slice fad fl.length fcap), (2, .slice nad nl.length ncap), (3, .slice pad sl.length pcap), (10, .slice rad rows.length rcap), (11, .pointer (some ⟨p, 0, none⟩)), (12, .pointer (some ⟨b12, 0, none⟩)), (13, .int .i64 (i : Int))] := hs.of ⟨rfl, rfl, rfl, rfl, rfl, rfl, rfl, rfl, trivial⟩
    generalize (u 21).1.H = H5 at *
    replace hw : Has 0 w _ (Cells b12 (cs ++ [.slice xad X.l.length xcap]) 44 :: Sx.Own 39 5 (.slice xad X.l.length xcap) X.l.length xs :: StreamAt H5 p X :: Fz H5 :: []) := hw.sel (by repeat (first | exact Sel.nil | exact Sel.refl _ | refine Sel.cons (by repeat (first | exact Pick.hd | apply Pick.tl)) ?_ | refine Sel.skip ?_))
    replace hw := rstreamShut hw (hf.le hle6) (hxs.mono (RowIn.le hle6))
    repeat (first | (refine sxv hs hw ?_; clear hs; intro a hs) | refine sxc hs ?_ | (refine sxa hs hw ?_; clear hs hw; intro a b W hw hs) | (refine sxs hs hw ?_; clear hs hw; intro W hs hw) | ((with_reducible first | refine st_ptrSome hs (k := ?_) | refine st_ptrNone hs (k := ?_)); clear hs; intro a hs))
    exact st_again (i + 1, X, H5) hs hw.swap2 ⟨by show i + 1 ≤ _; omega, by show i + 1 ≤ 20; omega, hTf, by show X.l.length ≤ 7 * (i + 1); omega, hHA.trans hle6⟩ (by show fl.length - (i + 1) < fl.length - i; omega) ⟨rfl, rfl, rfl, rfl, rfl, rfl, int_eq (by show IntKind.i64.wrap ((i : Int) + 1) = ((i + 1 : Nat) : Int); rw [IntWalk.i64_in _ (by omega)]; omega), trivial⟩
  all_goals
    intro u LD D a W hcl hi hp hs hw
    repeat (first | (refine sxv hs hw ?_; clear hs; intro a hs) | refine sxc hs ?_ | (refine sxa hs hw ?_; clear hs hw; intro a b W hw hs) | (refine sxs hs hw ?_; clear hs hw; intro W hs hw) | ((with_reducible first | refine st_ptrSome hs (k := ?_) | refine st_ptrNone hs (k := ?_)); clear hs; intro a hs))
    exact Or.inl ⟨hs, hw⟩
end Go.Proofs.YtmalklakaalaoaaGreatDoor.Sw

set_option linter.unusedVariables false
namespace Go.Proofs.YtmalklakaalaoaaGreatDoor.Sw
open Go.RowKit Go.Sx
structure TopD where
  kind : Int
  b : BatchD
  data : ByteArray
  off : Int
def tcells (o : TopD) (sv : Value) : List Value := [.int .i64 o.kind, .int .i64 o.b.c, .int .i64 o.b.q, sv, .string o.data, .int .i64 o.off]
structure TopWf (o : TopD) : Prop where
  kind : (Lit.int .i64 o.kind).wf = true
  b : BatWf o.b
  data : o.data.size ≤ 9223372036854775807
  off : (Lit.int .i64 o.off).wf = true
def TopRd (W : World) (o : TopD) (cs : List Value) : Prop := ∃ sv, cs = tcells o sv ∧ Rd W 9 sv o.b.l.length (o.b.l.flatMap opCells)
def TopsRd (W : World) (v : Value) (l : List TopD) : Prop := ∃ xs, Rd W 6 v l.length xs ∧ Ch (TopRd W) l xs
def TopIn (H : Fh) (o : TopD) (cs : List Value) : Prop := ∃ sv, cs = tcells o sv ∧ OpsH H sv o.b.l
def TopsH (H : Fh) (v : Value) (l : List TopD) : Prop := ∃ xs, RdH H 6 v l.length xs ∧ Ch (TopIn H) l xs
theorem TopsRd.h {W : World} {v : Value} {l : List TopD} (r : TopsRd W v l) : TopsH (fr W) v l := by
  obtain ⟨xs, h1, h2⟩ := r
  exact ⟨xs, RdH.of_rd h1 (Fh.le.refl _) (by decide), h2.mono fun b c ⟨sv, e, h⟩ => ⟨sv, e, RdH.of_rd h (Fh.le.refl _) (by decide)⟩⟩
theorem TopIn.len {H : Fh} : ∀ (b : TopD) (c : List Value), TopIn H b c → c.length = 6 := by rintro b c ⟨sv, rfl, _⟩; rfl
theorem TopIn.le {H H' : Fh} (h : H.le H') : ∀ (b : TopD) (c : List Value), TopIn H b c → TopIn H' b c := by rintro b c ⟨sv, rfl, h1⟩; exact ⟨sv, rfl, h1.le h⟩
def BoolIn (x : Bool) (c : List Value) : Prop := c = [.bool x]
theorem BoolIn.len : ∀ (x : Bool) (c : List Value), BoolIn x c → c.length = 1 := by rintro x c rfl; rfl
def BoolsRd (W : World) (v : Value) (l : List Bool) : Prop := ∃ xs, Rd W 1 v l.length xs ∧ Ch BoolIn l xs
end Go.Proofs.YtmalklakaalaoaaGreatDoor.Sw

set_option linter.unusedVariables false
set_option maxRecDepth 10000
namespace Go.Proofs.YtmalklakaalaoaaGreatDoor
open Go.ChangeShapes Go.WideShapes Go.ChangeAt Go.RowKit Go.Lib Go.Sx Go.Proofs Go.Deep
open Sw Go.Joins
section
variable {H : Type} {enc : TypeId × Value → H} {w : World} {spare : Nat → Bool} {held : Bool}
instance : Inhabited TopD := ⟨⟨0, ⟨0, 0, []⟩, ⟨#[]⟩, 0⟩⟩
theorem open_top_cells {fuel : Nat} {cs : List Value} {x : DataW H × List MemPlace} (h : DataW.trod enc Tryz.prog w 0 spare held fuel 59 cs = some x) : ∃ o, TopRd w o cs ∧ TopWf o := by
  obtain ⟨xs, n, _, rfl, hl, hlen, hf⟩ := DataW.trod_struct Tryz.underlying59 h
  have c0 : Tryz.prog.cellsOf 59 = 6 := by kernel_rfl
  have c1 : Tryz.prog.cellsOf 3 = 1 := by kernel_rfl
  have c2 : Tryz.prog.cellsOf 2 = 1 := by kernel_rfl
  have c3 : Tryz.prog.cellsOf 36 = 3 := by kernel_rfl
  have c4 : Tryz.prog.cellsOf 9 = 1 := by kernel_rfl
  rw [c0] at hl
  match cs, hl, xs, hlen with
  | [v0, v1, v2, v3, v4, v5], _, [y0, y1, y2, y3], _ =>
    have h0 := hf 0 _ rfl
    have h1 := hf 1 _ rfl
    have h2 := hf 2 _ rfl
    have h3 := hf 3 _ rfl
    change DataW.trod enc _ w 0 spare held n 3 (([v0, v1, v2, v3, v4, v5].drop 0).take (Tryz.prog.cellsOf 3)) = some y0 at h0
    change DataW.trod enc _ w 0 spare held n 36 (([v0, v1, v2, v3, v4, v5].drop 1).take (Tryz.prog.cellsOf 36)) = some y1 at h1
    change DataW.trod enc _ w 0 spare held n 9 (([v0, v1, v2, v3, v4, v5].drop 4).take (Tryz.prog.cellsOf 9)) = some y2 at h2
    change DataW.trod enc _ w 0 spare held n 2 (([v0, v1, v2, v3, v4, v5].drop 5).take (Tryz.prog.cellsOf 2)) = some y3 at h3
    rw [c1] at h0
    rw [c3] at h1
    rw [c4] at h2
    rw [c2] at h3
    obtain ⟨k, e0, _, w0⟩ := DataW.trod_int Tryz.underlying3 h0
    obtain ⟨b, ⟨sv, e1, hr⟩, hb⟩ := open_bat_cells h1
    obtain ⟨s, e2, _, w2⟩ := DataW.trod_string Tryz.underlying9 h2
    obtain ⟨m, e3, _, w3⟩ := DataW.trod_int Tryz.underlying2 h3
    simp [batCells] at e0 e1 e2 e3
    obtain ⟨e11, e12, e13⟩ := e1
    subst e0 e11 e12 e13 e2 e3
    exact ⟨⟨k, b, s, m⟩, ⟨v3, rfl, hr⟩, w0, hb, w2, w3⟩
theorem open_bool_cells {fuel : Nat} {cs : List Value} {x : DataW H × List MemPlace} (h : DataW.trod enc Tryz.prog w 0 spare held fuel 4 cs = some x) : ∃ k, BoolIn k cs ∧ True := by
  obtain ⟨k, e0, _⟩ := DataW.trod_bool Tryz.underlying4 h
  exact ⟨k, (by simpa using e0 : cs = [.bool k]), trivial⟩
theorem open_tops {r : Reach} {b0 : Nat} {v : Value} {d : DataW H} {p : List MemPlace} (hv : Value.okWide Tryz.prog w r b0 54 v) (h : DataW.Trod enc Tryz.prog w 0 spare held 54 v d p) : ∃ l, (∀ b ∈ l, TopWf b) ∧ TopsRd w v l := by
  obtain ⟨b, len, cap, rfl⟩ := okWide_slice Tryz.underlying54 hv
  obtain ⟨fuel, hf⟩ := h
  obtain ⟨sv, l, e, h1, h2⟩ := open_list Tryz.underlying54 (by kernel_rfl : _ = 6) (by decide) open_top_cells hf
  simp [Value.cells] at e
  subst e
  exact ⟨l, h1, h2⟩
theorem open_bools {r : Reach} {b0 : Nat} {v : Value} {d : DataW H} {p : List MemPlace} (hv : Value.okWide Tryz.prog w r b0 55 v) (h : DataW.Trod enc Tryz.prog w 0 spare held 55 v d p) : ∃ l, (∀ b ∈ l, True) ∧ BoolsRd w v l := by
  obtain ⟨b, len, cap, rfl⟩ := okWide_slice Tryz.underlying55 hv
  obtain ⟨fuel, hf⟩ := h
  obtain ⟨sv, l, e, h1, h2⟩ := open_list Tryz.underlying55 (by kernel_rfl : _ = 1) (by decide) open_bool_cells hf
  simp [Value.cells] at e
  subst e
  exact ⟨l, h1, h2⟩
end
end Go.Proofs.YtmalklakaalaoaaGreatDoor

set_option linter.unusedVariables false
set_option maxRecDepth 10000
namespace Go.Proofs.YtmalklakaalaoaaGreatDoor.Sw
open Go.RowKit Go.Sx
def decR (b : List UInt8) : (Int × Int × List OpD) × Int := match decode b with | none => ((0, 0, []), 1) | some p => (p, 0)
theorem rdOps_go {n : Int} {l : List OpD} {s : List UInt8 × Bool} (h0 : 0 < n) (h1 : s.2 = false) (h2 : l.length ≤ 8) : rdOps (10 - l.length) n l s = rdOps (10 - (l.length + 1)) (n - 1) (l ++ [(rdOp s).1]) (rdOp s).2 := by
  rw [show 10 - l.length = (10 - (l.length + 1)) + 1 by omega, rdOps, if_pos ⟨h0, h1, h2⟩]
theorem rdOps_stop {n : Int} {l : List OpD} {s : List UInt8 × Bool} (h : (decide (n > 0) && !s.2 && decide ((l.length : Int) ≤ 8)) = false) (f : Nat) : rdOps f n l s = (l, s) := by
  cases f with
  | zero => rfl
  | succ f =>
    rw [rdOps, if_neg]
    rintro ⟨h0, h1, h2⟩
    rw [h1] at h
    simp at h
    omega
structure DecS where
  n : Int
  v : Value
  l : List OpD
  sv : Value
  s : List UInt8 × Bool
set_option maxRecDepth 10000 in
set_option maxHeartbeats 16000000 in
theorem op_Decode (b : List UInt8) (sv : Value) (w : World) (hb : b.length ≤ 1000000) (r : RdB w sv b) (hT : Tabs w) :
    Calls Tryz.prog 54 ⟨[sv]⟩ w fun e w' => ∃ ad cap, e = .returned (.tuple #[.agg ⟨[.int .i64 (decR b).1.1, .int .i64 (decR b).1.2.1, .slice ad (decR b).1.2.2.length cap]⟩, .int .i64 (decR b).2]) ∧ Has 0 w w' (Sx.Own 95 9 (.slice ad (decR b).1.2.2.length cap) (decR b).1.2.2.length ((decR b).1.2.2.flatMap opCells) :: Old w 0 :: []) := by
  have hw := Has.start (G := 0) (w := w) (Nat.zero_le _)
  have hok := parse_ok b hb
  obtain ⟨sad, scap, rfl⟩ : ∃ ad cap, sv = .slice ad b.length cap := by obtain ⟨_, ad, cap, e, _⟩ := r; exact ⟨ad, cap, e⟩
  refine enter Tryz.func54 Tryz.ntmps54 rfl rfl fun a hs => ?_
  repeat (first | (refine sxv hs hw ?_; clear hs; intro a hs) | refine sxc hs ?_ | (refine sxa hs hw ?_; clear hs hw; intro a b W hw hs) | (refine sxs hs hw ?_; clear hs hw; intro W hs hw))
  obtain ⟨bp, q1⟩ := nm1 hw; subst q1
  obtain ⟨b0, q2⟩ := nm2 hw; subst q2
  have hw : Has 0 w _ (Cells bp [.slice sad b.length scap, .bool (b, false).2] 152 :: Cells b0 [.int .i64 0, .int .i64 0, .slice none 0 0] 36 :: Old w 0 :: []) := hw
  refine st_call hs (hc := op_num w _ bp _ (b, false) _ (In.tl In.hd) r hw) (k := ?_); rintro e0 W1 ⟨rfl, sv1, r1, hw'⟩; refine ⟨_, rfl, ?_⟩; clear hs hw; intro a hs
  have hw := hw'; clear hw'
  rw [show tk (b, false) (Ph.getI (b, false).1).2.1 (Ph.getI (b, false).1).2.2 = rdNum (b, false) from rfl] at hw r1
  repeat (first | (refine sxv hs hw ?_; clear hs; intro a hs) | refine sxc hs ?_ | (refine sxa hs hw ?_; clear hs hw; intro a b W hw hs) | (refine sxs hs hw ?_; clear hs hw; intro W hs hw))
  obtain ⟨bx, q3⟩ := nm1 hw; subst q3
  have hw := hw.swap2
  refine st_call hs (hc := op_num w _ bp sv1 (rdNum (b, false)) _ (In.tl (In.tl In.hd)) r1 hw) (k := ?_); rintro e0 W1 ⟨rfl, sv2, r2, hw'⟩; refine ⟨_, rfl, ?_⟩; clear hs hw; intro a hs
  have hw := hw'; clear hw'
  rw [show tk (rdNum (b, false)) (Ph.getI (rdNum (b, false)).1).2.1 (Ph.getI (rdNum (b, false)).1).2.2 = rdNum (rdNum (b, false)) from rfl] at hw r2
  repeat (first | (refine sxv hs hw ?_; clear hs; intro a hs) | refine sxc hs ?_ | (refine sxa hs hw ?_; clear hs hw; intro a b W hw hs) | (refine sxs hs hw ?_; clear hs hw; intro W hs hw))
  refine st_call hs (hc := op_num w _ bp sv2 (rdNum (rdNum (b, false))) _ (In.tl (In.tl In.hd)) r2 hw) (k := ?_); rintro e0 W1 ⟨rfl, sv3, r3, hw'⟩; refine ⟨_, rfl, ?_⟩; clear hs hw; intro a hs
  have hw := hw'; clear hw'
  rw [show tk (rdNum (rdNum (b, false))) (Ph.getI (rdNum (rdNum (b, false))).1).2.1 (Ph.getI (rdNum (rdNum (b, false))).1).2.2 = rdNum (rdNum (rdNum (b, false))) from rfl] at hw r3
  repeat (first | (refine sxv hs hw ?_; clear hs; intro a hs) | refine sxc hs ?_ | (refine sxa hs hw ?_; clear hs hw; intro a b W hw hs) | (refine sxs hs hw ?_; clear hs hw; intro W hs hw))
  have hN := getI_range (rdNum (rdNum (b, false))).1
  have hdec : parse b = (((Ph.getI (b, false).1).1, (Ph.getI (rdNum (b, false)).1).1, (rdOps 10 (Ph.getI (rdNum (rdNum (b, false))).1).1 [] (rdNum (rdNum (rdNum (b, false))))).1), (rdOps 10 (Ph.getI (rdNum (rdNum (b, false))).1).1 [] (rdNum (rdNum (rdNum (b, false))))).2) := rfl
  clear r1 r2
  generalize (Ph.getI (rdNum (rdNum (b, false))).1).1 = N at *
  generalize rdNum (rdNum (rdNum (b, false))) = s3 at *
  generalize (Ph.getI (rdNum (b, false)).1).1 = q at *
  generalize (Ph.getI (b, false).1).1 = c at *
  replace hw := (hw.nilOwn 95 9).swap2
  have hw : Has 0 w W1 (Cells bp [sv3, .bool s3.2] 152 :: Sx.Own 95 9 (.slice none 0 0) ([] : List OpD).length (([] : List OpD).flatMap opCells) :: Cells bx [.int .i64 c, .int .i64 q, .slice none 0 0] 36 :: Cells b0 [.int .i64 0, .int .i64 0, .slice none 0 0] 36 :: Old w 0 :: []) := hw
  refine st_loop (σ := DecS) (fun t => [(0, .slice sad b.length scap), (2, .pointer (some ⟨b0, 0, none⟩)), (4, .pointer (some ⟨bp, 0, none⟩)), (5, .pointer (some ⟨bx, 0, none⟩)), (6, .int .i64 t.n)])
    (fun t => Cells bp [t.sv, .bool t.s.2] 152 :: Sx.Own 95 9 t.v t.l.length (t.l.flatMap opCells) :: Cells bx [.int .i64 c, .int .i64 q, t.v] 36 :: Cells b0 [.int .i64 0, .int .i64 0, .slice none 0 0] 36 :: Old w 0 :: [])
    (fun t => RdB w t.sv t.s.1 ∧ i64 t.n ∧ t.l.length ≤ 9 ∧ rdOps (10 - t.l.length) t.n t.l t.s = rdOps 10 N [] s3) (fun t => 10 - t.l.length) ⟨N, .slice none 0 0, [], sv3, s3⟩ ⟨r3, hN, by simp, rfl⟩ hs ⟨rfl, rfl, rfl, rfl, rfl, trivial⟩ hw ?_
  clear hs hw r3 hN
  rintro ⟨n, v, l, sv, s⟩ a W ⟨hr, hn, hl, hrd⟩ hs hw
  simp only at hr hn hl hrd hs hw
  obtain ⟨vad, vcap, rfl⟩ : ∃ ad cap, v = .slice ad l.length cap := by
    obtain ⟨_, ad, cap, e, _⟩ := hw.rd_own (In.tl In.hd); exact ⟨ad, cap, e⟩
  refine sq ?_
  refine sq ?_
  refine merge (M := fun a W => Slots a 61 [(0, .slice sad b.length scap), (2, .pointer (some ⟨b0, 0, none⟩)), (4, .pointer (some ⟨bp, 0, none⟩)), (5, .pointer (some ⟨bx, 0, none⟩)), (6, .int .i64 n), (33, .bool (decide (n > 0) && !s.2 && decide ((l.length : Int) ≤ 8)))] ∧ Has 0 w W (Cells bp [sv, .bool s.2] 152 :: Sx.Own 95 9 (.slice vad l.length vcap) l.length (l.flatMap opCells) :: Cells bx [.int .i64 c, .int .i64 q, .slice vad l.length vcap] 36 :: Cells b0 [.int .i64 0, .int .i64 0, .slice none 0 0] 36 :: Old w 0 :: [])) ?_ ?_
  · repeat (first | (refine sxv hs hw ?_; clear hs; intro a hs) | refine sxc hs ?_ | (refine sxa hs hw ?_; clear hs hw; intro a b W hw hs) | (refine sxs hs hw ?_; clear hs hw; intro W hs hw))
    cases k0 : decide (n > 0) with
    | false =>
      rw [k0] at hs
      repeat (first | (refine sxv hs hw ?_; clear hs; intro a hs) | refine sxc hs ?_ | (refine sxa hs hw ?_; clear hs hw; intro a b W hw hs) | (refine sxs hs hw ?_; clear hs hw; intro W hs hw))
      exact ⟨hs.of ⟨rfl, rfl, rfl, rfl, rfl, rfl, trivial⟩, hw⟩
    | true =>
    rw [k0] at hs
    repeat (first | (refine sxv hs hw ?_; clear hs; intro a hs) | refine sxc hs ?_ | (refine sxa hs hw ?_; clear hs hw; intro a b W hw hs) | (refine sxs hs hw ?_; clear hs hw; intro W hs hw))
    cases k1 : s.2 with
    | true =>
      rw [k1] at hs hw
      repeat (first | (refine sxv hs hw ?_; clear hs; intro a hs) | refine sxc hs ?_ | (refine sxa hs hw ?_; clear hs hw; intro a b W hw hs) | (refine sxs hs hw ?_; clear hs hw; intro W hs hw))
      exact ⟨hs.of ⟨rfl, rfl, rfl, rfl, rfl, rfl, trivial⟩, hw⟩
    | false =>
    rw [k1] at hs hw
    repeat (first | (refine sxv hs hw ?_; clear hs; intro a hs) | refine sxc hs ?_ | (refine sxa hs hw ?_; clear hs hw; intro a b W hw hs) | (refine sxs hs hw ?_; clear hs hw; intro W hs hw))
    exact ⟨hs.of ⟨rfl, rfl, rfl, rfl, rfl, bool_eq (by simp), trivial⟩, hw⟩
  clear hs hw
  rintro a W ⟨hs, hw⟩
  refine cd_split hs (kt := fun hcc => ?_) (kf := fun hcc => ?_)
  · obtain ⟨h0, h1, h2⟩ : 0 < n ∧ s.2 = false ∧ l.length ≤ 8 := by
      simp only [Bool.and_eq_true, decide_eq_true_eq, Bool.not_eq_true'] at hcc
      exact ⟨by omega, hcc.1.2, by omega⟩
    rw [rdOps_go h0 h1 h2] at hrd
    replace hs : Slots a 61 [(0, .slice sad b.length scap), (2, .pointer (some ⟨b0, 0, none⟩)), (4, .pointer (some ⟨bp, 0, none⟩)), (5, .pointer (some ⟨bx, 0, none⟩)), (6, .int .i64 n)] := hs.of ⟨rfl, rfl, rfl, rfl, rfl, trivial⟩
    repeat (first | (refine sxv hs hw ?_; clear hs; intro a hs) | refine sxc hs ?_ | (refine sxa hs hw ?_; clear hs hw; intro a b W hw hs) | (refine sxs hs hw ?_; clear hs hw; intro W hs hw))
    have hw : Has 0 w W (Cells bp [sv, .bool s.2] 152 :: Sx.Own 95 9 (.slice vad l.length vcap) l.length (l.flatMap opCells) :: Free :: Free :: Cells bx [.int .i64 c, .int .i64 q, .slice vad l.length vcap] 36 :: Cells b0 [.int .i64 0, .int .i64 0, .slice none 0 0] 36 :: Old w 0 :: []) := hw.free.free.perm (((List.Perm.cons _ (List.Perm.swap _ _ _)).trans (List.Perm.swap _ _ _)).trans (List.Perm.cons _ ((List.Perm.cons _ (List.Perm.swap _ _ _)).trans (List.Perm.swap _ _ _))))
    refine rg_drawU (σ := Value × Option Addr × Nat) (V := fun u => [.pointer (some ⟨bx, 0 + 2, none⟩), .slice vad l.length vcap, .pointer (some ⟨bp, 0, none⟩), .agg ⟨opCells (rdOp s).1⟩, .slice (some ⟨(u 4).2.2, 0, none⟩) 1 1, .slice (u 5).2.1 (l.length + 1) (u 5).2.2, .pointer (some ⟨bx, 0 + 2, none⟩), .bool true])
      (Rs := fun u D => (if D 3 then Cells bp [(u 3).1, .bool (rdOp s).2.2] 152 else Cells bp [sv, .bool s.2] 152) :: (if D 5 then Sx.Own 95 9 (.slice (u 5).2.1 (l.length + 1) (u 5).2.2) (l.length + 1) (l.flatMap opCells ++ opCells (rdOp s).1) else Sx.Own 95 9 (.slice vad l.length vcap) l.length (l.flatMap opCells)) :: (if D 4 then Cells (u 4).2.2 (opCells (rdOp s).1) 95 else Free) :: (if D 3 then Fact (RdB w (u 3).1 (rdOp s).2.1) else Free) :: (if D 7 then Cells bx [.int .i64 c, .int .i64 q, .slice (u 5).2.1 (l.length + 1) (u 5).2.2] 36 else Cells bx [.int .i64 c, .int .i64 q, .slice vad l.length vcap] 36) :: Cells b0 [.int .i64 0, .int .i64 0, .slice none 0 0] 36 :: Old w 0 :: []) (fun _ => (.bool true, none, 0)) hs hw (hVu := ?vu_c) (ho := ⟨?_, ?c1_c, ?_, ?c3_c, ?c4_c, ?c5_c, ?_, ?c7_c, trivial⟩) (k := ?k_c)
    case vu_c =>
      intro u u' j h
      rcases j with _ | _ | _ | _ | _ | _ | j
      all_goals first | rfl | simp [h]
    case c1_c =>
      intro u LD D a W hcl hi hp hs hw
      have h5 := Go.Sx.not_done hcl hi 5 (by kernel_rfl)
      have h7 := Go.Sx.not_done hcl h5 7 (by kernel_rfl)
      have hw0 := hw
      simp only [h7, Bool.false_eq_true, if_false] at hw
      repeat (first | (refine sxv hs hw ?_; clear hs; intro a hs) | refine sxc hs ?_ | (refine sxa hs hw ?_; clear hs hw; intro a b W hw hs) | (refine sxs hs hw ?_; clear hs hw; intro W hs hw))
      exact Or.inl ⟨hs, hw0⟩
    case c3_c =>
      intro u LD D a W hcl hi hp hs hw
      have h4 := Go.Sx.not_done hcl hi 4 (by kernel_rfl)
      have h5 := Go.Sx.not_done hcl h4 5 (by kernel_rfl)
      have h7 := Go.Sx.not_done hcl h5 7 (by kernel_rfl)
      simp only [hi, h4, h5, h7, Bool.false_eq_true, if_false] at hw
      refine st_call hs (hc := op_op w _ bp sv s _ (by repeat (first | exact In.hd | apply In.tl)) hr hT hw) (k := ?_); rintro e0 W1 ⟨rfl, sv2, r2, hw'⟩; refine ⟨_, rfl, ?_⟩; clear hs hw; intro a hs
      repeat (first | (refine sxv hs hw ?_; clear hs; intro a hs) | refine sxc hs ?_ | (refine sxa hs hw ?_; clear hs hw; intro a b W hw hs) | (refine sxs hs hw ?_; clear hs hw; intro W hs hw))
      refine Or.inr ⟨(sv2, none, 0), hs, ?_⟩
      show Has 0 w _ (_ :: (if (Nat.beq 5 3 || D 5) = true then _ else _) :: (if (Nat.beq 4 3 || D 4) = true then _ else _) :: _ :: (if (Nat.beq 7 3 || D 7) = true then _ else _) :: _)
      rw [h4, h5, h7]
      exact (hw'.fact r2).fill (Upd.tl (Upd.tl (Upd.tl Upd.hd)))
    case c4_c =>
      intro u LD D a W hcl hi hp hs hw
      have h3 := Go.Sx.done hp 3 (by kernel_rfl)
      have h5 := Go.Sx.not_done hcl hi 5 (by kernel_rfl)
      have h7 := Go.Sx.not_done hcl h5 7 (by kernel_rfl)
      simp only [hi, h3, h5, h7, Bool.false_eq_true, if_false, if_true] at hw
      repeat (first | (refine sxv hs hw ?_; clear hs; intro a hs) | refine sxc hs ?_ | (refine sxa hs hw ?_; clear hs hw; intro a b W hw hs) | (refine sxs hs hw ?_; clear hs hw; intro W hs hw))
      refine Or.inr ⟨(.bool true, none, _), hs, ?_⟩
      show Has 0 w _ ((if (Nat.beq 3 4 || D 3) = true then _ else _) :: (if (Nat.beq 5 4 || D 5) = true then _ else _) :: _ :: (if (Nat.beq 3 4 || D 3) = true then _ else _) :: (if (Nat.beq 7 4 || D 7) = true then _ else _) :: _)
      rw [h3, h5, h7]
      exact hw.fill (Upd.tl (Upd.tl Upd.hd))
    case c5_c =>
      intro u LD D a W hcl hi hp hs hw
      have h4 := Go.Sx.done hp 4 (by kernel_rfl)
      have h7 := Go.Sx.not_done hcl hi 7 (by kernel_rfl)
      simp only [hi, h4, h7, Bool.false_eq_true, if_false, if_true] at hw
      refine st_append_lit hs hw (k := l.length) (h63 := by omega) (hb := by omega) (c := ?_)
      clear hs hw; intro a ad cap W hs hw
      repeat (first | (refine sxv hs hw ?_; clear hs; intro a hs) | refine sxc hs ?_ | (refine sxa hs hw ?_; clear hs hw; intro a b W hw hs) | (refine sxs hs hw ?_; clear hs hw; intro W hs hw))
      refine Or.inr ⟨(.bool true, ad, cap), hs, ?_⟩
      show Has 0 w _ (_ :: _ :: (if (Nat.beq 4 5 || D 4) = true then _ else _) :: _ :: (if (Nat.beq 7 5 || D 7) = true then _ else _) :: _)
      rw [h4, h7]
      exact hw
    case c7_c =>
      intro u LD D a W hcl hi hp hs hw
      have h5 := Go.Sx.done hp 5 (by kernel_rfl)
      simp only [hi, h5, Bool.false_eq_true, if_false, if_true] at hw
      repeat (first | (refine sxv hs hw ?_; clear hs; intro a hs) | refine sxc hs ?_ | (refine sxa hs hw ?_; clear hs hw; intro a b W hw hs) | (refine sxs hs hw ?_; clear hs hw; intro W hs hw))
      refine Or.inl ⟨hs, ?_⟩
      show Has 0 w _ (_ :: (if (Nat.beq 5 7 || D 5) = true then _ else _) :: _ :: _ :: _ :: _)
      rw [h5]
      exact hw
    case k_c =>
      clear hs hw
      intro u a W hs hw
      replace hw : Has 0 w W (Cells bp [(u 3).1, .bool (rdOp s).2.2] 152 :: Sx.Own 95 9 (.slice (u 5).2.1 (l.length + 1) (u 5).2.2) (l.length + 1) (l.flatMap opCells ++ opCells (rdOp s).1) :: Cells (u 4).2.2 (opCells (rdOp s).1) 95 :: Fact (RdB w (u 3).1 (rdOp s).2.1) :: Cells bx [.int .i64 c, .int .i64 q, .slice (u 5).2.1 (l.length + 1) (u 5).2.2] 36 :: Cells b0 [.int .i64 0, .int .i64 0, .slice none 0 0] 36 :: Old w 0 :: []) := hw
      have hr' := hw.told (In.tl (In.tl (In.tl In.hd)))
      replace hw := hw.sub (L' := Cells bp [(u 3).1, .bool (rdOp s).2.2] 152 :: Sx.Own 95 9 (.slice (u 5).2.1 (l.length + 1) (u 5).2.2) (l.length + 1) (l.flatMap opCells ++ opCells (rdOp s).1) :: Cells bx [.int .i64 c, .int .i64 q, .slice (u 5).2.1 (l.length + 1) (u 5).2.2] 36 :: Cells b0 [.int .i64 0, .int .i64 0, .slice none 0 0] 36 :: Old w 0 :: []) (List.Sublist.cons_cons _ (List.Sublist.cons_cons _ (List.Sublist.cons _ (List.Sublist.cons _ (List.Sublist.refl _)))))
      replace hs : Slots a 61 [(0, .slice sad b.length scap), (2, .pointer (some ⟨b0, 0, none⟩)), (4, .pointer (some ⟨bp, 0, none⟩)), (5, .pointer (some ⟨bx, 0, none⟩)), (6, .int .i64 n)] := hs.of ⟨rfl, rfl, rfl, rfl, rfl, trivial⟩
      generalize (u 3).1 = sv2 at *
      generalize (u 5).2.1 = ad2 at *
      generalize (u 5).2.2 = cap2 at *
      clear u
      repeat (first | (refine sxv hs hw ?_; clear hs; intro a hs) | refine sxc hs ?_ | (refine sxa hs hw ?_; clear hs hw; intro a b W hw hs) | (refine sxs hs hw ?_; clear hs hw; intro W hs hw))
      have e1 : IntKind.i64.wrap (n - 1) = n - 1 := i64s (by have := hn.1; omega) (by have := hn.2; omega)
      rw [e1] at hs
      have e2 : l.length + 1 = (l ++ [(rdOp s).1]).length := by simp
      have e3 : l.flatMap opCells ++ opCells (rdOp s).1 = (l ++ [(rdOp s).1]).flatMap opCells := by simp
      rw [e2, e3] at hw
      rw [e2] at hrd
      exact st_again ⟨n - 1, _, l ++ [(rdOp s).1], sv2, (rdOp s).2⟩ hs hw ⟨hr', ⟨by have := hn.1; show _ ≤ n - 1; omega, by have := hn.2; show n - 1 ≤ _; omega⟩, by simp; omega, hrd⟩ (by simp only [List.length_append, List.length_singleton]; omega) ⟨rfl, rfl, rfl, rfl, rfl, trivial⟩
    all_goals
      intro u LD D a W hcl hi hp hs hw
      repeat (first | (refine sxv hs hw ?_; clear hs; intro a hs) | refine sxc hs ?_ | (refine sxa hs hw ?_; clear hs hw; intro a b W hw hs) | (refine sxs hs hw ?_; clear hs hw; intro W hs hw))
      exact Or.inl ⟨hs, hw⟩
  · rw [rdOps_stop hcc] at hrd
    rw [← hrd] at hdec
    clear hrd
    rw [hdec] at hok
    obtain ⟨hc, hq, -, ho⟩ := hok
    simp only at hc hq ho
    have hD : ∀ p : Prop, (s.2 = false ∧ mayBatch c q l = true ∧ textB c q l = b ↔ p) → ((p → decR b = ((c, q, l), 0)) ∧ (¬ p → decR b = ((0, 0, []), 1))) := fun p hp => by
      constructor
      · intro h
        have : decode b = some (c, q, l) := by unfold decode; simp only [hdec]; rw [if_pos (hp.2 h)]
        unfold decR; rw [this]
      · intro h
        have : decode b = none := by unfold decode; simp only [hdec]; rw [if_neg fun k => h (hp.1 k)]
        unfold decR; rw [this]
    have hZ := (hD _ Iff.rfl).2
    have hY := (hD _ Iff.rfl).1
    clear hD hdec
    repeat (first | (refine sxv hs hw ?_; clear hs; intro a hs) | refine sxc hs ?_ | (refine sxa hs hw ?_; clear hs hw; intro a b W hw hs) | (refine sxs hs hw ?_; clear hs hw; intro W hs hw))
    refine st_call hs (hc := op_Encode c q l _ _ hc hq ho (hw.rd_own (In.tl In.hd)) (hT.keep (hw.end (by repeat (first | exact In.hd | apply In.tl))))) (k := ?_); rintro e0 W1 ⟨ad, cap, rfl, hnil, hw1⟩; refine ⟨_, rfl, ?_⟩; clear hs; intro a hs; replace hw := hw.call hw1; clear hw1
    repeat (first | (refine sxv hs hw ?_; clear hs; intro a hs) | refine sxc hs ?_ | (refine sxa hs hw ?_; clear hs hw; intro a b W hw hs) | (refine sxs hs hw ?_; clear hs hw; intro W hs hw))
    cases k1 : s.2 with
    | true =>
      rw [k1] at hs hw
      repeat (first | (refine sxv hs hw ?_; clear hs; intro a hs) | refine sxc hs ?_ | (refine sxa hs hw ?_; clear hs hw; intro a b W hw hs) | (refine sxs hs hw ?_; clear hs hw; intro W hs hw))
      refine rc2 hs rfl rfl hw (In.tl (In.tl (In.tl (In.tl In.hd)))) rfl rfl ?_
      rw [hZ (by rw [k1]; simp)]
      exact ⟨none, 0, rfl, (hw.nilOwn 95 9).sub (List.Sublist.cons_cons _ (List.Sublist.cons _ (List.Sublist.cons _ (List.Sublist.cons _ (List.Sublist.cons _ (List.Sublist.cons _ (List.Sublist.refl _)))))))⟩
    | false =>
    rw [k1] at hs hw
    repeat (first | (refine sxv hs hw ?_; clear hs; intro a hs) | refine sxc hs ?_ | (refine sxa hs hw ?_; clear hs hw; intro a b W hw hs) | (refine sxs hs hw ?_; clear hs hw; intro W hs hw))
    cases hm : mayBatch c q l with
    | false =>
      obtain ⟨rfl, rfl⟩ := hnil hm
      refine st_eqnil hs (c := ?_); clear hs; intro a hs
      repeat (first | (refine sxv hs hw ?_; clear hs; intro a hs) | refine sxc hs ?_ | (refine sxa hs hw ?_; clear hs hw; intro a b W hw hs) | (refine sxs hs hw ?_; clear hs hw; intro W hs hw))
      refine rc2 hs rfl rfl hw (In.tl (In.tl (In.tl (In.tl In.hd)))) rfl rfl ?_
      rw [hZ (by rw [hm]; simp)]
      exact ⟨none, 0, rfl, (hw.nilOwn 95 9).sub (List.Sublist.cons_cons _ (List.Sublist.cons _ (List.Sublist.cons _ (List.Sublist.cons _ (List.Sublist.cons _ (List.Sublist.cons _ (List.Sublist.refl _)))))))⟩
    | true =>
    rw [hm] at hs hw
    simp only [if_true] at hs hw
    obtain ⟨A, rfl⟩ : ∃ A, ad = some A := by
      obtain ⟨_, ad', cap', e, _, _, h | ⟨g, o, h, _⟩⟩ := hw.rd_own In.hd
      · have := textB_pos c q l; omega
      · injection e with e1 _ _; exact ⟨_, e1.trans h⟩
    refine st_eqnil hs (c := ?_); clear hs; intro a hs
    rw [show (some A).isNone = false from rfl] at hs
    repeat (first | (refine sxv hs hw ?_; clear hs; intro a hs) | refine sxc hs ?_ | (refine sxa hs hw ?_; clear hs hw; intro a b W hw hs) | (refine sxs hs hw ?_; clear hs hw; intro W hs hw))
    refine st_call hs (hc := bytes_Equal (textB c q l) b _ _ _ (hw.rd_own In.hd) (hw.rd (by repeat (first | exact In.hd | apply In.tl)) hw.ext.size r)) (k := ?_); rintro e0 W1 ⟨rfl, hb⟩; refine ⟨_, rfl, ?_⟩; clear hs; intro a hs; replace hw := hw.below hb; clear hb
    cases he : (textB c q l == b) with
    | false =>
      rw [he] at hs
      repeat (first | (refine sxv hs hw ?_; clear hs; intro a hs) | refine sxc hs ?_ | (refine sxa hs hw ?_; clear hs hw; intro a b W hw hs) | (refine sxs hs hw ?_; clear hs hw; intro W hs hw))
      refine rc2 hs rfl rfl hw (In.tl (In.tl (In.tl (In.tl In.hd)))) rfl rfl ?_
      rw [hZ (by rw [beq_eq_false_iff_ne] at he; exact fun h => he h.2.2)]
      exact ⟨none, 0, rfl, (hw.nilOwn 95 9).sub (List.Sublist.cons_cons _ (List.Sublist.cons _ (List.Sublist.cons _ (List.Sublist.cons _ (List.Sublist.cons _ (List.Sublist.cons _ (List.Sublist.refl _)))))))⟩
    | true =>
      rw [he] at hs
      repeat (first | (refine sxv hs hw ?_; clear hs; intro a hs) | refine sxc hs ?_ | (refine sxa hs hw ?_; clear hs hw; intro a b W hw hs) | (refine sxs hs hw ?_; clear hs hw; intro W hs hw))
      refine rc2 hs rfl rfl hw (In.tl (In.tl (In.tl (In.tl In.hd)))) rfl rfl ?_
      rw [hY ⟨k1, hm, by simpa using he⟩]
      exact ⟨_, _, rfl, hw.sub (List.Sublist.cons _ (List.Sublist.cons _ (List.Sublist.cons_cons _ (List.Sublist.cons _ (List.Sublist.cons _ (List.Sublist.refl _))))))⟩
end Go.Proofs.YtmalklakaalaoaaGreatDoor.Sw

set_option linter.unusedVariables false
set_option maxRecDepth 10000
namespace Go.Proofs.YtmalklakaalaoaaGreatDoor.Sw
open Go.RowKit Go.Sx
-- pieces
theorem op_DecodeR (b : List UInt8) (c q : Int) (l : List OpD) (err : Int) (h : decR b = ((c, q, l), err)) (sv : Value) (w : World) (hb : b.length ≤ 1000000) (r : RdB w sv b) (hT : Tabs w) :
    Calls Tryz.prog 54 ⟨[sv]⟩ w fun e w' => ∃ ad cap, e = .returned (.tuple #[.agg ⟨[.int .i64 c, .int .i64 q, .slice ad l.length cap]⟩, .int .i64 err]) ∧ Has 0 w w' (Sx.Own 95 9 (.slice ad l.length cap) l.length (l.flatMap opCells) :: Old w 0 :: []) := by
  have := op_Decode b sv w hb r hT
  rw [h] at this
  exact this
end Go.Proofs.YtmalklakaalaoaaGreatDoor.Sw

set_option linter.unusedVariables false
set_option maxRecDepth 10000
namespace Go.Sx
open Go.RowKit
def CellsM (b : Nat) (cs : List Value) (T : TypeId) : Res where
  ok F W := F b ∧ W.heap[b]? = some (.cells ⟨cs⟩ T (cs.length, cs.length + 1))
  loc F W W' h := fun ⟨h1, h2⟩ => ⟨h1, (h b h1).trans h2⟩
section
variable {P : Program} {ops : Array Oper} {rest : List Oper} {Q : Exit → Act → World → Prop} {a : Act} {n G : Nat} {L : List (Nat × Value)} {w W W' : World} {R R' : List Res} {d b : Nat} {T S S' E : TypeId} {p : String} {e : Array Edge} {x y : Operand} {v : Value} {cs cs' : List Value} {s : ByteArray} {l : List UInt8}
theorem Has.blockM {R0 : List Res} (h : Has G w W R0) (i : In (CellsM b cs E) R0) : W.heap[b]? = some (.cells ⟨cs⟩ E (cs.length, cs.length + 1)) ∧ G ≤ b ∧ b < W.heap.size := by
  obtain ⟨F, h1, h2⟩ := h.of_in i
  exact ⟨h2.2, h1 b h2.1⟩
theorem cell_m {fr : Nat × Nat} (h : W.heap[b]? = some (.cells ⟨cs⟩ E fr)) (j : Nat) : W.cell? ⟨b, j, none⟩ = cs[j]? := by
  unfold World.cell?
  rw [h]
  simp
theorem st_bytes [t : StrTy P S] [sl : Sl P S' E] [u : IntTy P E .u8] (hs : Slots a n L) (hw : Has G w W R) (hl : s.size ≤ 1000000000) (hx : ev L x = some (.string s) := by with_unfolding_all exact rfl) (hd : Nat.blt d n = true := by with_unfolding_all exact rfl)
    (c : ∀ a' b cap ext W', Has G w W' (CellsM b (bys s.data.toList ++ ext) E :: R) → RdB W' (.slice (some ⟨b, 0, none⟩) s.data.toList.length cap) s.data.toList → Slots a' n ((d, .slice (some ⟨b, 0, none⟩) s.data.toList.length cap) :: L) → wpList P ops Q rest a' W') : wpList P ops Q (⟨some d, .convert S S' x, T, p, e, none⟩ :: rest) a W := by
  have hr := run_bytes_of_string W S S' E s t.out sl.out u.out
  have hge : s.size ≤ grownCap W s.size 0 E := grownCap_ge W s.size 0 E
  have hcm : grownCap W s.size 0 E ≤ maxLen := grownCap_le_maxLen W s.size 0 E (by unfold maxLen; omega)
  generalize grownCap W s.size 0 E = cap at *
  have hsz : s.data.toList.length = s.size := by rw [Array.length_toList]; rfl
  have hrow : bytesRow s cap = ⟨bys s.data.toList ++ List.replicate (cap - s.size) (Value.int .u8 0)⟩ := by
    unfold bytesRow bys
    apply Array.toList_inj.1
    simp
  rw [hrow] at hr
  have hnew := heap_alloc_new W.drew (.cells ⟨bys s.data.toList ++ List.replicate (cap - s.size) (Value.int .u8 0)⟩ E ((bys s.data.toList ++ List.replicate (cap - s.size) (Value.int .u8 0)).length, (bys s.data.toList ++ List.replicate (cap - s.size) (Value.int .u8 0)).length + 1))
  refine st_value hs hd (v := .slice (some ⟨W.heap.size, 0, none⟩) s.data.toList.length cap) (W' := W.drew.alloc (.cells ⟨bys s.data.toList ++ List.replicate (cap - s.size) (Value.int .u8 0)⟩ E ((bys s.data.toList ++ List.replicate (cap - s.size) (Value.int .u8 0)).length, (bys s.data.toList ++ List.replicate (cap - s.size) (Value.int .u8 0)).length + 1))) ?_ fun a' hs' => c a' W.heap.size cap (List.replicate (cap - s.size) (Value.int .u8 0)) _ ((hw.below (Below.refl _ _).drew).newObj ⟨rfl, hnew⟩) ?_ hs'
  · simp only [execOp, hs.ev hx, Sem.run_bind, hr, Result.andThen_ok, hsz]
    rfl
  · refine ⟨by simp, some ⟨W.heap.size, 0, none⟩, cap, rfl, by omega, by unfold maxLen at hcm; omega, .inr ⟨W.heap.size, 0, rfl, lt_of_block hnew, fun j u hj => ?_⟩⟩
    have hnew' : (W.drew.alloc (.cells ⟨bys s.data.toList ++ List.replicate (cap - s.size) (Value.int .u8 0)⟩ E ((bys s.data.toList ++ List.replicate (cap - s.size) (Value.int .u8 0)).length, (bys s.data.toList ++ List.replicate (cap - s.size) (Value.int .u8 0)).length + 1))).heap[W.heap.size]? = _ := hnew
    rw [cell_m hnew', Nat.zero_add]
    have hj2 := (List.getElem?_eq_some_iff.1 hj).1
    rw [List.getElem?_append_left hj2]; exact hj
end
end Go.Sx

set_option linter.unusedVariables false
set_option maxRecDepth 10000
namespace Go.Proofs.YtmalklakaalaoaaGreatDoor.Sw
open Go.RowKit Go.Sx
def TabAt (H : Fh) (p : Nat) (t : TabD) : Res := Ex fun x : Nat × Value × List Value => Cells p [.int .i64 t.ix, .pointer (some ⟨x.1, 0, none⟩), x.2.1] 105 :: FoldAt H x.1 t.f :: Sx.Own 39 5 x.2.1 t.rows.length x.2.2 :: Fact (Ch (RowIn H) t.rows x.2.2) :: []
section
variable {G p pf : Nat} {w W : World} {R : List Res} {t : TabD} {H H' : Fh} {v : Value} {xs : List Value}
theorem tabShut (h : Has G w W (Cells p [.int .i64 t.ix, .pointer (some ⟨pf, 0, none⟩), v] 105 :: FoldAt H pf t.f :: Sx.Own 39 5 v t.rows.length xs :: R)) (hc : Ch (RowIn H) t.rows xs) : Has G w W (TabAt H p t :: R) :=
  Has.shut (pf, v, xs) ((h.fact hc).perm (by repeat (first | exact List.Perm.refl _ | refine perm_pick (by repeat (first | exact Pick.hd | apply Pick.tl)) ?_)))
theorem tabOpen (h : Has G w W (TabAt H p t :: R)) : ∃ pf vad vcap xs, Ch (RowIn H) t.rows xs ∧ Has G w W (Cells p [.int .i64 t.ix, .pointer (some ⟨pf, 0, none⟩), .slice vad t.rows.length vcap] 105 :: FoldAt H pf t.f :: Sx.Own 39 5 (.slice vad t.rows.length vcap) t.rows.length xs :: R) := by
  obtain ⟨⟨pf, v, xs⟩, h⟩ := Has.open h
  have h : Has G w W (Cells p [.int .i64 t.ix, .pointer (some ⟨pf, 0, none⟩), v] 105 :: FoldAt H pf t.f :: Sx.Own 39 5 v t.rows.length xs :: Fact (Ch (RowIn H) t.rows xs) :: R) := h
  have hf := h.told (In.tl (In.tl (In.tl In.hd)))
  have h : Has G w W (Cells p [.int .i64 t.ix, .pointer (some ⟨pf, 0, none⟩), v] 105 :: FoldAt H pf t.f :: Sx.Own 39 5 v t.rows.length xs :: R) := h.sub (List.Sublist.cons_cons _ (List.Sublist.cons_cons _ (List.Sublist.cons_cons _ (List.Sublist.cons _ (List.Sublist.refl _)))))
  have h2 : Has G w W (Sx.Own 39 5 v t.rows.length xs :: Cells p [.int .i64 t.ix, .pointer (some ⟨pf, 0, none⟩), v] 105 :: FoldAt H pf t.f :: R) := h.perm (by repeat (first | exact List.Perm.refl _ | refine perm_pick (by repeat (first | exact Pick.hd | apply Pick.tl)) ?_))
  obtain ⟨ad, cap, rfl⟩ := h2.own_slice
  exact ⟨pf, ad, cap, xs, hf, h⟩
theorem tabLe (h : Has G w W (TabAt H p t :: R)) (hl : H.le H') : Has G w W (TabAt H' p t :: R) := by
  obtain ⟨pf, ad, cap, xs, h1, h2⟩ := tabOpen h
  exact tabShut (foldLe h2.swap2 hl).swap2 (h1.mono (RowIn.le hl))
end
def emptyT : TabD := ⟨0, emptyF, []⟩
set_option maxHeartbeats 4000000 in
theorem table_New (w0 W : World) (H : Fh) (R : List Res) (hw : Has 0 w0 W R) :
    Calls Tryz.prog 20 ⟨[]⟩ W fun e W' => ∃ p, e = .returned (.pointer (some ⟨p, 0, none⟩)) ∧ Has 0 w0 W' (TabAt H p emptyT :: R) := by
  refine enter Tryz.func20 Tryz.ntmps20 rfl rfl fun a hs => ?_
  repeat (first | (refine sxv hs hw ?_; clear hs; intro a hs) | refine sxc hs ?_ | (refine sxa hs hw ?_; clear hs hw; intro a b W hw hs) | (refine sxs hs hw ?_; clear hs hw; intro W hs hw))
  refine st_call hs (hc := fold_New w0 _ H _ hw) (k := ?_); rintro e0 W1 ⟨c, rfl, hw1⟩; refine ⟨_, rfl, ?_⟩; clear hs hw; intro a hs; have hw := hw1; clear hw1
  repeat (first | (refine sxv hs hw ?_; clear hs; intro a hs) | refine sxc hs ?_ | (refine sxa hs hw ?_; clear hs hw; intro a b W hw hs) | (refine sxs hs hw ?_; clear hs hw; intro W hs hw))
  refine rt1 hs rfl rfl ⟨_, rfl, ?_⟩
  have hw := hw.nilOwn 39 5
  exact tabShut (t := emptyT) (xs := []) (hw.perm (by repeat (first | exact List.Perm.refl _ | refine perm_pick (by repeat (first | exact Pick.hd | apply Pick.tl)) ?_))) rfl
set_option maxHeartbeats 4000000 in
theorem table_own (w0 W : World) (H : Fh) (r : RowD) (sv : Value) (R : List Res) (hl : r.b.l.length ≤ 1000) (hr : OpsH H sv r.b.l) (hw : Has 0 w0 W (Fz H :: R)) :
    Calls Tryz.prog 55 ⟨[.agg ⟨rowCells r sv⟩]⟩ W fun e W' => ∃ sv' H', e = .returned (.agg ⟨rowCells r sv'⟩) ∧ H.le H' ∧ OpsH H' sv' r.b.l ∧ Has 0 w0 W' (Fz H' :: R) := by
  obtain ⟨sad, scap, rfl⟩ := hr.slice
  refine enter Tryz.func55 Tryz.ntmps55 rfl rfl fun a hs => ?_
  repeat (first | (refine sxv hs hw ?_; clear hs; intro a hs) | refine sxc hs ?_ | (refine sxa hs hw ?_; clear hs hw; intro a b W hw hs) | (refine sxs hs hw ?_; clear hs hw; intro W hs hw))
  obtain ⟨b2, q2⟩ := nm1 hw; subst q2
  obtain ⟨b1, q1⟩ := nm2 hw; subst q1
  have hw : Has 0 w0 _ (Fz H :: Cells b2 [.int .i64 0, .int .i64 0, .int .i64 0, .slice none 0 0, .int .i64 0] 39 :: Cells b1 (rowCells r (.slice sad r.b.l.length scap)) 39 :: R) := hw.perm (by repeat (first | exact List.Perm.refl _ | refine perm_pick (by repeat (first | exact Pick.hd | apply Pick.tl)) ?_))
  refine st_call hs (hc := clone_ops w0 _ H r.b.l _ _ hl hr hw) (k := ?_); rintro e0 W1 ⟨sv', H', rfl, h1, h2, hw1⟩; refine ⟨_, rfl, ?_⟩; clear hs hw; intro a hs; have hw := hw1; clear hw1
  obtain ⟨tad, tcap, rfl⟩ := h2.slice
  repeat (first | (refine sxv hs hw ?_; clear hs; intro a hs) | refine sxc hs ?_ | (refine sxa hs hw ?_; clear hs hw; intro a b W hw hs) | (refine sxs hs hw ?_; clear hs hw; intro W hs hw))
  refine rc1 hs rfl rfl hw (In.tl In.hd) rfl ?_
  exact ⟨_, H', rfl, h1, h2, hw.drop2.drop2⟩
set_option maxHeartbeats 4000000 in
theorem table_Index (w0 W : World) (H : Fh) (p : Nat) (t : TabD) (R : List Res) (hw : Has 0 w0 W (TabAt H p t :: R)) :
    Calls Tryz.prog 30 ⟨[.pointer (some ⟨p, 0, none⟩)]⟩ W fun e W' => e = .returned (.int .i64 t.ix) ∧ Has 0 w0 W' (TabAt H p t :: R) := by
  obtain ⟨pf, ad, cap, xs, hc, hw⟩ := tabOpen hw
  refine enter Tryz.func30 Tryz.ntmps30 rfl rfl fun a hs => ?_
  repeat (first | (refine sxv hs hw ?_; clear hs; intro a hs) | refine sxc hs ?_ | (refine sxa hs hw ?_; clear hs hw; intro a b W hw hs) | (refine sxs hs hw ?_; clear hs hw; intro W hs hw) | ((with_reducible first | refine st_ptrSome hs (k := ?_) | refine st_ptrNone hs (k := ?_)); clear hs; intro a hs))
  exact rt1 hs rfl rfl ⟨rfl, tabShut hw hc⟩
set_option maxHeartbeats 4000000 in
theorem table_Fold (w0 W : World) (H : Fh) (p : Nat) (t : TabD) (R : List Res) (hw : Has 0 w0 W (TabAt H p t :: R)) :
    Calls Tryz.prog 31 ⟨[.pointer (some ⟨p, 0, none⟩)]⟩ W fun e W' => ∃ q, e = .returned (.pointer (some ⟨q, 0, none⟩)) ∧ Has 0 w0 W' (FoldAt H q t.f :: TabAt H p t :: R) := by
  obtain ⟨pf, ad, cap, xs, hc, hw⟩ := tabOpen hw
  refine enter Tryz.func31 Tryz.ntmps31 rfl rfl fun a hs => ?_
  repeat (first | (refine sxv hs hw ?_; clear hs; intro a hs) | refine sxc hs ?_ | (refine sxa hs hw ?_; clear hs hw; intro a b W hw hs) | (refine sxs hs hw ?_; clear hs hw; intro W hs hw) | ((with_reducible first | refine st_ptrSome hs (k := ?_) | refine st_ptrNone hs (k := ?_)); clear hs; intro a hs))
  refine st_call hs (hc := fold_Copy w0 _ H pf t.f _ hw.swap2) (k := ?_); rintro e0 W1 ⟨q, rfl, hw1⟩; refine ⟨_, rfl, ?_⟩; clear hs hw; intro a hs; have hw := hw1; clear hw1
  repeat (first | (refine sxv hs hw ?_; clear hs; intro a hs) | refine sxc hs ?_ | (refine sxa hs hw ?_; clear hs hw; intro a b W hw hs) | (refine sxs hs hw ?_; clear hs hw; intro W hs hw))
  have hw : Has 0 w0 _ (Cells p [.int .i64 t.ix, .pointer (some ⟨pf, 0, none⟩), .slice ad t.rows.length cap] 105 :: FoldAt H pf t.f :: Sx.Own 39 5 (.slice ad t.rows.length cap) t.rows.length xs :: FoldAt H q t.f :: R) := hw.perm (by repeat (first | exact List.Perm.refl _ | refine perm_pick (by repeat (first | exact Pick.hd | apply Pick.tl)) ?_))
  exact rt1 hs rfl rfl ⟨q, rfl, (tabShut hw hc).swap2⟩
set_option maxHeartbeats 16000000 in
theorem table_Apply (w0 W : World) (H : Fh) (p : Nat) (t : TabD) (e : EntD) (R : List Res) (hl : t.rows.length ≤ 1000000) (hd : e.data.size ≤ 1000000) (hH : (fr w0).le H) (hT : Tabs w0) (hw : Has 0 w0 W (TabAt H p t :: Fz H :: R)) :
    Calls Tryz.prog 25 ⟨[.pointer (some ⟨p, 0, none⟩), .agg ⟨entCells e⟩]⟩ W fun x W' => ∃ sv' H', x = .returned (.tuple ⟨[.agg ⟨rowCells (applyT t e).2.1 sv'⟩, .bool (applyT t e).2.2]⟩) ∧ H.le H' ∧ OpsH H' sv' (applyT t e).2.1.b.l ∧ Has 0 w0 W' (TabAt H' p (applyT t e).1 :: Fz H' :: R) := by
  obtain ⟨pf, vad, vcap, xs, hch, hw⟩ := tabOpen hw
  refine enter Tryz.func25 Tryz.ntmps25 rfl rfl fun a hs => ?_
  repeat (first | (refine sxv hs hw ?_; clear hs; intro a hs) | refine sxc hs ?_ | (refine sxa hs hw ?_; clear hs hw; intro a b W hw hs) | (refine sxs hs hw ?_; clear hs hw; intro W hs hw))
  obtain ⟨b4, q4⟩ := nm1 hw; subst q4
  obtain ⟨b3, q3⟩ := nm2 hw; subst q3
  have hw : Has 0 w0 _ (Cells p [.int .i64 t.ix, .pointer (some ⟨pf, 0, none⟩), .slice vad t.rows.length vcap] 105 :: FoldAt H pf t.f :: Sx.Own 39 5 (.slice vad t.rows.length vcap) t.rows.length xs :: Cells b4 zrc 39 :: Cells b3 (entCells e) 64 :: Fz H :: R) := hw.perm (by repeat (first | exact List.Perm.refl _ | refine perm_pick (by repeat (first | exact Pick.hd | apply Pick.tl)) ?_))
  refine rg_draw (V := [.pointer (some ⟨p, 0, none⟩), .bool false, .bool false, .pointer (some ⟨b3, 0 + 0, none⟩), .int .i64 e.ix, .pointer (some ⟨p, 0, none⟩), .pointer (some ⟨p, 0, none⟩), .pointer (some ⟨p, 0 + 0, none⟩), .int .i64 t.ix, .int .i64 (IntKind.i64.wrap (t.ix + 1)), .bool (e.ix != (IntKind.i64.wrap (t.ix + 1))), .bool (e.ix != (IntKind.i64.wrap (t.ix + 1)))])
    (Rs := fun D => Cells p [.int .i64 t.ix, .pointer (some ⟨pf, 0, none⟩), .slice vad t.rows.length vcap] 105 :: FoldAt H pf t.f :: Sx.Own 39 5 (.slice vad t.rows.length vcap) t.rows.length xs :: Cells b4 zrc 39 :: Cells b3 (entCells e) 64 :: Fz H :: R) hs hw (ho := ⟨?_, ?c1_3, ?_, ?_, ?_, ?_, ?_, ?_, ?_, ?_, ?_, ?_, trivial⟩) (k := ?k_3)
  case c1_3 =>
    intro LD D a W hcl hi hp hs hw
    repeat (first | (refine sxv hs hw ?_; clear hs; intro a hs) | refine sxc hs ?_ | (refine sxa hs hw ?_; clear hs hw; intro a b W hw hs) | (refine sxs hs hw ?_; clear hs hw; intro W hs hw) | ((with_reducible first | refine st_ptrSome hs (k := ?_) | refine st_ptrNone hs (k := ?_)); clear hs; intro a hs))
    exact ⟨hs, hw⟩
  case k_3 =>
    clear hs hw
    intro a W hs hw
    replace hs : Slots a 68 [(21, .bool (e.ix != (IntKind.i64.wrap (t.ix + 1)))), (0, .pointer (some ⟨p, 0, none⟩)), (3, .pointer (some ⟨b3, 0, none⟩)), (4, .pointer (some ⟨b4, 0, none⟩)), (5, .bool false)] := hs.of ⟨rfl, rfl, rfl, rfl, rfl, trivial⟩
    replace hw : Has 0 w0 W (Cells p [.int .i64 t.ix, .pointer (some ⟨pf, 0, none⟩), .slice vad t.rows.length vcap] 105 :: FoldAt H pf t.f :: Sx.Own 39 5 (.slice vad t.rows.length vcap) t.rows.length xs :: Cells b4 zrc 39 :: Cells b3 (entCells e) 64 :: Fz H :: R) := hw
    cases hne : (e.ix != (IntKind.i64.wrap (t.ix + 1))) with
    | true =>
      rw [hne] at hs
      have hX : applyT t e = (t, zeroRow, false) := by unfold applyT; rw [if_neg (by simpa using hne)]
      rw [hX]
      repeat (first | (refine sxv hs hw ?_; clear hs; intro a hs) | refine sxc hs ?_ | (refine sxa hs hw ?_; clear hs hw; intro a b W hw hs) | (refine sxs hs hw ?_; clear hs hw; intro W hs hw))
      have hw := tabShut hw hch
      refine rc2 hs rfl rfl hw (In.tl In.hd) rfl rfl ?_
      exact ⟨.slice none 0 0, H, rfl, Fh.le.refl _, ops_nil H, hw.sub (List.Sublist.cons_cons _ (List.Sublist.cons _ (List.Sublist.cons _ (List.Sublist.refl _))))⟩
    | false =>
    rw [hne] at hs
    have hix : e.ix = (IntKind.i64.wrap (t.ix + 1)) := by simpa using hne
    repeat (first | (refine sxv hs hw ?_; clear hs; intro a hs) | refine sxc hs ?_ | (refine sxa hs hw ?_; clear hs hw; intro a b W hw hs) | (refine sxs hs hw ?_; clear hs hw; intro W hs hw))
    have hw : Has 0 w0 W (Cells p [.int .i64 (IntKind.i64.wrap (t.ix + 1)), .pointer (some ⟨pf, 0, none⟩), .slice vad t.rows.length vcap] 105 :: FoldAt H pf t.f :: Sx.Own 39 5 (.slice vad t.rows.length vcap) t.rows.length xs :: Cells b4 zrc 39 :: Cells b3 (entCells e) 64 :: Fz H :: R) := hw
    refine st_bytes (s := e.data) hs hw (by omega) (c := ?_); clear hs hw; intro a bb bcap0 ext W hw hrb hs
    obtain ⟨⟨⟨c, q, l⟩, err⟩, hdec⟩ : ∃ x, decR e.data.data.toList = x := ⟨_, rfl⟩
    have hdl : e.data.data.toList.length ≤ 1000000 := by rw [Array.length_toList]; exact hd
    have hlen := hw.endF (by repeat (first | exact In.hd | apply In.tl)) hH
    refine st_call hs (hc := op_DecodeR _ c q l err hdec _ _ hdl hrb (hT.keep hlen)) (k := ?_); rintro e0 W1 ⟨dad, dcap, rfl, hw1⟩; refine ⟨_, rfl, ?_⟩; clear hs; intro a hs; replace hw := hw.call hw1; clear hw1
    have hw : Has 0 w0 _ (Sx.Own 95 9 (.slice dad l.length dcap) l.length (l.flatMap opCells) :: Fz H :: Cells p [.int .i64 (IntKind.i64.wrap (t.ix + 1)), .pointer (some ⟨pf, 0, none⟩), .slice vad t.rows.length vcap] 105 :: FoldAt H pf t.f :: Sx.Own 39 5 (.slice vad t.rows.length vcap) t.rows.length xs :: Cells b4 zrc 39 :: Cells b3 (entCells e) 64 :: R) := (hw.perm (B := Sx.Own 95 9 (.slice dad l.length dcap) l.length (l.flatMap opCells) :: Fz H :: Cells p [.int .i64 (IntKind.i64.wrap (t.ix + 1)), .pointer (some ⟨pf, 0, none⟩), .slice vad t.rows.length vcap] 105 :: FoldAt H pf t.f :: Sx.Own 39 5 (.slice vad t.rows.length vcap) t.rows.length xs :: Cells b4 zrc 39 :: Cells b3 (entCells e) 64 :: CellsM bb (bys e.data.data.toList ++ ext) 5 :: R) (by repeat (first | exact List.Perm.refl _ | refine perm_pick (by repeat (first | exact Pick.hd | apply Pick.tl)) ?_))).sub (List.Sublist.cons_cons _ (List.Sublist.cons_cons _ (List.Sublist.cons_cons _ (List.Sublist.cons_cons _ (List.Sublist.cons_cons _ (List.Sublist.cons_cons _ (List.Sublist.cons_cons _ (List.Sublist.cons _ (List.Sublist.refl _)))))))))
    obtain ⟨H1, hle01, hw, hbl⟩ := hw.freeze_own
    have hH1 := hH.trans hle01
    replace hch := hch.mono (RowIn.le hle01)
    have hw : Has 0 w0 _ (FoldAt H pf t.f :: Cells p [.int .i64 (IntKind.i64.wrap (t.ix + 1)), .pointer (some ⟨pf, 0, none⟩), .slice vad t.rows.length vcap] 105 :: Sx.Own 39 5 (.slice vad t.rows.length vcap) t.rows.length xs :: Cells b4 zrc 39 :: Cells b3 (entCells e) 64 :: Fz H1 :: R) := hw.perm (by repeat (first | exact List.Perm.refl _ | refine perm_pick (by repeat (first | exact Pick.hd | apply Pick.tl)) ?_))
    have hw := (foldLe hw hle01).swap2
    repeat (first | (refine sxv hs hw ?_; clear hs; intro a hs) | refine sxc hs ?_ | (refine sxa hs hw ?_; clear hs hw; intro a b W hw hs) | (refine sxs hs hw ?_; clear hs hw; intro W hs hw))
    obtain ⟨b6, q6⟩ := nm1 hw; subst q6
    have hw : Has 0 w0 _ (Cells p [.int .i64 (IntKind.i64.wrap (t.ix + 1)), .pointer (some ⟨pf, 0, none⟩), .slice vad t.rows.length vcap] 105 :: FoldAt H1 pf t.f :: Sx.Own 39 5 (.slice vad t.rows.length vcap) t.rows.length xs :: Cells b4 zrc 39 :: Cells b3 (entCells e) 64 :: Fz H1 :: Cells b6 [.int .i64 c, .int .i64 q, .slice dad l.length dcap] 36 :: R) := hw.perm (by repeat (first | exact List.Perm.refl _ | refine perm_pick (by repeat (first | exact Pick.hd | apply Pick.tl)) ?_))
    have hz : ∀ {a : Act}, applyT t e = (⟨(IntKind.i64.wrap (t.ix + 1)), t.f, t.rows⟩, zeroRow, false) → True := fun _ => trivial
    cases hk : (e.kind != 2) with
    | true =>
      rw [hk] at hs
      have hX : applyT t e = (⟨(IntKind.i64.wrap (t.ix + 1)), t.f, t.rows⟩, zeroRow, false) := by
        have hk2 : (e.kind == 2) = false := by simpa using hk
        unfold applyT; rw [if_pos hix, hk2]
      rw [hX]
      repeat (first | (refine sxv hs hw ?_; clear hs; intro a hs) | refine sxc hs ?_ | (refine sxa hs hw ?_; clear hs hw; intro a b W hw hs) | (refine sxs hs hw ?_; clear hs hw; intro W hs hw))
      have hw := tabShut (t := ⟨(IntKind.i64.wrap (t.ix + 1)), t.f, t.rows⟩) hw hch
      refine rc2 hs rfl rfl hw (In.tl In.hd) rfl rfl ?_
      exact ⟨.slice none 0 0, H1, rfl, hle01, ops_nil H1, hw.sub (List.Sublist.cons_cons _ (List.Sublist.cons _ (List.Sublist.cons _ (List.Sublist.cons_cons _ (List.Sublist.cons _ (List.Sublist.refl _))))))⟩
    | false =>
    rw [hk] at hs
    have hk2 : (e.kind == 2) = true := by simpa using hk
    cases hdo : decode e.data.data.toList with
    | none =>
      have hX : applyT t e = (⟨(IntKind.i64.wrap (t.ix + 1)), t.f, t.rows⟩, zeroRow, false) := by unfold applyT; rw [if_pos hix, hk2, hdo]
      rw [hX]
      have he : err = 1 := by unfold decR at hdec; rw [hdo] at hdec; simp at hdec; exact hdec.2.symm
      subst he
      repeat (first | (refine sxv hs hw ?_; clear hs; intro a hs) | refine sxc hs ?_ | (refine sxa hs hw ?_; clear hs hw; intro a b W hw hs) | (refine sxs hs hw ?_; clear hs hw; intro W hs hw))
      have hw := tabShut (t := ⟨(IntKind.i64.wrap (t.ix + 1)), t.f, t.rows⟩) hw hch
      refine rc2 hs rfl rfl hw (In.tl In.hd) rfl rfl ?_
      exact ⟨.slice none 0 0, H1, rfl, hle01, ops_nil H1, hw.sub (List.Sublist.cons_cons _ (List.Sublist.cons _ (List.Sublist.cons _ (List.Sublist.cons_cons _ (List.Sublist.cons _ (List.Sublist.refl _))))))⟩
    | some pd =>
    have hpe : pd = (c, q, l) ∧ err = 0 := by unfold decR at hdec; rw [hdo] at hdec; simp at hdec; exact ⟨hdec.1, hdec.2.symm⟩
    obtain ⟨rfl, rfl⟩ := hpe
    have hA1 : applyT t e = playT (IntKind.i64.wrap (t.ix + 1)) t ⟨c, q, l⟩ := by unfold applyT; rw [if_pos hix, hk2, hdo]
    have hdk := decode_ok hdl hdo
    obtain ⟨bt, hbt⟩ : ∃ b : BatchD, b = ⟨c, q, l⟩ := ⟨_, rfl⟩
    have hbo : BatOk bt := by rw [hbt]; exact ⟨hdk.1, hdk.2.1, hdk.2.2.2⟩
    rw [← hbt] at hA1
    obtain ⟨rfl, rfl, rfl⟩ : c = bt.c ∧ q = bt.q ∧ l = bt.l := by rw [hbt]; exact ⟨rfl, rfl, rfl⟩
    clear hbt hdo hdec hdk hz
    obtain ⟨bad, hbad⟩ : ∃ x, x = dad := ⟨_, rfl⟩
    obtain ⟨bcap, hbcap⟩ : ∃ x, x = dcap := ⟨_, rfl⟩
    subst hbad hbcap
    obtain ⟨N, hN⟩ : ∃ N, next t.f bt = N := ⟨_, rfl⟩
    have hbl : OpsH H1 (.slice bad bt.l.length bcap) bt.l := hbl
    repeat (first | (refine sxv hs hw ?_; clear hs; intro a hs) | refine sxc hs ?_ | (refine sxa hs hw ?_; clear hs hw; intro a b W hw hs) | (refine sxs hs hw ?_; clear hs hw; intro W hs hw))
    have hw : Has 0 w0 _ (Fz H1 :: FoldAt H1 pf t.f :: Free :: Free :: Free :: Cells p [.int .i64 (IntKind.i64.wrap (t.ix + 1)), .pointer (some ⟨pf, 0, none⟩), .slice vad t.rows.length vcap] 105 :: Cells b6 (batCells bt (.slice bad bt.l.length bcap)) 36 :: Sx.Own 39 5 (.slice vad t.rows.length vcap) t.rows.length xs :: Cells b4 zrc 39 :: Cells b3 (entCells e) 64 :: R) := (hw.free.free.free).perm (by repeat (first | exact List.Perm.refl _ | refine perm_pick (by repeat (first | exact Pick.hd | apply Pick.tl)) ?_))
    refine rg_drawU (σ := Value × Fh × Nat) (V := fun u => [.pointer (some ⟨p, 0, none⟩), .pointer (some ⟨p, 0, none⟩), .pointer (some ⟨p, 0 + 1, none⟩), .pointer (some ⟨pf, 0, none⟩), .agg ⟨batCells bt (.slice bad bt.l.length bcap)⟩, .tuple ⟨[.agg ⟨rowCells N.2.1 (u 5).1⟩, .bool N.2.2]⟩, .tuple ⟨[.agg ⟨rowCells N.2.1 (u 6).1⟩, .bool N.2.2]⟩, .agg ⟨rowCells N.2.1 (u 7).1⟩, .bool N.2.2, .pointer (some ⟨(u 9).2.2, 0, none⟩), .bool true, .bool N.2.2])
      (Rs := fun u D => (if D 5 then FzF (u 5).2.1 (H1.le (u 5).2.1 ∧ OpsH (u 5).2.1 (u 5).1 N.2.1.b.l) else Fz H1) :: (if D 5 then FoldAt (u 5).2.1 pf N.1 else FoldAt H1 pf t.f) :: (if D 9 then Cells (u 9).2.2 (if D 10 then rowCells N.2.1 (u 5).1 else zrc) 39 else Free) :: (if D 6 then Fact (u 6 = u 5) else Free) :: (if D 7 then Fact (u 7 = u 6) else Free) :: Cells p [.int .i64 (IntKind.i64.wrap (t.ix + 1)), .pointer (some ⟨pf, 0, none⟩), .slice vad t.rows.length vcap] 105 :: Cells b6 (batCells bt (.slice bad bt.l.length bcap)) 36 :: Sx.Own 39 5 (.slice vad t.rows.length vcap) t.rows.length xs :: Cells b4 zrc 39 :: Cells b3 (entCells e) 64 :: R) (fun _ => (.nilIface, H1, 0)) hs hw (hVu := ?vu_2) (ho := ⟨?_, ?_, ?_, ?_, ?_, ?c5_2, ?c6_2, ?c7_2, ?_, ?c9_2, ?c10_2, ?_, trivial⟩) (k := ?k_2)
    case vu_2 =>
      intro u u' j h
      rcases j with _ | _ | _ | _ | _ | _ | _ | _ | _ | _ | _ | _ | j
      all_goals first | rfl | simp [h]
    case c5_2 =>
      intro u LD D a W hcl hi hp hs hw
      have h6 := Go.Sx.not_done hcl hi 6 (by kernel_rfl)
      have h7 := Go.Sx.not_done hcl h6 7 (by kernel_rfl)
      have h10 := Go.Sx.not_done hcl h7 10 (by kernel_rfl)
      simp only [hi, h6, h7, h10, Bool.false_eq_true, if_false] at hw
      have hw := hw.swap2
      refine st_call hs (hc := fold_Next w0 _ H1 pf t.f bt _ _ hbo hbl hH1 hT hw) (k := ?_); rw [hN]; rintro e0 W1 ⟨sv', H2, rfl, hle, hsv, hw1⟩; refine ⟨_, rfl, ?_⟩; clear hs hw; intro a hs; have hw := hw1; clear hw1
      repeat (first | (refine sxv hs hw ?_; clear hs; intro a hs) | refine sxc hs ?_ | (refine sxa hs hw ?_; clear hs hw; intro a b W hw hs) | (refine sxs hs hw ?_; clear hs hw; intro W hs hw))
      refine Or.inr ⟨(sv', H2, 0), hs, ?_⟩
      have hw := (hw.swap2).fzf (q := H1.le H2 ∧ OpsH H2 sv' N.2.1.b.l) ⟨hle, hsv⟩
      show Has 0 w0 _ (_ :: _ :: (if D 9 then Cells (u 9).2.2 (if (Nat.beq 10 5 || D 10) = true then _ else _) _ else Free) :: (if (Nat.beq 6 5 || D 6) = true then _ else _) :: (if (Nat.beq 7 5 || D 7) = true then _ else _) :: _)
      rw [h6, h7, h10]
      exact hw
    case c6_2 =>
      intro u LD D a W hcl hi hp hs hw
      have h7 := Go.Sx.not_done hcl hi 7 (by kernel_rfl)
      simp only [hi, h7, Bool.false_eq_true, if_false] at hw
      repeat (first | (refine sxv hs hw ?_; clear hs; intro a hs) | refine sxc hs ?_ | (refine sxa hs hw ?_; clear hs hw; intro a b W hw hs) | (refine sxs hs hw ?_; clear hs hw; intro W hs hw))
      refine Or.inr ⟨u 5, hs, ?_⟩
      show Has 0 w0 _ (_ :: _ :: _ :: Fact (u 5 = u 5) :: (if (Nat.beq 7 6 || D 7) = true then _ else _) :: _)
      rw [h7]
      exact (hw.fact rfl).fill (Upd.tl (Upd.tl (Upd.tl Upd.hd)))
    case c7_2 =>
      intro u LD D a W hcl hi hp hs hw
      simp only [hi, Bool.false_eq_true, if_false] at hw
      repeat (first | (refine sxv hs hw ?_; clear hs; intro a hs) | refine sxc hs ?_ | (refine sxa hs hw ?_; clear hs hw; intro a b W hw hs) | (refine sxs hs hw ?_; clear hs hw; intro W hs hw))
      refine Or.inr ⟨u 6, hs, ?_⟩
      show Has 0 w0 _ (_ :: _ :: _ :: _ :: Fact (u 6 = u 6) :: _)
      exact (hw.fact rfl).fill (Upd.tl (Upd.tl (Upd.tl (Upd.tl Upd.hd))))
    case c9_2 =>
      intro u LD D a W hcl hi hp hs hw
      have h10 := Go.Sx.not_done hcl hi 10 (by kernel_rfl)
      simp only [hi, Bool.false_eq_true, if_false] at hw
      repeat (first | (refine sxv hs hw ?_; clear hs; intro a hs) | refine sxc hs ?_ | (refine sxa hs hw ?_; clear hs hw; intro a b W hw hs) | (refine sxs hs hw ?_; clear hs hw; intro W hs hw))
      refine Or.inr ⟨(.nilIface, H1, _), hs, ?_⟩
      show Has 0 w0 _ (_ :: _ :: Cells _ (if (Nat.beq 10 9 || D 10) = true then _ else _) _ :: _)
      rw [h10]
      exact hw.fill (Upd.tl (Upd.tl Upd.hd))
    case c10_2 =>
      intro u LD D a W hcl hi hp hs hw
      have h7 := Go.Sx.done hp 7 (by kernel_rfl)
      have h9 := Go.Sx.done hp 9 (by kernel_rfl)
      have h6 := Go.Sx.done (hcl 7 _ rfl h7) 6 (by kernel_rfl)
      have h5 := Go.Sx.done (hcl 6 _ rfl h6) 5 (by kernel_rfl)
      have e1 : (if D 7 = true then Fact (u 7 = u 6) else Free) = Fact (u 7 = u 6) := by rw [h7]; rfl
      have e2 : (if D 6 = true then Fact (u 6 = u 5) else Free) = Fact (u 6 = u 5) := by rw [h6]; rfl
      have g7 : u 7 = u 5 := by
        have hw2 := hw
        simp only [e1, e2] at hw2
        exact (hw2.told (In.tl (In.tl (In.tl (In.tl In.hd))))).trans (hw2.told (In.tl (In.tl (In.tl In.hd))))
      simp only [hi, h5, h9, Bool.false_eq_true, if_false, if_true] at hw
      obtain ⟨⟨_, hsv⟩, _⟩ := hw.unfzf
      obtain ⟨tad, tcap, e13⟩ := hsv.slice
      refine st_store hs (hw := hw) (vs := rowCells N.2.1 (u 7).1) (h1 := by rw [g7, e13]; rfl) (k := ?_); clear hs hw; intro W hs hw
      rw [show (u 7).1 = (u 5).1 from by rw [g7]] at hw
      repeat (first | (refine sxv hs hw ?_; clear hs; intro a hs) | refine sxc hs ?_ | (refine sxa hs hw ?_; clear hs hw; intro a b W hw hs) | (refine sxs hs hw ?_; clear hs hw; intro W hs hw))
      refine Or.inl ⟨hs, ?_⟩
      show Has 0 w0 _ ((if (Nat.beq 5 10 || D 5) = true then _ else _) :: (if (Nat.beq 5 10 || D 5) = true then _ else _) :: (if (Nat.beq 9 10 || D 9) = true then _ else _) :: _)
      rw [h5, h9]
      exact hw
    case k_2 =>
      clear hs hw
      intro u a W hs hw
      replace hw : Has 0 w0 W (FzF (u 5).2.1 (H1.le (u 5).2.1 ∧ OpsH (u 5).2.1 (u 5).1 N.2.1.b.l) :: FoldAt (u 5).2.1 pf N.1 :: Cells (u 9).2.2 (rowCells N.2.1 (u 5).1) 39 :: Fact (u 6 = u 5) :: Fact (u 7 = u 6) :: Cells p [.int .i64 (IntKind.i64.wrap (t.ix + 1)), .pointer (some ⟨pf, 0, none⟩), .slice vad t.rows.length vcap] 105 :: Cells b6 (batCells bt (.slice bad bt.l.length bcap)) 36 :: Sx.Own 39 5 (.slice vad t.rows.length vcap) t.rows.length xs :: Cells b4 zrc 39 :: Cells b3 (entCells e) 64 :: R) := hw
      replace hw := hw.sub (L' := FzF (u 5).2.1 (H1.le (u 5).2.1 ∧ OpsH (u 5).2.1 (u 5).1 N.2.1.b.l) :: FoldAt (u 5).2.1 pf N.1 :: Cells (u 9).2.2 (rowCells N.2.1 (u 5).1) 39 :: Cells p [.int .i64 (IntKind.i64.wrap (t.ix + 1)), .pointer (some ⟨pf, 0, none⟩), .slice vad t.rows.length vcap] 105 :: Cells b6 (batCells bt (.slice bad bt.l.length bcap)) 36 :: Sx.Own 39 5 (.slice vad t.rows.length vcap) t.rows.length xs :: Cells b4 zrc 39 :: Cells b3 (entCells e) 64 :: R) (List.Sublist.cons_cons _ (List.Sublist.cons_cons _ (List.Sublist.cons_cons _ (List.Sublist.cons _ (List.Sublist.cons _ (List.Sublist.refl _))))))
      replace hs : Slots a 68 [(0, .pointer (some ⟨p, 0, none⟩)), (4, .pointer (some ⟨b4, 0, none⟩)), (8, .pointer (some ⟨(u 9).2.2, 0, none⟩)), (9, .bool N.2.2)] := hs.of ⟨rfl, rfl, rfl, rfl, trivial⟩
      generalize (u 9).2.2 = b8 at *
      generalize (u 5).2.1 = H2 at *
      generalize (u 5).1 = sv2 at *
      clear u
      obtain ⟨⟨hle2, hsv⟩, hw⟩ := hw.unfzf
      obtain ⟨xad, xcap, rfl⟩ := hsv.slice
      replace hch := hch.mono (RowIn.le hle2)
      cases hok : N.2.2 with
      | false =>
        rw [hok] at hs
        have hX : applyT t e = (⟨(IntKind.i64.wrap (t.ix + 1)), t.f, t.rows⟩, zeroRow, false) := by rw [hA1]; unfold playT; rw [hN, hok]
        rw [hX]
        have hNe : N = (t.f, zeroRow, false) := by
          rw [← hN] at hok ⊢
          unfold next at hok ⊢
          cases hb : nextB t.f bt with
          | true => rw [hb] at hok; cases hok
          | false => rfl
        subst hNe
        have hw : Has 0 w0 W (Cells p [.int .i64 (IntKind.i64.wrap (t.ix + 1)), .pointer (some ⟨pf, 0, none⟩), .slice vad t.rows.length vcap] 105 :: FoldAt H2 pf t.f :: Sx.Own 39 5 (.slice vad t.rows.length vcap) t.rows.length xs :: Cells b8 (rowCells zeroRow (.slice xad zeroRow.b.l.length xcap)) 39 :: Cells b4 zrc 39 :: Fz H2 :: Cells b6 (batCells bt (.slice bad bt.l.length bcap)) 36 :: Cells b3 (entCells e) 64 :: R) := hw.perm (by repeat (first | exact List.Perm.refl _ | refine perm_pick (by repeat (first | exact Pick.hd | apply Pick.tl)) ?_))
        have hw := tabShut (t := ⟨(IntKind.i64.wrap (t.ix + 1)), t.f, t.rows⟩) hw hch
        repeat (first | (refine sxv hs hw ?_; clear hs; intro a hs) | refine sxc hs ?_ | (refine sxa hs hw ?_; clear hs hw; intro a b W hw hs) | (refine sxs hs hw ?_; clear hs hw; intro W hs hw))
        refine rc2 hs rfl rfl hw (In.tl (In.tl In.hd)) rfl rfl ?_
        have hw := hw.sub (L' := TabAt H2 p ⟨(IntKind.i64.wrap (t.ix + 1)), t.f, t.rows⟩ :: Fz H2 :: R) (List.Sublist.cons_cons _ (List.Sublist.cons _ (List.Sublist.cons _ (List.Sublist.cons_cons _ (List.Sublist.cons _ (List.Sublist.cons _ (List.Sublist.refl _)))))))
        exact ⟨_, H2, rfl, hle01.trans hle2, hsv, hw⟩
      | true =>
        rw [hok] at hs
        have hX : applyT t e = (⟨(IntKind.i64.wrap (t.ix + 1)), N.1, t.rows ++ [N.2.1]⟩, N.2.1, true) := by rw [hA1]; unfold playT; rw [hN, hok]
        rw [hX]
        have hr8 : N.2.1.b.l.length ≤ 1000 := by
          have h1 : (next t.f bt).2.2 = true := by rw [hN]; exact hok
          have h2 := next_row h1
          rw [hN] at h2
          rw [h2]
          have := (may_parts (nextB_may (next_ok h1).1)).2.2
          omega
        have hw : Has 0 w0 W (Cells p [.int .i64 (IntKind.i64.wrap (t.ix + 1)), .pointer (some ⟨pf, 0, none⟩), .slice vad t.rows.length vcap] 105 :: Fz H2 :: Free :: Sx.Own 39 5 (.slice vad t.rows.length vcap) t.rows.length xs :: Cells b8 (rowCells N.2.1 (.slice xad N.2.1.b.l.length xcap)) 39 :: FoldAt H2 pf N.1 :: Cells b6 (batCells bt (.slice bad bt.l.length bcap)) 36 :: Cells b4 zrc 39 :: Cells b3 (entCells e) 64 :: R) := (hw.free).perm (by repeat (first | exact List.Perm.refl _ | refine perm_pick (by repeat (first | exact Pick.hd | apply Pick.tl)) ?_))
        repeat (first | (refine sxv hs hw ?_; clear hs; intro a hs) | refine sxc hs ?_ | (refine sxa hs hw ?_; clear hs hw; intro a b W hw hs) | (refine sxs hs hw ?_; clear hs hw; intro W hs hw))
        refine rg_drawU (σ := Value × Fh × Nat × Option Addr) (V := fun u => [.pointer (some ⟨p, 0, none⟩), .pointer (some ⟨p, 0, none⟩), .pointer (some ⟨p, 0, none⟩), .pointer (some ⟨p, 0 + 2, none⟩), .slice vad t.rows.length vcap, .agg ⟨rowCells N.2.1 (.slice xad N.2.1.b.l.length xcap)⟩, .agg ⟨rowCells N.2.1 (u 6).1⟩, .slice (some ⟨(u 7).2.2.1, 0, none⟩) 1 1, .slice (u 8).2.2.2 (t.rows ++ [N.2.1]).length (u 8).2.2.1, .pointer (some ⟨p, 0, none⟩), .pointer (some ⟨p, 0 + 2, none⟩), .bool true])
          (Rs := fun u D => Cells p [.int .i64 (IntKind.i64.wrap (t.ix + 1)), .pointer (some ⟨pf, 0, none⟩), (if D 11 then .slice (u 8).2.2.2 (t.rows ++ [N.2.1]).length (u 8).2.2.1 else .slice vad t.rows.length vcap)] 105 :: (if D 6 then FzF (u 6).2.1 (H2.le (u 6).2.1 ∧ OpsH (u 6).2.1 (u 6).1 N.2.1.b.l) else Fz H2) :: (if D 7 then Cells (u 7).2.2.1 (rowCells N.2.1 (u 6).1) 39 else Free) :: (if D 8 then Sx.Own 39 5 (.slice (u 8).2.2.2 (t.rows ++ [N.2.1]).length (u 8).2.2.1) (t.rows ++ [N.2.1]).length (xs ++ rowCells N.2.1 (u 6).1) else Sx.Own 39 5 (.slice vad t.rows.length vcap) t.rows.length xs) :: Cells b8 (rowCells N.2.1 (.slice xad N.2.1.b.l.length xcap)) 39 :: FoldAt H2 pf N.1 :: Cells b6 (batCells bt (.slice bad bt.l.length bcap)) 36 :: Cells b4 zrc 39 :: Cells b3 (entCells e) 64 :: R) (fun _ => (.nilIface, H2, 0, none)) hs hw (hVu := ?vu_1) (ho := ⟨?_, ?_, ?_, ?_, ?c4_1, ?_, ?c6_1, ?c7_1, ?c8_1, ?_, ?_, ?c11_1, trivial⟩) (k := ?k_1)
        case vu_1 =>
          intro u u' j h
          rcases j with _ | _ | _ | _ | _ | _ | _ | _ | _ | _ | _ | _ | j
          all_goals first | rfl | simp [h]
        case c4_1 =>
          intro u LD D a W hcl hi hp hs hw
          have hA := Go.Sx.not_done hcl hi 8 (by kernel_rfl)
          have hS := Go.Sx.not_done hcl hA 11 (by kernel_rfl)
          have hw0 := hw
          simp only [hS, Bool.false_eq_true, if_false] at hw
          repeat (first | (refine sxv hs hw ?_; clear hs; intro a hs) | refine sxc hs ?_ | (refine sxa hs hw ?_; clear hs hw; intro a b W hw hs) | (refine sxs hs hw ?_; clear hs hw; intro W hs hw))
          exact Or.inl ⟨hs, hw0⟩
        case c6_1 =>
          intro u LD D a W hcl hi hp hs hw
          have hB := Go.Sx.not_done hcl hi 7 (by kernel_rfl)
          have hA := Go.Sx.not_done hcl hB 8 (by kernel_rfl)
          have hS := Go.Sx.not_done hcl hA 11 (by kernel_rfl)
          simp only [hi, hB, hA, hS, Bool.false_eq_true, if_false] at hw
          repeat (first | (refine sxv hs hw ?_; clear hs; intro a hs) | refine sxc hs ?_ | (refine sxa hs hw ?_; clear hs hw; intro a b W hw hs) | (refine sxs hs hw ?_; clear hs hw; intro W hs hw))
          have hw : Has 0 w0 W (Fz H2 :: Cells p [.int .i64 (IntKind.i64.wrap (t.ix + 1)), .pointer (some ⟨pf, 0, none⟩), .slice vad t.rows.length vcap] 105 :: Free :: Sx.Own 39 5 (.slice vad t.rows.length vcap) t.rows.length xs :: Cells b8 (rowCells N.2.1 (.slice xad N.2.1.b.l.length xcap)) 39 :: FoldAt H2 pf N.1 :: Cells b6 (batCells bt (.slice bad bt.l.length bcap)) 36 :: Cells b4 zrc 39 :: Cells b3 (entCells e) 64 :: R) := hw.perm (by repeat (first | exact List.Perm.refl _ | refine perm_pick (by repeat (first | exact Pick.hd | apply Pick.tl)) ?_))
          refine st_call hs (hc := table_own w0 _ H2 N.2.1 _ _ hr8 hsv hw) (k := ?_); rintro e0 W1 ⟨sv', H', rfl, h1, h2, hw1⟩; refine ⟨_, rfl, ?_⟩; clear hs hw; intro a hs; have hw := hw1; clear hw1
          repeat (first | (refine sxv hs hw ?_; clear hs; intro a hs) | refine sxc hs ?_ | (refine sxa hs hw ?_; clear hs hw; intro a b W hw hs) | (refine sxs hs hw ?_; clear hs hw; intro W hs hw))
          refine Or.inr ⟨(sv', H', 0, none), hs, ?_⟩
          have hw := hw.fzf (q := H2.le H' ∧ OpsH H' sv' N.2.1.b.l) ⟨h1, h2⟩
          show Has 0 w0 _ (Cells p [_, _, (if (Nat.beq 11 6 || D 11) = true then _ else _)] _ :: _ :: (if (Nat.beq 7 6 || D 7) = true then _ else _) :: (if (Nat.beq 8 6 || D 8) = true then _ else _) :: _)
          rw [hB, hA, hS]
          exact hw.perm (by repeat (first | exact List.Perm.refl _ | refine perm_pick (by repeat (first | exact Pick.hd | apply Pick.tl)) ?_))
        case c7_1 =>
          intro u LD D a W hcl hi hp hs hw
          have hB := hi
          have h6 := Go.Sx.done hp 6 (by kernel_rfl)
          have hA := Go.Sx.not_done hcl hB 8 (by kernel_rfl)
          have hS := Go.Sx.not_done hcl hA 11 (by kernel_rfl)
          simp only [hi, h6, hA, hS, Bool.false_eq_true, if_false, if_true] at hw
          repeat (first | (refine sxv hs hw ?_; clear hs; intro a hs) | refine sxc hs ?_ | (refine sxa hs hw ?_; clear hs hw; intro a b W hw hs) | (refine sxs hs hw ?_; clear hs hw; intro W hs hw))
          refine Or.inr ⟨(.nilIface, H2, _, none), hs, ?_⟩
          show Has 0 w0 _ (Cells p [_, _, (if (Nat.beq 11 7 || D 11) = true then _ else _)] _ :: (if (Nat.beq 6 7 || D 6) = true then _ else _) :: _ :: (if (Nat.beq 8 7 || D 8) = true then _ else _) :: _)
          rw [h6, hA, hS]
          exact hw.fill (Upd.tl (Upd.tl Upd.hd))
        case c8_1 =>
          intro u LD D a W hcl hi hp hs hw
          have hB := Go.Sx.done hp 7 (by kernel_rfl)
          have h6 := Go.Sx.done (hcl 7 _ rfl hB) 6 (by kernel_rfl)
          have hS := Go.Sx.not_done hcl hi 11 (by kernel_rfl)
          simp only [hi, hB, h6, hS, Bool.false_eq_true, if_false, if_true] at hw
          have hw : Has 0 w0 W (FzF (u 6).2.1 (H2.le (u 6).2.1 ∧ OpsH (u 6).2.1 (u 6).1 N.2.1.b.l) :: Sx.Own 39 5 (.slice vad t.rows.length vcap) t.rows.length xs :: Cells p [.int .i64 (IntKind.i64.wrap (t.ix + 1)), .pointer (some ⟨pf, 0, none⟩), .slice vad t.rows.length vcap] 105 :: Cells (u 7).2.2.1 (rowCells N.2.1 (u 6).1) 39 :: Cells b8 (rowCells N.2.1 (.slice xad N.2.1.b.l.length xcap)) 39 :: FoldAt H2 pf N.1 :: Cells b6 (batCells bt (.slice bad bt.l.length bcap)) 36 :: Cells b4 zrc 39 :: Cells b3 (entCells e) 64 :: R) := hw.perm (by repeat (first | exact List.Perm.refl _ | refine perm_pick (by repeat (first | exact Pick.hd | apply Pick.tl)) ?_))
          obtain ⟨⟨hle, hv⟩, _⟩ := hw.unfzf
          have hw : Has 0 w0 W (Sx.Own 39 5 (.slice vad t.rows.length vcap) t.rows.length xs :: FzF (u 6).2.1 (H2.le (u 6).2.1 ∧ OpsH (u 6).2.1 (u 6).1 N.2.1.b.l) :: Cells p [.int .i64 (IntKind.i64.wrap (t.ix + 1)), .pointer (some ⟨pf, 0, none⟩), .slice vad t.rows.length vcap] 105 :: Cells (u 7).2.2.1 (rowCells N.2.1 (u 6).1) 39 :: Cells b8 (rowCells N.2.1 (.slice xad N.2.1.b.l.length xcap)) 39 :: FoldAt H2 pf N.1 :: Cells b6 (batCells bt (.slice bad bt.l.length bcap)) 36 :: Cells b4 zrc 39 :: Cells b3 (entCells e) 64 :: R) := hw.swap2
          have hone := RowIn.ones (H := (u 6).2.1) N.2.1 (rowCells N.2.1 (u 6).1) ⟨_, rfl, hv⟩
          refine st_append1 hs (hw := hw) (hi := In.tl (In.tl In.hd)) (ch := (hch.mono (RowIn.le hle))) (ha := (⟨_, rfl, hv⟩ : RowIn (u 6).2.1 N.2.1 (rowCells N.2.1 (u 6).1))) (hl := rfl) (h1 := by rw [List.all_eq_true]; exact hone) (hb := by omega) (h63 := by omega) (k := ?_)
          clear hs hw; intro a ad cap W hs hw hc2
          repeat (first | (refine sxv hs hw ?_; clear hs; intro a hs) | refine sxc hs ?_ | (refine sxa hs hw ?_; clear hs hw; intro a b W hw hs) | (refine sxs hs hw ?_; clear hs hw; intro W hs hw))
          refine Or.inr ⟨(.nilIface, H2, cap, ad), hs, ?_⟩
          show Has 0 w0 _ (Cells p [_, _, (if (Nat.beq 11 8 || D 11) = true then _ else _)] _ :: (if (Nat.beq 6 8 || D 6) = true then _ else _) :: (if (Nat.beq 7 8 || D 7) = true then _ else _) :: _ :: _)
          rw [h6, hB, hS]
          exact hw.perm (by repeat (first | exact List.Perm.refl _ | refine perm_pick (by repeat (first | exact Pick.hd | apply Pick.tl)) ?_))
        case c11_1 =>
          intro u LD D a W hcl hi hp hs hw
          have hA := Go.Sx.done hp 8 (by kernel_rfl)
          simp only [hi, hA, Bool.false_eq_true, if_false, if_true] at hw
          repeat (first | (refine sxv hs hw ?_; clear hs; intro a hs) | refine sxc hs ?_ | (refine sxa hs hw ?_; clear hs hw; intro a b W hw hs) | (refine sxs hs hw ?_; clear hs hw; intro W hs hw))
          refine Or.inl ⟨hs, ?_⟩
          show Has 0 w0 _ (_ :: _ :: _ :: (if (Nat.beq 8 11 || D 8) = true then _ else _) :: _)
          rw [hA]
          exact hw
        case k_1 =>
          clear hs hw
          intro u a W hs hw
          replace hw : Has 0 w0 W (Cells p [.int .i64 (IntKind.i64.wrap (t.ix + 1)), .pointer (some ⟨pf, 0, none⟩), .slice (u 8).2.2.2 (t.rows ++ [N.2.1]).length (u 8).2.2.1] 105 :: FzF (u 6).2.1 (H2.le (u 6).2.1 ∧ OpsH (u 6).2.1 (u 6).1 N.2.1.b.l) :: Cells (u 7).2.2.1 (rowCells N.2.1 (u 6).1) 39 :: Sx.Own 39 5 (.slice (u 8).2.2.2 (t.rows ++ [N.2.1]).length (u 8).2.2.1) (t.rows ++ [N.2.1]).length (xs ++ rowCells N.2.1 (u 6).1) :: Cells b8 (rowCells N.2.1 (.slice xad N.2.1.b.l.length xcap)) 39 :: FoldAt H2 pf N.1 :: Cells b6 (batCells bt (.slice bad bt.l.length bcap)) 36 :: Cells b4 zrc 39 :: Cells b3 (entCells e) 64 :: R) := hw
          replace hs : Slots a 68 [(0, .pointer (some ⟨p, 0, none⟩)), (4, .pointer (some ⟨b4, 0, none⟩)), (8, .pointer (some ⟨b8, 0, none⟩)), (9, .bool true)] := hs.of ⟨rfl, rfl, rfl, rfl, trivial⟩
          generalize (u 8).2.2.2 = rad at *
          generalize (u 8).2.2.1 = rcap at *
          generalize (u 7).2.2.1 = bx at *
          generalize (u 6).2.1 = H3 at *
          generalize (u 6).1 = v3 at *
          clear u
          have hw : Has 0 w0 W (FzF H3 (H2.le H3 ∧ OpsH H3 v3 N.2.1.b.l) :: Cells p [.int .i64 (IntKind.i64.wrap (t.ix + 1)), .pointer (some ⟨pf, 0, none⟩), .slice rad (t.rows ++ [N.2.1]).length rcap] 105 :: Cells bx (rowCells N.2.1 v3) 39 :: Sx.Own 39 5 (.slice rad (t.rows ++ [N.2.1]).length rcap) (t.rows ++ [N.2.1]).length (xs ++ rowCells N.2.1 v3) :: Cells b8 (rowCells N.2.1 (.slice xad N.2.1.b.l.length xcap)) 39 :: FoldAt H2 pf N.1 :: Cells b6 (batCells bt (.slice bad bt.l.length bcap)) 36 :: Cells b4 zrc 39 :: Cells b3 (entCells e) 64 :: R) := hw.perm (by repeat (first | exact List.Perm.refl _ | refine perm_pick (by repeat (first | exact Pick.hd | apply Pick.tl)) ?_))
          obtain ⟨⟨hle3, hv⟩, hw⟩ := hw.unfzf
          have hw : Has 0 w0 W (FoldAt H2 pf N.1 :: Cells p [.int .i64 (IntKind.i64.wrap (t.ix + 1)), .pointer (some ⟨pf, 0, none⟩), .slice rad (t.rows ++ [N.2.1]).length rcap] 105 :: Sx.Own 39 5 (.slice rad (t.rows ++ [N.2.1]).length rcap) (t.rows ++ [N.2.1]).length (xs ++ rowCells N.2.1 v3) :: Cells b8 (rowCells N.2.1 (.slice xad N.2.1.b.l.length xcap)) 39 :: Cells b4 zrc 39 :: Fz H3 :: Cells b6 (batCells bt (.slice bad bt.l.length bcap)) 36 :: Cells b3 (entCells e) 64 :: Cells bx (rowCells N.2.1 v3) 39 :: R) := hw.perm (by repeat (first | exact List.Perm.refl _ | refine perm_pick (by repeat (first | exact Pick.hd | apply Pick.tl)) ?_))
          have hw := (foldLe hw hle3).swap2
          have hw := tabShut (t := ⟨(IntKind.i64.wrap (t.ix + 1)), N.1, t.rows ++ [N.2.1]⟩) hw ((hch.mono (RowIn.le hle3)).app (Ch.unit ⟨_, rfl, hv⟩))
          repeat (first | (refine sxv hs hw ?_; clear hs; intro a hs) | refine sxc hs ?_ | (refine sxa hs hw ?_; clear hs hw; intro a b W hw hs) | (refine sxs hs hw ?_; clear hs hw; intro W hs hw))
          refine rc2 hs rfl rfl hw (In.tl (In.tl In.hd)) rfl rfl ?_
          have hw := hw.sub (L' := TabAt H3 p ⟨(IntKind.i64.wrap (t.ix + 1)), N.1, t.rows ++ [N.2.1]⟩ :: Fz H3 :: R) (List.Sublist.cons_cons _ (List.Sublist.cons _ (List.Sublist.cons _ (List.Sublist.cons_cons _ (List.Sublist.cons _ (List.Sublist.cons _ (List.Sublist.cons _ (List.Sublist.refl _))))))))
          exact ⟨_, H3, rfl, (hle01.trans hle2).trans hle3, hsv.le hle3, hw⟩
        all_goals
          intro u LD D a W hcl hi hp hs hw
          repeat (first | (refine sxv hs hw ?_; clear hs; intro a hs) | refine sxc hs ?_ | (refine sxa hs hw ?_; clear hs hw; intro a b W hw hs) | (refine sxs hs hw ?_; clear hs hw; intro W hs hw))
          exact Or.inl ⟨hs, hw⟩
    all_goals
      intro u LD D a W hcl hi hp hs hw
      repeat (first | (refine sxv hs hw ?_; clear hs; intro a hs) | refine sxc hs ?_ | (refine sxa hs hw ?_; clear hs hw; intro a b W hw hs) | (refine sxs hs hw ?_; clear hs hw; intro W hs hw))
      exact Or.inl ⟨hs, hw⟩
  all_goals
    intro LD D a W hcl hi hp hs hw
    repeat (first | (refine sxv hs hw ?_; clear hs; intro a hs) | refine sxc hs ?_ | (refine sxa hs hw ?_; clear hs hw; intro a b W hw hs) | (refine sxs hs hw ?_; clear hs hw; intro W hs hw))
    exact ⟨hs, hw⟩
end Go.Proofs.YtmalklakaalaoaaGreatDoor.Sw
