/-
  Texts of the proof, one behind the other (part 9).
-/
import Derived.Test.YtcfaicomnngegaaDoorM8
/-
  Rows that are a fold's: the reference's Of, judge.Rows.
-/
set_option linter.unusedVariables false
set_option maxRecDepth 10000
namespace Go.Proofs.YtcfaicomnngegaaDoor.Sw
open Go.RowKit Go.Sx

/-- Are rows a fold's, from it on? -/
def ofF (f : FoldD) : List RowD → Bool
  | [] => true
  | r :: rs => (next f r.b).2.2 && (eqRow (next f r.b).2.1 r && ofF (next f r.b).1 rs)
theorem ofF_cons (f : FoldD) (r : RowD) (rs : List RowD) : ofF f (r :: rs) = ((next f r.b).2.2 && (eqRow (next f r.b).2.1 r && ofF (next f r.b).1 rs)) := rfl
theorem one_next {s : StreamD} {r : RowD} (hp : s.f.place = s.l.length) (hl : s.l.length ≤ 1000000) (h : r.place = (s.l.length : Int) + 1) : one s r = if (next s.f r.b).2.2 = true ∧ eqRow (next s.f r.b).2.1 r = true then (⟨(next s.f r.b).1, s.l ++ [(next s.f r.b).2.1]⟩, true, 0) else (s, false, 1) := by
  unfold one
  rw [if_neg (by omega), if_neg (by omega)]
  by_cases hok : (next s.f r.b).2.2 = true
  · have hn := (next_ok hok).2
    have e : ((next s.f r.b).2.1.err = r.err) ↔ eqRow (next s.f r.b).2.1 r = true := by
      rw [eqRow_iff, hn]
      show (nextR s.f r.b).err = r.err ↔ nextR s.f r.b = r
      constructor
      · intro he
        obtain ⟨pl, b, er⟩ := r
        simp only at h he
        unfold nextR at he ⊢
        simp only at he
        rw [he, hp, IntWalk.i64_in _ (by omega), h]
      · intro he; rw [he]
    by_cases he : (next s.f r.b).2.1.err = r.err
    · rw [if_pos ⟨hok, he⟩, if_pos ⟨hok, e.1 he⟩, eqRow_iff.1 (e.1 he)]
    · rw [if_neg (fun h => he h.2), if_neg (fun h => he (e.2 h.2))]
  · rw [if_neg (fun h => hok h.1), if_neg (fun h => hok h.1)]
theorem takeN_le : ∀ (rows : List RowD) (s : StreamD) (n : Nat), (takeN s n rows).2.1 ≤ n + rows.length
  | [], s, n => by simp [takeN]
  | r :: rows, s, n => by
    simp only [takeN, List.length_cons]
    split
    · split
      · have := takeN_le rows (one s r).1 (n + 1); omega
      · have := takeN_le rows (one s r).1 n; omega
    · show n ≤ _; omega
theorem take_is : ∀ (rows : List RowD) (f : FoldD) (l : List RowD) (n : Nat), f.place = l.length → l.length + rows.length ≤ 1000000 →
    (((takeN ⟨f, l⟩ n rows).2.2 = 0 ∧ (takeN ⟨f, l⟩ n rows).2.1 = n + rows.length) ↔ ofF f rows = true)
  | [], f, l, n, hp, hl => ⟨fun _ => rfl, fun _ => ⟨rfl, rfl⟩⟩
  | r :: rows, f, l, n, hp, hl => by
    simp only [List.length_cons] at hl
    have no : r.place ≠ (l.length : Int) + 1 → ofF f (r :: rows) = false := by
      intro hne
      rw [ofF_cons]
      cases hok : (next f r.b).2.2 with
      | false => rfl
      | true =>
        cases he : eqRow (next f r.b).2.1 r with
        | false => rfl
        | true =>
          exfalso
          apply hne
          have := eqRow_iff.1 he
          rw [(next_ok hok).2] at this
          have h2 := congrArg RowD.place this
          rw [← h2]
          show IntKind.i64.wrap (f.place + 1) = _
          rw [hp, IntWalk.i64_in _ (by omega)]
    by_cases hpl : r.place = (l.length : Int) + 1
    · have ho := one_next (s := ⟨f, l⟩) (r := r) hp (by show l.length ≤ _; omega) hpl
      simp only at ho
      simp only [takeN, ho]
      rw [ofF_cons]
      cases hok : (next f r.b).2.2 with
      | false => simp
      | true =>
        cases he : eqRow (next f r.b).2.1 r with
        | false => simp
        | true =>
          simp only [and_self, if_true, Bool.true_and]
          have hp2 : (next f r.b).1.place = ((l ++ [(next f r.b).2.1]).length : Nat) := by
            rw [(next_ok hok).2]
            show IntKind.i64.wrap (f.place + 1) = _
            rw [hp, IntWalk.i64_in _ (by omega)]; simp
          have ih := take_is rows (next f r.b).1 (l ++ [(next f r.b).2.1]) (n + 1) hp2 (by simp; omega)
          rw [← ih, List.length_cons]
          constructor <;> rintro ⟨h1, h2⟩ <;> exact ⟨h1, by omega⟩
    · rw [no hpl]
      constructor
      · rintro ⟨h1, h2⟩
        exfalso
        simp only [takeN, List.length_cons] at h1 h2
        by_cases hgt : r.place > (l.length : Int) + 1
        · have ho : one ⟨f, l⟩ r = (⟨f, l⟩, false, 2) := by unfold one; rw [if_pos (by exact hgt)]
          simp only [ho] at h1
          rw [if_neg (by show ¬ (2 : Int) = 0; decide)] at h1
          revert h1; show ¬ (2 : Int) = 0; decide
        · have ho : (one ⟨f, l⟩ r).1 = ⟨f, l⟩ ∧ (one ⟨f, l⟩ r).2.1 = false := by
            unfold one
            rw [if_neg (by exact hgt), if_pos (by show r.place < (l.length : Int) + 1; omega)]
            split <;> exact ⟨rfl, rfl⟩
          rw [ho.1, ho.2] at h2
          split at h2
          · have := takeN_le rows ⟨f, l⟩ n
            rw [if_neg (by decide)] at h2
            omega
          · have h2 : n = n + (rows.length + 1) := h2
            omega
      · intro h; cases h

-- pieces

set_option maxHeartbeats 8000000 in
theorem judge_Rows (l : List RowD) (v : Value) (w : World) (hl : l.length ≤ 1000000) (hb : ∀ r ∈ l, RowOk r) (r : RowsRd w v l) (hT : Tabs w) :
    Calls Tryd.prog 15 ⟨[v]⟩ w fun e w' => e = .returned (.bool (ofF emptyF l)) ∧ Below w.heap.size w w' := by
  have hr := r.h
  obtain ⟨xs, r, hch⟩ := r
  obtain ⟨sad, scap, rfl⟩ := Rd.sl r
  have hw := Has.startF w
  refine enter Tryd.func15 Tryd.ntmps15 rfl rfl fun a hs => ?_
  repeat (first | (refine sxv hs hw ?_; clear hs; intro a hs) | refine sxc hs ?_ | (refine sxa hs hw ?_; clear hs hw; intro a b W hw hs) | (refine sxs hs hw ?_; clear hs hw; intro W hs hw))
  refine st_call hs (hc := stream_New w _ (fr w) _ hw) (k := ?_); rintro e0 W1 ⟨p, rfl, hw1⟩; refine ⟨_, rfl, ?_⟩; clear hs hw; intro a hs; have hw := hw1; clear hw1
  repeat (first | (refine sxv hs hw ?_; clear hs; intro a hs) | refine sxc hs ?_ | (refine sxa hs hw ?_; clear hs hw; intro a b W hw hs) | (refine sxs hs hw ?_; clear hs hw; intro W hs hw))
  refine st_call hs (hc := stream_Take w _ (fr w) p _ l _ _ (by show 0 + l.length ≤ _; omega) hb hr (Fh.le.refl _) hT hw) (k := ?_); rintro e0 W1 ⟨H4, rfl, hle4, hw1⟩; refine ⟨_, rfl, ?_⟩; clear hs hw; intro a hs; have hw := hw1; clear hw1
  have hi := take_is l emptyF [] 0 rfl (by show 0 + l.length ≤ _; omega)
  have hn := takeN_le l ⟨emptyF, []⟩ 0
  generalize takeN ⟨emptyF, []⟩ 0 l = t at *
  repeat (first | (refine sxv hs hw ?_; clear hs; intro a hs) | refine sxc hs ?_ | (refine sxa hs hw ?_; clear hs hw; intro a b W hw hs) | (refine sxs hs hw ?_; clear hs hw; intro W hs hw))
  cases h1 : (t.2.2 == 0) with
  | false =>
    rw [h1] at hs
    repeat (first | (refine sxv hs hw ?_; clear hs; intro a hs) | refine sxc hs ?_ | (refine sxa hs hw ?_; clear hs hw; intro a b W hw hs) | (refine sxs hs hw ?_; clear hs hw; intro W hs hw))
    refine rt1 hs rfl rfl ⟨?_, hw.endF (In.tl In.hd) hle4⟩
    cases ho : ofF emptyF l with
    | false => rfl
    | true => have := (hi.2 ho).1; simp [this] at h1
  | true =>
    rw [h1] at hs
    repeat (first | (refine sxv hs hw ?_; clear hs; intro a hs) | refine sxc hs ?_ | (refine sxa hs hw ?_; clear hs hw; intro a b W hw hs) | (refine sxs hs hw ?_; clear hs hw; intro W hs hw))
    refine rt1 hs rfl rfl ⟨?_, hw.endF (In.tl In.hd) hle4⟩
    congr 2
    have h1 : t.2.2 = 0 := by simpa using h1
    rw [Nat.zero_add] at hi hn
    cases ho : ofF emptyF l with
    | true => have := (hi.2 ho).2; simp [this]
    | false =>
      cases hq : ((t.2.1 : Int) == (l.length : Int)) with
      | false => rfl
      | true =>
        have : (t.2.1 : Int) = (l.length : Int) := by simpa using hq
        rw [hi.1 ⟨h1, by omega⟩] at ho
        cases ho

set_option maxHeartbeats 16000000 in
theorem ref7_Of (l : List RowD) (v : Value) (w : World) (hb : ∀ r ∈ l, RowOk r) (r : RowsRd w v l) :
    Calls Tryd.prog 14 ⟨[v]⟩ w fun e w' => (∃ cs, e = .returned (.tuple ⟨[.agg ⟨cs⟩, .bool (ofF emptyF l)]⟩) ∧ cs.length = 38 ∧ cs.all (·.oneCell') = true) ∧ Below w.heap.size w w' := by
  have hr := r.h
  clear r
  obtain ⟨xs, hr, hch⟩ := hr
  obtain ⟨sad, scap, rfl⟩ := hr.slice
  have hlen := hr.len
  have hw := Has.startF w
  refine enter Tryd.func14 Tryd.ntmps14 rfl rfl fun a hs => ?_
  repeat (first | (refine sxv hs hw ?_; clear hs; intro a hs) | refine sxc hs ?_ | (refine sxa hs hw ?_; clear hs hw; intro a b W hw hs) | (refine sxs hs hw ?_; clear hs hw; intro W hs hw))
  obtain ⟨b4, q4⟩ := nm1 hw; subst q4
  obtain ⟨b2, q2⟩ := nm2 hw; subst q2
  replace hw : Has 0 w W (Cells b4 zrf 45 :: Cells b2 zrf 45 :: Fz (fr w) :: []) := by with_unfolding_all exact hw
  refine st_loop (σ := Nat × FoldD × List Value × Fh) (fun t => [(0, .slice sad l.length scap), (2, .pointer (some ⟨b2, 0, none⟩)), (4, .pointer (some ⟨b4, 0, none⟩)), (5, .int .i64 (t.1 : Int))]) (fun t => Cells b4 t.2.2.1 45 :: Cells b2 zrf 45 :: Fz t.2.2.2 :: []) (fun t => t.1 ≤ l.length ∧ DocOk t.2.1.d ∧ (fr w).le t.2.2.2 ∧ RfIn t.2.2.2 t.2.1 t.2.2.1 ∧ ofF t.2.1 (l.drop t.1) = ofF emptyF l) (fun t => l.length - t.1) (0, emptyF, zrf, fr w) ⟨Nat.zero_le _, DocOk.nil, Fh.le.refl _, rf_empty _, rfl⟩ hs ⟨rfl, rfl, rfl, rfl, trivial⟩ hw ?_
  clear hs hw
  rintro ⟨j, f, cs, H'⟩ a W ⟨hj, hd, hH', hf, hgo⟩ hs hw
  simp only at hj hd hH' hf hgo hs hw
  have hlen0 := hf.len
  have hone0 := hf.one
  repeat (first | (refine sxv hs hw ?_; clear hs; intro a hs) | refine sxc hs ?_ | (refine sxa hs hw ?_; clear hs hw; intro a b W hw hs) | (refine sxs hs hw ?_; clear hs hw; intro W hs hw))
  refine cd_split hs (kt := fun hcc => ?_) (kf := fun hcc => ?_)
  · have hj' : j < l.length := by simpa using hcc
    obtain ⟨ro, hri⟩ : ∃ o, l[j]? = some o := ⟨l[j], List.getElem?_eq_getElem hj'⟩
    have hok := (hb ro (List.mem_of_getElem? hri)).b
    rw [drop_of hri] at hgo
    rw [ofF_cons] at hgo
    obtain ⟨g1, f1, c1, rfl, ⟨bv, rfl, hbv⟩, hrow⟩ := ch_atH RowIn.len (hr.le hH') (hch.mono (RowIn.le hH')) rfl hri
    obtain ⟨N, hN⟩ : ∃ N, next f ro.b = N := ⟨_, rfl⟩
    have hdn := next_doc hd hok
    rw [hN] at hgo hdn
    repeat (first | (refine sxv hs hw ?_; clear hs; intro a hs) | refine sxc hs ?_ | (refine sxa hs hw ?_; clear hs hw; intro a b W hw hs) | (refine sxs hs hw ?_; clear hs hw; intro W hs hw))
    have hw : Has 0 w W (Fz H' :: Cells b4 cs 45 :: Free :: Free :: Free :: Free :: Free :: Cells b2 zrf 45 :: []) := (hw.free.free.free.free.free).perm (by repeat (first | exact List.Perm.refl _ | refine perm_pick (by repeat (first | exact Pick.hd | apply Pick.tl)) ?_))
    refine rg_drawU (σ := List Value × Value × Fh × Nat) (V := fun u => [.agg ⟨cs⟩, .slice (some ⟨g1, f1, none⟩) l.length scap, .int .i64 (j : Int), .pointer (some ⟨g1, f1 + j * 5, none⟩), .pointer (some ⟨g1, f1 + j * 5 + 1, none⟩), .agg ⟨batCells ro.b bv⟩, .tuple ⟨[.agg ⟨(u 6).1⟩, .agg ⟨rowCells N.2.1 (u 6).2.1⟩, .bool N.2.2]⟩, .tuple ⟨[.agg ⟨(u 7).1⟩, .agg ⟨rowCells N.2.1 (u 7).2.1⟩, .bool N.2.2]⟩, .agg ⟨(u 8).1⟩, .agg ⟨rowCells N.2.1 (u 9).2.1⟩, .bool N.2.2, .pointer (some ⟨(u 11).2.2.2, 0, none⟩), .pointer (some ⟨(u 12).2.2.2, 0, none⟩), .bool true, .bool true, .bool N.2.2])
      (Rs := fun u D => (if D 6 then FzF (u 6).2.2.1 (H'.le (u 6).2.2.1 ∧ RfIn (u 6).2.2.1 N.1 (u 6).1 ∧ OpsH (u 6).2.2.1 (u 6).2.1 N.2.1.b.l) else Fz H') :: Cells b4 cs 45 :: (if D 11 then Cells (u 11).2.2.2 (if D 13 then (u 6).1 else zrf) 45 else Free) :: (if D 12 then Cells (u 12).2.2.2 (if D 14 then rowCells N.2.1 (u 6).2.1 else zrc) 36 else Free) :: (if D 7 then Fact (u 7 = u 6) else Free) :: (if D 8 then Fact (u 8 = u 7) else Free) :: (if D 9 then Fact (u 9 = u 7) else Free) :: Cells b2 zrf 45 :: []) (fun _ => ([], .nilIface, H', 0)) hs hw (hVu := ?vu_6) (ho := ⟨?c0_6, ?_, ?_, ?c3_6, ?_, ?c4_6, ?c5_6, ?c6_6, ?c7_6, ?c8_6, ?_, ?c10_6, ?c11_6, ?c12_6, ?c13_6, ?_, trivial⟩) (k := ?k_6)
    case vu_6 =>
      intro u u' j h
      rcases j with _ | _ | _ | _ | _ | _ | _ | _ | _ | _ | _ | _ | _ | _ | _ | _ | j
      all_goals first | rfl | simp [h] | skip
    case c0_6 =>
      intro u LD D a W hcl hi hp hs hw
      refine st_load_agg hs (hw := hw) (hi := In.tl In.hd) (hl := by rw [hlen0]; rfl) (k := ?_); clear hs; intro a hs
      have hs2 : Slots a 41 ((17, .agg ⟨cut cs 0 38⟩) :: _) := hs
      rw [cut_all _ _ hlen0] at hs2
      repeat (first | (refine sxv hs hw ?_; clear hs; intro a hs) | refine sxc hs ?_ | (refine sxa hs hw ?_; clear hs hw; intro a b W hw hs) | (refine sxs hs hw ?_; clear hs hw; intro W hs hw))
      exact Or.inl ⟨hs2, hw⟩
    case c3_6 =>
      intro u LD D a W hcl hi hp hs hw
      refine st_index_at hs (z := zrc) (h0 := by omega) (h1 := by omega) (c := ?_); clear hs; intro a hs
      repeat (first | (refine sxv hs hw ?_; clear hs; intro a hs) | refine sxc hs ?_ | (refine sxa hs hw ?_; clear hs hw; intro a b W hw hs) | (refine sxs hs hw ?_; clear hs hw; intro W hs hw))
      exact Or.inl ⟨hs, hw⟩
    case c4_6 =>
      intro u LD D a W hcl hi hp hs hw
      have h5 := Go.Sx.not_done hcl hi 6 (by kernel_rfl)
      have hw0 := hw
      simp only [h5, Bool.false_eq_true, if_false] at hw
      refine st_load_ats hs (z := [.int .i64 0, .int .i64 0, .slice none 0 0]) (cs := batCells ro.b bv) (hc := fun j u h => by rw [Nat.add_assoc]; exact hrow In.hd hw (1 + j) u (by rw [Nat.add_comm]; match j, h with | 0, h => exact h | 1, h => exact h | 2, h => exact h)) (hl := rfl) (c := ?_); clear hs; intro a hs
      repeat (first | (refine sxv hs hw ?_; clear hs; intro a hs) | refine sxc hs ?_ | (refine sxa hs hw ?_; clear hs hw; intro a b W hw hs) | (refine sxs hs hw ?_; clear hs hw; intro W hs hw))
      exact Or.inl ⟨hs, hw0⟩
    case c5_6 =>
      intro u LD D a W hcl hi hp hs hw
      have h12 := Go.Sx.not_done hcl (Go.Sx.not_done hcl (Go.Sx.not_done hcl hi 7 (by kernel_rfl)) 8 (by kernel_rfl)) 13 (by kernel_rfl)
      have h13 := Go.Sx.not_done hcl (Go.Sx.not_done hcl (Go.Sx.not_done hcl hi 7 (by kernel_rfl)) 9 (by kernel_rfl)) 14 (by kernel_rfl)
      have h6 := Go.Sx.not_done hcl hi 7 (by kernel_rfl)
      simp only [hi, h6, h12, h13, Bool.false_eq_true, if_false] at hw
      refine st_call hs (hc := ref7_Next w _ H' f ro.b cs bv _ hf hd hok hbv hw) (k := ?_); rw [hN]; rintro e0 W1 ⟨cs', sv', H2, rfl, hle, hf2, hsv, hw1⟩; refine ⟨_, rfl, ?_⟩; clear hs hw; intro a hs; have hw := hw1; clear hw1
      repeat (first | (refine sxv hs hw ?_; clear hs; intro a hs) | refine sxc hs ?_ | (refine sxa hs hw ?_; clear hs hw; intro a b W hw hs) | (refine sxs hs hw ?_; clear hs hw; intro W hs hw))
      refine Or.inr ⟨(cs', sv', H2, 0), hs, ?_⟩
      have hw := hw.fzf (q := H'.le H2 ∧ RfIn H2 N.1 cs' ∧ OpsH H2 sv' N.2.1.b.l) ⟨hle, hf2, hsv⟩
      show Has 0 w _ (_ :: _ :: (if D 11 then Cells (u 11).2.2.2 (if (Nat.beq 13 6 || D 13) = true then _ else _) _ else Free) :: (if D 12 then Cells (u 12).2.2.2 (if (Nat.beq 14 6 || D 14) = true then _ else _) _ else Free) :: (if (Nat.beq 7 6 || D 7) = true then _ else _) :: _)
      rw [h6, h12, h13]
      exact hw
    case c6_6 =>
      intro u LD D a W hcl hi hp hs hw
      have h7 := Go.Sx.not_done hcl hi 8 (by kernel_rfl)
      have h8 := Go.Sx.not_done hcl hi 9 (by kernel_rfl)
      simp only [hi, h7, h8, Bool.false_eq_true, if_false] at hw
      repeat (first | (refine sxv hs hw ?_; clear hs; intro a hs) | refine sxc hs ?_ | (refine sxa hs hw ?_; clear hs hw; intro a b W hw hs) | (refine sxs hs hw ?_; clear hs hw; intro W hs hw))
      refine Or.inr ⟨u 6, hs, ?_⟩
      show Has 0 w _ (_ :: _ :: _ :: _ :: Fact (u 6 = u 6) :: (if (Nat.beq 8 7 || D 8) = true then _ else _) :: (if (Nat.beq 9 7 || D 9) = true then _ else _) :: _)
      rw [h7, h8]
      exact (hw.fact rfl).fill (Upd.tl (Upd.tl (Upd.tl (Upd.tl Upd.hd))))
    case c7_6 =>
      intro u LD D a W hcl hi hp hs hw
      simp only [hi, Bool.false_eq_true, if_false] at hw
      repeat (first | (refine sxv hs hw ?_; clear hs; intro a hs) | refine sxc hs ?_ | (refine sxa hs hw ?_; clear hs hw; intro a b W hw hs) | (refine sxs hs hw ?_; clear hs hw; intro W hs hw))
      refine Or.inr ⟨u 7, hs, ?_⟩
      show Has 0 w _ (_ :: _ :: _ :: _ :: _ :: Fact (u 7 = u 7) :: _)
      exact (hw.fact rfl).fill (Upd.tl (Upd.tl (Upd.tl (Upd.tl (Upd.tl Upd.hd)))))
    case c8_6 =>
      intro u LD D a W hcl hi hp hs hw
      simp only [hi, Bool.false_eq_true, if_false] at hw
      repeat (first | (refine sxv hs hw ?_; clear hs; intro a hs) | refine sxc hs ?_ | (refine sxa hs hw ?_; clear hs hw; intro a b W hw hs) | (refine sxs hs hw ?_; clear hs hw; intro W hs hw))
      refine Or.inr ⟨u 7, hs, ?_⟩
      show Has 0 w _ (_ :: _ :: _ :: _ :: _ :: _ :: Fact (u 7 = u 7) :: _)
      exact (hw.fact rfl).fill (Upd.tl (Upd.tl (Upd.tl (Upd.tl (Upd.tl (Upd.tl Upd.hd))))))
    case c10_6 =>
      intro u LD D a W hcl hi hp hs hw
      have h12 := Go.Sx.not_done hcl hi 13 (by kernel_rfl)
      simp only [hi, Bool.false_eq_true, if_false] at hw
      repeat (first | (refine sxv hs hw ?_; clear hs; intro a hs) | refine sxc hs ?_ | (refine sxa hs hw ?_; clear hs hw; intro a b W hw hs) | (refine sxs hs hw ?_; clear hs hw; intro W hs hw))
      refine Or.inr ⟨([], .nilIface, H', _), hs, ?_⟩
      show Has 0 w _ (_ :: _ :: Cells _ (if (Nat.beq 13 11 || D 13) = true then _ else _) _ :: _ :: _)
      rw [h12]
      exact hw.fill (Upd.tl (Upd.tl Upd.hd))
    case c11_6 =>
      intro u LD D a W hcl hi hp hs hw
      have h13 := Go.Sx.not_done hcl hi 14 (by kernel_rfl)
      simp only [hi, Bool.false_eq_true, if_false] at hw
      repeat (first | (refine sxv hs hw ?_; clear hs; intro a hs) | refine sxc hs ?_ | (refine sxa hs hw ?_; clear hs hw; intro a b W hw hs) | (refine sxs hs hw ?_; clear hs hw; intro W hs hw))
      refine Or.inr ⟨([], .nilIface, H', _), hs, ?_⟩
      show Has 0 w _ (_ :: _ :: _ :: Cells _ (if (Nat.beq 14 12 || D 14) = true then _ else _) _ :: _)
      rw [h13]
      exact hw.fill (Upd.tl (Upd.tl (Upd.tl Upd.hd)))
    case c12_6 =>
      intro u LD D a W hcl hi hp hs hw
      have h7 := Go.Sx.done hp 8 (by kernel_rfl)
      have h10 := Go.Sx.done hp 11 (by kernel_rfl)
      have h6 := Go.Sx.done (hcl 8 _ rfl h7) 7 (by kernel_rfl)
      have h5 := Go.Sx.done (hcl 7 _ rfl h6) 6 (by kernel_rfl)
      have e1 : (if D 8 = true then Fact (u 8 = u 7) else Free) = Fact (u 8 = u 7) := by rw [h7]; rfl
      have e2 : (if D 7 = true then Fact (u 7 = u 6) else Free) = Fact (u 7 = u 6) := by rw [h6]; rfl
      have g7 : u 8 = u 6 := by
        have hw2 := hw
        simp only [e1, e2] at hw2
        exact (hw2.told (In.tl (In.tl (In.tl (In.tl (In.tl In.hd)))))).trans (hw2.told (In.tl (In.tl (In.tl (In.tl In.hd)))))
      simp only [hi, h5, h10, Bool.false_eq_true, if_false, if_true] at hw
      obtain ⟨⟨_, hf2, _⟩, _⟩ := hw.unfzf
      rw [← g7] at hf2
      refine st_store hs (vs := (u 8).1) (hw := hw) (hz := by rw [hf2.len]; rfl) (h1 := hf2.one) (hl := by rw [hf2.len]; rfl) (k := ?_); clear hs hw; intro W hs hw
      rw [ov_all _ _ (by rw [hf2.len]; rfl)] at hw
      rw [show (u 8).1 = (u 6).1 from by rw [g7]] at hw
      repeat (first | (refine sxv hs hw ?_; clear hs; intro a hs) | refine sxc hs ?_ | (refine sxa hs hw ?_; clear hs hw; intro a b W hw hs) | (refine sxs hs hw ?_; clear hs hw; intro W hs hw))
      refine Or.inl ⟨hs, ?_⟩
      show Has 0 w _ ((if (Nat.beq 6 13 || D 6) = true then _ else _) :: _ :: (if (Nat.beq 11 13 || D 11) = true then _ else _) :: _ :: _)
      rw [h5, h10]
      exact hw
    case c13_6 =>
      intro u LD D a W hcl hi hp hs hw
      have h8 := Go.Sx.done hp 9 (by kernel_rfl)
      have h11 := Go.Sx.done hp 12 (by kernel_rfl)
      have h6 := Go.Sx.done (hcl 9 _ rfl h8) 7 (by kernel_rfl)
      have h5 := Go.Sx.done (hcl 7 _ rfl h6) 6 (by kernel_rfl)
      have e1 : (if D 9 = true then Fact (u 9 = u 7) else Free) = Fact (u 9 = u 7) := by rw [h8]; rfl
      have e2 : (if D 7 = true then Fact (u 7 = u 6) else Free) = Fact (u 7 = u 6) := by rw [h6]; rfl
      have g8 : u 9 = u 6 := by
        have hw2 := hw
        simp only [e1, e2] at hw2
        exact (hw2.told (In.tl (In.tl (In.tl (In.tl (In.tl (In.tl In.hd))))))).trans (hw2.told (In.tl (In.tl (In.tl (In.tl In.hd)))))
      simp only [hi, h5, h11, Bool.false_eq_true, if_false, if_true] at hw
      obtain ⟨⟨_, _, hsv⟩, _⟩ := hw.unfzf
      obtain ⟨tad, tcap, e13⟩ := hsv.slice
      refine st_store hs (hw := hw) (vs := rowCells N.2.1 (u 9).2.1) (h1 := by rw [g8, e13]; rfl) (k := ?_); clear hs hw; intro W hs hw
      rw [show (u 9).2.1 = (u 6).2.1 from by rw [g8]] at hw
      repeat (first | (refine sxv hs hw ?_; clear hs; intro a hs) | refine sxc hs ?_ | (refine sxa hs hw ?_; clear hs hw; intro a b W hw hs) | (refine sxs hs hw ?_; clear hs hw; intro W hs hw))
      refine Or.inl ⟨hs, ?_⟩
      show Has 0 w _ ((if (Nat.beq 6 14 || D 6) = true then _ else _) :: _ :: _ :: (if (Nat.beq 12 14 || D 12) = true then _ else _) :: _)
      rw [h5, h11]
      exact hw
    case k_6 =>
      clear hs hw
      intro u a W hs hw
      replace hw : Has 0 w W (FzF (u 6).2.2.1 (H'.le (u 6).2.2.1 ∧ RfIn (u 6).2.2.1 N.1 (u 6).1 ∧ OpsH (u 6).2.2.1 (u 6).2.1 N.2.1.b.l) :: Cells b4 cs 45 :: Cells (u 11).2.2.2 (u 6).1 45 :: Cells (u 12).2.2.2 (rowCells N.2.1 (u 6).2.1) 36 :: Fact (u 7 = u 6) :: Fact (u 8 = u 7) :: Fact (u 9 = u 7) :: Cells b2 zrf 45 :: []) := hw
      replace hw := hw.sub (L' := FzF (u 6).2.2.1 (H'.le (u 6).2.2.1 ∧ RfIn (u 6).2.2.1 N.1 (u 6).1 ∧ OpsH (u 6).2.2.1 (u 6).2.1 N.2.1.b.l) :: Cells b4 cs 45 :: Cells (u 11).2.2.2 (u 6).1 45 :: Cells (u 12).2.2.2 (rowCells N.2.1 (u 6).2.1) 36 :: Cells b2 zrf 45 :: []) (List.Sublist.cons_cons _ (List.Sublist.cons_cons _ (List.Sublist.cons_cons _ (List.Sublist.cons_cons _ (List.Sublist.cons _ (List.Sublist.cons _ (List.Sublist.cons _ (List.Sublist.refl _))))))))
      replace hs : Slots a 41 [(0, .slice (some ⟨g1, f1, none⟩) l.length scap), (2, .pointer (some ⟨b2, 0, none⟩)), (4, .pointer (some ⟨b4, 0, none⟩)), (5, .int .i64 (j : Int)), (6, .pointer (some ⟨(u 11).2.2.2, 0, none⟩)), (7, .pointer (some ⟨(u 12).2.2.2, 0, none⟩)), (8, .bool N.2.2)] := hs.of ⟨rfl, rfl, rfl, rfl, rfl, rfl, rfl, trivial⟩
      generalize (u 11).2.2.2 = b7 at *
      generalize (u 12).2.2.2 = b8 at *
      generalize (u 6).2.2.1 = H2 at *
      generalize (u 6).2.1 = sv2 at *
      generalize (u 6).1 = cs2 at *
      clear u
      obtain ⟨⟨hle, hf2, hsv⟩, hw⟩ := hw.unfzf
      have hlen2 := hf2.len
      have hone2 := hf2.one
      obtain ⟨uad, ucap, rfl⟩ := hsv.slice
      obtain ⟨g1', f1', c1', e1', ⟨bv2, rfl, hbv2⟩, hrow2⟩ := ch_atH RowIn.len (hr.le (hH'.trans hle)) (hch.mono (RowIn.le (hH'.trans hle))) rfl hri
      cases e1'
      replace hw : Has 0 w W (Fz H2 :: Cells b4 cs 45 :: Cells b7 cs2 45 :: Cells b8 (rowCells N.2.1 (.slice uad N.2.1.b.l.length ucap)) 36 :: Cells b2 zrf 45 :: []) := hw
      repeat (first | (refine sxv hs hw ?_; clear hs; intro a hs) | refine sxc hs ?_ | (refine sxa hs hw ?_; clear hs hw; intro a b W hw hs) | (refine sxs hs hw ?_; clear hs hw; intro W hs hw))
      cases hok2 : N.2.2 with
      | false =>
        rw [hok2] at hs hgo
        refine rg_draw (V := [.bool false, .bool true, .bool true, undef, undef, undef, undef, undef, undef, undef, .bool true])
          (Rs := fun D => Fz H2 :: Cells b4 cs 45 :: Cells b7 cs2 45 :: Cells b8 (rowCells N.2.1 (.slice uad N.2.1.b.l.length ucap)) 36 :: Cells b2 zrf 45 :: []) hs hw (ho := ⟨?_, ?_, ?_, ?_, ?_, ?_, ?_, ?_, ?_, ?_, ?_, trivial⟩) (k := ?k_1)
        case k_1 =>
          clear hs hw
          intro a W hs hw
          replace hs : Slots a 41 [(37, .bool true), (0, .slice (some ⟨g1, f1, none⟩) l.length scap), (2, .pointer (some ⟨b2, 0, none⟩)), (4, .pointer (some ⟨b4, 0, none⟩)), (5, .int .i64 (j : Int)), (6, .pointer (some ⟨b7, 0, none⟩)), (7, .pointer (some ⟨b8, 0, none⟩))] := hs.of ⟨rfl, rfl, rfl, rfl, rfl, rfl, rfl, trivial⟩
          rw [Bool.false_and] at hgo
          repeat (first | (refine sxv hs hw ?_; clear hs; intro a hs) | refine sxc hs ?_ | (refine sxa hs hw ?_; clear hs hw; intro a b W hw hs) | (refine sxs hs hw ?_; clear hs hw; intro W hs hw))
          refine st_load_agg hs (hw := hw) (hi := In.tl In.hd) (hl := by rw [hlen0]; rfl) (k := ?_); clear hs; intro a hs
          have hs2 : Slots a 41 ((38, .agg ⟨cut cs 0 38⟩) :: _) := hs
          rw [cut_all _ _ hlen0] at hs2
          clear hs
          have hs := hs2
          clear hs2
          repeat (first | (refine sxv hs hw ?_; clear hs; intro a hs) | refine sxc hs ?_ | (refine sxa hs hw ?_; clear hs hw; intro a b W hw hs) | (refine sxs hs hw ?_; clear hs hw; intro W hs hw))
          refine st_store hs (vs := cs) (hw := hw) (hz := by rw [hlen0]; rfl) (h1 := hone0) (hl := by rw [hlen0]; rfl) (k := ?_); clear hs hw; intro W hs hw
          rw [ov_all _ _ (by rw [hlen0]; rfl)] at hw
          repeat (first | (refine sxv hs hw ?_; clear hs; intro a hs) | refine sxc hs ?_ | (refine sxa hs hw ?_; clear hs hw; intro a b W hw hs) | (refine sxs hs hw ?_; clear hs hw; intro W hs hw))
          refine rc2 hs rfl rfl hw (In.tl (In.tl (In.tl (In.tl In.hd)))) (by rw [hlen0]; rfl) rfl ?_
          rw [← hgo]
          refine ⟨⟨cs, ?_, hlen0, hone0⟩, hw.endF In.hd (hH'.trans hle)⟩
          show Ending.returned (Value.tuple #[.agg ⟨cut cs 0 38⟩, _]) = _
          rw [cut_all _ _ hlen0]
        all_goals
          intro LD D a W hcl hi hp hs hw
          repeat (first | (refine sxv hs hw ?_; clear hs; intro a hs) | refine sxc hs ?_ | (refine sxa hs hw ?_; clear hs hw; intro a b W hw hs) | (refine sxs hs hw ?_; clear hs hw; intro W hs hw))
          exact ⟨hs, hw⟩
      | true =>
        rw [hok2] at hs hgo
        refine rg_draw (V := [.bool true, .bool false, .bool false, .agg ⟨rowCells N.2.1 (.slice uad N.2.1.b.l.length ucap)⟩, .slice (some ⟨g1, f1, none⟩) l.length scap, .int .i64 (j : Int), .pointer (some ⟨g1, f1 + j * 5, none⟩), .agg ⟨rowCells ro bv2⟩, .bool (eqRow N.2.1 ro), .bool (!eqRow N.2.1 ro), .bool (!eqRow N.2.1 ro)])
          (Rs := fun D => Fz H2 :: Cells b4 cs 45 :: Cells b7 cs2 45 :: Cells b8 (rowCells N.2.1 (.slice uad N.2.1.b.l.length ucap)) 36 :: Cells b2 zrf 45 :: []) hs hw (ho := ⟨?_, ?_, ?_, ?_, ?_, ?_, ?c6_2, ?c7_2, ?c8_2, ?_, ?_, trivial⟩) (k := ?k_2)
        case c6_2 =>
          intro LD D a W hcl hi hp hs hw
          repeat (first | (refine sxv hs hw ?_; clear hs; intro a hs) | refine sxc hs ?_ | (refine sxa hs hw ?_; clear hs hw; intro a b W hw hs) | (refine sxs hs hw ?_; clear hs hw; intro W hs hw))
          refine st_index_at hs (z := zrc) (h0 := by omega) (h1 := by omega) (c := ?_); clear hs; intro a hs
          repeat (first | (refine sxv hs hw ?_; clear hs; intro a hs) | refine sxc hs ?_ | (refine sxa hs hw ?_; clear hs hw; intro a b W hw hs) | (refine sxs hs hw ?_; clear hs hw; intro W hs hw))
          exact ⟨hs, hw⟩
        case c7_2 =>
          intro LD D a W hcl hi hp hs hw
          repeat (first | (refine sxv hs hw ?_; clear hs; intro a hs) | refine sxc hs ?_ | (refine sxa hs hw ?_; clear hs hw; intro a b W hw hs) | (refine sxs hs hw ?_; clear hs hw; intro W hs hw))
          refine st_load_ats (z := zrc) hs (cs := rowCells ro bv2) (hc := fun j u h => hrow2 In.hd hw j u h) (hl := by rfl) (c := ?_); clear hs; intro a hs
          repeat (first | (refine sxv hs hw ?_; clear hs; intro a hs) | refine sxc hs ?_ | (refine sxa hs hw ?_; clear hs hw; intro a b W hw hs) | (refine sxs hs hw ?_; clear hs hw; intro W hs hw))
          exact ⟨hs, hw⟩
        case c8_2 =>
          intro LD D a W hcl hi hp hs hw
          repeat (first | (refine sxv hs hw ?_; clear hs; intro a hs) | refine sxc hs ?_ | (refine sxa hs hw ?_; clear hs hw; intro a b W hw hs) | (refine sxs hs hw ?_; clear hs hw; intro W hs hw))
          refine st_call hs (hc := ref_EqRow N.2.1 ro _ bv2 _ (hw.rdH In.hd hsv) (hw.rdH In.hd hbv2)) (k := ?_); rintro e0 W1 ⟨rfl, hb⟩; refine ⟨_, rfl, ?_⟩; clear hs; intro a hs; replace hw := hw.below hb; clear hb
          repeat (first | (refine sxv hs hw ?_; clear hs; intro a hs) | refine sxc hs ?_ | (refine sxa hs hw ?_; clear hs hw; intro a b W hw hs) | (refine sxs hs hw ?_; clear hs hw; intro W hs hw))
          exact ⟨hs, hw⟩
        case k_2 =>
          clear hs hw
          intro a W hs hw
          replace hs : Slots a 41 [(37, .bool (!eqRow N.2.1 ro)), (0, .slice (some ⟨g1, f1, none⟩) l.length scap), (2, .pointer (some ⟨b2, 0, none⟩)), (4, .pointer (some ⟨b4, 0, none⟩)), (5, .int .i64 (j : Int)), (6, .pointer (some ⟨b7, 0, none⟩)), (7, .pointer (some ⟨b8, 0, none⟩))] := hs.of ⟨rfl, rfl, rfl, rfl, rfl, rfl, rfl, trivial⟩
          cases he : eqRow N.2.1 ro with
          | false =>
            rw [he] at hs hgo
            rw [Bool.true_and, Bool.false_and] at hgo
            repeat (first | (refine sxv hs hw ?_; clear hs; intro a hs) | refine sxc hs ?_ | (refine sxa hs hw ?_; clear hs hw; intro a b W hw hs) | (refine sxs hs hw ?_; clear hs hw; intro W hs hw))
            refine st_load_agg hs (hw := hw) (hi := In.tl In.hd) (hl := by rw [hlen0]; rfl) (k := ?_); clear hs; intro a hs
            have hs2 : Slots a 41 ((38, .agg ⟨cut cs 0 38⟩) :: _) := hs
            rw [cut_all _ _ hlen0] at hs2
            clear hs
            have hs := hs2
            clear hs2
            repeat (first | (refine sxv hs hw ?_; clear hs; intro a hs) | refine sxc hs ?_ | (refine sxa hs hw ?_; clear hs hw; intro a b W hw hs) | (refine sxs hs hw ?_; clear hs hw; intro W hs hw))
            refine st_store hs (vs := cs) (hw := hw) (hz := by rw [hlen0]; rfl) (h1 := hone0) (hl := by rw [hlen0]; rfl) (k := ?_); clear hs hw; intro W hs hw
            rw [ov_all _ _ (by rw [hlen0]; rfl)] at hw
            repeat (first | (refine sxv hs hw ?_; clear hs; intro a hs) | refine sxc hs ?_ | (refine sxa hs hw ?_; clear hs hw; intro a b W hw hs) | (refine sxs hs hw ?_; clear hs hw; intro W hs hw))
            refine rc2 hs rfl rfl hw (In.tl (In.tl (In.tl (In.tl In.hd)))) (by rw [hlen0]; rfl) rfl ?_
            rw [← hgo]
            refine ⟨⟨cs, ?_, hlen0, hone0⟩, hw.endF In.hd (hH'.trans hle)⟩
            show Ending.returned (Value.tuple #[.agg ⟨cut cs 0 38⟩, _]) = _
            rw [cut_all _ _ hlen0]
          | true =>
            rw [he] at hs hgo
            rw [Bool.true_and, Bool.true_and] at hgo
            repeat (first | (refine sxv hs hw ?_; clear hs; intro a hs) | refine sxc hs ?_ | (refine sxa hs hw ?_; clear hs hw; intro a b W hw hs) | (refine sxs hs hw ?_; clear hs hw; intro W hs hw))
            refine st_load_agg hs (hw := hw) (hi := In.tl (In.tl In.hd)) (hl := by rw [hlen2]; rfl) (k := ?_); clear hs; intro a hs
            have hs2 : Slots a 41 ((39, .agg ⟨cut cs2 0 38⟩) :: _) := hs
            rw [cut_all _ _ hlen2] at hs2
            clear hs
            have hs := hs2
            clear hs2
            refine st_store hs (vs := cs2) (hw := hw) (hz := by rw [hlen2]; rfl) (h1 := hone2) (hl := by rw [hlen2, hlen0]; rfl) (k := ?_); clear hs hw; intro W hs hw
            rw [ov_all _ _ (by rw [hlen2, hlen0])] at hw
            repeat (first | (refine sxv hs hw ?_; clear hs; intro a hs) | refine sxc hs ?_ | (refine sxa hs hw ?_; clear hs hw; intro a b W hw hs) | (refine sxs hs hw ?_; clear hs hw; intro W hs hw))
            have hw : Has 0 w W (Cells b4 cs2 45 :: Cells b2 zrf 45 :: Fz H2 :: Cells b7 cs2 45 :: Cells b8 (rowCells N.2.1 (.slice uad N.2.1.b.l.length ucap)) 36 :: []) := hw.perm (by repeat (first | exact List.Perm.refl _ | refine perm_pick (by repeat (first | exact Pick.hd | apply Pick.tl)) ?_))
            have hw := hw.sub (L' := Cells b4 cs2 45 :: Cells b2 zrf 45 :: Fz H2 :: []) (List.Sublist.cons_cons _ (List.Sublist.cons_cons _ (List.Sublist.cons_cons _ (List.Sublist.cons _ (List.Sublist.cons _ (List.Sublist.refl _))))))
            exact st_again (j + 1, N.1, cs2, H2) hs hw ⟨hj', hdn, hH'.trans hle, hf2, hgo⟩ (by show l.length - (j + 1) < l.length - j; omega) ⟨rfl, rfl, rfl, int_eq (by show IntKind.i64.wrap ((j : Int) + 1) = ((j + 1 : Nat) : Int); rw [IntWalk.i64_in _ (by omega)]; omega), trivial⟩
        all_goals
          intro LD D a W hcl hi hp hs hw
          repeat (first | (refine sxv hs hw ?_; clear hs; intro a hs) | refine sxc hs ?_ | (refine sxa hs hw ?_; clear hs hw; intro a b W hw hs) | (refine sxs hs hw ?_; clear hs hw; intro W hs hw))
          exact ⟨hs, hw⟩
    all_goals
      intro u LD D a W hcl hi hp hs hw
      repeat (first | (refine sxv hs hw ?_; clear hs; intro a hs) | refine sxc hs ?_ | (refine sxa hs hw ?_; clear hs hw; intro a b W hw hs) | (refine sxs hs hw ?_; clear hs hw; intro W hs hw))
      exact Or.inl ⟨hs, hw⟩
  · have hj' : j = l.length := by have : ¬ j < l.length := by simpa using hcc
                                  omega
    subst hj'
    rw [List.drop_length] at hgo
    replace hgo : true = ofF emptyF l := hgo
    repeat (first | (refine sxv hs hw ?_; clear hs; intro a hs) | refine sxc hs ?_ | (refine sxa hs hw ?_; clear hs hw; intro a b W hw hs) | (refine sxs hs hw ?_; clear hs hw; intro W hs hw))
    refine st_load_agg hs (hw := hw) (hi := In.hd) (hl := by rw [hlen0]; rfl) (k := ?_); clear hs; intro a hs
    have hs2 : Slots a 41 ((40, .agg ⟨cut cs 0 38⟩) :: _) := hs
    rw [cut_all _ _ hlen0] at hs2
    clear hs
    have hs := hs2
    clear hs2
    repeat (first | (refine sxv hs hw ?_; clear hs; intro a hs) | refine sxc hs ?_ | (refine sxa hs hw ?_; clear hs hw; intro a b W hw hs) | (refine sxs hs hw ?_; clear hs hw; intro W hs hw))
    refine st_store hs (vs := cs) (hw := hw) (hz := by rw [hlen0]; rfl) (h1 := hone0) (hl := by rw [hlen0]; rfl) (k := ?_); clear hs hw; intro W hs hw
    rw [ov_all _ _ (by rw [hlen0]; rfl)] at hw
    repeat (first | (refine sxv hs hw ?_; clear hs; intro a hs) | refine sxc hs ?_ | (refine sxa hs hw ?_; clear hs hw; intro a b W hw hs) | (refine sxs hs hw ?_; clear hs hw; intro W hs hw))
    refine rc2 hs rfl rfl hw (In.tl In.hd) (by rw [hlen0]; rfl) rfl ?_
    rw [← hgo]
    refine ⟨⟨cs, ?_, hlen0, hone0⟩, hw.endF (In.tl (In.tl In.hd)) hH'⟩
    show Ending.returned (Value.tuple #[.agg ⟨cut cs 0 38⟩, _]) = _
    rw [cut_all _ _ hlen0]

end Go.Proofs.YtcfaicomnngegaaDoor.Sw

/-
  The judge: Longest; the law's cut.
-/
set_option linter.unusedVariables false
set_option maxRecDepth 10000
namespace Go.Sx
theorem set_mid {cs1 c cs2 : List Value} {m : Nat} {x : Value} (hm : m < c.length) : (cs1 ++ (c ++ cs2)).set (cs1.length + m) x = cs1 ++ (c.set m x ++ cs2) := by
  rw [List.set_append_right _ _ (Nat.le_add_right _ _), Nat.add_sub_cancel_left, List.set_append_left _ _ hm]
/-- A part's cell is written. -/
theorem Ch.set_in {α : Type} {R R' : α → List Value → Prop} {k m i : Nat} {x : Value} {l : List α} {a a' : α} {cs : List Value} (hk : ∀ a c, R a c → c.length = k) (h : Ch R l cs) (hi : l[i]? = some a) (hm : m < k) (hx : ∀ c, R a c → R a' (c.set m x)) : Ch R (l.set i a') (cs.set (i * k + m) x) := by
  obtain ⟨cs1, c, cs2, rfl, h1, h2, h3, h4⟩ := h.split hk hi
  have hl := hk a c h2
  have hlt := (List.getElem?_eq_some_iff.1 hi).1
  rw [← h1, set_mid (by omega), List.set_eq_take_append_cons_drop, if_pos hlt]
  exact h3.app ⟨c.set m x, cs2, rfl, hx c h2, h4⟩
theorem set_same {α : Type} {l : List α} {i : Nat} {a : α} (h : l[i]? = some a) : l.set i a = l := by
  apply List.ext_getElem?
  intro j
  rw [List.getElem?_set]
  split
  · rename_i e
    subst e
    split
    · exact h.symm
    · rename_i hn
      exact absurd (List.getElem?_eq_some_iff.1 h).1 hn
  · rfl
/-- A cell of a part, in the block. -/
theorem Ch.at_cur {α : Type} {R : α → List Value → Prop} {k i n j : Nat} {l : List α} {a : α} {cs cur c : List Value} {u : Value} (hcut : cut cs (i * k) k = c) (ht : cur.take n = cs) (hu : c[j]? = some u) : cur[i * k + j]? = some u := by
  have h1 := congrArg (fun t => t[j]?) hcut
  simp only [cut_eq, List.getElem?_take, List.getElem?_drop, hu] at h1
  split at h1
  · rw [← ht, List.getElem?_take] at h1
    split at h1
    · exact h1
    · cases h1
  · cases h1
end Go.Sx
namespace Go.Proofs.YtcfaicomnngegaaDoor.Sw
open Go.RowKit Go.Sx

theorem RowsH.rds {H : Fh} {G : Nat} {w0 W : World} {L : List Res} {v : Value} {rows : List RowD} (r : RowsH H v rows) (h : Has G w0 W L) (i : In (Fz H) L) : RowsRd W v rows := by
  obtain ⟨xs, h1, h2⟩ := r
  exact ⟨xs, h.rdH i h1, rowRd h i h2⟩
theorem BatsH.rds {H : Fh} {G : Nat} {w0 W : World} {L : List Res} {v : Value} {l : List BatchD} (r : BatsH H v l) (h : Has G w0 W L) (i : In (Fz H) L) : BatsRd W v l := by
  obtain ⟨xs, h1, h2⟩ := r
  exact ⟨xs, h.rdH i h1, h2.mono fun b c ⟨sv, e, hr⟩ => ⟨sv, e, h.rdH i hr⟩⟩
theorem RowsH.sl {H : Fh} {v : Value} {rows : List RowD} (r : RowsH H v rows) : ∃ ad cap, v = .slice ad rows.length cap := by
  obtain ⟨xs, h1, _⟩ := r
  exact h1.slice
theorem Has.drop1 {G : Nat} {w W : World} {r : Res} {R : List Res} (h : Has G w W (r :: R)) : Has G w W R := h.sub (List.Sublist.cons _ (List.Sublist.refl _))

set_option maxHeartbeats 4000000 in
theorem clone_rows (w0 W : World) (H : Fh) (n : Nat) (xs : List Value) (sv : Value) (R : List Res) (hl : n ≤ 1000000) (h1 : ∀ u ∈ xs, u.oneCell' = true) (r : RdH H 5 sv n xs) (hw : Has 0 w0 W (Fz H :: R)) :
    Calls Tryd.prog 21 ⟨[sv]⟩ W fun e W' => ∃ ad cap, e = .returned (.slice ad n cap) ∧ Has 0 w0 W' (Sx.Own 36 5 (.slice ad n cap) n xs :: Fz H :: R) := by
  obtain ⟨sad, scap, rfl⟩ := r.slice
  refine enter Tryd.func21 Tryd.ntmps21 rfl rfl fun a hs => ?_
  repeat (first | (refine sxv hs hw ?_; clear hs; intro a hs) | refine sxc hs ?_ | (refine sxa hs hw ?_; clear hs hw; intro a b W hw hs) | (refine sxs hs hw ?_; clear hs hw; intro W hs hw))
  refine st_eqnil hs (c := ?_); clear hs; intro a hs
  cases sad with
  | none =>
    repeat (first | (refine sxv hs hw ?_; clear hs; intro a hs) | refine sxc hs ?_ | (refine sxa hs hw ?_; clear hs hw; intro a b W hw hs) | (refine sxs hs hw ?_; clear hs hw; intro W hs hw))
    have h0 : n = 0 ∧ xs = [] := by
      obtain ⟨hx, ad, cap, e, _, _, h | ⟨b, o, cs, T, z, h, _⟩⟩ := r
      · subst h; exact ⟨rfl, List.eq_nil_of_length_eq_zero (by omega)⟩
      · injection e with e1 _ _
        rw [← e1] at h; cases h
    obtain ⟨rfl, rfl⟩ := h0
    exact rt1 hs rfl rfl ⟨none, 0, rfl, hw.nilOwn 36 5⟩
  | some A =>
    rw [show (some A).isNone = false from rfl] at hs
    repeat (first | (refine sxv hs hw ?_; clear hs; intro a hs) | refine sxc hs ?_ | (refine sxa hs hw ?_; clear hs hw; intro a b W hw hs) | (refine sxs hs hw ?_; clear hs hw; intro W hs hw))
    refine st_buildSlice0 hs hw (c := ?_); clear hs hw; intro a ad W hw hs
    repeat (first | (refine sxv hs hw ?_; clear hs; intro a hs) | refine sxc hs ?_ | (refine sxa hs hw ?_; clear hs hw; intro a b W hw hs) | (refine sxs hs hw ?_; clear hs hw; intro W hs hw))
    refine st_append hs (hw := hw) (k := 0) (m := n) (xs := []) (news := xs) (hsrc := src_rd (hw.rdH (In.tl In.hd) r) h1) (h63 := by omega) (hb := by omega) (c := ?_)
    clear hs hw; intro a ad2 cap2 W hs hw
    repeat (first | (refine sxv hs hw ?_; clear hs; intro a hs) | refine sxc hs ?_ | (refine sxa hs hw ?_; clear hs hw; intro a b W hw hs) | (refine sxs hs hw ?_; clear hs hw; intro W hs hw))
    rw [List.nil_append, Nat.zero_add] at hw
    rw [Nat.zero_add] at hs
    exact rt1 hs rfl rfl ⟨ad2, cap2, rfl, hw⟩

/-- The longest list, the first of them. -/
def longer (best x : List RowD) : List RowD := if best.length < x.length then x else best
def longL (ls : List (List RowD)) : List RowD := ls.foldl longer []

set_option maxHeartbeats 16000000 in
theorem judge_Longest (ls : List (List RowD)) (v : Value) (w : World) (hs1 : ∀ l ∈ ls, l.length ≤ 1000000 ∧ ∀ r ∈ l, r.b.l.length ≤ 1000) (r : ListsRd w v ls) :
    Calls Tryd.prog 10 ⟨[v]⟩ w fun e w' => (∃ v', e = .returned v' ∧ RowsRd w' v' (longL ls)) ∧ Below w.heap.size w w' := by
  obtain ⟨xs, r, hch⟩ := r
  obtain ⟨sad, scap, rfl⟩ := Rd.sl r
  have hlen := r.len
  have hw := Has.start (G := 0) (w := w) (Nat.zero_le _)
  refine enter Tryd.func10 Tryd.ntmps10 rfl rfl fun a hs => ?_
  repeat (first | (refine sxv hs hw ?_; clear hs; intro a hs) | refine sxc hs ?_ | (refine sxa hs hw ?_; clear hs hw; intro a b W hw hs) | (refine sxs hs hw ?_; clear hs hw; intro W hs hw))
  refine st_loop (σ := Nat × List RowD × Value) (fun t => [(3, t.2.2), (8, .slice sad ls.length scap), (9, .int .i64 (ls.length : Int)), (10, .int .i64 (t.1 : Int))]) (fun _ => Old w 0 :: []) (fun t => t.1 ≤ ls.length ∧ RowsRd w t.2.2 t.2.1 ∧ (t.2.1.length ≤ 1000000 ∧ ∀ r ∈ t.2.1, r.b.l.length ≤ 1000) ∧ (ls.drop t.1).foldl longer t.2.1 = longL ls) (fun t => ls.length - t.1) (0, [], .slice none 0 0) ⟨Nat.zero_le _, ⟨[], Rd.nil _ _ _ (by omega), rfl⟩, ⟨Nat.zero_le _, by simp⟩, rfl⟩ hs ⟨rfl, rfl, rfl, rfl, trivial⟩ hw ?_
  clear hs hw
  rintro ⟨i, best, bv⟩ a W ⟨hi, hbv, hbs, hgo⟩ hs hw
  simp only at hi hbv hbs hgo hs hw
  have ⟨bad, bcap, ebv⟩ : ∃ ad cap, bv = .slice ad best.length cap := by obtain ⟨_, h1, _⟩ := hbv; exact Rd.sl h1
  subst ebv
  repeat (first | (refine sxv hs hw ?_; clear hs; intro a hs) | refine sxc hs ?_ | (refine sxa hs hw ?_; clear hs hw; intro a b W hw hs) | (refine sxs hs hw ?_; clear hs hw; intro W hs hw))
  refine cd_split hs (kt := fun hcc => ?_) (kf := fun hcc => ?_)
  · have hi' : i < ls.length := by simpa using hcc
    obtain ⟨x, hxi⟩ : ∃ o, ls[i]? = some o := ⟨ls[i], List.getElem?_eq_getElem hi'⟩
    have hxs := hs1 x (List.mem_of_getElem? hxi)
    rw [drop_of hxi, List.foldl_cons] at hgo
    repeat (first | (refine sxv hs hw ?_; clear hs; intro a hs) | refine sxc hs ?_ | (refine sxa hs hw ?_; clear hs hw; intro a b W hw hs) | (refine sxs hs hw ?_; clear hs hw; intro W hs hw))
    refine st_index_ch hs (r := hw.rd (by repeat (first | exact In.hd | apply In.tl)) hw.ext.size r) (hk := ListRd.len) (ch := hch) (ho := hxi) (hlen := rfl) (c := ?_); clear hs; intro a g off c hcb hcl hpc hlt hs
    obtain ⟨xv, rfl, hxr⟩ := hcb
    obtain ⟨xad, xcap, exv⟩ : ∃ ad cap, xv = .slice ad x.length cap := by obtain ⟨_, h1, _⟩ := hxr; exact Rd.sl h1
    subst exv
    refine st_load_at hs (hc := hpc 0 _ rfl) (c := ?_); clear hs; intro a hs
    clear hpc
    repeat (first | (refine sxv hs hw ?_; clear hs; intro a hs) | refine sxc hs ?_ | (refine sxa hs hw ?_; clear hs hw; intro a b W hw hs) | (refine sxs hs hw ?_; clear hs hw; intro W hs hw))
    cases hgt : decide ((x.length : Int) > (best.length : Int)) with
    | true =>
      rw [hgt] at hs
      have : longer best x = x := if_pos (by have := of_decide_eq_true hgt; omega)
      rw [this] at hgo
      repeat (first | (refine sxv hs hw ?_; clear hs; intro a hs) | refine sxc hs ?_ | (refine sxa hs hw ?_; clear hs hw; intro a b W hw hs) | (refine sxs hs hw ?_; clear hs hw; intro W hs hw))
      exact st_again (i + 1, x, .slice xad x.length xcap) hs hw ⟨hi', hxr, hxs, hgo⟩ (by show ls.length - (i + 1) < ls.length - i; omega) ⟨rfl, rfl, rfl, int_eq (by show IntKind.i64.wrap ((i : Int) + 1) = ((i + 1 : Nat) : Int); rw [IntWalk.i64_in _ (by omega)]; omega), trivial⟩
    | false =>
      rw [hgt] at hs
      have : longer best x = best := if_neg (by have := of_decide_eq_false hgt; omega)
      rw [this] at hgo
      repeat (first | (refine sxv hs hw ?_; clear hs; intro a hs) | refine sxc hs ?_ | (refine sxa hs hw ?_; clear hs hw; intro a b W hw hs) | (refine sxs hs hw ?_; clear hs hw; intro W hs hw))
      exact st_again (i + 1, best, .slice bad best.length bcap) hs hw ⟨hi', hbv, hbs, hgo⟩ (by show ls.length - (i + 1) < ls.length - i; omega) ⟨rfl, rfl, rfl, int_eq (by show IntKind.i64.wrap ((i : Int) + 1) = ((i + 1 : Nat) : Int); rw [IntWalk.i64_in _ (by omega)]; omega), trivial⟩
  · have hi' : i = ls.length := by have : ¬ i < ls.length := by simpa using hcc
                                   omega
    subst hi'
    rw [List.drop_length] at hgo
    replace hgo : best = longL ls := hgo
    rw [← hgo]
    clear hgo hcc r hch
    have hbel := hw.end In.hd
    have hbv := hbv.below hbel
    obtain ⟨xs1, hb0, hbc0⟩ := hbv.h
    have hw0 := Has.startF W
    clear hw
    have hw := hw0
    clear hw0
    repeat (first | (refine sxv hs hw ?_; clear hs; intro a hs) | refine sxc hs ?_ | (refine sxa hs hw ?_; clear hs hw; intro a b W hw hs) | (refine sxs hs hw ?_; clear hs hw; intro W hs hw))
    refine st_call hs (hc := clone_rows W _ (fr W) best.length xs1 _ _ hbs.1 (hbc0.ones RowIn.ones) hb0 hw) (k := ?_); rintro e0 W1 ⟨ad, cap, rfl, hw1⟩; refine ⟨_, rfl, ?_⟩; clear hs hw; intro a hs; have hw := hw1; clear hw1
    repeat (first | (refine sxv hs hw ?_; clear hs; intro a hs) | refine sxc hs ?_ | (refine sxa hs hw ?_; clear hs hw; intro a b W hw hs) | (refine sxs hs hw ?_; clear hs hw; intro W hs hw))
    refine st_loop (σ := Nat × Fh × List Value) (fun t => [(6, .slice ad best.length cap), (24, .int .i64 (best.length : Int)), (25, .int .i64 (t.1 : Int))]) (fun t => Sx.Own 36 5 (.slice ad best.length cap) best.length t.2.2 :: Fz t.2.1 :: []) (fun t => t.1 ≤ best.length ∧ (fr W).le t.2.1 ∧ Ch (RowIn t.2.1) best t.2.2) (fun t => best.length - t.1) (0, fr W, xs1) ⟨Nat.zero_le _, Fh.le.refl _, hbc0⟩ hs ⟨rfl, rfl, rfl, trivial⟩ hw ?_
    clear hs hw
    rintro ⟨j, H1, zs⟩ a W1 ⟨hj, hle1, hzs⟩ hs hw
    simp only at hj hle1 hzs hs hw
    repeat (first | (refine sxv hs hw ?_; clear hs; intro a hs) | refine sxc hs ?_ | (refine sxa hs hw ?_; clear hs hw; intro a b W hw hs) | (refine sxs hs hw ?_; clear hs hw; intro W hs hw))
    refine cd_split hs (kt := fun hcc => ?_) (kf := fun hcc => ?_)
    · have hj' : j < best.length := by simpa using hcc
      obtain ⟨x, hxj⟩ : ∃ o, best[j]? = some o := ⟨best[j], List.getElem?_eq_getElem hj'⟩
      have hx8 := hbs.2 x (List.mem_of_getElem? hxj)
      obtain ⟨g, cur, rfl, hcur, hcl0, hkc, hcm, hw⟩ := hw.open_own (by omega)
      obtain ⟨c, ⟨xv, rfl, hxv⟩, hcut⟩ := hzs.mem RowIn.len hxj
      obtain ⟨xad, xcap, rfl⟩ := hxv.slice
      have hat := Ch.at_cur (R := RowIn H1) (l := best) (a := x) (j := 3) hcut hcur rfl
      repeat (first | (refine sxv hs hw ?_; clear hs; intro a hs) | refine sxc hs ?_ | (refine sxa hs hw ?_; clear hs hw; intro a b W hw hs) | (refine sxs hs hw ?_; clear hs hw; intro W hs hw))
      refine st_index_at hs (z := zrc) (h0 := by omega) (h1 := by omega) (c := ?_); clear hs; intro a hs
      repeat (first | (refine sxv hs hw ?_; clear hs; intro a hs) | refine sxc hs ?_ | (refine sxa hs hw ?_; clear hs hw; intro a b W hw hs) | (refine sxs hs hw ?_; clear hs hw; intro W hs hw))
      refine st_load_one hs (hw := hw) (hi := In.hd) (hv := by show cur[0 + j * 5 + 1 + 2]? = _; rw [Nat.zero_add, Nat.add_assoc]; exact hat) (k := ?_); clear hs; intro a hs
      refine st_call hs (hc := clone_ops W _ H1 x.b.l _ (Cells g cur 36 :: []) hx8 hxv (hw.perm (by repeat (first | exact List.Perm.refl _ | refine perm_pick (by repeat (first | exact Pick.hd | apply Pick.tl)) ?_)))) (k := ?_); rintro e0 W2 ⟨nv, H2, rfl, hle2, hnv, hw1⟩; refine ⟨_, rfl, ?_⟩; clear hs hw; intro a hs; have hw := hw1; clear hw1
      obtain ⟨nad, ncap, rfl⟩ := hnv.slice
      repeat (first | (refine sxv hs hw ?_; clear hs; intro a hs) | refine sxc hs ?_ | (refine sxa hs hw ?_; clear hs hw; intro a b W hw hs) | (refine sxs hs hw ?_; clear hs hw; intro W hs hw))
      refine st_index_at hs (z := zrc) (h0 := by omega) (h1 := by omega) (c := ?_); clear hs; intro a hs
      repeat (first | (refine sxv hs hw ?_; clear hs; intro a hs) | refine sxc hs ?_ | (refine sxa hs hw ?_; clear hs hw; intro a b W hw hs) | (refine sxs hs hw ?_; clear hs hw; intro W hs hw))
      refine st_store hs (hw := hw) (vs := [.slice nad x.b.l.length ncap]) (hl := by show Nat.ble (0 + j * 5 + 1 + 2 + 1) cur.length = true; rw [hcl0]; apply Nat.ble_eq_true_of_le; omega) (k := ?_); clear hs hw; intro W2 hs hw
      rw [ov_one] at hw
      repeat (first | (refine sxv hs hw ?_; clear hs; intro a hs) | refine sxc hs ?_ | (refine sxa hs hw ?_; clear hs hw; intro a b W hw hs) | (refine sxs hs hw ?_; clear hs hw; intro W hs hw))
      have hw : Has 0 W W2 (Cells g (cur.set (j * 5 + 3) (.slice nad x.b.l.length ncap)) 36 :: Fz H2 :: []) := by
        have e : (0 : Nat) + j * 5 + 1 + 2 = j * 5 + 3 := by omega
        have this : Has 0 W W2 (Cells g (cur.set (0 + j * 5 + 1 + 2) (.slice nad x.b.l.length ncap)) 36 :: Fz H2 :: []) := hw.perm (by repeat (first | exact List.Perm.refl _ | refine perm_pick (by repeat (first | exact Pick.hd | apply Pick.tl)) ?_))
        rw [e] at this
        exact this
      have hw := hw.shut_own (k := best.length) (size := 5) (cap := cap) (xs := zs.set (j * 5 + 3) (.slice nad x.b.l.length ncap)) (by rw [List.take_set, hcur]) (by rw [List.length_set]; exact hcl0) hkc hcm
      have hz2 := (hzs.mono (RowIn.le hle2)).set_in (R' := RowIn H2) (m := 3) (x := .slice nad x.b.l.length ncap) (a' := x) RowIn.len hxj (by decide) (by rintro c ⟨sv, rfl, h⟩; exact ⟨_, rfl, hnv⟩)
      rw [set_same hxj] at hz2
      exact st_again (j + 1, H2, zs.set (j * 5 + 3) (.slice nad x.b.l.length ncap)) hs hw ⟨hj', hle1.trans hle2, hz2⟩ (by show best.length - (j + 1) < best.length - j; omega) ⟨rfl, rfl, int_eq (by show IntKind.i64.wrap ((j : Int) + 1) = ((j + 1 : Nat) : Int); rw [IntWalk.i64_in _ (by omega)]; omega), trivial⟩
    · have hj' : j = best.length := by have : ¬ j < best.length := by simpa using hcc
                                       omega
      subst hj'
      repeat (first | (refine sxv hs hw ?_; clear hs; intro a hs) | refine sxc hs ?_ | (refine sxa hs hw ?_; clear hs hw; intro a b W hw hs) | (refine sxs hs hw ?_; clear hs hw; intro W hs hw))
      exact rt1 hs rfl rfl ⟨⟨_, rfl, ⟨zs, hw.rd_own In.hd, rowRd hw (In.tl In.hd) hzs⟩⟩, hbel.trans ((hw.endF (In.tl In.hd) hle1).mono hbel.size)⟩

/-- A row cut. -/
def cutRow (r : RowD) : RowD := ⟨r.place, cutB r.b, r.err⟩
theorem cutRow_ok {r : RowD} (h : RowWf r) : RowOk (cutRow r) := ⟨wf_i64 h.place, wf_i64 h.err, cutB_ok h.b⟩
def cutRows (l : List RowD) : List RowD := (l.take 12).map cutRow

set_option maxHeartbeats 16000000 in
theorem law28_cut (w0 W : World) (H : Fh) (l : List RowD) (v : Value) (R : List Res) (hb : ∀ r ∈ l, RowWf r) (hr : RowsH H v l) (hw : Has 0 w0 W (Fz H :: R)) :
    Calls Tryd.prog 13 ⟨[v]⟩ W fun e W' => ∃ v' H', e = .returned v' ∧ H.le H' ∧ RowsH H' v' (cutRows l) ∧ Has 0 w0 W' (Fz H' :: R) := by
  obtain ⟨xs, hr, hch⟩ := hr
  obtain ⟨sad, scap, rfl⟩ := hr.slice
  have hlen := hr.len
  refine enter Tryd.func13 Tryd.ntmps13 rfl rfl fun a hs => ?_
  repeat (first | (refine sxv hs hw ?_; clear hs; intro a hs) | refine sxc hs ?_ | (refine sxa hs hw ?_; clear hs hw; intro a b W hw hs) | (refine sxs hs hw ?_; clear hs hw; intro W hs hw))
  have hw := hw.nilOwn 36 5
  refine st_loop (σ := Nat × Option Addr × Nat × List Value × Fh) (fun t => [(0, .slice sad l.length scap), (3, .slice t.2.1 ((l.take t.1).map cutRow).length t.2.2.1), (4, .int .i64 (t.1 : Int))]) (fun t => Sx.Own 36 5 (.slice t.2.1 ((l.take t.1).map cutRow).length t.2.2.1) ((l.take t.1).map cutRow).length t.2.2.2.1 :: Fz t.2.2.2.2 :: R) (fun t => t.1 ≤ l.length ∧ t.1 ≤ 12 ∧ H.le t.2.2.2.2 ∧ Ch (RowIn t.2.2.2.2) ((l.take t.1).map cutRow) t.2.2.2.1) (fun t => l.length - t.1) (0, none, 0, [], H) ⟨Nat.zero_le _, Nat.zero_le _, Fh.le.refl _, rfl⟩ hs ⟨rfl, rfl, rfl, trivial⟩ hw ?_
  clear hs hw
  rintro ⟨j, oad, ocap, ys, H1⟩ a W ⟨hj, hj12, hle1, hch2⟩ hs hw
  simp only at hj hj12 hle1 hch2 hs hw
  have fin : (l.take j).map cutRow = cutRows l → ∀ (a : Act) (W : World), Slots a 32 [(3, .slice oad ((l.take j).map cutRow).length ocap)] → Has 0 w0 W (Sx.Own 36 5 (.slice oad ((l.take j).map cutRow).length ocap) ((l.take j).map cutRow).length ys :: Fz H1 :: R) → ∃ H2, H.le H2 ∧ RowsH H2 (.slice oad ((l.take j).map cutRow).length ocap) (cutRows l) ∧ Has 0 w0 W (Fz H2 :: R) := by
    intro he a W hs hw
    obtain ⟨H2, h1, h2, h3⟩ := hw.freeze_own
    refine ⟨H2, hle1.trans h1, ⟨ys, he ▸ h3, he ▸ (hch2.mono (RowIn.le h1))⟩, h2⟩
  repeat (first | (refine sxv hs hw ?_; clear hs; intro a hs) | refine sxc hs ?_ | (refine sxa hs hw ?_; clear hs hw; intro a b W hw hs) | (refine sxs hs hw ?_; clear hs hw; intro W hs hw))
  cases hc1 : decide ((j : Int) < (l.length : Int)) with
  | false =>
    rw [hc1] at hs
    have hj' : j = l.length := by have := of_decide_eq_false hc1; omega
    repeat (first | (refine sxv hs hw ?_; clear hs; intro a hs) | refine sxc hs ?_ | (refine sxa hs hw ?_; clear hs hw; intro a b W hw hs) | (refine sxs hs hw ?_; clear hs hw; intro W hs hw))
    obtain ⟨H2, h1, h2, h3⟩ := fin (by unfold cutRows; rw [List.take_of_length_le (by omega), List.take_of_length_le (by omega)]) a W (hs.of ⟨rfl, trivial⟩) hw
    exact rt1 hs rfl rfl ⟨_, H2, rfl, h1, h2, h3⟩
  | true =>
  rw [hc1] at hs
  have hj' : j < l.length := by have := of_decide_eq_true hc1; omega
  repeat (first | (refine sxv hs hw ?_; clear hs; intro a hs) | refine sxc hs ?_ | (refine sxa hs hw ?_; clear hs hw; intro a b W hw hs) | (refine sxs hs hw ?_; clear hs hw; intro W hs hw))
  cases hc2 : decide ((j : Int) < 12) with
  | false =>
    rw [hc2] at hs
    have hjn' : j = 12 := by have := of_decide_eq_false hc2; omega
    repeat (first | (refine sxv hs hw ?_; clear hs; intro a hs) | refine sxc hs ?_ | (refine sxa hs hw ?_; clear hs hw; intro a b W hw hs) | (refine sxs hs hw ?_; clear hs hw; intro W hs hw))
    obtain ⟨H2, h1, h2, h3⟩ := fin (by rw [hjn']; rfl) a W (hs.of ⟨rfl, trivial⟩) hw
    exact rt1 hs rfl rfl ⟨_, H2, rfl, h1, h2, h3⟩
  | true =>
  rw [hc2] at hs
  have hjn' : j < 12 := by have := of_decide_eq_true hc2; omega
  clear fin
  obtain ⟨r, hri⟩ : ∃ o, l[j]? = some o := ⟨l[j], List.getElem?_eq_getElem hj'⟩
  have hok := hb r (List.mem_of_getElem? hri)
  have hnext : ((l.take (j + 1)).map cutRow) = ((l.take j).map cutRow) ++ [cutRow r] := by rw [take_of hri, List.map_append]; rfl
  have htk : ((l.take j).map cutRow).length ≤ 12 := by rw [List.length_map, List.length_take]; omega
  repeat (first | (refine sxv hs hw ?_; clear hs; intro a hs) | refine sxc hs ?_ | (refine sxa hs hw ?_; clear hs hw; intro a b W hw hs) | (refine sxs hs hw ?_; clear hs hw; intro W hs hw))
  refine st_index_ch hs (r := hw.rdH (by repeat (first | exact In.hd | apply In.tl)) (hr.le hle1)) (hk := RowIn.len) (ch := hch.mono (RowIn.le hle1)) (ho := hri) (hlen := rfl) (c := ?_); clear hs; intro a g off c hc hcl hpc hlt hs
  obtain ⟨rv, rfl, hrv⟩ := hc
  obtain ⟨rad, rcap, rfl⟩ := hrv.slice
  refine st_load_ats hs (cs := rowCells r (.slice rad r.b.l.length rcap)) (hc := hpc) (hl := by rfl) (c := ?_); clear hs; intro a hs
  clear hpc
  repeat (first | (refine sxv hs hw ?_; clear hs; intro a hs) | refine sxc hs ?_ | (refine sxa hs hw ?_; clear hs hw; intro a b W hw hs) | (refine sxs hs hw ?_; clear hs hw; intro W hs hw))
  obtain ⟨bb, qb⟩ := nm1 hw; subst qb
  obtain ⟨b6, q6⟩ := nm2 hw; subst q6
  have hw : Has 0 w0 _ (Cells bb (batCells r.b (.slice rad r.b.l.length rcap)) 33 :: Fz H1 :: Cells b6 (rowCells r (.slice rad r.b.l.length rcap)) 36 :: Sx.Own 36 5 (.slice oad ((l.take j).map cutRow).length ocap) ((l.take j).map cutRow).length ys :: R) := hw.perm (by repeat (first | exact List.Perm.refl _ | refine perm_pick (by repeat (first | exact Pick.hd | apply Pick.tl)) ?_))
  obtain ⟨H2, hle2, hw, hbt⟩ := hw.freeze_lit (m := 1) (sz := 3) rfl (by decide)
  have hbats : BatsH H2 (.slice (some ⟨bb, 0, none⟩) 1 1) [r.b] := ⟨_, hbt, Ch.unit ⟨_, rfl, hrv.le hle2⟩⟩
  refine st_call hs (hc := law7_Batches w0 _ H2 [r.b] _ 1 _ (by decide) (fun b h => by rw [List.mem_singleton] at h; subst h; exact hok.b) hbats hw) (k := ?_); rintro e0 W1 ⟨v', H3, rfl, hle3, ⟨bxs, hbr, hbc⟩, hw1⟩; refine ⟨_, rfl, ?_⟩; clear hs hw; intro a hs; have hw := hw1; clear hw1
  replace hbr : RdH H3 3 v' 1 bxs := hbr
  obtain ⟨bad, bcap, rfl⟩ := hbr.slice
  refine st_index_ch (i := 0) hs (r := hw.rdH (by repeat (first | exact In.hd | apply In.tl)) hbr) (hk := BatIn.len) (ch := hbc) (ho := rfl) (hlen := rfl) (c := ?_); clear hs; intro a g2 off2 c hc hcl hpc hlt hs
  obtain ⟨nv, rfl, hnv⟩ := hc
  obtain ⟨nad, ncap, rfl⟩ := hnv.slice
  refine st_load_ats hs (cs := batCells (cutB r.b) (.slice nad (cutD r.b.l).length ncap)) (hc := hpc) (hl := by rfl) (c := ?_); clear hs; intro a hs
  clear hpc
  repeat (first | (refine sxv hs hw ?_; clear hs; intro a hs) | refine sxc hs ?_ | (refine sxa hs hw ?_; clear hs hw; intro a b W hw hs) | (refine sxs hs hw ?_; clear hs hw; intro W hs hw))
  obtain ⟨bx, qx⟩ := nm1 hw; subst qx
  have hw : Has 0 w0 _ (Sx.Own 36 5 (.slice oad ((l.take j).map cutRow).length ocap) ((l.take j).map cutRow).length ys :: Cells bx (rowCells (cutRow r) (.slice nad (cutD r.b.l).length ncap)) 36 :: Fz H3 :: Cells b6 (rowCells (cutRow r) (.slice nad (cutD r.b.l).length ncap)) 36 :: R) := hw.perm (by repeat (first | exact List.Perm.refl _ | refine perm_pick (by repeat (first | exact Pick.hd | apply Pick.tl)) ?_))
  refine st_append1 hs (hw := hw) (hi := In.hd) (ch := hch2.mono (RowIn.le (hle2.trans hle3))) (ha := (⟨_, rfl, hnv⟩ : RowIn H3 (cutRow r) (rowCells (cutRow r) (.slice nad (cutD r.b.l).length ncap)))) (hl := rfl) (h1 := rfl) (hb := by omega) (h63 := by omega) (k := ?_)
  clear hs hw; intro a ad2 cap2 W hs hw hc2
  rw [← hnext] at hs hw hc2
  repeat (first | (refine sxv hs hw ?_; clear hs; intro a hs) | refine sxc hs ?_ | (refine sxa hs hw ?_; clear hs hw; intro a b W hw hs) | (refine sxs hs hw ?_; clear hs hw; intro W hs hw))
  exact st_again (j + 1, ad2, cap2, ys ++ rowCells (cutRow r) (.slice nad (cutD r.b.l).length ncap), H3) hs (hw.sub (List.Sublist.cons_cons _ (List.Sublist.cons _ (List.Sublist.cons_cons _ (List.Sublist.cons _ (List.Sublist.refl _)))))) ⟨hj', hjn', (hle1.trans hle2).trans hle3, hc2⟩ (by show l.length - (j + 1) < l.length - j; omega) ⟨rfl, rfl, int_eq (by show IntKind.i64.wrap ((j : Int) + 1) = ((j + 1 : Nat) : Int); rw [IntWalk.i64_in _ (by omega)]; omega), trivial⟩
end Go.Proofs.YtcfaicomnngegaaDoor.Sw

/-
  Sx: a literal's block, read as a slice.
-/
set_option linter.unusedVariables false
set_option maxRecDepth 10000
namespace Go.Sx
theorem Has.rd_lit {G : Nat} {w W : World} {R : List Res} {E : TypeId} {b n size : Nat} {cs : List Value} (h : Has G w W R) (i : In (Cells b cs E) R) (hl : cs.length = n * size) (hn : n ≤ 9223372036854775807) : Rd W size (.slice (some ⟨b, 0, none⟩) n n) n cs := by
  have hb := (h.block i).1
  refine ⟨hl, _, _, rfl, Nat.le_refl _, hn, .inr ⟨b, 0, rfl, (h.block i).2.2, fun j x hx => ?_⟩⟩
  rw [cell_block hb]
  simpa using hx
end Go.Sx

/-
  packhorselaw28.begun; the walk of JudgePairs.
-/
set_option linter.unusedVariables false
set_option maxRecDepth 10000
namespace Go.Proofs.YtcfaicomnngegaaDoor.Sw
open Go.RowKit Go.Sx

abbrev r1 : RowD := ⟨1, b1, 0⟩
theorem of_r1 : ofF emptyF [r1] = true := by kernel_rfl
theorem one_r1 : oneB [[r1], [], [r1]] = true := by kernel_rfl
theorem iss_r1 : issuedB [r1] [b1] = true := by kernel_rfl
theorem iss_r0 : issuedB [r1] [] = false := by kernel_rfl
theorem long_r1 : longL [[], [r1]] = [r1] := rfl
theorem r1_ok : ∀ r ∈ [r1], RowOk r := by
  intro r hr
  exact rows_ok b1_wf r (by rw [rows_b1]; exact hr)
theorem RowsRd.none (W : World) : RowsRd W (.slice none 0 0) [] := ⟨[], Rd.nil _ _ _ (by omega), rfl⟩
theorem BatsRd.none (W : World) : BatsRd W (.slice none 0 0) [] := ⟨[], Rd.nil _ _ _ (by omega), rfl⟩
section
variable {G b : Nat} {w0 W : World} {L : List Res} {E : TypeId} {v1 v2 v3 : Value} {l1 l2 l3 : List RowD}
theorem lists2 (h : Has G w0 W L) (i : In (Cells b [v1, v2] E) L) (h1 : RowsRd W v1 l1) (h2 : RowsRd W v2 l2) : ListsRd W (.slice (some ⟨b, 0, none⟩) 2 2) [l1, l2] :=
  ⟨[v1, v2], h.rd_lit (n := 2) (size := 1) i rfl (by decide), [v1], [v2], rfl, ⟨v1, rfl, h1⟩, [v2], [], rfl, ⟨v2, rfl, h2⟩, rfl⟩
theorem lists3 (h : Has G w0 W L) (i : In (Cells b [v1, v2, v3] E) L) (h1 : RowsRd W v1 l1) (h2 : RowsRd W v2 l2) (h3 : RowsRd W v3 l3) : ListsRd W (.slice (some ⟨b, 0, none⟩) 3 3) [l1, l2, l3] :=
  ⟨[v1, v2, v3], h.rd_lit (n := 3) (size := 1) i rfl (by decide), [v1], [v2, v3], rfl, ⟨v1, rfl, h1⟩, [v2], [v3], rfl, ⟨v2, rfl, h2⟩, [v3], [], rfl, ⟨v3, rfl, h3⟩, rfl⟩
end

set_option maxHeartbeats 16000000 in
theorem law28_begun (w : World) (hT : Tabs w) :
    Calls Tryd.prog 7 ⟨[]⟩ w fun e w' => e = .returned (.bool true) ∧ Below w.heap.size w w' := by
  have hw := Has.startF w
  refine enter Tryd.func7 Tryd.ntmps7 rfl rfl fun a hs => ?_
  repeat (first | (refine sxv hs hw ?_; clear hs; intro a hs) | refine sxc hs ?_ | (refine sxa hs hw ?_; clear hs hw; intro a b W hw hs) | (refine sxs hs hw ?_; clear hs hw; intro W hs hw))
  obtain ⟨bb, qb⟩ := nm1 hw; subst qb
  obtain ⟨bo, qo⟩ := nm2 hw; subst qo
  have hw : Has 0 w _ (Cells bo (opCells addN) 56 :: Fz (fr w) :: Cells bb (batCells b1 (.slice (some ⟨bo, 0, none⟩) 1 1)) 33 :: []) := hw.perm (by repeat (first | exact List.Perm.refl _ | refine perm_pick (by repeat (first | exact Pick.hd | apply Pick.tl)) ?_))
  obtain ⟨H1, hle1, hw, hop⟩ := hw.freeze_lit (m := 1) (sz := 9) rfl (by decide)
  obtain ⟨H2, hle2, hw, hbt⟩ := hw.swap2.freeze_lit (m := 1) (sz := 3) rfl (by decide)
  have hle := hle1.trans hle2
  have hbats : BatsH H2 (.slice (some ⟨bb, 0, none⟩) 1 1) [b1] := ⟨_, hbt, Ch.unit ⟨_, rfl, RdH.le (n := 1) (xs := [addN].flatMap opCells) hop hle2⟩⟩
  refine st_call hs (hc := law21_Rows w _ H2 [b1] _ _ b1_wf hbats hw) (k := ?_); rintro e0 W1 ⟨v, H3, rfl, hle3, hrows, hw1⟩; refine ⟨_, rfl, ?_⟩; clear hs hw; intro a hs; have hw := hw1; clear hw1
  rw [rows_b1] at hrows
  replace hle3 := hle.trans hle3
  obtain ⟨ad, cap, rfl⟩ : ∃ ad cap, v = .slice ad 1 cap := hrows.sl
  repeat (first | (refine sxv hs hw ?_; clear hs; intro a hs) | refine sxc hs ?_ | (refine sxa hs hw ?_; clear hs hw; intro a b W hw hs) | (refine sxs hs hw ?_; clear hs hw; intro W hs hw))
  refine st_call hs (hc := judge_Rows [r1] _ _ (by decide) r1_ok (hrows.rds hw In.hd) (hT.keep (hw.endF In.hd hle3))) (k := ?_); rintro e0 W1 ⟨rfl, hb⟩; refine ⟨_, rfl, ?_⟩; clear hs; intro a hs; replace hw := hw.below hb; clear hb
  rw [of_r1] at hs
  repeat (first | (refine sxv hs hw ?_; clear hs; intro a hs) | refine sxc hs ?_ | (refine sxa hs hw ?_; clear hs hw; intro a b W hw hs) | (refine sxs hs hw ?_; clear hs hw; intro W hs hw))
  refine st_call hs (hc := judge_One _ _ _ (lists3 hw In.hd (hrows.rds hw (In.tl In.hd)) (RowsRd.none _) (hrows.rds hw (In.tl In.hd)))) (k := ?_); rintro e0 W1 ⟨rfl, hb⟩; refine ⟨_, rfl, ?_⟩; clear hs; intro a hs; replace hw := hw.below hb; clear hb
  rw [one_r1] at hs
  repeat (first | (refine sxv hs hw ?_; clear hs; intro a hs) | refine sxc hs ?_ | (refine sxa hs hw ?_; clear hs hw; intro a b W hw hs) | (refine sxs hs hw ?_; clear hs hw; intro W hs hw))
  obtain ⟨xs, hr, hch⟩ := id hrows
  refine st_index_ch (i := 0) hs (r := hw.rdH (In.tl In.hd) hr) (hk := RowIn.len) (ch := hch) (ho := rfl) (hlen := rfl) (c := ?_); clear hs; intro a g off c hcb hcl hpc hlt hs
  obtain ⟨rv, rfl, hrv⟩ := hcb
  obtain ⟨rad, rcap, rfl⟩ := hrv.slice
  repeat (first | (refine sxv hs hw ?_; clear hs; intro a hs) | refine sxc hs ?_ | (refine sxa hs hw ?_; clear hs hw; intro a b W hw hs) | (refine sxs hs hw ?_; clear hs hw; intro W hs hw))
  refine st_load_ats (z := [.int .i64 0, .int .i64 0, .slice none 0 0]) hs (cs := batCells b1 (.slice rad [addN].length rcap)) (hc := fun j u h => by rw [Nat.add_assoc]; exact hpc (1 + j) u (by rw [Nat.add_comm]; match j, h with | 0, h => exact h | 1, h => exact h | 2, h => exact h)) (hl := by rfl) (c := ?_); clear hs; intro a hs
  clear hpc
  repeat (first | (refine sxv hs hw ?_; clear hs; intro a hs) | refine sxc hs ?_ | (refine sxa hs hw ?_; clear hs hw; intro a b W hw hs) | (refine sxs hs hw ?_; clear hs hw; intro W hs hw))
  refine st_call hs (hc := judge_Issued [r1] [b1] _ _ _ (hrows.rds hw (In.tl (In.tl In.hd))) ⟨_, hw.rd_lit (n := 1) (size := 3) In.hd rfl (by decide), Ch.unit ⟨_, rfl, hw.rdH (In.tl (In.tl In.hd)) hrv⟩⟩) (k := ?_); rintro e0 W1 ⟨rfl, hb⟩; refine ⟨_, rfl, ?_⟩; clear hs; intro a hs; replace hw := hw.below hb; clear hb
  rw [iss_r1] at hs
  repeat (first | (refine sxv hs hw ?_; clear hs; intro a hs) | refine sxc hs ?_ | (refine sxa hs hw ?_; clear hs hw; intro a b W hw hs) | (refine sxs hs hw ?_; clear hs hw; intro W hs hw))
  refine st_call hs (hc := judge_Issued [r1] [] _ _ _ (hrows.rds hw (In.tl (In.tl In.hd))) (BatsRd.none _)) (k := ?_); rintro e0 W1 ⟨rfl, hb⟩; refine ⟨_, rfl, ?_⟩; clear hs; intro a hs; replace hw := hw.below hb; clear hb
  rw [iss_r0] at hs
  repeat (first | (refine sxv hs hw ?_; clear hs; intro a hs) | refine sxc hs ?_ | (refine sxa hs hw ?_; clear hs hw; intro a b W hw hs) | (refine sxs hs hw ?_; clear hs hw; intro W hs hw))
  refine st_call hs (hc := judge_Longest [[], [r1]] _ _ (fun l hl => by rcases List.mem_cons.1 hl with rfl | hl; exact ⟨by decide, by simp⟩; rw [List.mem_singleton] at hl; subst hl; exact ⟨by decide, by simp⟩) (lists2 hw In.hd (RowsRd.none _) (hrows.rds hw (In.tl (In.tl (In.tl In.hd)))))) (k := ?_); rintro e0 W1 ⟨⟨v', rfl, hr'⟩, hb⟩; refine ⟨_, rfl, ?_⟩; clear hs; intro a hs; replace hw := hw.below hb; clear hb
  rw [long_r1] at hr'
  obtain ⟨ad', cap', rfl⟩ : ∃ ad cap, v' = .slice ad 1 cap := by obtain ⟨_, h1, _⟩ := hr'; exact Rd.sl h1
  repeat (first | (refine sxv hs hw ?_; clear hs; intro a hs) | refine sxc hs ?_ | (refine sxa hs hw ?_; clear hs hw; intro a b W hw hs) | (refine sxs hs hw ?_; clear hs hw; intro W hs hw))
  exact rt1 hs rfl rfl ⟨rfl, hw.endF (In.tl (In.tl (In.tl In.hd))) hle3⟩

theorem oneB_pair (x y : List RowD) : oneB [x, y] = (front y x || front x y) := by
  simp [oneB, fr2, List.range_succ]
theorem oneB_trip (x y z : List RowD) : oneB [x, y, z] = (oneB [x, y] && oneB [y, z] && oneB [x, z]) := by
  rw [oneB_pair, oneB_pair, oneB_pair]
  simp only [oneB, fr2, List.length_cons, List.length_nil, List.range_succ, List.range_zero, List.nil_append, List.cons_append, List.all_cons, List.all_nil, Bool.and_true, Bool.true_and, List.getD_cons_zero, List.getD_cons_succ]
  cases front y x <;> cases front x y <;> cases front z x <;> cases front x z <;> cases front z y <;> cases front y z <;> rfl
theorem oneB_swap (x y : List RowD) : oneB [x, y] = oneB [y, x] := by rw [oneB_pair, oneB_pair, Bool.or_comm]

set_option maxHeartbeats 16000000 in
theorem walk_JudgePairs (l1 : List BatchD) (v1 : Value) (l2 : List BatchD) (v2 : Value) (l3 : List BatchD) (v3 : Value) (w : World) (hb1 : ∀ b ∈ l1, BatWf b) (hr1 : BatsRd w v1 l1) (hb2 : ∀ b ∈ l2, BatWf b) (hr2 : BatsRd w v2 l2) (hb3 : ∀ b ∈ l3, BatWf b) (hr3 : BatsRd w v3 l3) (hT : Tabs w) :
    Calls Tryd.prog 6 ⟨[v1, v2, v3]⟩ w fun e w' => e = .returned (.bool true) ∧ Below w.heap.size w w' := by
  have hw := Has.startF w
  refine enter Tryd.func6 Tryd.ntmps6 rfl rfl fun a hs => ?_
  repeat (first | (refine sxv hs hw ?_; clear hs; intro a hs) | refine sxc hs ?_ | (refine sxa hs hw ?_; clear hs hw; intro a b W hw hs) | (refine sxs hs hw ?_; clear hs hw; intro W hs hw))
  refine st_call hs (hc := law28_begun _ hT) (k := ?_); rintro e0 W1 ⟨rfl, hb⟩; refine ⟨_, rfl, ?_⟩; clear hs; intro a hs; replace hw := hw.below hb; clear hb
  repeat (first | (refine sxv hs hw ?_; clear hs; intro a hs) | refine sxc hs ?_ | (refine sxa hs hw ?_; clear hs hw; intro a b W hw hs) | (refine sxs hs hw ?_; clear hs hw; intro W hs hw))
  refine st_call hs (hc := law21_Rows w _ (fr w) l1 _ _ hb1 hr1.h hw) (k := ?_); rintro e0 W1 ⟨x1, H1, rfl, hle1, hx1, hw1⟩; refine ⟨_, rfl, ?_⟩; clear hs hw; intro a hs; have hw := hw1; clear hw1
  repeat (first | (refine sxv hs hw ?_; clear hs; intro a hs) | refine sxc hs ?_ | (refine sxa hs hw ?_; clear hs hw; intro a b W hw hs) | (refine sxs hs hw ?_; clear hs hw; intro W hs hw))
  refine st_call hs (hc := law21_Rows w _ H1 l2 _ _ hb2 (hr2.h.le hle1) hw) (k := ?_); rintro e0 W1 ⟨x2, H2, rfl, hle2, hx2, hw1⟩; refine ⟨_, rfl, ?_⟩; clear hs hw; intro a hs; have hw := hw1; clear hw1
  repeat (first | (refine sxv hs hw ?_; clear hs; intro a hs) | refine sxc hs ?_ | (refine sxa hs hw ?_; clear hs hw; intro a b W hw hs) | (refine sxs hs hw ?_; clear hs hw; intro W hs hw))
  refine st_call hs (hc := law21_Rows w _ H2 l3 _ _ hb3 (hr3.h.le (hle1.trans hle2)) hw) (k := ?_); rintro e0 W1 ⟨x3, H3, rfl, hle3, hx3, hw1⟩; refine ⟨_, rfl, ?_⟩; clear hs hw; intro a hs; have hw := hw1; clear hw1
  replace hx1 := hx1.le (hle2.trans hle3)
  replace hx2 := hx2.le hle3
  have hle := (hle1.trans hle2).trans hle3
  clear hle1 hle2 hle3
  obtain ⟨ad1, cap1, rfl⟩ := hx1.sl
  obtain ⟨ad2, cap2, rfl⟩ := hx2.sl
  obtain ⟨ad3, cap3, rfl⟩ := hx3.sl
  have htri := oneB_trip (rowsOf l1) (rowsOf l2) (rowsOf l3)
  have hswap := oneB_swap (rowsOf l1) (rowsOf l2)
  generalize rowsOf l1 = m1 at *
  generalize rowsOf l2 = m2 at *
  generalize rowsOf l3 = m3 at *
  repeat (first | (refine sxv hs hw ?_; clear hs; intro a hs) | refine sxc hs ?_ | (refine sxa hs hw ?_; clear hs hw; intro a b W hw hs) | (refine sxs hs hw ?_; clear hs hw; intro W hs hw))
  refine st_call hs (hc := judge_One _ _ _ (lists3 hw In.hd (hx1.rds hw (In.tl (In.hd))) (hx2.rds hw (In.tl (In.hd))) (hx3.rds hw (In.tl (In.hd))))) (k := ?_); rintro e0 W1 ⟨rfl, hb⟩; refine ⟨_, rfl, ?_⟩; clear hs; intro a hs; replace hw := hw.below hb; clear hb
  generalize oneB [m1, m2, m3] = pa at *
  repeat (first | (refine sxv hs hw ?_; clear hs; intro a hs) | refine sxc hs ?_ | (refine sxa hs hw ?_; clear hs hw; intro a b W hw hs) | (refine sxs hs hw ?_; clear hs hw; intro W hs hw))
  refine st_call hs (hc := judge_One _ _ _ (lists2 hw In.hd (hx1.rds hw (In.tl (In.tl (In.hd)))) (hx2.rds hw (In.tl (In.tl (In.hd)))))) (k := ?_); rintro e0 W1 ⟨rfl, hb⟩; refine ⟨_, rfl, ?_⟩; clear hs; intro a hs; replace hw := hw.below hb; clear hb
  cases p12 : oneB [m1, m2] with
  | false =>
    rw [p12] at hs htri
    rw [Bool.false_and, Bool.false_and] at htri
    subst htri
    repeat (first | (refine sxv hs hw ?_; clear hs; intro a hs) | refine sxc hs ?_ | (refine sxa hs hw ?_; clear hs hw; intro a b W hw hs) | (refine sxs hs hw ?_; clear hs hw; intro W hs hw))
    refine st_call hs (hc := judge_One _ _ _ (lists2 hw In.hd (hx1.rds hw (In.tl (In.tl (In.tl (In.hd))))) (hx2.rds hw (In.tl (In.tl (In.tl (In.hd))))))) (k := ?_); rintro e0 W1 ⟨rfl, hb⟩; refine ⟨_, rfl, ?_⟩; clear hs; intro a hs; replace hw := hw.below hb; clear hb
    rw [p12] at hs
    repeat (first | (refine sxv hs hw ?_; clear hs; intro a hs) | refine sxc hs ?_ | (refine sxa hs hw ?_; clear hs hw; intro a b W hw hs) | (refine sxs hs hw ?_; clear hs hw; intro W hs hw))
    refine st_call hs (hc := judge_One _ _ _ (lists2 hw In.hd (hx2.rds hw (In.tl (In.tl (In.tl (In.tl (In.hd)))))) (hx1.rds hw (In.tl (In.tl (In.tl (In.tl (In.hd)))))))) (k := ?_); rintro e0 W1 ⟨rfl, hb⟩; refine ⟨_, rfl, ?_⟩; clear hs; intro a hs; replace hw := hw.below hb; clear hb
    rw [← hswap, p12] at hs
    repeat (first | (refine sxv hs hw ?_; clear hs; intro a hs) | refine sxc hs ?_ | (refine sxa hs hw ?_; clear hs hw; intro a b W hw hs) | (refine sxs hs hw ?_; clear hs hw; intro W hs hw))
    exact rt1 hs rfl rfl ⟨rfl, hw.endF (In.tl (In.tl (In.tl (In.tl (In.hd))))) hle⟩
  | true =>
  rw [p12] at hs htri
  repeat (first | (refine sxv hs hw ?_; clear hs; intro a hs) | refine sxc hs ?_ | (refine sxa hs hw ?_; clear hs hw; intro a b W hw hs) | (refine sxs hs hw ?_; clear hs hw; intro W hs hw))
  refine st_call hs (hc := judge_One _ _ _ (lists2 hw In.hd (hx2.rds hw (In.tl (In.tl (In.tl (In.hd))))) (hx3.rds hw (In.tl (In.tl (In.tl (In.hd))))))) (k := ?_); rintro e0 W1 ⟨rfl, hb⟩; refine ⟨_, rfl, ?_⟩; clear hs; intro a hs; replace hw := hw.below hb; clear hb
  cases p23 : oneB [m2, m3] with
  | false =>
    rw [p23] at hs htri
    rw [Bool.and_false, Bool.false_and] at htri
    subst htri
    repeat (first | (refine sxv hs hw ?_; clear hs; intro a hs) | refine sxc hs ?_ | (refine sxa hs hw ?_; clear hs hw; intro a b W hw hs) | (refine sxs hs hw ?_; clear hs hw; intro W hs hw))
    refine st_call hs (hc := judge_One _ _ _ (lists2 hw In.hd (hx1.rds hw (In.tl (In.tl (In.tl (In.tl (In.hd)))))) (hx2.rds hw (In.tl (In.tl (In.tl (In.tl (In.hd)))))))) (k := ?_); rintro e0 W1 ⟨rfl, hb⟩; refine ⟨_, rfl, ?_⟩; clear hs; intro a hs; replace hw := hw.below hb; clear hb
    rw [p12] at hs
    repeat (first | (refine sxv hs hw ?_; clear hs; intro a hs) | refine sxc hs ?_ | (refine sxa hs hw ?_; clear hs hw; intro a b W hw hs) | (refine sxs hs hw ?_; clear hs hw; intro W hs hw))
    refine st_call hs (hc := judge_One _ _ _ (lists2 hw In.hd (hx2.rds hw (In.tl (In.tl (In.tl (In.tl (In.tl (In.hd))))))) (hx1.rds hw (In.tl (In.tl (In.tl (In.tl (In.tl (In.hd))))))))) (k := ?_); rintro e0 W1 ⟨rfl, hb⟩; refine ⟨_, rfl, ?_⟩; clear hs; intro a hs; replace hw := hw.below hb; clear hb
    rw [← hswap, p12] at hs
    repeat (first | (refine sxv hs hw ?_; clear hs; intro a hs) | refine sxc hs ?_ | (refine sxa hs hw ?_; clear hs hw; intro a b W hw hs) | (refine sxs hs hw ?_; clear hs hw; intro W hs hw))
    exact rt1 hs rfl rfl ⟨rfl, hw.endF (In.tl (In.tl (In.tl (In.tl (In.tl (In.hd)))))) hle⟩
  | true =>
  rw [p23] at hs htri
  repeat (first | (refine sxv hs hw ?_; clear hs; intro a hs) | refine sxc hs ?_ | (refine sxa hs hw ?_; clear hs hw; intro a b W hw hs) | (refine sxs hs hw ?_; clear hs hw; intro W hs hw))
  refine st_call hs (hc := judge_One _ _ _ (lists2 hw In.hd (hx1.rds hw (In.tl (In.tl (In.tl (In.tl (In.hd)))))) (hx3.rds hw (In.tl (In.tl (In.tl (In.tl (In.hd)))))))) (k := ?_); rintro e0 W1 ⟨rfl, hb⟩; refine ⟨_, rfl, ?_⟩; clear hs; intro a hs; replace hw := hw.below hb; clear hb
  cases p13 : oneB [m1, m3] with
  | false =>
    rw [p13] at hs htri
    rw [Bool.and_false] at htri
    subst htri
    repeat (first | (refine sxv hs hw ?_; clear hs; intro a hs) | refine sxc hs ?_ | (refine sxa hs hw ?_; clear hs hw; intro a b W hw hs) | (refine sxs hs hw ?_; clear hs hw; intro W hs hw))
    refine st_call hs (hc := judge_One _ _ _ (lists2 hw In.hd (hx1.rds hw (In.tl (In.tl (In.tl (In.tl (In.tl (In.hd))))))) (hx2.rds hw (In.tl (In.tl (In.tl (In.tl (In.tl (In.hd))))))))) (k := ?_); rintro e0 W1 ⟨rfl, hb⟩; refine ⟨_, rfl, ?_⟩; clear hs; intro a hs; replace hw := hw.below hb; clear hb
    rw [p12] at hs
    repeat (first | (refine sxv hs hw ?_; clear hs; intro a hs) | refine sxc hs ?_ | (refine sxa hs hw ?_; clear hs hw; intro a b W hw hs) | (refine sxs hs hw ?_; clear hs hw; intro W hs hw))
    refine st_call hs (hc := judge_One _ _ _ (lists2 hw In.hd (hx2.rds hw (In.tl (In.tl (In.tl (In.tl (In.tl (In.tl (In.hd)))))))) (hx1.rds hw (In.tl (In.tl (In.tl (In.tl (In.tl (In.tl (In.hd)))))))))) (k := ?_); rintro e0 W1 ⟨rfl, hb⟩; refine ⟨_, rfl, ?_⟩; clear hs; intro a hs; replace hw := hw.below hb; clear hb
    rw [← hswap, p12] at hs
    repeat (first | (refine sxv hs hw ?_; clear hs; intro a hs) | refine sxc hs ?_ | (refine sxa hs hw ?_; clear hs hw; intro a b W hw hs) | (refine sxs hs hw ?_; clear hs hw; intro W hs hw))
    exact rt1 hs rfl rfl ⟨rfl, hw.endF (In.tl (In.tl (In.tl (In.tl (In.tl (In.tl (In.hd))))))) hle⟩
  | true =>
    rw [p13] at hs htri
    rw [Bool.and_true, Bool.and_true] at htri
    subst htri
    repeat (first | (refine sxv hs hw ?_; clear hs; intro a hs) | refine sxc hs ?_ | (refine sxa hs hw ?_; clear hs hw; intro a b W hw hs) | (refine sxs hs hw ?_; clear hs hw; intro W hs hw))
    refine st_call hs (hc := judge_One _ _ _ (lists2 hw In.hd (hx1.rds hw (In.tl (In.tl (In.tl (In.tl (In.tl (In.hd))))))) (hx2.rds hw (In.tl (In.tl (In.tl (In.tl (In.tl (In.hd))))))))) (k := ?_); rintro e0 W1 ⟨rfl, hb⟩; refine ⟨_, rfl, ?_⟩; clear hs; intro a hs; replace hw := hw.below hb; clear hb
    rw [p12] at hs
    repeat (first | (refine sxv hs hw ?_; clear hs; intro a hs) | refine sxc hs ?_ | (refine sxa hs hw ?_; clear hs hw; intro a b W hw hs) | (refine sxs hs hw ?_; clear hs hw; intro W hs hw))
    refine st_call hs (hc := judge_One _ _ _ (lists2 hw In.hd (hx2.rds hw (In.tl (In.tl (In.tl (In.tl (In.tl (In.tl (In.hd)))))))) (hx1.rds hw (In.tl (In.tl (In.tl (In.tl (In.tl (In.tl (In.hd)))))))))) (k := ?_); rintro e0 W1 ⟨rfl, hb⟩; refine ⟨_, rfl, ?_⟩; clear hs; intro a hs; replace hw := hw.below hb; clear hb
    rw [← hswap, p12] at hs
    repeat (first | (refine sxv hs hw ?_; clear hs; intro a hs) | refine sxc hs ?_ | (refine sxa hs hw ?_; clear hs hw; intro a b W hw hs) | (refine sxs hs hw ?_; clear hs hw; intro W hs hw))
    exact rt1 hs rfl rfl ⟨rfl, hw.endF (In.tl (In.tl (In.tl (In.tl (In.tl (In.tl (In.hd))))))) hle⟩
end Go.Proofs.YtcfaicomnngegaaDoor.Sw

/-
  The walk of JudgeLists.
-/
set_option linter.unusedVariables false
set_option maxRecDepth 10000
namespace Go.Proofs.YtcfaicomnngegaaDoor.Sw
open Go.RowKit Go.Sx

/-- A list of rows behind a slice, frozen. -/
def ListIn (H : Fh) (rows : List RowD) (c : List Value) : Prop := ∃ sv, c = [sv] ∧ RowsH H sv rows
theorem ListIn.len {H : Fh} : ∀ (b : List RowD) (c : List Value), ListIn H b c → c.length = 1 := by rintro b c ⟨sv, rfl, _⟩; rfl
theorem ListIn.le {H H' : Fh} (h : H.le H') : ∀ (b : List RowD) (c : List Value), ListIn H b c → ListIn H' b c := by rintro b c ⟨sv, rfl, h1⟩; exact ⟨sv, rfl, h1.le h⟩
theorem ListIn.rds {H : Fh} {G : Nat} {w0 W : World} {L : List Res} (h : Has G w0 W L) (i : In (Fz H) L) : ∀ (b : List RowD) (c : List Value), ListIn H b c → ListRd W b c := by rintro b c ⟨sv, rfl, h1⟩; exact ⟨sv, rfl, h1.rds h i⟩
theorem cutRows_8 (l : List RowD) : (cutRows l).length ≤ 1000000 ∧ ∀ r ∈ cutRows l, r.b.l.length ≤ 1000 := by
  refine ⟨by unfold cutRows; rw [List.length_map, List.length_take]; omega, fun r hr => ?_⟩
  obtain ⟨x, hx, rfl⟩ := List.mem_map.1 hr
  show (cutD x.b.l).length ≤ 1000
  unfold cutD
  rw [List.length_map, List.length_take]; omega
theorem longL_snoc (ls : List (List RowD)) (x : List RowD) : longL (ls ++ [x]) = longer (longL ls) x := by unfold longL; rw [List.foldl_append]; rfl
theorem longer_nil (x : List RowD) : longer [] x = x := by
  unfold longer
  cases x with
  | nil => rfl
  | cons a l => rw [if_pos (by simp)]

set_option maxHeartbeats 16000000 in
theorem walk_JudgeLists (l : List (List RowD)) (v : Value) (w : World) (hb : ∀ x ∈ l, ∀ r ∈ x, RowWf r) (hr : ListsRd w v l) (hT : Tabs w) :
    Calls Tryd.prog 5 ⟨[v]⟩ w fun e w' => e = .returned (.bool true) ∧ Below w.heap.size w w' := by
  have hw := Has.startF w
  obtain ⟨xs, hr, hch⟩ := hr
  obtain ⟨sad, scap, rfl⟩ := Rd.sl hr
  have hlen := hr.len
  have hrH := RdH.of_rd hr (Fh.le.refl _) (by decide)
  refine enter Tryd.func5 Tryd.ntmps5 rfl rfl fun a hs => ?_
  repeat (first | (refine sxv hs hw ?_; clear hs; intro a hs) | refine sxc hs ?_ | (refine sxa hs hw ?_; clear hs hw; intro a b W hw hs) | (refine sxs hs hw ?_; clear hs hw; intro W hs hw))
  refine st_call hs (hc := law28_begun _ hT) (k := ?_); rintro e0 W1 ⟨rfl, hb⟩; refine ⟨_, rfl, ?_⟩; clear hs; intro a hs; replace hw := hw.below hb; clear hb
  repeat (first | (refine sxv hs hw ?_; clear hs; intro a hs) | refine sxc hs ?_ | (refine sxa hs hw ?_; clear hs hw; intro a b W hw hs) | (refine sxs hs hw ?_; clear hs hw; intro W hs hw))
  have hw := hw.nilOwn 25 1
  refine st_loop (σ := Nat × Nat × List (List RowD) × Option Addr × Nat × List Value × Fh) (fun t => [(0, .slice sad l.length scap), (4, .slice t.2.2.2.1 t.2.2.1.length t.2.2.2.2.1), (5, .int .i64 (t.2.1 : Int)), (6, .int .i64 (t.1 : Int))]) (fun t => Sx.Own 25 1 (.slice t.2.2.2.1 t.2.2.1.length t.2.2.2.2.1) t.2.2.1.length t.2.2.2.2.2.1 :: Fz t.2.2.2.2.2.2 :: []) (fun t => t.1 ≤ l.length ∧ t.1 ≤ 5 ∧ t.2.2.1 = (l.take t.1).map cutRows ∧ (fr w).le t.2.2.2.2.2.2 ∧ Ch (ListIn t.2.2.2.2.2.2) t.2.2.1 t.2.2.2.2.2.1 ∧ (t.1 = 0 ∧ t.2.1 = 0 ∨ t.2.2.1[t.2.1]? = some (longL t.2.2.1))) (fun t => l.length - t.1) (0, 0, [], none, 0, [], fr w) ⟨Nat.zero_le _, Nat.zero_le _, rfl, Fh.le.refl _, rfl, .inl ⟨rfl, rfl⟩⟩ hs ⟨rfl, rfl, rfl, rfl, trivial⟩ hw ?_
  clear hs hw
  rintro ⟨j, best, all, oad, ocap, ys, H1⟩ a W ⟨hj, hj5, hall, hle1, hch2, hbest⟩ hs hw
  simp only at hj hj5 hall hle1 hch2 hbest hs hw
  have hlen2 : all.length ≤ 5 := by rw [hall, List.length_map, List.length_take]; omega
  have hlenj : all.length = j := by rw [hall, List.length_map, List.length_take]; omega
  have hall8 : ∀ x ∈ all, x.length ≤ 1000000 ∧ ∀ r ∈ x, r.b.l.length ≤ 1000 := by
    intro x hx
    rw [hall] at hx
    obtain ⟨y, _, rfl⟩ := List.mem_map.1 hx
    exact cutRows_8 y
  repeat (first | (refine sxv hs hw ?_; clear hs; intro a hs) | refine sxc hs ?_ | (refine sxa hs hw ?_; clear hs hw; intro a b W hw hs) | (refine sxs hs hw ?_; clear hs hw; intro W hs hw))
  cases hc1 : decide ((j : Int) < (l.length : Int)) with
  | false =>
    rw [hc1] at hs
    repeat (first | (refine sxv hs hw ?_; clear hs; intro a hs) | refine sxc hs ?_ | (refine sxa hs hw ?_; clear hs hw; intro a b W hw hs) | (refine sxs hs hw ?_; clear hs hw; intro W hs hw))
    cases hne : decide ((all.length : Int) > 0) with
    | true =>
      have hpos : 0 < all.length := by have := of_decide_eq_true hne; omega
      have hbest : all[best]? = some (longL all) := by
        rcases hbest with ⟨rfl, _⟩ | h
        · omega
        · exact h
      have hbl := (List.getElem?_eq_some_iff.1 hbest).1
      rw [hne] at hs
      repeat (first | (refine sxv hs hw ?_; clear hs; intro a hs) | refine sxc hs ?_ | (refine sxa hs hw ?_; clear hs hw; intro a b W hw hs) | (refine sxs hs hw ?_; clear hs hw; intro W hs hw))
      refine st_index_ch hs (r := hw.rd_own In.hd) (hk := ListIn.len) (ch := hch2) (ho := hbest) (hlen := rfl) (c := ?_); clear hs; intro a g off c hc hcl hpc hlt hs
      obtain ⟨bv, rfl, hbv⟩ := hc
      refine st_load_at hs (hc := hpc 0 _ rfl) (c := ?_); clear hs; intro a hs
      clear hpc
      repeat (first | (refine sxv hs hw ?_; clear hs; intro a hs) | refine sxc hs ?_ | (refine sxa hs hw ?_; clear hs hw; intro a b W hw hs) | (refine sxs hs hw ?_; clear hs hw; intro W hs hw))
      refine st_call hs (hc := judge_One all _ _ ⟨ys, hw.rd_own In.hd, hch2.mono (ListIn.rds hw (In.tl In.hd))⟩) (k := ?_); rintro e0 W1 ⟨rfl, hb⟩; refine ⟨_, rfl, ?_⟩; clear hs; intro a hs; replace hw := hw.below hb; clear hb
      repeat (first | (refine sxv hs hw ?_; clear hs; intro a hs) | refine sxc hs ?_ | (refine sxa hs hw ?_; clear hs hw; intro a b W hw hs) | (refine sxs hs hw ?_; clear hs hw; intro W hs hw))
      refine st_call hs (hc := law28_one all _ _ ⟨ys, hw.rd_own In.hd, hch2.mono (ListIn.rds hw (In.tl In.hd))⟩) (k := ?_); rintro e0 W1 ⟨rfl, hb⟩; refine ⟨_, rfl, ?_⟩; clear hs; intro a hs; replace hw := hw.below hb; clear hb
      repeat (first | (refine sxv hs hw ?_; clear hs; intro a hs) | refine sxc hs ?_ | (refine sxa hs hw ?_; clear hs hw; intro a b W hw hs) | (refine sxs hs hw ?_; clear hs hw; intro W hs hw))
      rw [beq_self_eq_true] at hs
      repeat (first | (refine sxv hs hw ?_; clear hs; intro a hs) | refine sxc hs ?_ | (refine sxa hs hw ?_; clear hs hw; intro a b W hw hs) | (refine sxs hs hw ?_; clear hs hw; intro W hs hw))
      refine st_call hs (hc := judge_Longest all _ _ hall8 ⟨ys, hw.rd_own In.hd, hch2.mono (ListIn.rds hw (In.tl In.hd))⟩) (k := ?_); rintro e0 W1 ⟨⟨v', rfl, hr'⟩, hb2⟩; refine ⟨_, rfl, ?_⟩; clear hs; intro a hs; replace hw := hw.below hb2; clear hb2
      obtain ⟨xs1, hr1, hc1'⟩ := hr'
      obtain ⟨xs2, hr2, hc2'⟩ := hbv.rds hw (In.tl In.hd)
      repeat (first | (refine sxv hs hw ?_; clear hs; intro a hs) | refine sxc hs ?_ | (refine sxa hs hw ?_; clear hs hw; intro a b W hw hs) | (refine sxs hs hw ?_; clear hs hw; intro W hs hw))
      refine st_call hs (hc := ref_EqRows (longL all) _ xs1 (longL all) _ xs2 _ hr1 hc1' hr2 hc2') (k := ?_); rintro e0 W1 ⟨rfl, hb⟩; refine ⟨_, rfl, ?_⟩; clear hs; intro a hs; replace hw := hw.below hb; clear hb
      rw [eqRows_iff.2 rfl] at hs
      repeat (first | (refine sxv hs hw ?_; clear hs; intro a hs) | refine sxc hs ?_ | (refine sxa hs hw ?_; clear hs hw; intro a b W hw hs) | (refine sxs hs hw ?_; clear hs hw; intro W hs hw))
      exact rt1 hs rfl rfl ⟨rfl, hw.endF (In.tl In.hd) hle1⟩
    | false =>
      have h0 : all = [] := List.eq_nil_of_length_eq_zero (by have := of_decide_eq_false hne; omega)
      rw [hne] at hs
      repeat (first | (refine sxv hs hw ?_; clear hs; intro a hs) | refine sxc hs ?_ | (refine sxa hs hw ?_; clear hs hw; intro a b W hw hs) | (refine sxs hs hw ?_; clear hs hw; intro W hs hw))
      have hbv : RowsH H1 (.slice none 0 0) (longL all) := by rw [h0]; exact ⟨[], RdH.nil _ _ _ (by omega), rfl⟩
      refine st_call hs (hc := judge_One all _ _ ⟨ys, hw.rd_own In.hd, hch2.mono (ListIn.rds hw (In.tl In.hd))⟩) (k := ?_); rintro e0 W1 ⟨rfl, hb⟩; refine ⟨_, rfl, ?_⟩; clear hs; intro a hs; replace hw := hw.below hb; clear hb
      repeat (first | (refine sxv hs hw ?_; clear hs; intro a hs) | refine sxc hs ?_ | (refine sxa hs hw ?_; clear hs hw; intro a b W hw hs) | (refine sxs hs hw ?_; clear hs hw; intro W hs hw))
      refine st_call hs (hc := law28_one all _ _ ⟨ys, hw.rd_own In.hd, hch2.mono (ListIn.rds hw (In.tl In.hd))⟩) (k := ?_); rintro e0 W1 ⟨rfl, hb⟩; refine ⟨_, rfl, ?_⟩; clear hs; intro a hs; replace hw := hw.below hb; clear hb
      repeat (first | (refine sxv hs hw ?_; clear hs; intro a hs) | refine sxc hs ?_ | (refine sxa hs hw ?_; clear hs hw; intro a b W hw hs) | (refine sxs hs hw ?_; clear hs hw; intro W hs hw))
      rw [beq_self_eq_true] at hs
      repeat (first | (refine sxv hs hw ?_; clear hs; intro a hs) | refine sxc hs ?_ | (refine sxa hs hw ?_; clear hs hw; intro a b W hw hs) | (refine sxs hs hw ?_; clear hs hw; intro W hs hw))
      refine st_call hs (hc := judge_Longest all _ _ hall8 ⟨ys, hw.rd_own In.hd, hch2.mono (ListIn.rds hw (In.tl In.hd))⟩) (k := ?_); rintro e0 W1 ⟨⟨v', rfl, hr'⟩, hb2⟩; refine ⟨_, rfl, ?_⟩; clear hs; intro a hs; replace hw := hw.below hb2; clear hb2
      obtain ⟨xs1, hr1, hc1'⟩ := hr'
      obtain ⟨xs2, hr2, hc2'⟩ := hbv.rds hw (In.tl In.hd)
      repeat (first | (refine sxv hs hw ?_; clear hs; intro a hs) | refine sxc hs ?_ | (refine sxa hs hw ?_; clear hs hw; intro a b W hw hs) | (refine sxs hs hw ?_; clear hs hw; intro W hs hw))
      refine st_call hs (hc := ref_EqRows (longL all) _ xs1 (longL all) _ xs2 _ hr1 hc1' hr2 hc2') (k := ?_); rintro e0 W1 ⟨rfl, hb⟩; refine ⟨_, rfl, ?_⟩; clear hs; intro a hs; replace hw := hw.below hb; clear hb
      rw [eqRows_iff.2 rfl] at hs
      repeat (first | (refine sxv hs hw ?_; clear hs; intro a hs) | refine sxc hs ?_ | (refine sxa hs hw ?_; clear hs hw; intro a b W hw hs) | (refine sxs hs hw ?_; clear hs hw; intro W hs hw))
      exact rt1 hs rfl rfl ⟨rfl, hw.endF (In.tl In.hd) hle1⟩
  | true =>
  rw [hc1] at hs
  have hj' : j < l.length := by have := of_decide_eq_true hc1; omega
  repeat (first | (refine sxv hs hw ?_; clear hs; intro a hs) | refine sxc hs ?_ | (refine sxa hs hw ?_; clear hs hw; intro a b W hw hs) | (refine sxs hs hw ?_; clear hs hw; intro W hs hw))
  cases hc2 : decide ((j : Int) < 5) with
  | false =>
    rw [hc2] at hs
    repeat (first | (refine sxv hs hw ?_; clear hs; intro a hs) | refine sxc hs ?_ | (refine sxa hs hw ?_; clear hs hw; intro a b W hw hs) | (refine sxs hs hw ?_; clear hs hw; intro W hs hw))
    cases hne : decide ((all.length : Int) > 0) with
    | true =>
      have hpos : 0 < all.length := by have := of_decide_eq_true hne; omega
      have hbest : all[best]? = some (longL all) := by
        rcases hbest with ⟨rfl, _⟩ | h
        · omega
        · exact h
      have hbl := (List.getElem?_eq_some_iff.1 hbest).1
      rw [hne] at hs
      repeat (first | (refine sxv hs hw ?_; clear hs; intro a hs) | refine sxc hs ?_ | (refine sxa hs hw ?_; clear hs hw; intro a b W hw hs) | (refine sxs hs hw ?_; clear hs hw; intro W hs hw))
      refine st_index_ch hs (r := hw.rd_own In.hd) (hk := ListIn.len) (ch := hch2) (ho := hbest) (hlen := rfl) (c := ?_); clear hs; intro a g off c hc hcl hpc hlt hs
      obtain ⟨bv, rfl, hbv⟩ := hc
      refine st_load_at hs (hc := hpc 0 _ rfl) (c := ?_); clear hs; intro a hs
      clear hpc
      repeat (first | (refine sxv hs hw ?_; clear hs; intro a hs) | refine sxc hs ?_ | (refine sxa hs hw ?_; clear hs hw; intro a b W hw hs) | (refine sxs hs hw ?_; clear hs hw; intro W hs hw))
      refine st_call hs (hc := judge_One all _ _ ⟨ys, hw.rd_own In.hd, hch2.mono (ListIn.rds hw (In.tl In.hd))⟩) (k := ?_); rintro e0 W1 ⟨rfl, hb⟩; refine ⟨_, rfl, ?_⟩; clear hs; intro a hs; replace hw := hw.below hb; clear hb
      repeat (first | (refine sxv hs hw ?_; clear hs; intro a hs) | refine sxc hs ?_ | (refine sxa hs hw ?_; clear hs hw; intro a b W hw hs) | (refine sxs hs hw ?_; clear hs hw; intro W hs hw))
      refine st_call hs (hc := law28_one all _ _ ⟨ys, hw.rd_own In.hd, hch2.mono (ListIn.rds hw (In.tl In.hd))⟩) (k := ?_); rintro e0 W1 ⟨rfl, hb⟩; refine ⟨_, rfl, ?_⟩; clear hs; intro a hs; replace hw := hw.below hb; clear hb
      repeat (first | (refine sxv hs hw ?_; clear hs; intro a hs) | refine sxc hs ?_ | (refine sxa hs hw ?_; clear hs hw; intro a b W hw hs) | (refine sxs hs hw ?_; clear hs hw; intro W hs hw))
      rw [beq_self_eq_true] at hs
      repeat (first | (refine sxv hs hw ?_; clear hs; intro a hs) | refine sxc hs ?_ | (refine sxa hs hw ?_; clear hs hw; intro a b W hw hs) | (refine sxs hs hw ?_; clear hs hw; intro W hs hw))
      refine st_call hs (hc := judge_Longest all _ _ hall8 ⟨ys, hw.rd_own In.hd, hch2.mono (ListIn.rds hw (In.tl In.hd))⟩) (k := ?_); rintro e0 W1 ⟨⟨v', rfl, hr'⟩, hb2⟩; refine ⟨_, rfl, ?_⟩; clear hs; intro a hs; replace hw := hw.below hb2; clear hb2
      obtain ⟨xs1, hr1, hc1'⟩ := hr'
      obtain ⟨xs2, hr2, hc2'⟩ := hbv.rds hw (In.tl In.hd)
      repeat (first | (refine sxv hs hw ?_; clear hs; intro a hs) | refine sxc hs ?_ | (refine sxa hs hw ?_; clear hs hw; intro a b W hw hs) | (refine sxs hs hw ?_; clear hs hw; intro W hs hw))
      refine st_call hs (hc := ref_EqRows (longL all) _ xs1 (longL all) _ xs2 _ hr1 hc1' hr2 hc2') (k := ?_); rintro e0 W1 ⟨rfl, hb⟩; refine ⟨_, rfl, ?_⟩; clear hs; intro a hs; replace hw := hw.below hb; clear hb
      rw [eqRows_iff.2 rfl] at hs
      repeat (first | (refine sxv hs hw ?_; clear hs; intro a hs) | refine sxc hs ?_ | (refine sxa hs hw ?_; clear hs hw; intro a b W hw hs) | (refine sxs hs hw ?_; clear hs hw; intro W hs hw))
      exact rt1 hs rfl rfl ⟨rfl, hw.endF (In.tl In.hd) hle1⟩
    | false =>
      have h0 : all = [] := List.eq_nil_of_length_eq_zero (by have := of_decide_eq_false hne; omega)
      rw [hne] at hs
      repeat (first | (refine sxv hs hw ?_; clear hs; intro a hs) | refine sxc hs ?_ | (refine sxa hs hw ?_; clear hs hw; intro a b W hw hs) | (refine sxs hs hw ?_; clear hs hw; intro W hs hw))
      have hbv : RowsH H1 (.slice none 0 0) (longL all) := by rw [h0]; exact ⟨[], RdH.nil _ _ _ (by omega), rfl⟩
      refine st_call hs (hc := judge_One all _ _ ⟨ys, hw.rd_own In.hd, hch2.mono (ListIn.rds hw (In.tl In.hd))⟩) (k := ?_); rintro e0 W1 ⟨rfl, hb⟩; refine ⟨_, rfl, ?_⟩; clear hs; intro a hs; replace hw := hw.below hb; clear hb
      repeat (first | (refine sxv hs hw ?_; clear hs; intro a hs) | refine sxc hs ?_ | (refine sxa hs hw ?_; clear hs hw; intro a b W hw hs) | (refine sxs hs hw ?_; clear hs hw; intro W hs hw))
      refine st_call hs (hc := law28_one all _ _ ⟨ys, hw.rd_own In.hd, hch2.mono (ListIn.rds hw (In.tl In.hd))⟩) (k := ?_); rintro e0 W1 ⟨rfl, hb⟩; refine ⟨_, rfl, ?_⟩; clear hs; intro a hs; replace hw := hw.below hb; clear hb
      repeat (first | (refine sxv hs hw ?_; clear hs; intro a hs) | refine sxc hs ?_ | (refine sxa hs hw ?_; clear hs hw; intro a b W hw hs) | (refine sxs hs hw ?_; clear hs hw; intro W hs hw))
      rw [beq_self_eq_true] at hs
      repeat (first | (refine sxv hs hw ?_; clear hs; intro a hs) | refine sxc hs ?_ | (refine sxa hs hw ?_; clear hs hw; intro a b W hw hs) | (refine sxs hs hw ?_; clear hs hw; intro W hs hw))
      refine st_call hs (hc := judge_Longest all _ _ hall8 ⟨ys, hw.rd_own In.hd, hch2.mono (ListIn.rds hw (In.tl In.hd))⟩) (k := ?_); rintro e0 W1 ⟨⟨v', rfl, hr'⟩, hb2⟩; refine ⟨_, rfl, ?_⟩; clear hs; intro a hs; replace hw := hw.below hb2; clear hb2
      obtain ⟨xs1, hr1, hc1'⟩ := hr'
      obtain ⟨xs2, hr2, hc2'⟩ := hbv.rds hw (In.tl In.hd)
      repeat (first | (refine sxv hs hw ?_; clear hs; intro a hs) | refine sxc hs ?_ | (refine sxa hs hw ?_; clear hs hw; intro a b W hw hs) | (refine sxs hs hw ?_; clear hs hw; intro W hs hw))
      refine st_call hs (hc := ref_EqRows (longL all) _ xs1 (longL all) _ xs2 _ hr1 hc1' hr2 hc2') (k := ?_); rintro e0 W1 ⟨rfl, hb⟩; refine ⟨_, rfl, ?_⟩; clear hs; intro a hs; replace hw := hw.below hb; clear hb
      rw [eqRows_iff.2 rfl] at hs
      repeat (first | (refine sxv hs hw ?_; clear hs; intro a hs) | refine sxc hs ?_ | (refine sxa hs hw ?_; clear hs hw; intro a b W hw hs) | (refine sxs hs hw ?_; clear hs hw; intro W hs hw))
      exact rt1 hs rfl rfl ⟨rfl, hw.endF (In.tl In.hd) hle1⟩
  | true =>
  rw [hc2] at hs
  have hjn' : j < 5 := by have := of_decide_eq_true hc2; omega
  obtain ⟨x0, hxi⟩ : ∃ o, l[j]? = some o := ⟨l[j], List.getElem?_eq_getElem hj'⟩
  have hok := hb x0 (List.mem_of_getElem? hxi)
  repeat (first | (refine sxv hs hw ?_; clear hs; intro a hs) | refine sxc hs ?_ | (refine sxa hs hw ?_; clear hs hw; intro a b W hw hs) | (refine sxs hs hw ?_; clear hs hw; intro W hs hw))
  refine st_index_ch hs (r := hw.rdH (by repeat (first | exact In.hd | apply In.tl)) (hrH.le hle1)) (hk := ListRd.len) (ch := hch) (ho := hxi) (hlen := rfl) (c := ?_); clear hs; intro a g off c hc hcl hpc hlt hs
  obtain ⟨xv, rfl, hxv⟩ := hc
  refine st_load_at hs (hc := hpc 0 _ rfl) (c := ?_); clear hs; intro a hs
  clear hpc
  have hw : Has 0 w W (Fz H1 :: Sx.Own 25 1 (.slice oad all.length ocap) all.length ys :: []) := hw.perm (by repeat (first | exact List.Perm.refl _ | refine perm_pick (by repeat (first | exact Pick.hd | apply Pick.tl)) ?_))
  refine st_call hs (hc := law28_cut w _ H1 x0 xv _ hok (hxv.h.le hle1) hw) (k := ?_); rintro e0 W1 ⟨nv, H2, rfl, hle2, hnv, hw1⟩; refine ⟨_, rfl, ?_⟩; clear hs hw; intro a hs; have hw := hw1; clear hw1
  obtain ⟨nad, ncap, rfl⟩ := hnv.sl
  obtain ⟨x, hx⟩ : ∃ x, cutRows x0 = x := ⟨_, rfl⟩
  rw [hx] at hnv hs
  repeat (first | (refine sxv hs hw ?_; clear hs; intro a hs) | refine sxc hs ?_ | (refine sxa hs hw ?_; clear hs hw; intro a b W hw hs) | (refine sxs hs hw ?_; clear hs hw; intro W hs hw))
  obtain ⟨bx, qx⟩ := nm1 hw; subst qx
  have hw : Has 0 w _ (Sx.Own 25 1 (.slice oad all.length ocap) all.length ys :: Cells bx [.slice nad x.length ncap] 25 :: Fz H2 :: []) := hw.perm (by repeat (first | exact List.Perm.refl _ | refine perm_pick (by repeat (first | exact Pick.hd | apply Pick.tl)) ?_))
  refine st_append1 hs (hw := hw) (hi := In.hd) (ch := hch2.mono (ListIn.le hle2)) (ha := (⟨_, rfl, hnv⟩ : ListIn H2 x [.slice nad x.length ncap])) (hl := rfl) (h1 := rfl) (hb := by omega) (h63 := by omega) (k := ?_)
  clear hs hw; intro a ad2 cap2 W hs hw hc2'
  have hallx : all ++ [x] = (l.take (j + 1)).map cutRows := by rw [take_of hxi, List.map_append, ← hall, ← hx]; rfl
  have hl1 : (all ++ [x]).length = j + 1 := by rw [List.length_append, hlenj]; rfl
  have hxj : (all ++ [x])[j]? = some x := by rw [List.getElem?_append_right (by omega), hlenj, Nat.sub_self]; rfl
  obtain ⟨y, hy, hyl⟩ : ∃ y, (all ++ [x])[best]? = some y ∧ (longL (all ++ [x]) = if y.length < x.length then x else y) := by
    rcases hbest with ⟨rfl, rfl⟩ | hbest
    · have : all = [] := List.eq_nil_of_length_eq_zero hlenj
      subst this
      refine ⟨x, rfl, ?_⟩
      rw [if_neg (by omega)]
      exact longer_nil x
    · refine ⟨longL all, ?_, ?_⟩
      · rw [List.getElem?_append_left (List.getElem?_eq_some_iff.1 hbest).1]; exact hbest
      · rw [longL_snoc]; rfl
  have hbl := (List.getElem?_eq_some_iff.1 hy).1
  repeat (first | (refine sxv hs hw ?_; clear hs; intro a hs) | refine sxc hs ?_ | (refine sxa hs hw ?_; clear hs hw; intro a b W hw hs) | (refine sxs hs hw ?_; clear hs hw; intro W hs hw))
  obtain ⟨g, cur, rfl, hcur, hcl0, hkc, hcm, hw⟩ := hw.open_own (by omega)
  obtain ⟨cx, ⟨xv2, rfl, hxv2⟩, hcutx⟩ := hc2'.mem ListIn.len hxj
  obtain ⟨cy, ⟨yv, rfl, hyv⟩, hcuty⟩ := hc2'.mem ListIn.len hy
  obtain ⟨xad, xcap, rfl⟩ := hxv2.sl
  obtain ⟨yad, ycap, rfl⟩ := hyv.sl
  have hatx := Ch.at_cur (R := ListIn H2) (l := all ++ [x]) (a := x) (j := 0) hcutx hcur rfl
  have haty := Ch.at_cur (R := ListIn H2) (l := all ++ [x]) (a := y) (j := 0) hcuty hcur rfl
  refine rg_draw (V := [.slice (some ⟨g, 0, none⟩) (all ++ [x]).length cap2, .int .i64 (j : Int), .pointer (some ⟨g, 0 + j * 1, none⟩), .slice xad x.length xcap, .int .i64 (x.length : Int), .slice (some ⟨g, 0, none⟩) (all ++ [x]).length cap2, .int .i64 (best : Int), .pointer (some ⟨g, 0 + best * 1, none⟩), .slice yad y.length ycap, .int .i64 (y.length : Int), .bool (decide ((x.length : Int) > (y.length : Int)))])
    (Rs := fun D => Cells g cur 25 :: Cells bx [.slice nad x.length ncap] 25 :: Fz H2 :: []) hs hw (ho := ⟨?_, ?_, ?c2_1, ?c3_1, ?_, ?_, ?_, ?c7_1, ?c8_1, ?_, ?_, trivial⟩) (k := ?k_1)
  case c2_1 =>
    intro LD D a W hcl hi hp hs hw
    refine st_index_at hs (z := [.slice none 0 0]) (h0 := by omega) (h1 := by omega) (c := ?_); clear hs; intro a hs
    repeat (first | (refine sxv hs hw ?_; clear hs; intro a hs) | refine sxc hs ?_ | (refine sxa hs hw ?_; clear hs hw; intro a b W hw hs) | (refine sxs hs hw ?_; clear hs hw; intro W hs hw))
    exact ⟨hs, hw⟩
  case c3_1 =>
    intro LD D a W hcl hi hp hs hw
    refine st_load_one hs (hw := hw) (hi := In.hd) (hv := by show cur[0 + j * 1]? = _; rw [Nat.zero_add]; exact hatx) (k := ?_); clear hs; intro a hs
    repeat (first | (refine sxv hs hw ?_; clear hs; intro a hs) | refine sxc hs ?_ | (refine sxa hs hw ?_; clear hs hw; intro a b W hw hs) | (refine sxs hs hw ?_; clear hs hw; intro W hs hw))
    exact ⟨hs, hw⟩
  case c7_1 =>
    intro LD D a W hcl hi hp hs hw
    refine st_index_at hs (z := [.slice none 0 0]) (h0 := by omega) (h1 := by omega) (c := ?_); clear hs; intro a hs
    repeat (first | (refine sxv hs hw ?_; clear hs; intro a hs) | refine sxc hs ?_ | (refine sxa hs hw ?_; clear hs hw; intro a b W hw hs) | (refine sxs hs hw ?_; clear hs hw; intro W hs hw))
    exact ⟨hs, hw⟩
  case c8_1 =>
    intro LD D a W hcl hi hp hs hw
    refine st_load_one hs (hw := hw) (hi := In.hd) (hv := by show cur[0 + best * 1]? = _; rw [Nat.zero_add]; exact haty) (k := ?_); clear hs; intro a hs
    repeat (first | (refine sxv hs hw ?_; clear hs; intro a hs) | refine sxc hs ?_ | (refine sxa hs hw ?_; clear hs hw; intro a b W hw hs) | (refine sxs hs hw ?_; clear hs hw; intro W hs hw))
    exact ⟨hs, hw⟩
  case k_1 =>
    clear hs hw
    intro a W hs hw
    replace hs : Slots a 59 [(39, .bool (decide ((x.length : Int) > (y.length : Int)))), (0, .slice sad l.length scap), (4, .slice (some ⟨g, 0, none⟩) (all ++ [x]).length cap2), (5, .int .i64 (best : Int)), (6, .int .i64 (j : Int))] := hs.of ⟨rfl, rfl, rfl, rfl, rfl, trivial⟩
    have hw := hw.shut_own (k := (all ++ [x]).length) (size := 1) hcur hcl0 hkc hcm
    cases hgt : decide ((x.length : Int) > (y.length : Int)) with
    | true =>
      rw [hgt] at hs
      repeat (first | (refine sxv hs hw ?_; clear hs; intro a hs) | refine sxc hs ?_ | (refine sxa hs hw ?_; clear hs hw; intro a b W hw hs) | (refine sxs hs hw ?_; clear hs hw; intro W hs hw))
      exact st_again (j + 1, j, all ++ [x], some ⟨g, 0, none⟩, cap2, ys ++ [.slice nad x.length ncap], H2) hs (hw.sub (List.Sublist.cons_cons _ (List.Sublist.cons _ (List.Sublist.refl _)))) ⟨hj', hjn', hallx, hle1.trans hle2, hc2', .inr (by rw [hyl, if_pos (by have := of_decide_eq_true hgt; omega)]; exact hxj)⟩ (by show l.length - (j + 1) < l.length - j; omega) ⟨rfl, rfl, rfl, int_eq (by show IntKind.i64.wrap ((j : Int) + 1) = ((j + 1 : Nat) : Int); rw [IntWalk.i64_in _ (by omega)]; omega), trivial⟩
    | false =>
      rw [hgt] at hs
      repeat (first | (refine sxv hs hw ?_; clear hs; intro a hs) | refine sxc hs ?_ | (refine sxa hs hw ?_; clear hs hw; intro a b W hw hs) | (refine sxs hs hw ?_; clear hs hw; intro W hs hw))
      exact st_again (j + 1, best, all ++ [x], some ⟨g, 0, none⟩, cap2, ys ++ [.slice nad x.length ncap], H2) hs (hw.sub (List.Sublist.cons_cons _ (List.Sublist.cons _ (List.Sublist.refl _)))) ⟨hj', hjn', hallx, hle1.trans hle2, hc2', .inr (by rw [hyl, if_neg (by have := of_decide_eq_false hgt; omega)]; exact hy)⟩ (by show l.length - (j + 1) < l.length - j; omega) ⟨rfl, rfl, rfl, int_eq (by show IntKind.i64.wrap ((j : Int) + 1) = ((j + 1 : Nat) : Int); rw [IntWalk.i64_in _ (by omega)]; omega), trivial⟩
  all_goals
    intro LD D a W hcl hi hp hs hw
    repeat (first | (refine sxv hs hw ?_; clear hs; intro a hs) | refine sxc hs ?_ | (refine sxa hs hw ?_; clear hs hw; intro a b W hw hs) | (refine sxs hs hw ?_; clear hs hw; intro W hs hw))
    exact ⟨hs, hw⟩
end Go.Proofs.YtcfaicomnngegaaDoor.Sw

/-
  Sx: a slice cut with its capacity; append to a slice that is full.
-/
set_option linter.unusedVariables false
set_option maxRecDepth 10000
namespace Go.Sx
open Go.RowKit
theorem Has.newOwn {G : Nat} {w W W' : World} {R : List Res} {E : TypeId} {size n : Nat} {v : Value} {xs : List Value} (h : Has G w W R) (hb : Below W.heap.size W W') (ho : OwnAt (fun b => W.heap.size ≤ b ∧ b < W'.heap.size) W' E size v n xs) : Has G w W' (Own E size v n xs :: R) := by
  have h1 := h.below hb
  refine ⟨h1.ext, h1.glob, _, ?_, ho, ?_⟩
  · rintro b ⟨hb1, hb2⟩
    exact ⟨Nat.le_trans h.globW hb1, hb2⟩
  · refine (h.has.loc fun b hb' => hb.block b hb'.2).mono fun b hb' => ⟨⟨hb'.1, Nat.lt_of_lt_of_le hb'.2 hb.size⟩, by omega⟩
section
variable {P : Program} {W : World}
theorem run_append_full {t tx ty E T : TypeId} {i : TypeInfo} {z : Value} (ht : P.underlying t = some (.slice E)) (hi : P.info? E = some i) (hz : i.zero = some z) (hzs : z.cells.size = i.size)
    {g k : Nat} {cur xs : List Value} (hg : W.heap[g]? = some (.cells ⟨cur⟩ T (0, 0))) (hk : k * i.size ≤ cur.length) (htk : cur.take (k * i.size) = xs) {x : Value} {m : Nat} {news : List Value} (hs : Src P i.size tx x m news W) (hm : 0 < m) (h63 : k + m ≤ 9223372036854775807) (hb : (k + m) * i.bytes ≤ 140737488355328) :
    ∃ ad cap W', (Builtin.append_ #[t, tx] ty #[.slice (some ⟨g, 0, none⟩) k k, x]).run P W = .ok (.slice ad (k + m) cap) W' ∧ OwnAt (fun b => W.heap.size ≤ b ∧ b < W'.heap.size) W' E i.size (.slice ad (k + m) cap) (k + m) (xs ++ news) ∧ Below W.heap.size W W' := by
  have hnl : news.length = m * i.size := hs.newsLen
  have hxl : xs.length = k * i.size := by rw [← htk, List.length_take]; omega
  have hlen : (xs ++ news).length = (k + m) * i.size := by rw [List.length_append, hxl, hnl, Nat.add_mul]
  have hold : (Builtin.firstCells i.size k (.slice (some ⟨g, 0, none⟩) k k)).run P W.drew = .ok xs.toArray W.drew := by
    have := run_loadCells_block (P := P) (W := W.drew) (b := g) (T := T) (cs := cur) hg 0 (k * i.size) (by omega)
    simp only [List.drop_zero, htk] at this
    simpa [Builtin.firstCells] using this
  have hr := run_append_grow_src (P := P) W t tx ty E i z ht hi hz (some ⟨g, 0, none⟩) k k xs hold x m news hs (by omega) (by omega) (growslice_fits (by omega) hb)
  have hge := grownCap_ge W (k + m) k E
  have hcm : grownCap W (k + m) k E ≤ maxLen := grownCap_le_maxLen W (k + m) k E (by unfold maxLen; omega)
  refine ⟨_, _, _, hr, ⟨hlen, .inr ⟨W.heap.size, _, ((xs ++ news).toArray ++ Builtin.zeroCells z.cells (grownCap W (k + m) k E - (k + m))).toList, rfl, ⟨Nat.le_refl _, lt_of_block (heap_alloc_new W.drew _)⟩, heap_alloc_new W.drew _, hge, hcm, ?_, ?_⟩⟩, rfl, rfl, rfl, by simp, fun b hb => heap_alloc_old W.drew _ hb⟩
  · simp only [Array.toList_append, List.length_append, Array.length_toList, size_zeroCells, hzs]
    rw [← List.length_append, hlen, ← Nat.add_mul]
    congr 1
    omega
  · simp only [Array.toList_append]
    rw [← hlen]
    exact List.take_left
end
section
variable {P : Program} {ops : Array Oper} {rest : List Oper} {Q : Exit → Act → World → Prop} {a : Act} {n G : Nat} {L : List (Nat × Value)} {w W : World} {R : List Res} {d : Nat} {T S S' E E' : TypeId} {p : String} {e : Array Edge} {x y hi mx : Operand} {v u : Value} {cur xs news : List Value} {g k m len cap size bytes : Nat} {q q' : IntKind} {z : List Value}
theorem st_slice3 {agg : Bool} [sl : Sl P S E] [t : Ty P E agg z] (hs : Slots a n L) (hk : k ≤ cap) (hx : ev L x = some (.slice (some ⟨g, 0, none⟩) len cap) := by with_unfolding_all exact rfl) (hh : ev L hi = some (.int q (k : Int)) := by with_unfolding_all exact rfl) (hm : ev L mx = some (.int q' (k : Int)) := by with_unfolding_all exact rfl) (hd : Nat.blt d n = true := by with_unfolding_all exact rfl)
    (c : ∀ a', Slots a' n ((d, .slice (some ⟨g, 0, none⟩) k k) :: L) → wpList P ops Q rest a' W) : wpList P ops Q (⟨some d, .slice S x none (some hi) (some mx), T, p, e, none⟩ :: rest) a W := by
  have hb : ∀ (y : Nat) (c : BoundsCode) (q : IntKind), k ≤ y → (Instr.sliceBound (.int q (k : Int)) y c).run P W = .ok k W := by
    intro y c q hy
    have : (0 : Int) ≤ (k : Int) ∧ (k : Int) ≤ (y : Int) := ⟨by omega, by omega⟩
    simp only [Instr.sliceBound, asIntOf, Sem.run_bind, Sem.run_pure, Result.andThen_ok]
    rw [if_pos this]
    simp
  have hbs : (Instr.sliceBounds true len cap none (some (.int q (k : Int))) (some (.int q' (k : Int)))).run P W = .ok (0, k, k) W := by
    unfold Instr.sliceBounds
    simp [hb cap .slice3Acap q' hk, hb k .slice3B q (Nat.le_refl _)]
  refine st_value hs hd (v := .slice (some ⟨g, 0, none⟩) k k) (W' := W) ?_ c
  simp only [execOp, Option.map_some, Option.map_none, hs.ev hx, hs.ev hh, hs.ev hm, Instr.sliceAt, Instr.slice, Sem.run_bind, run_underlying sl.out, Result.andThen_ok, hbs, t.sizeOf, Sem.run_pure]
  by_cases h0 : k = 0
  · subst h0; simp
  · rw [if_neg h0]; simp [addr_add]
/-- Nothing is appended. -/
theorem st_append_none [sl : Sl P S E] [el : El P E size bytes] (hs : Slots a n L) (hsrc : Src P size S' u 0 [] W) (hx : ev L x = some (.slice (some ⟨g, 0, none⟩) k k) := by with_unfolding_all exact rfl) (hy : ev L y = some u := by with_unfolding_all exact rfl) (hd : Nat.blt d n = true := by with_unfolding_all exact rfl)
    (c : ∀ a', Slots a' n ((d, .slice (some ⟨g, 0, none⟩) k k) :: L) → wpList P ops Q rest a' W) : wpList P ops Q (⟨some d, .call { callee := .builtin .append, args := #[x, y], argTypes := #[S, S'] }, T, p, e, none⟩ :: rest) a W := by
  obtain ⟨i, z, h1, h2, h3, h4, h5⟩ := el.out
  subst h4 h5
  have hr : (Builtin.append_ #[S, S'] T #[.slice (some ⟨g, 0, none⟩) k k, u]).run P W = .ok (.slice (some ⟨g, 0, none⟩) k k) W := by
    rcases hsrc.kind with ⟨e', hk⟩ | hk <;> simp [Builtin.append_, run_underlying sl.out, run_underlying hk, sizeOf, typeInfo, h1, hsrc.len, hsrc.cells, storeCells]
  refine st_value hs hd (v := .slice (some ⟨g, 0, none⟩) k k) (W' := W) ?_ c
  simp only [execOp, resolve, invoke, builtin, Sem.run_bind, Sem.run_pure, Result.andThen_ok, List.map_toArray, List.map_cons, List.map_nil, hs.ev hx, hs.ev hy, hr]
theorem st_append_full [sl : Sl P S E] [el : El P E size bytes] (hs : Slots a n L) (hw : Has G w W R) (hg : W.heap[g]? = some (.cells ⟨cur⟩ E' (0, 0))) (hk : k * size ≤ cur.length) (htk : cur.take (k * size) = xs) (hsrc : Src P size S' u m news W) (hm : 0 < m) (h63 : k + m ≤ 9223372036854775807) (hb : (k + m) * bytes ≤ 140737488355328) (hx : ev L x = some (.slice (some ⟨g, 0, none⟩) k k) := by with_unfolding_all exact rfl) (hy : ev L y = some u := by with_unfolding_all exact rfl) (hd : Nat.blt d n = true := by with_unfolding_all exact rfl)
    (c : ∀ a' ad cap W', Slots a' n ((d, .slice ad (k + m) cap) :: L) → Has G w W' (Own E size (.slice ad (k + m) cap) (k + m) (xs ++ news) :: R) → wpList P ops Q rest a' W') : wpList P ops Q (⟨some d, .call { callee := .builtin .append, args := #[x, y], argTypes := #[S, S'] }, T, p, e, none⟩ :: rest) a W := by
  obtain ⟨i, z, h1, h2, h3, h4, h5⟩ := el.out
  subst h4 h5
  obtain ⟨ad, cap, W', hr, ho, hbl⟩ := run_append_full (P := P) (ty := T) sl.out h1 h2 h3 hg hk htk hsrc hm h63 hb
  refine st_value hs hd (v := .slice ad (k + m) cap) (W' := W') ?_ fun a' hs' => c a' ad cap W' hs' (hw.newOwn hbl ho)
  simp only [execOp, resolve, invoke, builtin, Sem.run_bind, Sem.run_pure, Result.andThen_ok, List.map_toArray, List.map_cons, List.map_nil, hs.ev hx, hs.ev hy, hr]
end
section
variable {P : Program} {ops : Array Oper} {rest : List Oper} {Q : Exit → Act → World → Prop} {a : Act} {n G : Nat} {L : List (Nat × Value)} {w W : World} {R : List Res} {d : Nat} {T S E : TypeId} {p : String} {e : Array Edge} {x lo : Operand} {g k m cap size : Nat} {q : IntKind} {z cur : List Value} {H : Fh}
/-- The end of a slice of a block's own. -/
def tailV (g size k cap m : Nat) : Value := .slice (if cap = m then some ⟨g, 0, none⟩ else some ⟨g, m * size, none⟩) (k - m) (cap - m)
theorem st_slice_lo_at {agg : Bool} [sl : Sl P S E] [t : Ty P E agg z] (hs : Slots a n L) (h1 : m ≤ k) (hc : k ≤ cap) (hx : ev L x = some (.slice (some ⟨g, 0, none⟩) k cap) := by with_unfolding_all exact rfl) (hl : ev L lo = some (.int q (m : Int)) := by with_unfolding_all exact rfl) (hd : Nat.blt d n = true := by with_unfolding_all exact rfl)
    (c : ∀ a', Slots a' n ((d, tailV g z.length k cap m) :: L) → wpList P ops Q rest a' W) : wpList P ops Q (⟨some d, .slice S x (some lo) none none, T, p, e, none⟩ :: rest) a W := by
  have hb : (Instr.sliceBound (.int q (m : Int)) k .sliceB).run P W = .ok m W := by
    have : (0 : Int) ≤ (m : Int) ∧ (m : Int) ≤ (k : Int) := ⟨by omega, by omega⟩
    simp only [Instr.sliceBound, asIntOf, Sem.run_bind, Sem.run_pure, Result.andThen_ok]
    rw [if_pos this]
    simp
  have hbs : (Instr.sliceBounds true k cap (some (.int q (m : Int))) none none).run P W = .ok (m, k, cap) W := by
    unfold Instr.sliceBounds
    simp [hb]
  refine st_value hs hd (v := tailV g z.length k cap m) (W' := W) ?_ c
  simp only [execOp, Option.map_some, Option.map_none, hs.ev hx, hs.ev hl, Instr.sliceAt, Instr.slice, Sem.run_bind, run_underlying sl.out, Result.andThen_ok, hbs, t.sizeOf, Sem.run_pure]
  unfold tailV
  by_cases h0 : cap = m
  · simp [h0]
  · rw [if_neg h0, if_neg h0]; simp [addr_add]
theorem rd_tail (hg : W.heap[g]? = some (.cells ⟨cur⟩ E (0, 0))) (hl : cur.length = cap * size) (hc : k ≤ cap) (h1 : m ≤ k) (hm : cap ≤ maxLen) : Rd W size (tailV g size k cap m) (k - m) ((cur.take (k * size)).drop (m * size)) := by
  have e1 : k * size ≤ cap * size := Nat.mul_le_mul_right _ hc
  have e2 : m * size ≤ k * size := Nat.mul_le_mul_right _ h1
  unfold tailV
  refine ⟨by rw [List.length_drop, List.length_take, Nat.sub_mul]; omega, _, _, rfl, by omega, by unfold maxLen at hm; omega, ?_⟩
  by_cases h0 : cap = m
  · exact .inl (by omega)
  · refine .inr ⟨g, m * size, by rw [if_neg h0], lt_of_block hg, fun j u hu => ?_⟩
    rw [List.getElem?_drop, List.getElem?_take] at hu
    split at hu
    · rw [cell_block hg]; exact hu
    · cases hu
/-- A block is frozen. -/
theorem Has.freeze_cells (h : Has G w W (Cells g cur E :: Fz H :: R)) : ∃ H', H.le H' ∧ Has G w W (Fz H' :: R) ∧ H' g = some (.cells ⟨cur⟩ E (0, 0)) := by
  obtain ⟨H', h1, h2, F, ⟨hF, hg⟩, h4⟩ := h.freeze (R' := [])
  exact ⟨H', h1, h2, h4 g _ hF hg⟩
theorem rdH_head (hg : H g = some (.cells ⟨cur⟩ E (0, 0))) (hk : k * size ≤ cur.length) (h63 : k ≤ 9223372036854775807) : RdH H size (.slice (some ⟨g, 0, none⟩) k k) k (cur.take (k * size)) := by
  refine ⟨by rw [List.length_take]; omega, _, _, rfl, Nat.le_refl _, h63, .inr ⟨g, 0, _, _, _, rfl, hg, fun j u hu => ?_⟩⟩
  rw [List.getElem?_take] at hu
  split at hu
  · simpa using hu
  · cases hu
end
end Go.Sx

/-
  The walk of JudgeRows.
-/
set_option linter.unusedVariables false
set_option maxRecDepth 10000
namespace Go.Proofs.YtcfaicomnngegaaDoor.Sw
open Go.RowKit Go.Sx

theorem of_play : ∀ {rows : List RowD} {f f' : FoldD}, Play f rows f' → ofF f rows = true
  | [], _, _, _ => rfl
  | r :: rs, f, f', ⟨h1, h2, h3⟩ => by
    rw [ofF_cons, h1, eqRow_iff.2 h2, of_play h3]; rfl
theorem of_rows (l : List BatchD) : ofF emptyF (rowsOf l) = true := of_play (rows_play l).1
theorem bat_seq {b : BatchD} (h : BatOk b) (n : Int) : BatOk ⟨b.c, IntKind.i64.wrap n, b.l⟩ := ⟨h.c, wrap_i64 n, h.ops⟩
theorem src0 {P : Program} {S E : TypeId} {W : World} {size n : Nat} {v : Value} {cs : List Value} [sl : Sl P S E] (r : Rd W size v n cs) (h : n = 0) : Src P size S v 0 [] W := by
  subst h
  have : cs = [] := List.eq_nil_of_length_eq_zero (by simpa using r.1)
  subst this
  exact src_rd r (by simp)
theorem mem_set {α : Type} {l : List α} {i : Nat} {a x : α} (h : x ∈ l.set i a) : x ∈ l ∨ x = a := List.mem_or_eq_of_mem_set h

set_option maxHeartbeats 32000000 in
theorem walk_JudgeRows (l : List BatchD) (v : Value) (raw : List RowD) (rv : Value) (al : List BatchD) (av : Value) (at_ spoil : Int) (w : World) (hb : ∀ b ∈ l, BatWf b) (hr : BatsRd w v l) (hraw : ∀ r ∈ raw, RowWf r) (hrr : RowsRd w rv raw) (hal : ∀ b ∈ al, BatWf b) (har : BatsRd w av al) (hat : (Lit.int .i64 at_).wf = true) (hsp : (Lit.int .i64 spoil).wf = true) (hT : Tabs w) :
    Calls Tryd.prog 4 ⟨[v, rv, av, .int .i64 at_, .int .i64 spoil]⟩ w fun e w' => e = .returned (.bool true) ∧ Below w.heap.size w w' := by
  have hw := Has.startF w
  refine enter Tryd.func4 Tryd.ntmps4 rfl rfl fun a hs => ?_
  repeat (first | (refine sxv hs hw ?_; clear hs; intro a hs) | refine sxc hs ?_ | (refine sxa hs hw ?_; clear hs hw; intro a b W hw hs) | (refine sxs hs hw ?_; clear hs hw; intro W hs hw))
  refine st_call hs (hc := law28_begun _ hT) (k := ?_); rintro e0 W1 ⟨rfl, hb⟩; refine ⟨_, rfl, ?_⟩; clear hs; intro a hs; replace hw := hw.below hb; clear hb
  repeat (first | (refine sxv hs hw ?_; clear hs; intro a hs) | refine sxc hs ?_ | (refine sxa hs hw ?_; clear hs hw; intro a b W hw hs) | (refine sxs hs hw ?_; clear hs hw; intro W hs hw))
  refine st_call hs (hc := law28_cut w _ (fr w) raw rv _ hraw hrr.h hw) (k := ?_); rintro e0 W1 ⟨cv, H1, rfl, hle1, hcv, hw1⟩; refine ⟨_, rfl, ?_⟩; clear hs hw; intro a hs; have hw := hw1; clear hw1
  have hcok : ∀ r ∈ cutRows raw, RowOk r := by
    intro r hr
    obtain ⟨x, hx, rfl⟩ := List.mem_map.1 hr
    exact cutRow_ok (hraw x (List.mem_of_mem_take hx))
  have hc8 := cutRows_8 raw
  generalize cutRows raw = m at *
  obtain ⟨cad, ccap, rfl⟩ := hcv.sl
  repeat (first | (refine sxv hs hw ?_; clear hs; intro a hs) | refine sxc hs ?_ | (refine sxa hs hw ?_; clear hs hw; intro a b W hw hs) | (refine sxs hs hw ?_; clear hs hw; intro W hs hw))
  refine st_call hs (hc := ref7_Of m _ _ hcok (hcv.rds hw In.hd)) (k := ?_); rintro e0 W1 ⟨⟨cs, rfl, hcl, hco⟩, hb2⟩; refine ⟨_, rfl, ?_⟩; clear hs; intro a hs; replace hw := hw.below hb2; clear hb2
  repeat (first | (refine sxv hs hw ?_; clear hs; intro a hs) | refine sxc hs ?_ | (refine sxa hs hw ?_; clear hs hw; intro a b W hw hs) | (refine sxs hs hw ?_; clear hs hw; intro W hs hw))
  refine st_store hs (vs := cs) (hw := hw) (hz := by rw [hcl]; rfl) (h1 := hco) (hl := by rw [hcl]; rfl) (k := ?_); clear hs hw; intro W hs hw
  replace hw := hw.sub (List.Sublist.cons _ (List.Sublist.refl _))
  repeat (first | (refine sxv hs hw ?_; clear hs; intro a hs) | refine sxc hs ?_ | (refine sxa hs hw ?_; clear hs hw; intro a b W hw hs) | (refine sxs hs hw ?_; clear hs hw; intro W hs hw))
  refine st_call hs (hc := law21_Rows w _ H1 l v _ hb (hr.h.le hle1) hw) (k := ?_); rintro e0 W1 ⟨xv, H2, rfl, hle2, hx, hw1⟩; refine ⟨_, rfl, ?_⟩; clear hs hw; intro a hs; have hw := hw1; clear hw1
  have hofr := of_rows l
  have hxok := rows_ok hb
  have hx40 := (rows_play l).2
  have hx8 := rows_8 l
  generalize rowsOf l = rows at *
  obtain ⟨xad, xcap, rfl⟩ := hx.sl
  replace hcv := hcv.le hle2
  have hle := hle1.trans hle2
  clear hle1 hle2
  have hbl := hr.h.le hle
  repeat (first | (refine sxv hs hw ?_; clear hs; intro a hs) | refine sxc hs ?_ | (refine sxa hs hw ?_; clear hs hw; intro a b W hw hs) | (refine sxs hs hw ?_; clear hs hw; intro W hs hw))
  refine st_call hs (hc := judge_Rows m _ _ hc8.1 hcok (hcv.rds hw In.hd) (hT.keep (hw.endF In.hd hle))) (k := ?_); rintro e0 W1 ⟨rfl, hb⟩; refine ⟨_, rfl, ?_⟩; clear hs; intro a hs; replace hw := hw.below hb; clear hb
  repeat (first | (refine sxv hs hw ?_; clear hs; intro a hs) | refine sxc hs ?_ | (refine sxa hs hw ?_; clear hs hw; intro a b W hw hs) | (refine sxs hs hw ?_; clear hs hw; intro W hs hw))
  generalize ofF emptyF m = ok1 at *
  rw [beq_self_eq_true] at hs
  repeat (first | (refine sxv hs hw ?_; clear hs; intro a hs) | refine sxc hs ?_ | (refine sxa hs hw ?_; clear hs hw; intro a b W hw hs) | (refine sxs hs hw ?_; clear hs hw; intro W hs hw))
  refine st_call hs (hc := judge_Rows rows _ _ (by omega) hxok (hx.rds hw In.hd) (hT.keep (hw.endF In.hd hle))) (k := ?_); rintro e0 W1 ⟨rfl, hb⟩; refine ⟨_, rfl, ?_⟩; clear hs; intro a hs; replace hw := hw.below hb; clear hb
  rw [hofr] at hs
  repeat (first | (refine sxv hs hw ?_; clear hs; intro a hs) | refine sxc hs ?_ | (refine sxa hs hw ?_; clear hs hw; intro a b W hw hs) | (refine sxs hs hw ?_; clear hs hw; intro W hs hw))
  refine st_call hs (hc := law7_Batches w _ H2 al av 12 _ (by decide) hal (har.h.le hle) hw) (k := ?_); rintro e0 W1 ⟨nv, H3, rfl, hle3, hn, hw1⟩; refine ⟨_, rfl, ?_⟩; clear hs hw; intro a hs; have hw := hw1; clear hw1
  replace hcv := hcv.le hle3
  replace hx := hx.le hle3
  replace hbl := hbl.le hle3
  replace hle := hle.trans hle3
  clear hle3
  repeat (first | (refine sxv hs hw ?_; clear hs; intro a hs) | refine sxc hs ?_ | (refine sxa hs hw ?_; clear hs hw; intro a b W hw hs) | (refine sxs hs hw ?_; clear hs hw; intro W hs hw))
  refine st_call hs (hc := judge_Issued m (batsB al 12) _ _ _ (hcv.rds hw In.hd) (hn.rds hw In.hd)) (k := ?_); rintro e0 W1 ⟨rfl, hb⟩; refine ⟨_, rfl, ?_⟩; clear hs; intro a hs; replace hw := hw.below hb; clear hb
  repeat (first | (refine sxv hs hw ?_; clear hs; intro a hs) | refine sxc hs ?_ | (refine sxa hs hw ?_; clear hs hw; intro a b W hw hs) | (refine sxs hs hw ?_; clear hs hw; intro W hs hw))
  refine st_call hs (hc := law28_issued m (batsB al 12) _ _ _ (hcv.rds hw In.hd) (hn.rds hw In.hd)) (k := ?_); rintro e0 W1 ⟨rfl, hb⟩; refine ⟨_, rfl, ?_⟩; clear hs; intro a hs; replace hw := hw.below hb; clear hb
  repeat (first | (refine sxv hs hw ?_; clear hs; intro a hs) | refine sxc hs ?_ | (refine sxa hs hw ?_; clear hs hw; intro a b W hw hs) | (refine sxs hs hw ?_; clear hs hw; intro W hs hw))
  rw [beq_self_eq_true] at hs
  repeat (first | (refine sxv hs hw ?_; clear hs; intro a hs) | refine sxc hs ?_ | (refine sxa hs hw ?_; clear hs hw; intro a b W hw hs) | (refine sxs hs hw ?_; clear hs hw; intro W hs hw))
  refine st_call hs (hc := judge_Issued rows l _ _ _ (hx.rds hw In.hd) (hbl.rds hw In.hd)) (k := ?_); rintro e0 W1 ⟨rfl, hb⟩; refine ⟨_, rfl, ?_⟩; clear hs; intro a hs; replace hw := hw.below hb; clear hb
  repeat (first | (refine sxv hs hw ?_; clear hs; intro a hs) | refine sxc hs ?_ | (refine sxa hs hw ?_; clear hs hw; intro a b W hw hs) | (refine sxs hs hw ?_; clear hs hw; intro W hs hw))
  refine st_call hs (hc := law28_issued rows l _ _ _ (hx.rds hw In.hd) (hbl.rds hw In.hd)) (k := ?_); rintro e0 W1 ⟨rfl, hb⟩; refine ⟨_, rfl, ?_⟩; clear hs; intro a hs; replace hw := hw.below hb; clear hb
  repeat (first | (refine sxv hs hw ?_; clear hs; intro a hs) | refine sxc hs ?_ | (refine sxa hs hw ?_; clear hs hw; intro a b W hw hs) | (refine sxs hs hw ?_; clear hs hw; intro W hs hw))
  rw [beq_self_eq_true] at hs
  repeat (first | (refine sxv hs hw ?_; clear hs; intro a hs) | refine sxc hs ?_ | (refine sxa hs hw ?_; clear hs hw; intro a b W hw hs) | (refine sxs hs hw ?_; clear hs hw; intro W hs hw))
  cases h0 : ((rows.length : Int) == 0) with
  | true =>
    rw [h0] at hs
    repeat (first | (refine sxv hs hw ?_; clear hs; intro a hs) | refine sxc hs ?_ | (refine sxa hs hw ?_; clear hs hw; intro a b W hw hs) | (refine sxs hs hw ?_; clear hs hw; intro W hs hw))
    exact rt1 hs rfl rfl ⟨rfl, hw.endF In.hd hle⟩
  | false =>
  rw [h0] at hs
  have hpos : 0 < rows.length := by
    rcases Nat.eq_zero_or_pos rows.length with h | h
    · rw [h] at h0; cases h0
    · exact h
  repeat (first | (refine sxv hs hw ?_; clear hs; intro a hs) | refine sxc hs ?_ | (refine sxa hs hw ?_; clear hs hw; intro a b W hw hs) | (refine sxs hs hw ?_; clear hs hw; intro W hs hw))
  cases hneg : decide (at_ < 0) with
  | true =>
    rw [hneg] at hs
    repeat (first | (refine sxv hs hw ?_; clear hs; intro a hs) | refine sxc hs ?_ | (refine sxa hs hw ?_; clear hs hw; intro a b W hw hs) | (refine sxs hs hw ?_; clear hs hw; intro W hs hw))
    exact rt1 hs rfl rfl ⟨rfl, hw.endF In.hd hle⟩
  | false =>
  rw [hneg] at hs
  have hat0 : 0 ≤ at_ := by have := of_decide_eq_false hneg; omega
  repeat (first | (refine sxv hs hw ?_; clear hs; intro a hs) | refine sxc hs ?_ | (refine sxa hs hw ?_; clear hs hw; intro a b W hw hs) | (refine sxs hs hw ?_; clear hs hw; intro W hs hw))
  have hw := hw.nilOwn 36 5
  obtain ⟨xs, hxr, hxc⟩ := hx
  refine st_append hs (hw := hw) (k := 0) (m := rows.length) (xs := []) (news := xs) (hsrc := src_rd (hw.rdH (In.tl In.hd) hxr) (hxc.ones RowIn.ones)) (h63 := by omega) (hb := by omega) (c := ?_)
  clear hs hw; intro a ad2 cap2 W hs hw
  rw [List.nil_append, Nat.zero_add] at hw
  rw [Nat.zero_add] at hs
  obtain ⟨kk, hkk⟩ : ∃ kk : Nat, at_.tmod (rows.length : Int) = (kk : Int) := ⟨(at_.tmod (rows.length : Int)).toNat, by have := Int.tmod_nonneg (rows.length : Int) hat0; omega⟩
  have hkl : kk < rows.length := by
    have := Int.tmod_lt_of_pos at_ (b := (rows.length : Int)) (by omega)
    omega
  repeat (first | (refine sxv hs hw ?_; clear hs; intro a hs) | refine sxc hs ?_ | (refine sxa hs hw ?_; clear hs hw; intro a b W hw hs) | (refine sxs hs hw ?_; clear hs hw; intro W hs hw))
  refine st_idiv hs (hne := by simpa using h0) (k := ?_); clear hs; intro a hs
  rw [hkk] at hs
  repeat (first | (refine sxv hs hw ?_; clear hs; intro a hs) | refine sxn hs ?_ | (refine sxa hs hw ?_; clear hs hw; intro a b W hw hs) | (refine sxs hs hw ?_; clear hs hw; intro W hs hw))
  obtain ⟨g, cur, rfl, hcur, hcl0, hkc, hcm, hw⟩ := hw.open_own hpos
  obtain ⟨ro, hri⟩ : ∃ o, rows[kk]? = some o := ⟨rows[kk], List.getElem?_eq_getElem hkl⟩
  obtain ⟨c0, ⟨ov0, rfl, hov⟩, hcut⟩ := hxc.mem RowIn.len hri
  have hok0 := hxok ro (List.mem_of_getElem? hri)
  refine sq ?_
  refine merge (M := fun a W => ∃ (H : Fh) (x : List RowD) (ad : Option Addr) (cap : Nat), H3.le H ∧ RowsH H (.slice ad x.length cap) x ∧ (∀ r ∈ x, RowOk r) ∧ x.length ≤ 1000000 ∧ Slots a 132 [(15, .slice ad x.length cap), (0, v)] ∧ Has 0 w W (Fz H :: [])) ?_ ?_
  · repeat (first | (refine sxv hs hw ?_; clear hs; intro a hs) | refine sxc hs ?_ | (refine sxa hs hw ?_; clear hs hw; intro a b W hw hs) | (refine sxs hs hw ?_; clear hs hw; intro W hs hw))
    generalize (IntKind.i64.wrap (spoil.tmod 4 + 4)).tmod 4 = sp at *
    cases s0 : (sp == 0) with
    | true =>
      rw [s0] at hs
      repeat (first | (refine sxv hs hw ?_; clear hs; intro a hs) | refine sxc hs ?_ | (refine sxa hs hw ?_; clear hs hw; intro a b W hw hs) | (refine sxs hs hw ?_; clear hs hw; intro W hs hw))
      have hat : cur[kk * 5 + 0]? = some (.int .i64 ro.place) := Ch.at_cur (R := RowIn H3) (l := rows) (a := ro) (j := 0) hcut hcur rfl
      refine st_index_at hs (z := zrc) (h0 := by omega) (h1 := by omega) (c := ?_); clear hs; intro a hs
      repeat (first | (refine sxv hs hw ?_; clear hs; intro a hs) | refine sxc hs ?_ | (refine sxa hs hw ?_; clear hs hw; intro a b W hw hs) | (refine sxs hs hw ?_; clear hs hw; intro W hs hw))
      refine st_load_one hs (hw := hw) (hi := In.hd) (hv := by show cur[0 + kk * 5 + 0]? = _; rw [show 0 + kk * 5 + 0 = kk * 5 + 0 by omega]; exact hat) (k := ?_); clear hs; intro a hs
      repeat (first | (refine sxv hs hw ?_; clear hs; intro a hs) | refine sxc hs ?_ | (refine sxa hs hw ?_; clear hs hw; intro a b W hw hs) | (refine sxs hs hw ?_; clear hs hw; intro W hs hw))
      refine st_index_at hs (z := zrc) (h0 := by omega) (h1 := by omega) (c := ?_); clear hs; intro a hs
      repeat (first | (refine sxv hs hw ?_; clear hs; intro a hs) | refine sxc hs ?_ | (refine sxa hs hw ?_; clear hs hw; intro a b W hw hs) | (refine sxs hs hw ?_; clear hs hw; intro W hs hw))
      refine st_store hs (hw := hw) (vs := [.int .i64 (IntKind.i64.wrap (ro.place + 1))]) (hl := by show Nat.ble (0 + kk * 5 + 0 + 1) cur.length = true; rw [hcl0]; apply Nat.ble_eq_true_of_le; omega) (k := ?_); clear hs hw; intro W hs hw
      rw [ov_one] at hw
      repeat (first | (refine sxv hs hw ?_; clear hs; intro a hs) | refine sxc hs ?_ | (refine sxa hs hw ?_; clear hs hw; intro a b W hw hs) | (refine sxs hs hw ?_; clear hs hw; intro W hs hw))
      have hw : Has 0 w W (Cells g (cur.set (kk * 5 + 0) (.int .i64 (IntKind.i64.wrap (ro.place + 1)))) 36 :: Fz H3 :: []) := by
        have e : 0 + kk * 5 + 0 = kk * 5 + 0 := by omega
        have this : Has 0 w W (Cells g (cur.set (0 + kk * 5 + 0) (.int .i64 (IntKind.i64.wrap (ro.place + 1)))) 36 :: Fz H3 :: []) := hw
        rw [e] at this
        exact this
      have hw := hw.shut_own (k := rows.length) (size := 5) (cap := cap2) (xs := xs.set (kk * 5 + 0) (.int .i64 (IntKind.i64.wrap (ro.place + 1)))) (by rw [List.take_set, hcur]) (by rw [List.length_set]; exact hcl0) hkc hcm
      have hz2 := hxc.set_in (R' := RowIn H3) (m := 0) (x := .int .i64 (IntKind.i64.wrap (ro.place + 1))) (a' := ⟨(IntKind.i64.wrap (ro.place + 1)), ro.b, ro.err⟩) RowIn.len hri (by decide) (by rintro c ⟨sv, rfl, h⟩; exact ⟨sv, rfl, h⟩)
      obtain ⟨H4, h4, hw, hr4⟩ := hw.freeze_own
      refine ⟨H4, rows.set kk ⟨(IntKind.i64.wrap (ro.place + 1)), ro.b, ro.err⟩, some ⟨g, 0, none⟩, cap2, h4, ⟨_, by rw [List.length_set]; exact hr4, hz2.mono (RowIn.le h4)⟩, fun r hr => ?_, by rw [List.length_set]; omega, ?_, hw⟩
      · rcases mem_set hr with hr | rfl
        · exact hxok r hr
        · exact ⟨wrap_i64 _, hok0.err, hok0.b⟩
      · rw [List.length_set]
        exact hs.of ⟨rfl, rfl, trivial⟩
    | false =>
    rw [s0] at hs
    repeat (first | (refine sxv hs hw ?_; clear hs; intro a hs) | refine sxc hs ?_ | (refine sxa hs hw ?_; clear hs hw; intro a b W hw hs) | (refine sxs hs hw ?_; clear hs hw; intro W hs hw))
    cases s1 : (sp == 1) with
    | true =>
      rw [s1] at hs
      repeat (first | (refine sxv hs hw ?_; clear hs; intro a hs) | refine sxc hs ?_ | (refine sxa hs hw ?_; clear hs hw; intro a b W hw hs) | (refine sxs hs hw ?_; clear hs hw; intro W hs hw))
      have hat : cur[kk * 5 + 4]? = some (.int .i64 ro.err) := Ch.at_cur (R := RowIn H3) (l := rows) (a := ro) (j := 4) hcut hcur rfl
      refine st_index_at hs (z := zrc) (h0 := by omega) (h1 := by omega) (c := ?_); clear hs; intro a hs
      repeat (first | (refine sxv hs hw ?_; clear hs; intro a hs) | refine sxc hs ?_ | (refine sxa hs hw ?_; clear hs hw; intro a b W hw hs) | (refine sxs hs hw ?_; clear hs hw; intro W hs hw))
      refine st_load_one hs (hw := hw) (hi := In.hd) (hv := by show cur[0 + kk * 5 + 4]? = _; rw [show 0 + kk * 5 + 4 = kk * 5 + 4 by omega]; exact hat) (k := ?_); clear hs; intro a hs
      repeat (first | (refine sxv hs hw ?_; clear hs; intro a hs) | refine sxc hs ?_ | (refine sxa hs hw ?_; clear hs hw; intro a b W hw hs) | (refine sxs hs hw ?_; clear hs hw; intro W hs hw))
      refine st_index_at hs (z := zrc) (h0 := by omega) (h1 := by omega) (c := ?_); clear hs; intro a hs
      repeat (first | (refine sxv hs hw ?_; clear hs; intro a hs) | refine sxc hs ?_ | (refine sxa hs hw ?_; clear hs hw; intro a b W hw hs) | (refine sxs hs hw ?_; clear hs hw; intro W hs hw))
      refine st_store hs (hw := hw) (vs := [.int .i64 (IntKind.i64.wrap (ro.err + 1))]) (hl := by show Nat.ble (0 + kk * 5 + 4 + 1) cur.length = true; rw [hcl0]; apply Nat.ble_eq_true_of_le; omega) (k := ?_); clear hs hw; intro W hs hw
      rw [ov_one] at hw
      repeat (first | (refine sxv hs hw ?_; clear hs; intro a hs) | refine sxc hs ?_ | (refine sxa hs hw ?_; clear hs hw; intro a b W hw hs) | (refine sxs hs hw ?_; clear hs hw; intro W hs hw))
      have hw : Has 0 w W (Cells g (cur.set (kk * 5 + 4) (.int .i64 (IntKind.i64.wrap (ro.err + 1)))) 36 :: Fz H3 :: []) := by
        have e : 0 + kk * 5 + 4 = kk * 5 + 4 := by omega
        have this : Has 0 w W (Cells g (cur.set (0 + kk * 5 + 4) (.int .i64 (IntKind.i64.wrap (ro.err + 1)))) 36 :: Fz H3 :: []) := hw
        rw [e] at this
        exact this
      have hw := hw.shut_own (k := rows.length) (size := 5) (cap := cap2) (xs := xs.set (kk * 5 + 4) (.int .i64 (IntKind.i64.wrap (ro.err + 1)))) (by rw [List.take_set, hcur]) (by rw [List.length_set]; exact hcl0) hkc hcm
      have hz2 := hxc.set_in (R' := RowIn H3) (m := 4) (x := .int .i64 (IntKind.i64.wrap (ro.err + 1))) (a' := ⟨ro.place, ro.b, (IntKind.i64.wrap (ro.err + 1))⟩) RowIn.len hri (by decide) (by rintro c ⟨sv, rfl, h⟩; exact ⟨sv, rfl, h⟩)
      obtain ⟨H4, h4, hw, hr4⟩ := hw.freeze_own
      refine ⟨H4, rows.set kk ⟨ro.place, ro.b, (IntKind.i64.wrap (ro.err + 1))⟩, some ⟨g, 0, none⟩, cap2, h4, ⟨_, by rw [List.length_set]; exact hr4, hz2.mono (RowIn.le h4)⟩, fun r hr => ?_, by rw [List.length_set]; omega, ?_, hw⟩
      · rcases mem_set hr with hr | rfl
        · exact hxok r hr
        · exact ⟨hok0.place, wrap_i64 _, hok0.b⟩
      · rw [List.length_set]
        exact hs.of ⟨rfl, rfl, trivial⟩
    | false =>
    rw [s1] at hs
    repeat (first | (refine sxv hs hw ?_; clear hs; intro a hs) | refine sxc hs ?_ | (refine sxa hs hw ?_; clear hs hw; intro a b W hw hs) | (refine sxs hs hw ?_; clear hs hw; intro W hs hw))
    cases s2 : (sp == 2) with
    | true =>
      rw [s2] at hs
      repeat (first | (refine sxv hs hw ?_; clear hs; intro a hs) | refine sxc hs ?_ | (refine sxa hs hw ?_; clear hs hw; intro a b W hw hs) | (refine sxs hs hw ?_; clear hs hw; intro W hs hw))
      have hat : cur[kk * 5 + 2]? = some (.int .i64 ro.b.q) := Ch.at_cur (R := RowIn H3) (l := rows) (a := ro) (j := 2) hcut hcur rfl
      refine st_index_at hs (z := zrc) (h0 := by omega) (h1 := by omega) (c := ?_); clear hs; intro a hs
      repeat (first | (refine sxv hs hw ?_; clear hs; intro a hs) | refine sxc hs ?_ | (refine sxa hs hw ?_; clear hs hw; intro a b W hw hs) | (refine sxs hs hw ?_; clear hs hw; intro W hs hw))
      refine st_load_one hs (hw := hw) (hi := In.hd) (hv := by show cur[0 + kk * 5 + 1 + 1]? = _; rw [show 0 + kk * 5 + 1 + 1 = kk * 5 + 2 by omega]; exact hat) (k := ?_); clear hs; intro a hs
      repeat (first | (refine sxv hs hw ?_; clear hs; intro a hs) | refine sxc hs ?_ | (refine sxa hs hw ?_; clear hs hw; intro a b W hw hs) | (refine sxs hs hw ?_; clear hs hw; intro W hs hw))
      refine st_index_at hs (z := zrc) (h0 := by omega) (h1 := by omega) (c := ?_); clear hs; intro a hs
      repeat (first | (refine sxv hs hw ?_; clear hs; intro a hs) | refine sxc hs ?_ | (refine sxa hs hw ?_; clear hs hw; intro a b W hw hs) | (refine sxs hs hw ?_; clear hs hw; intro W hs hw))
      refine st_store hs (hw := hw) (vs := [.int .i64 (IntKind.i64.wrap (ro.b.q + 1))]) (hl := by show Nat.ble (0 + kk * 5 + 1 + 1 + 1) cur.length = true; rw [hcl0]; apply Nat.ble_eq_true_of_le; omega) (k := ?_); clear hs hw; intro W hs hw
      rw [ov_one] at hw
      repeat (first | (refine sxv hs hw ?_; clear hs; intro a hs) | refine sxc hs ?_ | (refine sxa hs hw ?_; clear hs hw; intro a b W hw hs) | (refine sxs hs hw ?_; clear hs hw; intro W hs hw))
      have hw : Has 0 w W (Cells g (cur.set (kk * 5 + 2) (.int .i64 (IntKind.i64.wrap (ro.b.q + 1)))) 36 :: Fz H3 :: []) := by
        have e : 0 + kk * 5 + 1 + 1 = kk * 5 + 2 := by omega
        have this : Has 0 w W (Cells g (cur.set (0 + kk * 5 + 1 + 1) (.int .i64 (IntKind.i64.wrap (ro.b.q + 1)))) 36 :: Fz H3 :: []) := hw
        rw [e] at this
        exact this
      have hw := hw.shut_own (k := rows.length) (size := 5) (cap := cap2) (xs := xs.set (kk * 5 + 2) (.int .i64 (IntKind.i64.wrap (ro.b.q + 1)))) (by rw [List.take_set, hcur]) (by rw [List.length_set]; exact hcl0) hkc hcm
      have hz2 := hxc.set_in (R' := RowIn H3) (m := 2) (x := .int .i64 (IntKind.i64.wrap (ro.b.q + 1))) (a' := ⟨ro.place, ⟨ro.b.c, (IntKind.i64.wrap (ro.b.q + 1)), ro.b.l⟩, ro.err⟩) RowIn.len hri (by decide) (by rintro c ⟨sv, rfl, h⟩; exact ⟨sv, rfl, h⟩)
      obtain ⟨H4, h4, hw, hr4⟩ := hw.freeze_own
      refine ⟨H4, rows.set kk ⟨ro.place, ⟨ro.b.c, (IntKind.i64.wrap (ro.b.q + 1)), ro.b.l⟩, ro.err⟩, some ⟨g, 0, none⟩, cap2, h4, ⟨_, by rw [List.length_set]; exact hr4, hz2.mono (RowIn.le h4)⟩, fun r hr => ?_, by rw [List.length_set]; omega, ?_, hw⟩
      · rcases mem_set hr with hr | rfl
        · exact hxok r hr
        · exact ⟨hok0.place, hok0.err, bat_seq hok0.b _⟩
      · rw [List.length_set]
        exact hs.of ⟨rfl, rfl, trivial⟩
    | false =>
    rw [s2] at hs
    repeat (first | (refine sxv hs hw ?_; clear hs; intro a hs) | refine sxc hs ?_ | (refine sxa hs hw ?_; clear hs hw; intro a b W hw hs) | (refine sxs hs hw ?_; clear hs hw; intro W hs hw))
    by_cases hend : kk + 1 = rows.length
    · skip
      refine rg_draw (V := [.slice (some ⟨g, 0, none⟩) rows.length cap2, .int .i64 (kk : Int), .int .i64 (kk : Int), .slice (some ⟨g, 0, none⟩) kk kk, .slice (some ⟨g, 0, none⟩) rows.length cap2, .int .i64 (kk : Int), .int .i64 ((kk + 1 : Nat) : Int), tailV g 5 rows.length cap2 (kk + 1), .slice (some ⟨g, 0, none⟩) kk kk, .slice (some ⟨g, 0, none⟩) kk kk])
        (Rs := fun D => Cells g cur 36 :: Fz H3 :: []) hs hw (ho := ⟨?_, ?_, ?_, ?c3_1, ?_, ?_, ?c6_1, ?c7_1, ?c8_1, ?_, trivial⟩) (k := ?k_1)
      case c3_1 =>
        intro LD D a W hcl hi hp hs hw
        refine st_slice3 hs (z := zrc) (k := kk) (cap := cap2) (hk := by omega) (c := ?_); clear hs; intro a hs
        repeat (first | (refine sxv hs hw ?_; clear hs; intro a hs) | refine sxc hs ?_ | (refine sxa hs hw ?_; clear hs hw; intro a b W hw hs) | (refine sxs hs hw ?_; clear hs hw; intro W hs hw))
        exact ⟨hs, hw⟩
      case c6_1 =>
        intro LD D a W hcl hi hp hs hw
        refine st_ibin hs (v := .int .i64 ((kk + 1 : Nat) : Int)) (hv := int_eq (by show IntKind.i64.wrap ((kk : Int) + 1) = ((kk + 1 : Nat) : Int); rw [IntWalk.i64_in _ (by omega)]; omega)) (k := ?_); clear hs; intro a hs
        repeat (first | (refine sxv hs hw ?_; clear hs; intro a hs) | refine sxc hs ?_ | (refine sxa hs hw ?_; clear hs hw; intro a b W hw hs) | (refine sxs hs hw ?_; clear hs hw; intro W hs hw))
        exact ⟨hs, hw⟩
      case c7_1 =>
        intro LD D a W hcl hi hp hs hw
        refine st_slice_lo_at hs (z := zrc) (m := kk + 1) (h1 := by omega) (hc := hkc) (c := ?_); clear hs; intro a hs
        repeat (first | (refine sxv hs hw ?_; clear hs; intro a hs) | refine sxc hs ?_ | (refine sxa hs hw ?_; clear hs hw; intro a b W hw hs) | (refine sxs hs hw ?_; clear hs hw; intro W hs hw))
        exact ⟨hs, hw⟩
      case c8_1 =>
        intro LD D a W hcl hi hp hs hw
        have hrt := rd_tail (size := 5) (m := kk + 1) (hw.block In.hd).1 hcl0 hkc (by omega) hcm
        refine st_append_none hs (hsrc := src0 hrt (by omega)) (c := ?_); clear hs; intro a hs
        repeat (first | (refine sxv hs hw ?_; clear hs; intro a hs) | refine sxc hs ?_ | (refine sxa hs hw ?_; clear hs hw; intro a b W hw hs) | (refine sxs hs hw ?_; clear hs hw; intro W hs hw))
        exact ⟨hs, hw⟩
      case k_1 =>
        clear hs hw
        intro a W hs hw
        replace hs : Slots a 132 [(15, .slice (some ⟨g, 0, none⟩) kk kk), (0, v)] := hs.of ⟨rfl, rfl, trivial⟩
        repeat (first | (refine sxv hs hw ?_; clear hs; intro a hs) | refine sxc hs ?_ | (refine sxa hs hw ?_; clear hs hw; intro a b W hw hs) | (refine sxs hs hw ?_; clear hs hw; intro W hs hw))
        obtain ⟨H4, h4, hw, hg4⟩ := hw.freeze_cells
        have e1 : cur.take (kk * 5) = xs.take (kk * 5) := by rw [← hcur, List.take_take, Nat.min_eq_left (by omega)]
        have hlk : (rows.take kk).length = kk := by rw [List.length_take]; omega
        refine ⟨H4, rows.take kk, some ⟨g, 0, none⟩, kk, h4, ⟨xs.take (kk * 5), ?_, (hxc.take RowIn.len kk).mono (RowIn.le h4)⟩, fun r hr => hxok r (List.mem_of_mem_take hr), by omega, ?_, hw⟩
        · rw [hlk, ← e1]
          exact rdH_head hg4 (by rw [hcl0]; omega) (by omega)
        · rw [hlk]; exact hs
      all_goals
        intro LD D a W hcl hi hp hs hw
        repeat (first | (refine sxv hs hw ?_; clear hs; intro a hs) | refine sxc hs ?_ | (refine sxa hs hw ?_; clear hs hw; intro a b W hw hs) | (refine sxs hs hw ?_; clear hs hw; intro W hs hw))
        exact ⟨hs, hw⟩
    · have hw := hw.free.free
      refine rg_drawU (σ := Option Addr × Nat) (V := fun u => [.slice (some ⟨g, 0, none⟩) rows.length cap2, .int .i64 (kk : Int), .int .i64 (kk : Int), .slice (some ⟨g, 0, none⟩) kk kk, .slice (some ⟨g, 0, none⟩) rows.length cap2, .int .i64 (kk : Int), .int .i64 ((kk + 1 : Nat) : Int), tailV g 5 rows.length cap2 (kk + 1), .slice (u 8).1 (kk + (rows.length - (kk + 1))) (u 8).2, .slice (u 9).1 (kk + (rows.length - (kk + 1))) (u 9).2])
        (Rs := fun u D => (if D 9 then Fact (u 9 = u 8) else Free) :: (if D 8 then Sx.Own 36 5 (.slice (u 8).1 (kk + (rows.length - (kk + 1))) (u 8).2) (kk + (rows.length - (kk + 1))) (xs.take (kk * 5) ++ xs.drop ((kk + 1) * 5)) else Free) :: Cells g cur 36 :: Fz H3 :: []) (fun _ => (none, 0)) hs hw (hVu := ?vu_2) (ho := ⟨?_, ?_, ?_, ?c3_2, ?_, ?_, ?c6_2, ?c7_2, ?c8_2, ?c9_2, trivial⟩) (k := ?k_2)
      case vu_2 =>
        intro u u' j h
        rcases j with _ | _ | _ | _ | _ | _ | _ | _ | _ | _ | j
        all_goals first | rfl | simp [h]
      case c3_2 =>
        intro u LD D a W hcl hi hp hs hw
        refine st_slice3 hs (z := zrc) (k := kk) (cap := cap2) (hk := by omega) (c := ?_); clear hs; intro a hs
        repeat (first | (refine sxv hs hw ?_; clear hs; intro a hs) | refine sxc hs ?_ | (refine sxa hs hw ?_; clear hs hw; intro a b W hw hs) | (refine sxs hs hw ?_; clear hs hw; intro W hs hw))
        exact Or.inl ⟨hs, hw⟩
      case c6_2 =>
        intro u LD D a W hcl hi hp hs hw
        refine st_ibin hs (v := .int .i64 ((kk + 1 : Nat) : Int)) (hv := int_eq (by show IntKind.i64.wrap ((kk : Int) + 1) = ((kk + 1 : Nat) : Int); rw [IntWalk.i64_in _ (by omega)]; omega)) (k := ?_); clear hs; intro a hs
        repeat (first | (refine sxv hs hw ?_; clear hs; intro a hs) | refine sxc hs ?_ | (refine sxa hs hw ?_; clear hs hw; intro a b W hw hs) | (refine sxs hs hw ?_; clear hs hw; intro W hs hw))
        exact Or.inl ⟨hs, hw⟩
      case c7_2 =>
        intro u LD D a W hcl hi hp hs hw
        refine st_slice_lo_at hs (z := zrc) (m := kk + 1) (h1 := by omega) (hc := hkc) (c := ?_); clear hs; intro a hs
        repeat (first | (refine sxv hs hw ?_; clear hs; intro a hs) | refine sxc hs ?_ | (refine sxa hs hw ?_; clear hs hw; intro a b W hw hs) | (refine sxs hs hw ?_; clear hs hw; intro W hs hw))
        exact Or.inl ⟨hs, hw⟩
      case c8_2 =>
        intro u LD D a W hcl hi hp hs hw
        have h9 := Go.Sx.not_done hcl hi 9 (by kernel_rfl)
        simp only [hi, h9, Bool.false_eq_true, if_false] at hw
        have hg1 := (hw.block (In.tl (In.tl In.hd))).1
        have hrt := rd_tail (size := 5) (m := kk + 1) hg1 hcl0 hkc (by omega) hcm
        refine st_append_full hs (hw := hw) (hg := hg1) (k := kk) (m := rows.length - (kk + 1)) (xs := xs.take (kk * 5)) (hk := by rw [hcl0]; omega) (htk := by rw [← hcur, List.take_take, Nat.min_eq_left (by omega)]) (hsrc := src_rd hrt (by rw [hcur]; exact fun u hu => hxc.ones RowIn.ones u (List.mem_of_mem_drop hu))) (hm := by omega) (h63 := by omega) (hb := by omega) (c := ?_); clear hs hw; intro a ad cap W hs hw
        repeat (first | (refine sxv hs hw ?_; clear hs; intro a hs) | refine sxc hs ?_ | (refine sxa hs hw ?_; clear hs hw; intro a b W hw hs) | (refine sxs hs hw ?_; clear hs hw; intro W hs hw))
        refine Or.inr ⟨(ad, cap), hs, ?_⟩
        rw [hcur] at hw
        show Has 0 w _ ((if (Nat.beq 9 8 || D 9) = true then _ else _) :: _)
        rw [h9]
        exact hw.fill (Upd.tl Upd.hd)
      case c9_2 =>
        intro u LD D a W hcl hi hp hs hw
        simp only [hi, Bool.false_eq_true, if_false] at hw
        repeat (first | (refine sxv hs hw ?_; clear hs; intro a hs) | refine sxc hs ?_ | (refine sxa hs hw ?_; clear hs hw; intro a b W hw hs) | (refine sxs hs hw ?_; clear hs hw; intro W hs hw))
        refine Or.inr ⟨u 8, hs, ?_⟩
        show Has 0 w _ (Fact (u 8 = u 8) :: _)
        exact (hw.fact rfl).fill Upd.hd
      case k_2 =>
        clear hs hw
        intro u a W hs hw
        replace hs : Slots a 132 [(15, .slice (u 9).1 (kk + (rows.length - (kk + 1))) (u 9).2), (0, v)] := hs.of ⟨rfl, rfl, trivial⟩
        replace hw : Has 0 w W (Fact (u 9 = u 8) :: Sx.Own 36 5 (.slice (u 8).1 (kk + (rows.length - (kk + 1))) (u 8).2) (kk + (rows.length - (kk + 1))) (xs.take (kk * 5) ++ xs.drop ((kk + 1) * 5)) :: Cells g cur 36 :: Fz H3 :: []) := hw
        have h98 := hw.told In.hd
        rw [h98] at hs
        replace hw := hw.sub (List.Sublist.cons _ (List.Sublist.refl _))
        repeat (first | (refine sxv hs hw ?_; clear hs; intro a hs) | refine sxc hs ?_ | (refine sxa hs hw ?_; clear hs hw; intro a b W hw hs) | (refine sxs hs hw ?_; clear hs hw; intro W hs hw))
        obtain ⟨H4, h4, hw, hr4⟩ := (hw.sub (L' := Sx.Own 36 5 (.slice (u 8).1 (kk + (rows.length - (kk + 1))) (u 8).2) (kk + (rows.length - (kk + 1))) (xs.take (kk * 5) ++ xs.drop ((kk + 1) * 5)) :: Fz H3 :: []) (List.Sublist.cons_cons _ (List.Sublist.cons _ (List.Sublist.refl _)))).freeze_own
        have hlk : (rows.take kk ++ rows.drop (kk + 1)).length = kk + (rows.length - (kk + 1)) := by rw [List.length_append, List.length_take, List.length_drop]; omega
        refine ⟨H4, rows.take kk ++ rows.drop (kk + 1), (u 8).1, (u 8).2, h4, ⟨_, by rw [hlk]; exact hr4, ((hxc.take RowIn.len kk).app (hxc.drop RowIn.len (kk + 1))).mono (RowIn.le h4)⟩, fun r hr => ?_, by omega, ?_, hw⟩
        · rcases List.mem_append.1 hr with hr | hr
          · exact hxok r (List.mem_of_mem_take hr)
          · exact hxok r (List.mem_of_mem_drop hr)
        · rw [hlk]; exact hs
      all_goals
        intro u LD D a W hcl hi hp hs hw
        repeat (first | (refine sxv hs hw ?_; clear hs; intro a hs) | refine sxc hs ?_ | (refine sxa hs hw ?_; clear hs hw; intro a b W hw hs) | (refine sxs hs hw ?_; clear hs hw; intro W hs hw))
        exact Or.inl ⟨hs, hw⟩
  · clear hs hw hcut hov hri hkc hcm hcl0 hcur
    rintro a W ⟨H, x, ad, cap, hle4, hx4, hxok4, hxl, hs, hw⟩
    replace hbl := hbl.le hle4
    replace hle := hle.trans hle4
    repeat (first | (refine sxv hs hw ?_; clear hs; intro a hs) | refine sxc hs ?_ | (refine sxa hs hw ?_; clear hs hw; intro a b W hw hs) | (refine sxs hs hw ?_; clear hs hw; intro W hs hw))
    refine st_call hs (hc := ref7_Of x _ _ hxok4 (hx4.rds hw In.hd)) (k := ?_); rintro e0 W1 ⟨⟨cs, rfl, hcl, hco⟩, hb2⟩; refine ⟨_, rfl, ?_⟩; clear hs; intro a hs; replace hw := hw.below hb2; clear hb2
    repeat (first | (refine sxv hs hw ?_; clear hs; intro a hs) | refine sxc hs ?_ | (refine sxa hs hw ?_; clear hs hw; intro a b W hw hs) | (refine sxs hs hw ?_; clear hs hw; intro W hs hw))
    refine st_call hs (hc := judge_Rows x _ _ hxl hxok4 (hx4.rds hw In.hd) (hT.keep (hw.endF In.hd hle))) (k := ?_); rintro e0 W1 ⟨rfl, hb⟩; refine ⟨_, rfl, ?_⟩; clear hs; intro a hs; replace hw := hw.below hb; clear hb
    repeat (first | (refine sxv hs hw ?_; clear hs; intro a hs) | refine sxc hs ?_ | (refine sxa hs hw ?_; clear hs hw; intro a b W hw hs) | (refine sxs hs hw ?_; clear hs hw; intro W hs hw))
    generalize ofF emptyF x = ok2 at *
    rw [beq_self_eq_true] at hs
    repeat (first | (refine sxv hs hw ?_; clear hs; intro a hs) | refine sxc hs ?_ | (refine sxa hs hw ?_; clear hs hw; intro a b W hw hs) | (refine sxs hs hw ?_; clear hs hw; intro W hs hw))
    refine st_call hs (hc := judge_Issued x l _ _ _ (hx4.rds hw In.hd) (hbl.rds hw In.hd)) (k := ?_); rintro e0 W1 ⟨rfl, hb⟩; refine ⟨_, rfl, ?_⟩; clear hs; intro a hs; replace hw := hw.below hb; clear hb
    repeat (first | (refine sxv hs hw ?_; clear hs; intro a hs) | refine sxc hs ?_ | (refine sxa hs hw ?_; clear hs hw; intro a b W hw hs) | (refine sxs hs hw ?_; clear hs hw; intro W hs hw))
    refine st_call hs (hc := law28_issued x l _ _ _ (hx4.rds hw In.hd) (hbl.rds hw In.hd)) (k := ?_); rintro e0 W1 ⟨rfl, hb⟩; refine ⟨_, rfl, ?_⟩; clear hs; intro a hs; replace hw := hw.below hb; clear hb
    repeat (first | (refine sxv hs hw ?_; clear hs; intro a hs) | refine sxc hs ?_ | (refine sxa hs hw ?_; clear hs hw; intro a b W hw hs) | (refine sxs hs hw ?_; clear hs hw; intro W hs hw))
    rw [beq_self_eq_true] at hs
    repeat (first | (refine sxv hs hw ?_; clear hs; intro a hs) | refine sxc hs ?_ | (refine sxa hs hw ?_; clear hs hw; intro a b W hw hs) | (refine sxs hs hw ?_; clear hs hw; intro W hs hw))
    exact rt1 hs rfl rfl ⟨rfl, hw.endF In.hd hle⟩
end Go.Proofs.YtcfaicomnngegaaDoor.Sw
