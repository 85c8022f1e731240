/-
  Texts of the proof, one behind the other (part 11).
-/
import Derived.Test.YtajidlglbkopjaaDoorM10
import Derived.Laws.Small
/-
  The rows of batches, played; what Take makes of them: in plain words.
-/
set_option linter.unusedVariables false
set_option maxRecDepth 10000
namespace Go.Proofs.YtajidlglbkopjaaDoor.Sw
open Go.RowKit Go.Sx

/-- Rows are a fold's, one behind the other. -/
def Play : FoldD → List RowD → FoldD → Prop
  | f, [], f' => f = f'
  | f, r :: rs, f' => (next f r.b).2.2 = true ∧ (next f r.b).2.1 = r ∧ Play (next f r.b).1 rs f'
theorem Play.app : ∀ {f f' f'' : FoldD} {a b : List RowD}, Play f a f' → Play f' b f'' → Play f (a ++ b) f''
  | f, f', f'', [], b, h1, h2 => by
    have h1 : f = f' := h1
    subst h1; exact h2
  | f, f', f'', r :: a, b, ⟨h1, h2, h3⟩, h4 => ⟨h1, h2, h3.app h4⟩
theorem Play.split : ∀ {f f'' : FoldD} {a b : List RowD}, Play f (a ++ b) f'' → ∃ f', Play f a f' ∧ Play f' b f''
  | f, f'', [], b, h => ⟨f, rfl, h⟩
  | f, f'', r :: a, b, ⟨h1, h2, h3⟩ => by
    obtain ⟨f', h4, h5⟩ := Play.split h3
    exact ⟨f', ⟨h1, h2, h4⟩, h5⟩
theorem play_det : ∀ {rows : List RowD} {f g h : FoldD}, Play f rows g → Play f rows h → g = h
  | [], f, g, h, h1, h2 => by
    have h1 : f = g := h1
    have h2 : f = h := h2
    rw [← h1, h2]
  | r :: rows, f, g, h, ⟨_, _, h1⟩, ⟨_, _, h2⟩ => play_det h1 h2
theorem next_ok {f : FoldD} {b : BatchD} (h : (next f b).2.2 = true) : nextB f b = true ∧ next f b = (nextF f b, nextR f b, true) := by
  unfold next at *
  cases hb : nextB f b with
  | true => exact ⟨rfl, rfl⟩
  | false => rw [hb] at h; cases h
theorem next_row {f : FoldD} {b : BatchD} (h : (next f b).2.2 = true) : (next f b).2.1.b = b := by rw [(next_ok h).2]; rfl
theorem allF_play : ∀ (l : List BatchD) (f : FoldD) (rows : List RowD), ∃ more, (allF f rows l).2 = rows ++ more ∧ Play f more (allF f rows l).1 ∧ more.length ≤ l.length
  | [], f, rows => ⟨[], by simp [allF], rfl, Nat.le_refl _⟩
  | b :: l, f, rows => by
    simp only [allF]
    cases h : (next f b).2.2 with
    | false =>
      obtain ⟨more, h1, h2, h3⟩ := allF_play l f rows
      exact ⟨more, h1, h2, Nat.le_succ_of_le h3⟩
    | true =>
      obtain ⟨more, h1, h2, h3⟩ := allF_play l (next f b).1 (rows ++ [(next f b).2.1])
      refine ⟨(next f b).2.1 :: more, by rw [h1]; simp, ⟨?_, ?_, ?_⟩, by simp; omega⟩
      · rw [next_row h]; exact h
      · rw [next_row h]
      · rw [next_row h]; exact h2
theorem play_places : ∀ {rows : List RowD} {f f' : FoldD} {k : Nat}, Play f rows f' → f.place = k → k + rows.length ≤ 1000000 → f'.place = ((k + rows.length : Nat) : Int) ∧ ∀ (i : Nat) (r : RowD), rows[i]? = some r → r.place = ((k + i + 1 : Nat) : Int)
  | [], f, f', k, h, hk, _ => by
    have h : f = f' := h
    subst h
    exact ⟨by rw [hk]; simp, fun i r h => by simp at h⟩
  | r :: rows, f, f', k, ⟨h1, h2, h3⟩, hk, hl => by
    have hn := (next_ok h1).2
    rw [hn] at h2 h3
    simp only [List.length_cons] at hl
    have hw : IntKind.i64.wrap (f.place + 1) = ((k + 1 : Nat) : Int) := by rw [hk, IntWalk.i64_in _ (by omega)]; omega
    obtain ⟨g1, g2⟩ := play_places (k := k + 1) h3 hw (by omega)
    refine ⟨by rw [g1, List.length_cons]; congr 1; omega, fun i x hx => ?_⟩
    cases i with
    | zero =>
      simp only [List.getElem?_cons_zero, Option.some.injEq] at hx
      subst hx
      have h2 : nextR f r.b = r := h2
      rw [← h2]
      show IntKind.i64.wrap (f.place + 1) = _
      rw [hw]
    | succ i =>
      rw [List.getElem?_cons_succ] at hx
      rw [g2 i x hx]; congr 1; omega
theorem one_play {f : FoldD} {l : List RowD} {r : RowD} (h1 : (next f r.b).2.2 = true) (h2 : (next f r.b).2.1 = r) (hp : f.place = l.length) (hl : l.length ≤ 1000000) : one ⟨f, l⟩ r = (⟨(next f r.b).1, l ++ [r]⟩, true, 0) := by
  have hpl : r.place = (l.length : Int) + 1 := by
    have hn := (next_ok h1).2
    rw [hn] at h2
    have h2 : nextR f r.b = r := h2
    have := congrArg RowD.place h2
    rw [← this]
    show IntKind.i64.wrap (f.place + 1) = _
    rw [hp, IntWalk.i64_in _ (by omega)]
  unfold one
  rw [if_neg (by show ¬ r.place > (l.length : Int) + 1; omega), if_neg (by show ¬ r.place < (l.length : Int) + 1; omega), if_pos ⟨h1, by show (next f r.b).2.1.err = r.err; rw [h2]⟩]
/-- A fold's rows are all taken. -/
theorem take_play : ∀ {rows : List RowD} {f f' : FoldD} {l : List RowD} {n : Nat}, Play f rows f' → f.place = l.length → l.length + rows.length ≤ 1000000 → takeN ⟨f, l⟩ n rows = (⟨f', l ++ rows⟩, n + rows.length, 0)
  | [], f, f', l, n, h, hp, hl => by
    have h : f = f' := h
    subst h
    simp [takeN]
  | r :: rows, f, f', l, n, ⟨h1, h2, h3⟩, hp, hl => by
    simp only [List.length_cons] at hl
    have ho := one_play h1 h2 hp (by omega)
    have hp2 : (next f r.b).1.place = ((l ++ [r]).length : Nat) := by
      rw [(next_ok h1).2]
      show IntKind.i64.wrap (f.place + 1) = _
      rw [hp, IntWalk.i64_in _ (by omega)]; simp
    have ih := take_play (n := n + 1) h3 hp2 (by simp; omega)
    simp only [takeN, ho, if_true]
    rw [ih]
    simp
    omega
/-- Rows that stand already are nothing new. -/
theorem take_old : ∀ {rows rest : List RowD} {s : StreamD} {n : Nat}, (∀ r ∈ rows, 1 ≤ r.place ∧ r.place ≤ s.l.length ∧ s.l[(r.place - 1).toNat]? = some r) → takeN s n (rows ++ rest) = takeN s n rest
  | [], rest, s, n, _ => rfl
  | r :: rows, rest, s, n, h => by
    obtain ⟨h1, h2, h3⟩ := h r (by simp)
    have ho : one s r = (s, false, 0) := by
      unfold one
      rw [if_neg (by omega), if_pos (by omega), if_neg]
      rintro (g | g)
      · omega
      · exact g ⟨r, h3, sameR_iff.2 rfl⟩
    simp only [List.cons_append, takeN, ho, if_true]
    exact take_old fun x hx => h x (by simp [hx])
theorem take_app : ∀ {a b : List RowD} {s : StreamD} {n : Nat}, (takeN s n a).2.2 = 0 → takeN s n (a ++ b) = takeN (takeN s n a).1 (takeN s n a).2.1 b
  | [], b, s, n, _ => rfl
  | r :: a, b, s, n, h => by
    simp only [takeN, List.cons_append] at h ⊢
    by_cases hc : (one s r).2.2 = 0
    · rw [if_pos hc] at h
      rw [if_pos hc, if_pos hc]
      exact take_app h
    · rw [if_neg hc] at h
      exact absurd h hc
/-- The rows of batches. -/
def rowsOf (l : List BatchD) : List RowD := (allF emptyF [] (batsB l 40)).2
def foldOf (l : List BatchD) : FoldD := (allF emptyF [] (batsB l 40)).1
theorem batsB_len (l : List BatchD) (n : Nat) : (batsB l n).length ≤ n := by unfold batsB; rw [List.length_map, List.length_take]; omega
theorem rows_play (l : List BatchD) : Play emptyF (rowsOf l) (foldOf l) ∧ (rowsOf l).length ≤ 40 := by
  obtain ⟨more, h1, h2, h3⟩ := allF_play (batsB l 40) emptyF []
  have := batsB_len l 40
  unfold rowsOf foldOf
  rw [h1, List.nil_append]
  exact ⟨h2, by omega⟩
theorem play_mem : ∀ {rows : List RowD} {f f' : FoldD}, Play f rows f' → ∀ r ∈ rows, mayB r.b = true
  | [], _, _, _, r, h => by simp at h
  | x :: rows, f, f', ⟨h1, h2, h3⟩, r, h => by
    rcases List.mem_cons.1 h with rfl | h
    · have := (next_ok h1).1
      unfold nextB at this
      exact (Bool.and_eq_true _ _ |>.mp this).1
    · exact play_mem h3 r h
theorem play_from : ∀ {l : List BatchD} {f : FoldD} {rows : List RowD}, (∀ r ∈ rows, ∃ b, BatOk b ∧ r.b = b) → (∀ b ∈ l, BatOk b) → ∀ r ∈ (allF f rows l).2, BatOk r.b
  | [], f, rows, h, _, r, hr => by obtain ⟨b, h1, h2⟩ := h r hr; rw [h2]; exact h1
  | b :: l, f, rows, h, hb, r, hr => by
    simp only [allF] at hr
    cases hn : (next f b).2.2 with
    | false => rw [hn] at hr; exact play_from h (fun x hx => hb x (by simp [hx])) r hr
    | true =>
      rw [hn] at hr
      refine play_from (fun x hx => ?_) (fun x hx => hb x (by simp [hx])) r hr
      rcases List.mem_append.1 hx with hx | hx
      · exact h x hx
      · rw [List.mem_singleton] at hx
        subst hx
        exact ⟨b, hb b (by simp), next_row hn⟩
theorem play_err : ∀ {rows : List RowD} {f f' : FoldD}, Play f rows f' → ∀ r ∈ rows, ∃ d l, r.err = (applyL d l).1
  | [], _, _, _, r, h => by simp at h
  | x :: rows, f, f', ⟨h1, h2, h3⟩, r, h => by
    rcases List.mem_cons.1 h with rfl | h
    · rw [(next_ok h1).2] at h2
      refine ⟨f.d, r.b.l, ?_⟩
      rw [← (show nextR f r.b = r from h2)]; rfl
    · exact play_err h3 r h
theorem setRL_err (d : Dm) (k : ByteArray) (x : Option DV) : (setRL d k x).1 = 0 ∨ (setRL d k x).1 = 6 := by
  cases x with
  | none => exact .inl rfl
  | some v => unfold setRL; simp only; split <;> simp
theorem doL_err (d : Dm) (o : OpD) : 0 ≤ (doL d o).1 ∧ (doL d o).1 ≤ 8 := by
  have h : ∀ k x, 0 ≤ (setRL d k x).1 ∧ (setRL d k x).1 ≤ 8 := fun k x => by
    rcases setRL_err d k x with h' | h' <;> (rw [h']; exact ⟨by decide, by decide⟩)
  have c : ∀ n : Int, 0 ≤ n → n ≤ 8 → 0 ≤ ((n, d) : Int × Dm).1 ∧ ((n, d) : Int × Dm).1 ≤ 8 := fun n h1 h2 => ⟨h1, h2⟩
  unfold doL
  split
  · split
    · exact h _ _
    · exact c 8 (by decide) (by decide)
  · split
    · split
      · exact c 7 (by decide) (by decide)
      · split
        · exact c 4 (by decide) (by decide)
        · exact h _ _
    · exact h _ _
theorem goL_err : ∀ (l : List OpD) (d : Dm), 0 ≤ (goL l d).1 ∧ (goL l d).1 ≤ 8
  | [], d => ⟨by show (0 : Int) ≤ 0; decide, by show (0 : Int) ≤ 8; decide⟩
  | o :: l, d => by
    unfold goL
    split
    · exact ⟨by show (0 : Int) ≤ 1; decide, by show (1 : Int) ≤ 8; decide⟩
    · split
      · exact goL_err l _
      · exact doL_err d o
theorem applyL_err (d : Dm) (l : List OpD) : 0 ≤ (applyL d l).1 ∧ (applyL d l).1 ≤ 8 := by
  unfold applyL
  split
  · exact ⟨by show (0 : Int) ≤ 1; decide, by show (1 : Int) ≤ 8; decide⟩
  · split
    · exact ⟨by show (0 : Int) ≤ 0; decide, by show (0 : Int) ≤ 8; decide⟩
    · exact goL_err l d
theorem rows_ok {l : List BatchD} (h : ∀ b ∈ l, BatWf b) : ∀ r ∈ rowsOf l, RowOk r := by
  intro r hr
  obtain ⟨hp, hl⟩ := rows_play l
  obtain ⟨d, ol, he⟩ := play_err hp r hr
  have hb := play_from (l := batsB l 40) (f := emptyF) (rows := []) (by simp) (batsB_ok h 40) r hr
  obtain ⟨i, hi⟩ := List.getElem?_of_mem hr
  have hpl := (play_places (k := 0) hp rfl (by omega)).2 i r hi
  have hi' := (List.getElem?_eq_some_iff.1 hi).1
  have := applyL_err d ol
  refine ⟨?_, ?_, hb⟩
  · unfold i64; rw [hpl]; omega
  · unfold i64; rw [he]; omega
theorem rows_8 (l : List BatchD) : ∀ r ∈ rowsOf l, r.b.l.length ≤ 8 := fun r hr => (may_parts (play_mem (rows_play l).1 r hr)).2.2

set_option maxHeartbeats 8000000 in
theorem law21_Rows (w0 W : World) (H : Fh) (l : List BatchD) (v : Value) (R : List Res) (hb : ∀ b ∈ l, BatWf b) (hr : BatsH H v l) (hw : Has 0 w0 W (Fz H :: R)) :
    Calls Tryd.prog 16 ⟨[v]⟩ W fun e W' => ∃ v' H', e = .returned v' ∧ H.le H' ∧ RowsH H' v' (rowsOf l) ∧ Has 0 w0 W' (Fz H' :: R) := by
  refine enter Tryd.func16 Tryd.ntmps16 rfl rfl fun a hs => ?_
  repeat (first | (refine sxv hs hw ?_; clear hs; intro a hs) | refine sxc hs ?_ | (refine sxa hs hw ?_; clear hs hw; intro a b W hw hs) | (refine sxs hs hw ?_; clear hs hw; intro W hs hw))
  refine st_call hs (hc := law7_Batches w0 _ H l v 40 _ (by decide) hb hr hw) (k := ?_); rintro e0 W1 ⟨v1, H1, rfl, hle1, hr1, hw1⟩; refine ⟨_, rfl, ?_⟩; clear hs hw; intro a hs; have hw := hw1; clear hw1
  have h40 := batsB_len l 40
  refine st_call hs (hc := ref7_All w0 _ H1 (batsB l 40) v1 _ (by omega) (batsB_ok hb 40) hr1 hw) (k := ?_); rintro e0 W1 ⟨cs, ad, cap, ys, H2, rfl, hle2, hf, hch, hw1⟩; refine ⟨_, rfl, ?_⟩; clear hs hw; intro a hs; have hw := hw1; clear hw1
  have hlen := hf.len
  have hone := hf.one
  repeat (first | (refine sxv hs hw ?_; clear hs; intro a hs) | refine sxc hs ?_ | (refine sxa hs hw ?_; clear hs hw; intro a b W hw hs) | (refine sxs hs hw ?_; clear hs hw; intro W hs hw))
  refine st_store hs (vs := cs) (hw := hw) (hz := by rw [hlen]; rfl) (h1 := hone) (hl := by rw [hlen]; rfl) (k := ?_); clear hs hw; intro W hs hw
  repeat (first | (refine sxv hs hw ?_; clear hs; intro a hs) | refine sxc hs ?_ | (refine sxa hs hw ?_; clear hs hw; intro a b W hw hs) | (refine sxs hs hw ?_; clear hs hw; intro W hs hw))
  obtain ⟨H3, h1, h2, h3⟩ := (hw.sub (L' := Sx.Own 29 5 (.slice ad (rowsOf l).length cap) (rowsOf l).length ys :: Fz H2 :: R) (List.Sublist.cons _ (List.Sublist.refl _))).freeze_own
  exact rt1 hs rfl rfl ⟨_, H3, rfl, (hle1.trans hle2).trans h1, ⟨ys, h3, hch.mono (RowIn.le h1)⟩, h2⟩
end Go.Proofs.YtajidlglbkopjaaDoor.Sw

/-
  Sx: slices of what is frozen; min; a literal frozen.
-/
set_option linter.unusedVariables false
namespace Go.Sx
open Go.RowKit
section
variable {P : Program} {ops : Array Oper} {rest : List Oper} {Q : Exit → Act → World → Prop} {a : Act} {n G : Nat} {L : List (Nat × Value)} {w W W' : World} {R : List Res} {d : Nat} {T S E : TypeId} {p : String} {e : Array Edge} {x y lo hi : Operand} {v : Value} {xs cs : List Value} {k sz : Nat} {i j : Int} {q q' : IntKind} {z : List Value} {H : Fh}
theorem run_slice_rdH {agg : Bool} [sl : Sl P S E] [t : Ty P E agg z] (r : RdH H sz v k xs) (hz : z.length = sz) (l h : Option Value) {i' j' : Nat} (h0 : i' ≤ j') (h1 : j' ≤ k)
    (hl : l = none ∧ i' = 0 ∨ ∃ q, l = some (.int q i')) (hh : h = none ∧ j' = k ∨ ∃ q, h = some (.int q j')) :
    ∃ v', (Instr.sliceAt S v l h none).run P W = .ok v' W ∧ RdH H sz v' (j' - i') ((xs.drop (i' * sz)).take ((j' - i') * sz)) := by
  subst hz
  obtain ⟨hx, ad, cap, rfl, h3, h4, h5⟩ := r
  have hb : ∀ (u : Value) (m y : Nat) (c : BoundsCode) (q : IntKind), u = .int q m → m ≤ y → (Instr.sliceBound u y c).run P W = .ok m W := by
    rintro u m y c q rfl hm
    have : (0 : Int) ≤ (m : Int) ∧ (m : Int) ≤ (y : Int) := ⟨by omega, by omega⟩
    simp only [Instr.sliceBound, asIntOf, Sem.run_bind, Sem.run_pure, Result.andThen_ok]
    rw [if_pos this]
    simp
  have hbs : (Instr.sliceBounds true k cap l h none).run P W = .ok (i', j', cap) W := by
    unfold Instr.sliceBounds
    rcases hh with ⟨rfl, rfl⟩ | ⟨q2, rfl⟩ <;> rcases hl with ⟨rfl, rfl⟩ | ⟨q1, rfl⟩
    · simp
    · simp [hb _ i' j' .sliceB q1 rfl h0]
    · simp [hb _ j' cap .sliceAcap q2 rfl (by omega)]
    · simp [hb _ j' cap .sliceAcap q2 rfl (by omega), hb _ i' j' .sliceB q1 rfl h0]
  refine ⟨.slice (if cap = i' then ad else ad.map (·.add (i' * z.length))) (j' - i') (cap - i'), ?_, ?_, _, _, rfl, by omega, by omega, ?_⟩
  · simp only [Instr.sliceAt, Instr.slice, Sem.run_bind, run_underlying sl.out, Result.andThen_ok, hbs, t.sizeOf, Sem.run_pure]
  · rw [List.length_take, List.length_drop, hx]
    have : (j' - i') * z.length ≤ k * z.length - i' * z.length := by rw [← Nat.sub_mul]; exact Nat.mul_le_mul_right _ (by omega)
    omega
  · rcases h5 with rfl | ⟨b, o, cs, T, zz, rfl, hlt, hc⟩
    · exact .inl (by omega)
    · by_cases hci : cap = i'
      · exact .inl (by omega)
      · refine .inr ⟨b, o + i' * z.length, cs, T, zz, by rw [if_neg hci]; simp [addr_add], hlt, fun m u hu => ?_⟩
        rw [List.getElem?_take] at hu
        split at hu
        · rw [List.getElem?_drop] at hu
          rw [Nat.add_assoc]
          exact hc _ _ hu
        · cases hu
theorem st_sliceH_lo {agg : Bool} [sl : Sl P S E] [t : Ty P E agg z] (hs : Slots a n L) (r : RdH H sz v k xs) (h0 : 0 ≤ i) (h1 : i ≤ k) (hx : ev L x = some v := by with_unfolding_all exact rfl) (hl : ev L lo = some (.int q i) := by with_unfolding_all exact rfl) (hd : Nat.blt d n = true := by with_unfolding_all exact rfl) (hz : z.length = sz := by with_unfolding_all exact rfl)
    (c : ∀ a' v', RdH H sz v' (k - i.toNat) (xs.drop (i.toNat * sz)) → Slots a' n ((d, v') :: L) → wpList P ops Q rest a' W) : wpList P ops Q (⟨some d, .slice S x (some lo) none none, T, p, e, none⟩ :: rest) a W := by
  obtain ⟨m, rfl⟩ := Int.eq_ofNat_of_zero_le h0
  obtain ⟨v', h2, h3⟩ := run_slice_rdH (P := P) (S := S) (W := W) r hz (some (.int q m)) none (i' := m) (j' := k) (by omega) (Nat.le_refl _) (.inr ⟨q, rfl⟩) (.inl ⟨rfl, rfl⟩)
  refine st_value hs hd (v := v') (W' := W) ?_ fun a' hs' => c a' v' ?_ hs'
  · simp only [execOp, Option.map_some, Option.map_none, hs.ev hx, hs.ev hl]
    simp only [Sem.run_bind, h2, Result.andThen_ok]
    rfl
  · rw [List.take_of_length_le (by rw [List.length_drop, r.1, Nat.sub_mul]; omega)] at h3
    simpa using h3
theorem st_sliceH_hi {agg : Bool} [sl : Sl P S E] [t : Ty P E agg z] (hs : Slots a n L) (r : RdH H sz v k xs) (h0 : 0 ≤ i) (h1 : i ≤ k) (hx : ev L x = some v := by with_unfolding_all exact rfl) (hh : ev L hi = some (.int q i) := by with_unfolding_all exact rfl) (hd : Nat.blt d n = true := by with_unfolding_all exact rfl) (hz : z.length = sz := by with_unfolding_all exact rfl)
    (c : ∀ a' v', RdH H sz v' i.toNat (xs.take (i.toNat * sz)) → Slots a' n ((d, v') :: L) → wpList P ops Q rest a' W) : wpList P ops Q (⟨some d, .slice S x none (some hi) none, T, p, e, none⟩ :: rest) a W := by
  obtain ⟨m, rfl⟩ := Int.eq_ofNat_of_zero_le h0
  obtain ⟨v', h2, h3⟩ := run_slice_rdH (P := P) (S := S) (W := W) r hz none (some (.int q m)) (i' := 0) (j' := m) (by omega) (by omega) (.inl ⟨rfl, rfl⟩) (.inr ⟨q, rfl⟩)
  refine st_value hs hd (v := v') (W' := W) ?_ fun a' hs' => c a' v' ?_ hs'
  · simp only [execOp, Option.map_some, Option.map_none, hs.ev hx, hs.ev hh]
    simp only [Sem.run_bind, h2, Result.andThen_ok]
    rfl
  · simpa using h3
theorem st_sliceH_lh {agg : Bool} [sl : Sl P S E] [t : Ty P E agg z] (hs : Slots a n L) (r : RdH H sz v k xs) (h0 : 0 ≤ i) (h1 : i ≤ j) (h2 : j ≤ k) (hx : ev L x = some v := by with_unfolding_all exact rfl) (hl : ev L lo = some (.int q i) := by with_unfolding_all exact rfl) (hh : ev L hi = some (.int q' j) := by with_unfolding_all exact rfl) (hd : Nat.blt d n = true := by with_unfolding_all exact rfl) (hz : z.length = sz := by with_unfolding_all exact rfl)
    (c : ∀ a' v', RdH H sz v' (j.toNat - i.toNat) ((xs.drop (i.toNat * sz)).take ((j.toNat - i.toNat) * sz)) → Slots a' n ((d, v') :: L) → wpList P ops Q rest a' W) : wpList P ops Q (⟨some d, .slice S x (some lo) (some hi) none, T, p, e, none⟩ :: rest) a W := by
  obtain ⟨m, rfl⟩ := Int.eq_ofNat_of_zero_le h0
  obtain ⟨m', rfl⟩ := Int.eq_ofNat_of_zero_le (show 0 ≤ j by omega)
  obtain ⟨v', h4, h3⟩ := run_slice_rdH (P := P) (S := S) (W := W) r hz (some (.int q m)) (some (.int q' m')) (i' := m) (j' := m') (by omega) (by omega) (.inr ⟨q, rfl⟩) (.inr ⟨q', rfl⟩)
  refine st_value hs hd (v := v') (W' := W) ?_ fun a' hs' => c a' v' ?_ hs'
  · simp only [execOp, Option.map_some, Option.map_none, hs.ev hx, hs.ev hl, hs.ev hh]
    simp only [Sem.run_bind, h4, Result.andThen_ok]
    rfl
  · simpa using h3
theorem st_min {ts : Array TypeId} (hs : Slots a n L) (hx : ev L x = some (.int q i) := by with_unfolding_all exact rfl) (hy : ev L y = some (.int q' j) := by with_unfolding_all exact rfl) (hd : Nat.blt d n = true := by with_unfolding_all exact rfl)
    (k : ∀ a', Slots a' n ((d, .int q (if j < i then j else i)) :: L) → wpList P ops Q rest a' W) : wpList P ops Q (⟨some d, .call { callee := .builtin .min, args := #[x, y], argTypes := ts }, T, p, e, none⟩ :: rest) a W :=
  st_value hs hd (by simp only [execOp, resolve, invoke, builtin, List.map_toArray, List.map_cons, List.map_nil, hs.ev hx, hs.ev hy, Sem.run_bind, Sem.run_pure, Result.andThen_ok, run_min_int2]) k
/-- A literal is frozen. -/
theorem Has.freeze_lit {b m : Nat} (h : Has G w W (Cells b cs E :: Fz H :: R)) (hl : cs.length = m * sz) (hm : m ≤ 9223372036854775807) : ∃ H', H.le H' ∧ Has G w W (Fz H' :: R) ∧ RdH H' sz (.slice (some ⟨b, 0, none⟩) m m) m cs := by
  obtain ⟨H', h1, h2, F, ⟨hF, hb⟩, h4⟩ := h.freeze (R' := [])
  exact ⟨H', h1, h2, hl, some ⟨b, 0, none⟩, m, rfl, Nat.le_refl _, hm, .inr ⟨b, 0, ⟨cs⟩, E, (0, 0), rfl, h4 b _ hF hb, fun j x hx => by simpa using hx⟩⟩
end
end Go.Sx

/-
  The walks of packhorselaw21.begun and of StreamNone.
-/
set_option linter.unusedVariables false
set_option maxRecDepth 10000
namespace Go.Proofs.YtajidlglbkopjaaDoor.Sw
open Go.RowKit Go.Sx

abbrev addN : OpD := ⟨4, ⟨#[110]⟩, 0, 0, ⟨#[]⟩, 0, 0, ⟨#[]⟩, 1⟩
abbrev b1 : BatchD := ⟨1, 1, [addN]⟩
theorem rows_b1 : rowsOf [b1] = [⟨1, b1, 0⟩] := by kernel_rfl
theorem addN_wf : OpWf addN := ⟨by decide, by decide, by decide, by decide, by decide, by decide, by decide, by decide, by decide⟩
theorem b1_wf : ∀ b ∈ [b1], BatWf b := by
  intro b hb
  rw [List.mem_singleton] at hb
  subst hb
  exact ⟨by decide, by decide, fun o ho => by rw [List.mem_singleton] at ho; subst ho; exact addN_wf⟩

/-- Its stream behind those rows. -/
theorem take_rows {l : List BatchD} : takeN ⟨emptyF, []⟩ 0 (rowsOf l) = (⟨foldOf l, rowsOf l⟩, (rowsOf l).length, 0) := by
  obtain ⟨h1, h2⟩ := rows_play l
  have := take_play (l := []) (n := 0) h1 rfl (by simp; omega)
  rw [this]; simp
theorem fold_place (l : List BatchD) : (foldOf l).place = ((rowsOf l).length : Nat) := by
  obtain ⟨h1, h2⟩ := rows_play l
  have := (play_places (k := 0) h1 rfl (by omega)).1
  rw [this]; simp
theorem old_rows (l : List BatchD) : ∀ r ∈ rowsOf l, 1 ≤ r.place ∧ r.place ≤ (rowsOf l).length ∧ (rowsOf l)[(r.place - 1).toNat]? = some r := by
  intro r hr
  obtain ⟨h1, h2⟩ := rows_play l
  obtain ⟨i, hi⟩ := List.getElem?_of_mem hr
  have hi' := (List.getElem?_eq_some_iff.1 hi).1
  have := (play_places (k := 0) h1 rfl (by omega)).2 i r hi
  rw [this]
  refine ⟨by omega, by omega, ?_⟩
  rw [show (((0 + i + 1 : Nat) : Int) - 1).toNat = i by omega]
  exact hi

set_option maxHeartbeats 16000000 in
theorem law21_begun (w : World) (hT : Tabs w) :
    Calls Tryd.prog 8 ⟨[]⟩ w fun e w' => e = .returned (.bool true) ∧ Below w.heap.size w w' := by
  have hw := Has.startF w
  refine enter Tryd.func8 Tryd.ntmps8 rfl rfl fun a hs => ?_
  repeat (first | (refine sxv hs hw ?_; clear hs; intro a hs) | refine sxc hs ?_ | (refine sxa hs hw ?_; clear hs hw; intro a b W hw hs) | (refine sxs hs hw ?_; clear hs hw; intro W hs hw))
  refine st_call hs (hc := stream_New w _ (fr w) _ hw) (k := ?_); rintro e0 W1 ⟨p, rfl, hw1⟩; refine ⟨_, rfl, ?_⟩; clear hs hw; intro a hs; have hw := hw1; clear hw1
  repeat (first | (refine sxv hs hw ?_; clear hs; intro a hs) | refine sxc hs ?_ | (refine sxa hs hw ?_; clear hs hw; intro a b W hw hs) | (refine sxs hs hw ?_; clear hs hw; intro W hs hw) | ((with_reducible first | refine st_ptrSome hs (k := ?_) | refine st_ptrNone hs (k := ?_)); clear hs; intro a hs))
  obtain ⟨bb, qb⟩ := nm1 hw; subst qb
  obtain ⟨bo, qo⟩ := nm2 hw; subst qo
  have hw : Has 0 w _ (Cells bo (opCells addN) 60 :: Fz (fr w) :: Cells bb (batCells b1 (.slice (some ⟨bo, 0, none⟩) 1 1)) 26 :: StreamAt (fr w) p ⟨emptyF, []⟩ :: []) := hw.perm (by repeat (first | exact List.Perm.refl _ | refine perm_pick (by repeat (first | exact Pick.hd | apply Pick.tl)) ?_))
  obtain ⟨H1, hle1, hw, hop⟩ := hw.freeze_lit (m := 1) (sz := 9) rfl (by decide)
  obtain ⟨H2, hle2, hw, hbt⟩ := hw.swap2.freeze_lit (m := 1) (sz := 3) rfl (by decide)
  have hle := hle1.trans hle2
  have hbats : BatsH H2 (.slice (some ⟨bb, 0, none⟩) 1 1) [b1] := ⟨_, hbt, Ch.unit ⟨_, rfl, RdH.le (n := 1) (xs := [addN].flatMap opCells) hop hle2⟩⟩
  refine st_call hs (hc := law21_Rows w _ H2 [b1] _ _ b1_wf hbats hw) (k := ?_); rintro e0 W1 ⟨v, H3, rfl, hle3, hrows, hw1⟩; refine ⟨_, rfl, ?_⟩; clear hs hw; intro a hs; have hw := hw1; clear hw1
  have hok := rows_ok b1_wf
  have h8 := rows_8 [b1]
  have hpl := fold_place [b1]
  have htk := take_rows (l := [b1])
  have hold := take_old (rest := []) (n := 0) (s := ⟨foldOf [b1], rowsOf [b1]⟩) (old_rows [b1])
  rw [List.append_nil] at hold
  have hlen : (rowsOf [b1]).length = 1 := by rw [rows_b1]; rfl
  obtain ⟨ad, cap, rfl⟩ : ∃ ad cap, v = .slice ad 1 cap := by
    obtain ⟨xs, hx, _⟩ := hrows
    obtain ⟨ad, cap, e⟩ := hx.slice
    exact ⟨ad, cap, by rw [e, hlen]⟩
  have hle' := hle.trans hle3
  have hw := (streamLe hw.swap2 hle')
  generalize rowsOf [b1] = rows at *
  generalize foldOf [b1] = F at *
  repeat (first | (refine sxv hs hw ?_; clear hs; intro a hs) | refine sxc hs ?_ | (refine sxa hs hw ?_; clear hs hw; intro a b W hw hs) | (refine sxs hs hw ?_; clear hs hw; intro W hs hw))
  refine st_call hs (hc := stream_Take w _ H3 p _ rows _ _ (by rw [hlen]; decide) hok hrows hle' hT hw) (k := ?_); rintro e0 W1 ⟨H4, rfl, hle4, hw1⟩; refine ⟨_, rfl, ?_⟩; clear hs hw; intro a hs; have hw := hw1; clear hw1
  rw [htk] at hs hw
  simp only [hlen] at hs
  repeat (first | (refine sxv hs hw ?_; clear hs; intro a hs) | refine sxc hs ?_ | (refine sxa hs hw ?_; clear hs hw; intro a b W hw hs) | (refine sxs hs hw ?_; clear hs hw; intro W hs hw))
  refine st_call hs (hc := stream_Take w _ H4 p _ rows _ _ (by rw [hlen]; decide) hok (hrows.le hle4) (hle'.trans hle4) hT hw) (k := ?_); rintro e0 W1 ⟨H5, rfl, hle5, hw1⟩; refine ⟨_, rfl, ?_⟩; clear hs hw; intro a hs; have hw := hw1; clear hw1
  rw [hold] at hs hw
  simp only [takeN] at hs hw
  repeat (first | (refine sxv hs hw ?_; clear hs; intro a hs) | refine sxc hs ?_ | (refine sxa hs hw ?_; clear hs hw; intro a b W hw hs) | (refine sxs hs hw ?_; clear hs hw; intro W hs hw))
  refine st_call hs (hc := stream_Next w _ H5 p _ _ (by rw [hlen]; decide) hw) (k := ?_); rintro e0 W1 ⟨rfl, hw1⟩; refine ⟨_, rfl, ?_⟩; clear hs hw; intro a hs; have hw := hw1; clear hw1
  simp only [hlen] at hs
  repeat (first | (refine sxv hs hw ?_; clear hs; intro a hs) | refine sxc hs ?_ | (refine sxa hs hw ?_; clear hs hw; intro a b W hw hs) | (refine sxs hs hw ?_; clear hs hw; intro W hs hw))
  refine st_call hs (hc := stream_Rows w _ H5 p _ _ (by rw [hlen]; decide) (fun r hr => Nat.le_trans (h8 r hr) (by decide)) hw) (k := ?_); rintro e0 W1 ⟨rad, rcap, ys, H6, rfl, hle6, hch, hw1⟩; refine ⟨_, rfl, ?_⟩; clear hs hw; intro a hs; have hw := hw1; clear hw1
  simp only [hlen] at hs
  repeat (first | (refine sxv hs hw ?_; clear hs; intro a hs) | refine sxc hs ?_ | (refine sxa hs hw ?_; clear hs hw; intro a b W hw hs) | (refine sxs hs hw ?_; clear hs hw; intro W hs hw))
  refine st_call hs (hc := stream_Fold w _ H6 p _ _ (hw.sub (List.Sublist.cons _ (List.Sublist.refl _)))) (k := ?_); rintro e0 W1 ⟨q, rfl, hw1⟩; refine ⟨_, rfl, ?_⟩; clear hs hw; intro a hs; have hw := hw1; clear hw1
  repeat (first | (refine sxv hs hw ?_; clear hs; intro a hs) | refine sxc hs ?_ | (refine sxa hs hw ?_; clear hs hw; intro a b W hw hs) | (refine sxs hs hw ?_; clear hs hw; intro W hs hw))
  refine st_call hs (hc := fold_Place w _ H6 q _ _ hw) (k := ?_); rintro e0 W1 ⟨rfl, hw1⟩; refine ⟨_, rfl, ?_⟩; clear hs hw; intro a hs; have hw := hw1; clear hw1
  simp only [hpl, hlen] at hs
  repeat (first | (refine sxv hs hw ?_; clear hs; intro a hs) | refine sxc hs ?_ | (refine sxa hs hw ?_; clear hs hw; intro a b W hw hs) | (refine sxs hs hw ?_; clear hs hw; intro W hs hw))
  exact rt1 hs rfl rfl ⟨rfl, hw.endF (In.tl (In.tl In.hd)) (((hle'.trans hle4).trans hle5).trans hle6)⟩

set_option maxHeartbeats 4000000 in
theorem stream_Take0 (W : World) : Calls Tryd.prog 11 ⟨[.pointer none, .slice none 0 0]⟩ W fun e W' => e = .returned (.tuple ⟨[.int .i64 0, .int .i64 12]⟩) ∧ Below W.heap.size W W' := by
  have hw := Has.start (G := 0) (w := W) (Nat.zero_le _)
  refine enter Tryd.func11 Tryd.ntmps11 rfl rfl fun a hs => ?_
  repeat (first | (refine sxv hs hw ?_; clear hs; intro a hs) | refine sxc hs ?_ | (refine sxa hs hw ?_; clear hs hw; intro a b W hw hs) | (refine sxs hs hw ?_; clear hs hw; intro W hs hw) | ((with_reducible first | refine st_ptrSome hs (k := ?_) | refine st_ptrNone hs (k := ?_)); clear hs; intro a hs))
  exact rt2 hs rfl rfl rfl ⟨rfl, hw.end (by repeat (first | exact In.hd | apply In.tl))⟩
set_option maxHeartbeats 4000000 in
theorem stream_Next0 (W : World) : Calls Tryd.prog 15 ⟨[.pointer none]⟩ W fun e W' => e = .returned (.int .i64 0) ∧ Below W.heap.size W W' := by
  have hw := Has.start (G := 0) (w := W) (Nat.zero_le _)
  refine enter Tryd.func15 Tryd.ntmps15 rfl rfl fun a hs => ?_
  repeat (first | (refine sxv hs hw ?_; clear hs; intro a hs) | refine sxc hs ?_ | (refine sxa hs hw ?_; clear hs hw; intro a b W hw hs) | (refine sxs hs hw ?_; clear hs hw; intro W hs hw) | ((with_reducible first | refine st_ptrSome hs (k := ?_) | refine st_ptrNone hs (k := ?_)); clear hs; intro a hs))
  exact rt1 hs rfl rfl ⟨rfl, hw.end (by repeat (first | exact In.hd | apply In.tl))⟩
set_option maxHeartbeats 4000000 in
theorem stream_Rows0 (W : World) : Calls Tryd.prog 14 ⟨[.pointer none]⟩ W fun e W' => e = .returned (.slice none 0 0) ∧ Below W.heap.size W W' := by
  have hw := Has.start (G := 0) (w := W) (Nat.zero_le _)
  refine enter Tryd.func14 Tryd.ntmps14 rfl rfl fun a hs => ?_
  repeat (first | (refine sxv hs hw ?_; clear hs; intro a hs) | refine sxc hs ?_ | (refine sxa hs hw ?_; clear hs hw; intro a b W hw hs) | (refine sxs hs hw ?_; clear hs hw; intro W hs hw) | ((with_reducible first | refine st_ptrSome hs (k := ?_) | refine st_ptrNone hs (k := ?_)); clear hs; intro a hs))
  exact rt1 hs rfl rfl ⟨rfl, hw.end (by repeat (first | exact In.hd | apply In.tl))⟩

set_option maxHeartbeats 4000000 in
theorem walk_StreamNone (w : World) (hT : Tabs w) :
    Calls Tryd.prog 4 ⟨[]⟩ w fun e w' => e = .returned (.bool true) ∧ Below w.heap.size w w' := by
  have hw := Has.start (G := 0) (w := w) (Nat.zero_le _)
  refine enter Tryd.func4 Tryd.ntmps4 rfl rfl fun a hs => ?_
  repeat (first | (refine sxv hs hw ?_; clear hs; intro a hs) | refine sxc hs ?_ | (refine sxa hs hw ?_; clear hs hw; intro a b W hw hs) | (refine sxs hs hw ?_; clear hs hw; intro W hs hw))
  refine st_call hs (hc := stream_Take0 _) (k := ?_); rintro e0 W1 ⟨rfl, hb⟩; refine ⟨_, rfl, ?_⟩; clear hs; intro a hs; replace hw := hw.below hb; clear hb
  repeat (first | (refine sxv hs hw ?_; clear hs; intro a hs) | refine sxc hs ?_ | (refine sxa hs hw ?_; clear hs hw; intro a b W hw hs) | (refine sxs hs hw ?_; clear hs hw; intro W hs hw))
  refine st_call hs (hc := law21_begun _ (hT.keep (hw.end (by repeat (first | exact In.hd | apply In.tl))))) (k := ?_); rintro e0 W1 ⟨rfl, hb⟩; refine ⟨_, rfl, ?_⟩; clear hs; intro a hs; replace hw := hw.below hb; clear hb
  repeat (first | (refine sxv hs hw ?_; clear hs; intro a hs) | refine sxc hs ?_ | (refine sxa hs hw ?_; clear hs hw; intro a b W hw hs) | (refine sxs hs hw ?_; clear hs hw; intro W hs hw))
  refine st_call hs (hc := stream_Next0 _) (k := ?_); rintro e0 W1 ⟨rfl, hb⟩; refine ⟨_, rfl, ?_⟩; clear hs; intro a hs; replace hw := hw.below hb; clear hb
  repeat (first | (refine sxv hs hw ?_; clear hs; intro a hs) | refine sxc hs ?_ | (refine sxa hs hw ?_; clear hs hw; intro a b W hw hs) | (refine sxs hs hw ?_; clear hs hw; intro W hs hw))
  refine st_call hs (hc := stream_Rows0 _) (k := ?_); rintro e0 W1 ⟨rfl, hb⟩; refine ⟨_, rfl, ?_⟩; clear hs; intro a hs; replace hw := hw.below hb; clear hb
  repeat (first | (refine sxv hs hw ?_; clear hs; intro a hs) | refine sxc hs ?_ | (refine sxa hs hw ?_; clear hs hw; intro a b W hw hs) | (refine sxs hs hw ?_; clear hs hw; intro W hs hw))
  exact rt1 hs rfl rfl ⟨rfl, hw.end (by repeat (first | exact In.hd | apply In.tl))⟩
end Go.Proofs.YtajidlglbkopjaaDoor.Sw

/-
  The walks of StreamGap, StreamOwn, StreamPieces.
-/
set_option linter.unusedVariables false
set_option maxRecDepth 10000
namespace Go.Proofs.YtajidlglbkopjaaDoor.Sw
open Go.RowKit Go.Sx

theorem RowsH.slice {H : Fh} {v : Value} {rows : List RowD} (r : RowsH H v rows) : ∃ ad cap, v = .slice ad rows.length cap := by
  obtain ⟨xs, hx, _⟩ := r
  exact hx.slice
theorem RowsH.rd {G : Nat} {w0 W : World} {L : List Res} {H : Fh} {v : Value} {rows : List RowD} (r : RowsH H v rows) (h : Has G w0 W L) (i : In (Fz H) L) : ∃ xs, Rd W 5 v rows.length xs ∧ Ch (RowRd W) rows xs := by
  obtain ⟨xs, hx, hc⟩ := r
  exact ⟨xs, h.rdH i hx, rowRd h i hc⟩
section
variable {P : Program} {ops : Array Oper} {rest : List Oper} {Q : Exit → Act → World → Prop} {a : Act} {n : Nat} {L : List (Nat × Value)} {W : World} {d : Nat} {T S E : TypeId} {p : String} {e : Array Edge} {x lo hi : Operand} {v : Value} {i j : Int} {q q' : IntKind} {z : List Value} {H : Fh} {rows : List RowD}
theorem st_rows_lo {agg : Bool} [sl : Sl P S E] [t : Ty P E agg z] (hs : Slots a n L) (r : RowsH H v rows) (h0 : 0 ≤ i) (h1 : i ≤ rows.length) (hx : ev L x = some v := by with_unfolding_all exact rfl) (hl : ev L lo = some (.int q i) := by with_unfolding_all exact rfl) (hd : Nat.blt d n = true := by with_unfolding_all exact rfl) (hz : z.length = 5 := by with_unfolding_all exact rfl)
    (c : ∀ a' v', RowsH H v' (rows.drop i.toNat) → Slots a' n ((d, v') :: L) → wpList P ops Q rest a' W) : wpList P ops Q (⟨some d, .slice S x (some lo) none none, T, p, e, none⟩ :: rest) a W := by
  obtain ⟨xs, hx0, hc⟩ := r
  refine st_sliceH_lo hs hx0 h0 h1 hx hl hd hz fun a' v' h hs' => c a' v' ⟨_, ?_, hc.drop RowIn.len i.toNat⟩ hs'
  rw [List.length_drop]; exact h
theorem st_rows_hi {agg : Bool} [sl : Sl P S E] [t : Ty P E agg z] (hs : Slots a n L) (r : RowsH H v rows) (h0 : 0 ≤ i) (h1 : i ≤ rows.length) (hx : ev L x = some v := by with_unfolding_all exact rfl) (hh : ev L hi = some (.int q i) := by with_unfolding_all exact rfl) (hd : Nat.blt d n = true := by with_unfolding_all exact rfl) (hz : z.length = 5 := by with_unfolding_all exact rfl)
    (c : ∀ a' v', RowsH H v' (rows.take i.toNat) → Slots a' n ((d, v') :: L) → wpList P ops Q rest a' W) : wpList P ops Q (⟨some d, .slice S x none (some hi) none, T, p, e, none⟩ :: rest) a W := by
  obtain ⟨xs, hx0, hc⟩ := r
  refine st_sliceH_hi hs hx0 h0 h1 hx hh hd hz fun a' v' h hs' => c a' v' ⟨_, ?_, hc.take RowIn.len i.toNat⟩ hs'
  rw [List.length_take, Nat.min_eq_left (by omega)]; exact h
theorem st_rows_lh {agg : Bool} [sl : Sl P S E] [t : Ty P E agg z] (hs : Slots a n L) (r : RowsH H v rows) (h0 : 0 ≤ i) (h1 : i ≤ j) (h2 : j ≤ rows.length) (hx : ev L x = some v := by with_unfolding_all exact rfl) (hl : ev L lo = some (.int q i) := by with_unfolding_all exact rfl) (hh : ev L hi = some (.int q' j) := by with_unfolding_all exact rfl) (hd : Nat.blt d n = true := by with_unfolding_all exact rfl) (hz : z.length = 5 := by with_unfolding_all exact rfl)
    (c : ∀ a' v', RowsH H v' ((rows.drop i.toNat).take (j.toNat - i.toNat)) → Slots a' n ((d, v') :: L) → wpList P ops Q rest a' W) : wpList P ops Q (⟨some d, .slice S x (some lo) (some hi) none, T, p, e, none⟩ :: rest) a W := by
  obtain ⟨xs, hx0, hc⟩ := r
  refine st_sliceH_lh hs hx0 h0 h1 h2 hx hl hh hd hz fun a' v' h hs' => c a' v' ⟨_, ?_, (hc.drop RowIn.len i.toNat).take RowIn.len (j.toNat - i.toNat)⟩ hs'
  rw [List.length_take, List.length_drop, Nat.min_eq_left (by omega)]; exact h
end
theorem gap_law (l : List BatchD) (k : Nat) (h1 : 1 ≤ k) (h2 : k < (rowsOf l).length) : ∃ f', takeN ⟨emptyF, []⟩ 0 ((rowsOf l).drop k) = (⟨emptyF, []⟩, 0, 2) ∧ takeN ⟨emptyF, []⟩ 0 ((rowsOf l).take k) = (⟨f', (rowsOf l).take k⟩, k, 0) ∧ takeN ⟨f', (rowsOf l).take k⟩ 0 (rowsOf l) = (⟨foldOf l, rowsOf l⟩, (rowsOf l).length - k, 0) := by
  obtain ⟨hp, hl⟩ := rows_play l
  have hold := old_rows l
  have hpl := (play_places (k := 0) hp rfl (by omega)).2
  generalize rowsOf l = rows at *
  generalize foldOf l = F at *
  have hsp : Play emptyF (rows.take k ++ rows.drop k) F := by rw [List.take_append_drop]; exact hp
  obtain ⟨f', hp1, hp2⟩ := hsp.split
  have hlt : (rows.take k).length = k := by rw [List.length_take]; omega
  have hld : (rows.drop k).length = rows.length - k := by rw [List.length_drop]
  have hf' : f'.place = ((rows.take k).length : Nat) := by
    have := (play_places (k := 0) hp1 rfl (by omega)).1
    rw [this, Nat.zero_add]
  refine ⟨f', ?_, ?_, ?_⟩
  · obtain ⟨r, hr⟩ : ∃ r, rows[k]? = some r := ⟨rows[k], List.getElem?_eq_getElem h2⟩
    rw [drop_of hr]
    have hpr := hpl k r hr
    have ho : one ⟨emptyF, []⟩ r = (⟨emptyF, []⟩, false, 2) := by
      unfold one
      rw [if_pos (by rw [hpr]; show ((0 + k + 1 : Nat) : Int) > ((([] : List RowD).length : Nat) : Int) + 1; simp; omega)]
    simp only [takeN, ho]
    rw [if_neg (by decide)]
  · have := take_play (l := []) (n := 0) hp1 rfl (by simp; omega)
    rw [this, hlt]; simp
  · have hs : ∀ r ∈ rows.take k, 1 ≤ r.place ∧ r.place ≤ (rows.take k).length ∧ (rows.take k)[(r.place - 1).toNat]? = some r := by
      intro r hr
      obtain ⟨i, hi⟩ := List.getElem?_of_mem hr
      have hi' := (List.getElem?_eq_some_iff.1 hi).1
      have := (play_places (k := 0) hp1 rfl (by omega)).2 i r hi
      rw [this]
      refine ⟨by omega, by omega, ?_⟩
      rw [show (((0 + i + 1 : Nat) : Int) - 1).toNat = i by omega]
      exact hi
    have e := take_old (rest := rows.drop k) (n := 0) (s := ⟨f', rows.take k⟩) hs
    rw [List.take_append_drop] at e
    rw [e, take_play hp2 hf' (by omega), List.take_append_drop, hld, Nat.zero_add]

set_option maxHeartbeats 16000000 in
theorem walk_StreamGap (l : List BatchD) (v : Value) (k : Int) (w : World) (hb : ∀ b ∈ l, BatWf b) (hr : BatsRd w v l) (hk : (Lit.int .i64 k).wf = true) (hT : Tabs w) :
    Calls Tryd.prog 6 ⟨[v, .int .i64 k]⟩ w fun e w' => e = .returned (.bool true) ∧ Below w.heap.size w w' := by
  have hw := Has.startF w
  have hki := wf_i64 hk
  refine enter Tryd.func6 Tryd.ntmps6 rfl rfl fun a hs => ?_
  repeat (first | (refine sxv hs hw ?_; clear hs; intro a hs) | refine sxc hs ?_ | (refine sxa hs hw ?_; clear hs hw; intro a b W hw hs) | (refine sxs hs hw ?_; clear hs hw; intro W hs hw))
  refine st_call hs (hc := law21_begun _ hT) (k := ?_); rintro e0 W1 ⟨rfl, hb⟩; refine ⟨_, rfl, ?_⟩; clear hs; intro a hs; replace hw := hw.below hb; clear hb
  repeat (first | (refine sxv hs hw ?_; clear hs; intro a hs) | refine sxc hs ?_ | (refine sxa hs hw ?_; clear hs hw; intro a b W hw hs) | (refine sxs hs hw ?_; clear hs hw; intro W hs hw))
  refine st_call hs (hc := law21_Rows w _ (fr w) l _ _ hb hr.h hw) (k := ?_); rintro e0 W1 ⟨rv, H1, rfl, hle1, hrows, hw1⟩; refine ⟨_, rfl, ?_⟩; clear hs hw; intro a hs; have hw := hw1; clear hw1
  obtain ⟨rad, rcap, rfl⟩ := hrows.slice
  have hlen40 := (rows_play l).2
  have hok := rows_ok hb
  have h8 := rows_8 l
  have hgap := gap_law l
  generalize rowsOf l = rows at *
  generalize foldOf l = F at *
  repeat (first | (refine sxv hs hw ?_; clear hs; intro a hs) | refine sxc hs ?_ | (refine sxa hs hw ?_; clear hs hw; intro a b W hw hs) | (refine sxs hs hw ?_; clear hs hw; intro W hs hw))
  cases c1 : decide (k < 1) with
  | true =>
    rw [c1] at hs
    repeat (first | (refine sxv hs hw ?_; clear hs; intro a hs) | refine sxc hs ?_ | (refine sxa hs hw ?_; clear hs hw; intro a b W hw hs) | (refine sxs hs hw ?_; clear hs hw; intro W hs hw))
    exact rt1 hs rfl rfl ⟨rfl, hw.endF In.hd hle1⟩
  | false =>
  rw [c1] at hs
  have g1 := of_decide_eq_false c1
  repeat (first | (refine sxv hs hw ?_; clear hs; intro a hs) | refine sxc hs ?_ | (refine sxa hs hw ?_; clear hs hw; intro a b W hw hs) | (refine sxs hs hw ?_; clear hs hw; intro W hs hw))
  cases c2 : decide (k ≥ (rows.length : Int)) with
  | true =>
    rw [c2] at hs
    repeat (first | (refine sxv hs hw ?_; clear hs; intro a hs) | refine sxc hs ?_ | (refine sxa hs hw ?_; clear hs hw; intro a b W hw hs) | (refine sxs hs hw ?_; clear hs hw; intro W hs hw))
    exact rt1 hs rfl rfl ⟨rfl, hw.endF In.hd hle1⟩
  | false =>
  rw [c2] at hs
  have g2 := of_decide_eq_false c2
  obtain ⟨m, rfl⟩ := Int.eq_ofNat_of_zero_le (show 0 ≤ k by omega)
  obtain ⟨f', t1, t2, t3⟩ := hgap m (by omega) (by omega)
  clear hgap
  repeat (first | (refine sxv hs hw ?_; clear hs; intro a hs) | refine sxc hs ?_ | (refine sxa hs hw ?_; clear hs hw; intro a b W hw hs) | (refine sxs hs hw ?_; clear hs hw; intro W hs hw))
  refine st_call hs (hc := stream_New w _ H1 _ hw) (k := ?_); rintro e0 W1 ⟨p, rfl, hw1⟩; refine ⟨_, rfl, ?_⟩; clear hs hw; intro a hs; have hw := hw1; clear hw1
  repeat (first | (refine sxv hs hw ?_; clear hs; intro a hs) | refine sxc hs ?_ | (refine sxa hs hw ?_; clear hs hw; intro a b W hw hs) | (refine sxs hs hw ?_; clear hs hw; intro W hs hw))
  refine st_rows_lo (i := (m : Int)) hs hrows (by omega) (by omega) (c := ?_); clear hs; intro a v1 hr1 hs
  rw [Int.toNat_natCast] at hr1
  refine st_call hs (hc := stream_Take w _ H1 p _ (rows.drop m) _ _ (by rw [List.length_drop]; simp; omega) (fun r hr => hok r (List.mem_of_mem_drop hr)) hr1 hle1 hT hw) (k := ?_); rintro e0 W1 ⟨H2, rfl, hle2, hw1⟩; refine ⟨_, rfl, ?_⟩; clear hs hw; intro a hs; have hw := hw1; clear hw1
  rw [t1] at hs hw
  simp only at hs hw
  repeat (first | (refine sxv hs hw ?_; clear hs; intro a hs) | refine sxc hs ?_ | (refine sxa hs hw ?_; clear hs hw; intro a b W hw hs) | (refine sxs hs hw ?_; clear hs hw; intro W hs hw))
  refine st_rows_hi (i := (m : Int)) hs (hrows.le hle2) (by omega) (by omega) (c := ?_); clear hs; intro a v2 hr2 hs
  rw [Int.toNat_natCast] at hr2
  refine st_call hs (hc := stream_Take w _ H2 p _ (rows.take m) _ _ (by rw [List.length_take]; simp; omega) (fun r hr => hok r (List.mem_of_mem_take hr)) hr2 (hle1.trans hle2) hT hw) (k := ?_); rintro e0 W1 ⟨H3, rfl, hle3, hw1⟩; refine ⟨_, rfl, ?_⟩; clear hs hw; intro a hs; have hw := hw1; clear hw1
  rw [t2] at hs hw
  simp only at hs hw
  repeat (first | (refine sxv hs hw ?_; clear hs; intro a hs) | refine sxc hs ?_ | (refine sxa hs hw ?_; clear hs hw; intro a b W hw hs) | (refine sxs hs hw ?_; clear hs hw; intro W hs hw))
  have hle := (hle1.trans hle2).trans hle3
  refine st_call hs (hc := stream_Take w _ H3 p _ rows _ _ (by rw [List.length_take]; omega) hok (hrows.le (hle2.trans hle3)) hle hT hw) (k := ?_); rintro e0 W1 ⟨H4, rfl, hle4, hw1⟩; refine ⟨_, rfl, ?_⟩; clear hs hw; intro a hs; have hw := hw1; clear hw1
  rw [t3] at hs hw
  simp only at hs hw
  repeat (first | (refine sxv hs hw ?_; clear hs; intro a hs) | refine sxc hs ?_ | (refine sxa hs hw ?_; clear hs hw; intro a b W hw hs) | (refine sxs hs hw ?_; clear hs hw; intro W hs hw))
  rw [show ((m : Int) == (m : Int)) = true from beq_self_eq_true _] at hs
  repeat (first | (refine sxv hs hw ?_; clear hs; intro a hs) | refine sxc hs ?_ | (refine sxa hs hw ?_; clear hs hw; intro a b W hw hs) | (refine sxs hs hw ?_; clear hs hw; intro W hs hw))
  rw [show (((rows.length - m : Nat) : Int) == IntKind.i64.wrap ((rows.length : Int) - (m : Int))) = true from by rw [IntWalk.i64_in _ (by omega), beq_iff_eq]; omega] at hs
  repeat (first | (refine sxv hs hw ?_; clear hs; intro a hs) | refine sxc hs ?_ | (refine sxa hs hw ?_; clear hs hw; intro a b W hw hs) | (refine sxs hs hw ?_; clear hs hw; intro W hs hw))
  refine st_call hs (hc := stream_Rows w _ H4 p _ _ (by show rows.length ≤ 1000000; omega) (fun r hr => Nat.le_trans (h8 r hr) (by decide)) hw) (k := ?_); rintro e0 W1 ⟨oad, ocap, ys, H5, rfl, hle5, hch, hw1⟩; refine ⟨_, rfl, ?_⟩; clear hs hw; intro a hs; have hw := hw1; clear hw1
  repeat (first | (refine sxv hs hw ?_; clear hs; intro a hs) | refine sxc hs ?_ | (refine sxa hs hw ?_; clear hs hw; intro a b W hw hs) | (refine sxs hs hw ?_; clear hs hw; intro W hs hw))
  obtain ⟨xs, hx1, hx2⟩ := (hrows.le (((hle2.trans hle3).trans hle4).trans hle5)).rd hw (by repeat (first | exact In.hd | apply In.tl))
  refine st_call hs (hc := ref_EqRows rows _ ys rows _ xs _ (hw.rd_own In.hd) (rowRd hw (by repeat (first | exact In.hd | apply In.tl)) hch) hx1 hx2) (k := ?_); rintro e0 W1 ⟨rfl, hb⟩; refine ⟨_, rfl, ?_⟩; clear hs; intro a hs; replace hw := hw.below hb; clear hb
  rw [eqRows_iff.2 rfl] at hs
  repeat (first | (refine sxv hs hw ?_; clear hs; intro a hs) | refine sxc hs ?_ | (refine sxa hs hw ?_; clear hs hw; intro a b W hw hs) | (refine sxs hs hw ?_; clear hs hw; intro W hs hw))
  exact rt1 hs rfl rfl ⟨rfl, hw.endF (by repeat (first | exact In.hd | apply In.tl)) ((hle.trans hle4).trans hle5)⟩

set_option maxHeartbeats 16000000 in
theorem walk_StreamOwn (l : List BatchD) (v : Value) (w : World) (hb : ∀ b ∈ l, BatWf b) (hr : BatsRd w v l) (hT : Tabs w) :
    Calls Tryd.prog 7 ⟨[v]⟩ w fun e w' => e = .returned (.bool true) ∧ Below w.heap.size w w' := by
  have hw := Has.startF w
  refine enter Tryd.func7 Tryd.ntmps7 rfl rfl fun a hs => ?_
  repeat (first | (refine sxv hs hw ?_; clear hs; intro a hs) | refine sxc hs ?_ | (refine sxa hs hw ?_; clear hs hw; intro a b W hw hs) | (refine sxs hs hw ?_; clear hs hw; intro W hs hw))
  refine st_call hs (hc := law21_begun _ hT) (k := ?_); rintro e0 W1 ⟨rfl, hb⟩; refine ⟨_, rfl, ?_⟩; clear hs; intro a hs; replace hw := hw.below hb; clear hb
  repeat (first | (refine sxv hs hw ?_; clear hs; intro a hs) | refine sxc hs ?_ | (refine sxa hs hw ?_; clear hs hw; intro a b W hw hs) | (refine sxs hs hw ?_; clear hs hw; intro W hs hw))
  refine st_call hs (hc := law21_Rows w _ (fr w) l _ _ hb hr.h hw) (k := ?_); rintro e0 W1 ⟨rv, H1, rfl, hle1, hrows, hw1⟩; refine ⟨_, rfl, ?_⟩; clear hs hw; intro a hs; have hw := hw1; clear hw1
  obtain ⟨rad, rcap, rfl⟩ := hrows.slice
  have hlen40 := (rows_play l).2
  have hok := rows_ok hb
  have h8 := rows_8 l
  have htk := take_rows (l := l)
  have hpl := fold_place l
  generalize rowsOf l = rows at *
  generalize foldOf l = F at *
  repeat (first | (refine sxv hs hw ?_; clear hs; intro a hs) | refine sxc hs ?_ | (refine sxa hs hw ?_; clear hs hw; intro a b W hw hs) | (refine sxs hs hw ?_; clear hs hw; intro W hs hw))
  refine st_call hs (hc := stream_New w _ H1 _ hw) (k := ?_); rintro e0 W1 ⟨p, rfl, hw1⟩; refine ⟨_, rfl, ?_⟩; clear hs hw; intro a hs; have hw := hw1; clear hw1
  repeat (first | (refine sxv hs hw ?_; clear hs; intro a hs) | refine sxc hs ?_ | (refine sxa hs hw ?_; clear hs hw; intro a b W hw hs) | (refine sxs hs hw ?_; clear hs hw; intro W hs hw))
  refine st_call hs (hc := stream_Take w _ H1 p _ rows _ _ (by simp; omega) hok hrows hle1 hT hw) (k := ?_); rintro e0 W1 ⟨H2, rfl, hle2, hw1⟩; refine ⟨_, rfl, ?_⟩; clear hs hw; intro a hs; have hw := hw1; clear hw1
  rw [htk] at hw
  simp only at hw
  have h8' : ∀ r ∈ rows, r.b.l.length ≤ 1000 := fun r hr => Nat.le_trans (h8 r hr) (by decide)
  repeat (first | (refine sxv hs hw ?_; clear hs; intro a hs) | refine sxc hs ?_ | (refine sxa hs hw ?_; clear hs hw; intro a b W hw hs) | (refine sxs hs hw ?_; clear hs hw; intro W hs hw))
  refine st_call hs (hc := stream_Rows w _ H2 p _ _ (by show rows.length ≤ 1000000; omega) h8' hw) (k := ?_); rintro e0 W1 ⟨oad, ocap, ys, H3, rfl, hle3, hch, hw1⟩; refine ⟨_, rfl, ?_⟩; clear hs hw; intro a hs; have hw := hw1; clear hw1
  have hle := (hle1.trans hle2).trans hle3
  repeat (first | (refine sxv hs hw ?_; clear hs; intro a hs) | refine sxc hs ?_ | (refine sxa hs hw ?_; clear hs hw; intro a b W hw hs) | (refine sxs hs hw ?_; clear hs hw; intro W hs hw))
  refine st_loop (σ := Nat × List Value) (fun t => [(4, .slice rad rows.length rcap), (5, .pointer (some ⟨p, 0, none⟩)), (6, .slice oad rows.length ocap), (7, .int .i64 (t.1 : Int))]) (fun t => Sx.Own 29 5 (.slice oad rows.length ocap) rows.length t.2 :: StreamAt H3 p ⟨F, rows⟩ :: Fz H3 :: []) (fun t => t.1 ≤ rows.length) (fun t => rows.length - t.1) (0, ys) (Nat.zero_le _) hs ⟨rfl, rfl, rfl, rfl, trivial⟩ hw ?_
  clear hs hw hch
  rintro ⟨j, zs⟩ a W hj hs hw
  simp only at hj hs hw
  repeat (first | (refine sxv hs hw ?_; clear hs; intro a hs) | refine sxc hs ?_ | (refine sxa hs hw ?_; clear hs hw; intro a b W hw hs) | (refine sxs hs hw ?_; clear hs hw; intro W hs hw))
  refine cd_split hs (kt := fun hcc => ?_) (kf := fun hcc => ?_)
  · have hj' : j < rows.length := by simpa using hcc
    obtain ⟨g, cur, hadg, hcur, hcl0, hkc, hcm, hw2⟩ := hw.open_own (by omega)
    clear hw
    obtain rfl := hadg
    have hw := hw2
    clear hw2
    repeat (first | (refine sxv hs hw ?_; clear hs; intro a hs) | refine sxc hs ?_ | (refine sxa hs hw ?_; clear hs hw; intro a b W hw hs) | (refine sxs hs hw ?_; clear hs hw; intro W hs hw))
    refine st_index_at hs (z := zrc) (h0 := by omega) (h1 := by omega) (c := ?_); clear hs; intro a hs
    repeat (first | (refine sxv hs hw ?_; clear hs; intro a hs) | refine sxc hs ?_ | (refine sxa hs hw ?_; clear hs hw; intro a b W hw hs) | (refine sxs hs hw ?_; clear hs hw; intro W hs hw))
    refine st_store hs (vs := [.int .i64 (-3)]) (hw := hw) (hl := by rw [Nat.ble_eq, hcl0]; show 0 + j * 5 + 0 + 1 ≤ ocap * 5; omega) (k := ?_); clear hs hw; intro W hs hw
    repeat (first | (refine sxv hs hw ?_; clear hs; intro a hs) | refine sxc hs ?_ | (refine sxa hs hw ?_; clear hs hw; intro a b W hw hs) | (refine sxs hs hw ?_; clear hs hw; intro W hs hw))
    have hw := hw.shut_own (k := rows.length) (size := 5) (xs := _) rfl (by rw [ov_length]; exact hcl0) hkc hcm
    exact st_again (j + 1, _) hs hw hj' (by show rows.length - (j + 1) < rows.length - j; omega) ⟨rfl, rfl, rfl, int_eq (by show IntKind.i64.wrap ((j : Int) + 1) = ((j + 1 : Nat) : Int); rw [IntWalk.i64_in _ (by omega)]; omega), trivial⟩
  · repeat (first | (refine sxv hs hw ?_; clear hs; intro a hs) | refine sxc hs ?_ | (refine sxa hs hw ?_; clear hs hw; intro a b W hw hs) | (refine sxs hs hw ?_; clear hs hw; intro W hs hw))
    have hw := hw.sub (L' := StreamAt H3 p ⟨F, rows⟩ :: Fz H3 :: []) (List.Sublist.cons _ (List.Sublist.refl _))
    refine st_call hs (hc := stream_Rows w _ H3 p _ _ (by show rows.length ≤ 1000000; omega) h8' hw) (k := ?_); rintro e0 W1 ⟨uad, ucap, us, H4, rfl, hle4, hch, hw1⟩; refine ⟨_, rfl, ?_⟩; clear hs hw; intro a hs; have hw := hw1; clear hw1
    repeat (first | (refine sxv hs hw ?_; clear hs; intro a hs) | refine sxc hs ?_ | (refine sxa hs hw ?_; clear hs hw; intro a b W hw hs) | (refine sxs hs hw ?_; clear hs hw; intro W hs hw))
    obtain ⟨xs, hx1, hx2⟩ := (hrows.le ((hle2.trans hle3).trans hle4)).rd hw (by repeat (first | exact In.hd | apply In.tl))
    refine st_call hs (hc := ref_EqRows rows _ us rows _ xs _ (hw.rd_own In.hd) (rowRd hw (by repeat (first | exact In.hd | apply In.tl)) hch) hx1 hx2) (k := ?_); rintro e0 W1 ⟨rfl, hb⟩; refine ⟨_, rfl, ?_⟩; clear hs; intro a hs; replace hw := hw.below hb; clear hb
    rw [eqRows_iff.2 rfl] at hs
    repeat (first | (refine sxv hs hw ?_; clear hs; intro a hs) | refine sxc hs ?_ | (refine sxa hs hw ?_; clear hs hw; intro a b W hw hs) | (refine sxs hs hw ?_; clear hs hw; intro W hs hw))
    refine st_call hs (hc := stream_Fold w _ H4 p _ _ (hw.sub (List.Sublist.cons _ (List.Sublist.refl _)))) (k := ?_); rintro e0 W1 ⟨q, rfl, hw1⟩; refine ⟨_, rfl, ?_⟩; clear hs hw; intro a hs; have hw := hw1; clear hw1
    repeat (first | (refine sxv hs hw ?_; clear hs; intro a hs) | refine sxc hs ?_ | (refine sxa hs hw ?_; clear hs hw; intro a b W hw hs) | (refine sxs hs hw ?_; clear hs hw; intro W hs hw))
    refine st_call hs (hc := fold_Place w _ H4 q _ _ hw) (k := ?_); rintro e0 W1 ⟨rfl, hw1⟩; refine ⟨_, rfl, ?_⟩; clear hs hw; intro a hs; have hw := hw1; clear hw1
    simp only [hpl] at hs
    repeat (first | (refine sxv hs hw ?_; clear hs; intro a hs) | refine sxc hs ?_ | (refine sxa hs hw ?_; clear hs hw; intro a b W hw hs) | (refine sxs hs hw ?_; clear hs hw; intro W hs hw))
    rw [show (((rows.length : Nat) : Int) == ((rows.length : Nat) : Int)) = true from beq_self_eq_true _] at hs
    repeat (first | (refine sxv hs hw ?_; clear hs; intro a hs) | refine sxc hs ?_ | (refine sxa hs hw ?_; clear hs hw; intro a b W hw hs) | (refine sxs hs hw ?_; clear hs hw; intro W hs hw))
    exact rt1 hs rfl rfl ⟨rfl, hw.endF (In.tl (In.tl In.hd)) (hle.trans hle4)⟩
end Go.Proofs.YtajidlglbkopjaaDoor.Sw
