/-
  Texts of the proof, one behind the other (part 8).
-/
import Derived.Test.YthpenehgfogloaaDoorM7
/-
  Slices of batches, rows, whole numbers among the arguments: opened into what the walks read.
-/
set_option linter.unusedVariables false
set_option maxRecDepth 10000
namespace Go.Proofs.YthpenehgfogloaaDoor
open Go.ChangeShapes Go.WideShapes Go.ChangeAt Go.RowKit Go.Lib Go.Sx Go.Proofs Go.Deep
open Sw Go.Joins

section
variable {H : Type} {enc : TypeId × Value → H} {w : World} {spare : Nat → Bool} {held : Bool}
theorem ch_map {α : Type} {Rr : α → List Value → Prop} (O : Nat → α) (C : Nat → List Value) : ∀ l : List Nat, (∀ i ∈ l, Rr (O i) (C i)) → Ch Rr (l.map O) (l.flatMap C)
  | [], _ => rfl
  | i :: l, h => ⟨C i, l.flatMap C, rfl, h i (by simp), ch_map O C l fun j hj => h j (by simp [hj])⟩
theorem flatMap_get {C : Nat → List Value} {k : Nat} : ∀ (n b : Nat) (j : Nat) (x : Value), (∀ i, b ≤ i → i < b + n → (C i).length = k) → ((List.range' b n).flatMap C)[j]? = some x → ∃ i kk, b ≤ i ∧ i < b + n ∧ (C i)[kk]? = some x ∧ j = (i - b) * k + kk ∧ kk < k
  | 0, b, j, x, _, h => by simp at h
  | n + 1, b, j, x, hk, h => by
    rw [List.range'_succ, List.flatMap_cons, List.getElem?_append] at h
    have hb := hk b (Nat.le_refl _) (by omega)
    split at h
    · rename_i hj
      exact ⟨b, j, Nat.le_refl _, by omega, h, by simp, by omega⟩
    · rename_i hj
      obtain ⟨i, kk, h1, h2, h3, h4, h5⟩ := flatMap_get n (b + 1) _ x (fun i h1 h2 => hk i (by omega) (by omega)) h
      refine ⟨i, kk, by omega, by omega, h3, ?_, h5⟩
      have e : (i - b) * k = (i - (b + 1)) * k + k := by
        rw [show i - b = (i - (b + 1)) + 1 by omega, Nat.add_mul, Nat.one_mul]
      omega
theorem flatMap_len {C : Nat → List Value} {k : Nat} : ∀ (n b : Nat), (∀ i, b ≤ i → i < b + n → (C i).length = k) → ((List.range' b n).flatMap C).length = n * k
  | 0, b, _ => by simp
  | n + 1, b, hk => by
    rw [List.range'_succ, List.flatMap_cons, List.length_append, hk b (Nat.le_refl _) (by omega), flatMap_len n (b + 1) fun i h1 h2 => hk i (by omega) (by omega), Nat.add_mul]
    omega
theorem open_list {α : Type} [Inhabited α] {t e : TypeId} {k : Nat} (ht : Tryd.prog.underlying t = some (.slice e)) (hc : Tryd.prog.cellsOf e = k) (hk0 : 0 < k) {Rr : α → List Value → Prop} {Wf : α → Prop}
    (op : ∀ {fuel : Nat} {cs : List Value} {x : DataW H × List MemPlace}, DataW.trod enc Tryd.prog w 0 spare held fuel e cs = some x → ∃ o, Rr o cs ∧ Wf o)
    {fuel : Nat} {cs : List Value} {x : DataW H × List MemPlace} (h : DataW.trod enc Tryd.prog w 0 spare held fuel t cs = some x) :
    ∃ (sv : Value) (l : List α), cs = [sv] ∧ (∀ o ∈ l, Wf o) ∧ ∃ xs, Rd w k sv l.length xs ∧ Ch Rr l xs := by
  have hlt := DataW.trod_lt _ _ _ _ h
  rcases open_slice ht h with ⟨rfl, -⟩ | ⟨a, len, cap, m, n, D, Pl, rfl, -, hl, hm, hmm, rfl, hx⟩
  · exact ⟨_, [], rfl, by simp, [], Rd.nil w k 0 (by omega), rfl⟩
  · have hlm : len ≤ m := by rw [hmm]; split <;> omega
    obtain ⟨O, hO⟩ := choose_lt (n := len) (α := α × List Value) (p := fun i o => Rr o.1 o.2 ∧ Wf o.1 ∧ o.2.length = k ∧ ∀ j u, o.2[j]? = some u → w.cell? ((a.add (i * k)).add j) = some u) fun i hi => by
      obtain ⟨cs', h1, h2⟩ := hx i (by omega)
      obtain ⟨o, ho1, ho2⟩ := op h2
      rw [hc] at h1
      obtain ⟨_, hlen, h3⟩ := World.cells?_some h1
      refine ⟨(o, cs'), ho1, ho2, by simpa using hlen, fun j u hj => ?_⟩
      have hjk : j < k := by
        have h9 : j < cs'.length := (List.getElem?_eq_some_iff.1 hj).1
        have e : cs'.length = k := by simpa using hlen
        omega
      rw [h3 j hjk]; exact hj
    have hcap : cap ≤ 9223372036854775807 := max63 hm
    have hL : ((List.range len).map fun i => (O i).1).length = len := by simp
    have hr : List.range len = List.range' 0 len := List.range_eq_range'
    have hks : ∀ i, 0 ≤ i → i < 0 + len → (O i).2.length = k := fun i _ hi => (hO i (by omega)).2.2.1
    refine ⟨_, (List.range len).map fun i => (O i).1, rfl, fun o ho => ?_, (List.range len).flatMap fun i => (O i).2, ?_, ch_map _ _ _ fun i hi => (hO i (List.mem_range.1 hi)).1⟩
    · obtain ⟨i, hi, rfl⟩ := List.mem_map.1 ho
      exact (hO i (List.mem_range.1 hi)).2.1
    · rw [hL]
      refine ⟨by rw [hr]; exact flatMap_len len 0 hks, some a, cap, rfl, hl, hcap, ?_⟩
      rcases Nat.eq_zero_or_pos len with h0 | h0
      · exact .inl h0
      · right
        obtain ⟨b, off, spot⟩ := a
        have h00 : ∃ u, (O 0).2[0]? = some u := ⟨_, List.getElem?_eq_getElem (by rw [hks 0 (Nat.zero_le _) (by omega)]; exact hk0)⟩
        obtain ⟨u0, hu0⟩ := h00
        have h00 := (hO 0 h0).2.2.2 0 u0 hu0
        have hspot : spot = none := by simpa [Addr.add] using World.cell?_spot h00
        subst hspot
        refine ⟨b, off, rfl, ?_, fun j x hj => ?_⟩
        · have hpos : 0 < m * k := Nat.mul_pos (by omega) hk0
          exact hlt (.cell b off) (List.mem_append_left _ (MemPlace.mem_row.2 ⟨0, by rw [hc]; exact hpos, rfl⟩))
        · rw [hr] at hj
          obtain ⟨i, kk, h1, h2, h3, rfl, h5⟩ := flatMap_get len 0 j x hks hj
          have := (hO i (by omega)).2.2.2 kk x h3
          rw [add_add, add_plain] at this
          exact this

theorem open_bat_cells {fuel : Nat} {cs : List Value} {x : DataW H × List MemPlace} (h : DataW.trod enc Tryd.prog w 0 spare held fuel 38 cs = some x) : ∃ b, BatRd w b cs ∧ BatWf b := by
  obtain ⟨xs, n, _, rfl, hl, hlen, hf⟩ := DataW.trod_struct Tryd.underlying38 h
  have c0 : Tryd.prog.cellsOf 38 = 3 := by kernel_rfl
  have c1 : Tryd.prog.cellsOf 3 = 1 := by kernel_rfl
  have c2 : Tryd.prog.cellsOf 2 = 1 := by kernel_rfl
  have c3 : Tryd.prog.cellsOf 36 = 1 := by kernel_rfl
  rw [c0] at hl
  match cs, hl, xs, hlen with
  | [v0, v1, v2], _, [y0, y1, y2], _ =>
    have h0 := hf 0 _ rfl
    have h1 := hf 1 _ rfl
    have h2 := hf 2 _ rfl
    change DataW.trod enc _ w 0 spare held n 3 (([v0, v1, v2].drop 0).take (Tryd.prog.cellsOf 3)) = some y0 at h0
    change DataW.trod enc _ w 0 spare held n 2 (([v0, v1, v2].drop 1).take (Tryd.prog.cellsOf 2)) = some y1 at h1
    change DataW.trod enc _ w 0 spare held n 36 (([v0, v1, v2].drop 2).take (Tryd.prog.cellsOf 36)) = some y2 at h2
    rw [c1] at h0
    rw [c2] at h1
    rw [c3] at h2
    obtain ⟨k, e0, _, w0⟩ := DataW.trod_int Tryd.underlying3 h0
    obtain ⟨m, e1, _, w1⟩ := DataW.trod_int Tryd.underlying2 h1
    obtain ⟨sv, l, e2, ho, hr⟩ := open_ops h2
    simp at e0 e1 e2
    subst e0 e1 e2
    exact ⟨⟨k, m, l⟩, ⟨v2, rfl, hr⟩, w0, w1, ho⟩

theorem open_int_cells {fuel : Nat} {cs : List Value} {x : DataW H × List MemPlace} (h : DataW.trod enc Tryd.prog w 0 spare held fuel 3 cs = some x) : ∃ k, IntIn k cs ∧ (Lit.int .i64 k).wf = true := by
  obtain ⟨k, e0, _, w0⟩ := DataW.trod_int Tryd.underlying3 h
  exact ⟨k, (by simpa using e0 : cs = [.int .i64 k]), w0⟩

instance : Inhabited BatchD := ⟨⟨0, 0, []⟩⟩

theorem open_bats {r : Reach} {b0 : Nat} {v : Value} {d : DataW H} {p : List MemPlace} (hv : Value.okWide Tryd.prog w r b0 35 v) (h : DataW.Trod enc Tryd.prog w 0 spare held 35 v d p) : ∃ l, (∀ b ∈ l, BatWf b) ∧ BatsRd w v l := by
  obtain ⟨b, len, cap, rfl⟩ := okWide_slice Tryd.underlying35 hv
  obtain ⟨fuel, hf⟩ := h
  obtain ⟨sv, l, e, h1, h2⟩ := open_list Tryd.underlying35 (by kernel_rfl : _ = 3) (by decide) open_bat_cells hf
  simp [Value.cells] at e
  subst e
  exact ⟨l, h1, h2⟩

-- pieces

theorem open_intl {r : Reach} {b0 : Nat} {v : Value} {d : DataW H} {p : List MemPlace} (hv : Value.okWide Tryd.prog w r b0 111 v) (h : DataW.Trod enc Tryd.prog w 0 spare held 111 v d p) : ∃ l, (∀ k ∈ l, (Lit.int .i64 k).wf = true) ∧ IntsRd w v l := by
  obtain ⟨b, len, cap, rfl⟩ := okWide_slice Tryd.underlying111 hv
  obtain ⟨fuel, hf⟩ := h
  obtain ⟨sv, l, e, h1, h2⟩ := open_list Tryd.underlying111 (by kernel_rfl : _ = 1) (by decide) open_int_cells hf
  simp [Value.cells] at e
  subst e
  exact ⟨l, h1, h2⟩

end
end Go.Proofs.YthpenehgfogloaaDoor

/-
  The walk of ReplayMore.
-/
set_option linter.unusedVariables false
set_option maxRecDepth 10000
namespace Go.Proofs.YthpenehgfogloaaDoor.Sw
open Go.RowKit Go.Sx

theorem batsB_le (l : List BatchD) (n : Nat) : (batsB l n).length ≤ n := by unfold batsB; rw [List.length_map, List.length_take]; omega

set_option maxHeartbeats 32000000 in
theorem walk_ReplayMore (l : List BatchD) (v : Value) (c q : Int) (ol : List OpD) (sv : Value) (w : World) (hb : ∀ b ∈ l, BatWf b) (hr : BatsRd w v l) (hc : (Lit.int .i64 c).wf = true) (hq : (Lit.int .i64 q).wf = true) (ho : ∀ o ∈ ol, OpWf o) (hsv : Rd w 9 sv ol.length (ol.flatMap opCells)) (hT : Tabs w) :
    Calls Tryd.prog 4 ⟨[v, .agg ⟨[.int .i64 c, .int .i64 q, sv]⟩]⟩ w fun e w' => e = .returned (.bool true) ∧ Below w.heap.size w w' := by
  replace hw := Has.startF w
  have hso : OpsH (fr w) sv ol := RdH.of_rd hsv (Fh.le.refl _) (by decide)
  obtain ⟨sad, scap, rfl⟩ := hso.slice
  refine enter Tryd.func4 Tryd.ntmps4 rfl rfl fun a hs => ?_
  repeat (first | (refine sxv hs hw ?_; clear hs; intro a hs) | refine sxc hs ?_ | (refine sxa hs hw ?_; clear hs hw; intro a b W hw hs) | (refine sxs hs hw ?_; clear hs hw; intro W hs hw))
  obtain ⟨b3, q3⟩ := nm1 hw; subst q3
  refine st_call hs (hc := law23_begun _ (hT.keep (hw.endF (by repeat (first | exact In.hd | apply In.tl)) (Fh.le.refl _)))) (k := ?_); rintro e0 W1 ⟨rfl, hb⟩; refine ⟨_, rfl, ?_⟩; clear hs; intro a hs; replace hw := hw.below hb; clear hb
  repeat (first | (refine sxv hs hw ?_; clear hs; intro a hs) | refine sxc hs ?_ | (refine sxa hs hw ?_; clear hs hw; intro a b W hw hs) | (refine sxs hs hw ?_; clear hs hw; intro W hs hw))
  replace hw : Has 0 w _ (Fz (fr w) :: Cells b3 (batCells ⟨c, q, ol⟩ (.slice sad ol.length scap)) 38 :: []) := hw.swap2
  refine st_call hs (hc := law7_Batches w _ (fr w) l v 15 _ (by decide) hb hr.h hw) (k := ?_); rintro e0 W1 ⟨bv, H1, rfl, hle1, hbs, hw1⟩; refine ⟨_, rfl, ?_⟩; clear hs hw; intro a hs; replace hw := hw1; clear hw1
  have hbo := batsB_ok hb 15
  have hbl := batsB_le l 15
  generalize batsB l 15 = m at *
  have hbs0 := hbs
  obtain ⟨ys, hbs, hbc⟩ := hbs
  obtain ⟨mad, mcap, rfl⟩ := hbs.slice
  replace hw := hw.swap2
  repeat (first | (refine sxv hs hw ?_; clear hs; intro a hs) | refine sxc hs ?_ | (refine sxa hs hw ?_; clear hs hw; intro a b W hw hs) | (refine sxs hs hw ?_; clear hs hw; intro W hs hw))
  obtain ⟨bb, qb⟩ := nm1 hw; subst qb
  replace hw : Has 0 w _ (Cells bb (batCells ⟨c, q, ol⟩ (.slice sad ol.length scap)) 38 :: Fz H1 :: Cells b3 (batCells ⟨c, q, ol⟩ (.slice sad ol.length scap)) 38 :: []) := hw.perm (by repeat (first | exact List.Perm.refl _ | refine perm_pick (by repeat (first | exact Pick.hd | apply Pick.tl)) ?_))
  obtain ⟨H2, hle2, hw, hbt⟩ := hw.freeze_lit (m := 1) (sz := 3) rfl (by decide)
  have hone : BatsH H2 (.slice (some ⟨bb, 0, none⟩) 1 1) [⟨c, q, ol⟩] := ⟨_, hbt, Ch.unit ⟨_, rfl, (hso.le (hle1.trans hle2))⟩⟩
  have hwf1 : ∀ b ∈ [(⟨c, q, ol⟩ : BatchD)], BatWf b := by
    intro b hb
    rw [List.mem_singleton] at hb
    subst hb
    exact ⟨hc, hq, ho⟩
  refine st_call hs (hc := law7_Batches w _ H2 [⟨c, q, ol⟩] _ 1 _ (by decide) hwf1 hone hw) (k := ?_); rintro e0 W1 ⟨bv, H3, rfl, hle3, hbs1, hw1⟩; refine ⟨_, rfl, ?_⟩; clear hs hw; intro a hs; replace hw := hw1; clear hw1
  have hbk := batsB_ok hwf1 1 (cutB ⟨c, q, ol⟩) (by simp [batsB])
  rw [show batsB [⟨c, q, ol⟩] 1 = [cutB ⟨c, q, ol⟩] from rfl] at hbs1
  generalize cutB ⟨c, q, ol⟩ = b1 at *
  obtain ⟨zs, hbs1, hbc1⟩ := hbs1
  obtain ⟨nad, ncap, rfl⟩ := hbs1.slice
  replace hw := hw.swap2
  refine st_index_ch hs (i := 0) (r := hw.rdH (In.tl In.hd) hbs1) (hk := BatIn.len) (ch := hbc1) (ho := rfl) (hlen := rfl) (c := ?_); clear hs; intro a g off cc hc1 hcl hpc hlt hs
  obtain ⟨ov, rfl, hov⟩ := hc1
  refine st_load_ats hs (cs := batCells b1 ov) (hc := hpc) (hl := by rfl) (c := ?_); clear hs; intro a hs
  clear hpc
  obtain ⟨oad, ocap, rfl⟩ := hov.slice
  repeat (first | (refine sxv hs hw ?_; clear hs; intro a hs) | refine sxc hs ?_ | (refine sxa hs hw ?_; clear hs hw; intro a b W hw hs) | (refine sxs hs hw ?_; clear hs hw; intro W hs hw))
  have hle := (hle1.trans hle2).trans hle3
  have hbs3 := hbs0.le (hle2.trans hle3)
  replace hw : Has 0 w _ (Fz H3 :: Cells b3 (batCells b1 (.slice oad b1.l.length ocap)) 38 :: []) := hw.swap2
  refine st_call hs (hc := replay_New w _ H3 none [] m _ _ (fun _ => rfl) hbo (by omega) hbs3 hle hT hw.free) (k := ?_); rintro e0 W1 ⟨q1, rfl, hw1⟩; refine ⟨_, rfl, ?_⟩; clear hs hw; intro a hs
  replace hw := Has.drop2 hw1; clear hw1
  have hpn := playL_snoc m [] b1
  have hpl := playL_len m []
  have hdf := playL_fine (l := m) DocFine.nil hbo
  generalize playL [] m = A at *
  obtain ⟨d1, es⟩ := A
  generalize hap : applyL d1 b1.l = Z at hpn
  simp only at hpn hpl hw
  have hzf := applyL_fine hdf hbk.ops
  rw [hap] at hzf
  have hml : m.length ≤ 15 := hbl
  have hel : es.length ≤ 15 := by rw [hpl]; exact hml
  replace hw : Has 0 w _ (Free :: Free :: Free :: Free :: Fz H3 :: ViewAt q1 d1 es :: Cells b3 (batCells b1 (.slice oad b1.l.length ocap)) 38 :: []) := (hw.perm (by repeat (first | exact List.Perm.refl _ | refine perm_pick (by repeat (first | exact Pick.hd | apply Pick.tl)) ?_)) : Has 0 w W1 (Fz H3 :: ViewAt q1 d1 es :: Cells b3 (batCells b1 (.slice oad b1.l.length ocap)) 38 :: [])).free.free.free.free
  repeat (first | (refine sxv hs hw ?_; clear hs; intro a hs) | refine sxc hs ?_ | (refine sxa hs hw ?_; clear hs hw; intro a b W hw hs) | (refine sxs hs hw ?_; clear hs hw; intro W hs hw) | ((with_reducible first | refine st_ptrSome hs (k := ?_) | refine st_ptrNone hs (k := ?_)); clear hs; intro a hs))
  refine rg_drawU (σ := Option Addr × Nat) (V := fun u => [.slice mad m.length mcap, .slice (u 1).1 m.length (u 1).2, .agg ⟨batCells b1 (.slice oad b1.l.length ocap)⟩, .slice (some ⟨(u 3).2, 0, none⟩) 1 1, .slice (u 4).1 (m.length + 1) (u 4).2, .pointer (some ⟨(u 5).2, 0, none⟩), .pointer (some ⟨(u 6).2, 0, none⟩)])
    (Rs := fun u D => (if D 4 then Free else if D 1 then Sx.Own 38 3 (.slice (u 1).1 m.length (u 1).2) m.length ys else Free) :: (if D 3 then Cells (u 3).2 (batCells b1 (.slice oad b1.l.length ocap)) 38 else Free) :: (if D 5 then Free else if D 4 then Sx.Own 38 3 (.slice (u 4).1 (m.length + 1) (u 4).2) (m.length + 1) (ys ++ batCells b1 (.slice oad b1.l.length ocap)) else Free) :: (if D 6 then ViewAt (u 6).2 (playL [] (m ++ [b1])).1 (playL [] (m ++ [b1])).2 else if D 5 then ViewAt (u 5).2 (playL [] (m ++ [b1])).1 (playL [] (m ++ [b1])).2 else Free) :: (if D 5 then Ex (fun H => Fz H :: Fact (H3.le H) :: []) else Fz H3) :: ViewAt q1 d1 es :: Cells b3 (batCells b1 (.slice oad b1.l.length ocap)) 38 :: []) (fun _ => (none, 0)) hs hw (hVu := ?vu_7) (ho := ⟨?_, ?c1_7, ?_, ?c3_7, ?c4_7, ?c5_7, ?c6_7, trivial⟩) (k := ?k_7)
  case vu_7 =>
    intro u u' j h
    rcases j with _ | _ | _ | _ | _ | _ | _ | j
    all_goals first | rfl | simp [h]
  case c1_7 =>
    intro u LD D a W hcl hi hp hs hw
    have h4 := Go.Sx.not_done hcl hi 4 (by kernel_rfl)
    have h5 := Go.Sx.not_done hcl h4 5 (by kernel_rfl)
    have h6 := Go.Sx.not_done hcl h5 6 (by kernel_rfl)
    simp only [hi, h4, h5, h6, Bool.false_eq_true, if_false] at hw
    replace hw := hw.nilOwn 38 3
    have hsrc := src_rd (P := Tryd.prog) (S := 35) (hw.rdH (by repeat (first | exact In.hd | apply In.tl)) (hbs.le (hle2.trans hle3))) (Ch.ones BatIn.ones hbc)
    refine st_append hs (hw := hw) (k := 0) (m := m.length) (xs := []) (news := ys) (hsrc := hsrc) (h63 := by omega) (hb := by omega) (c := ?_)
    clear hs hw hsrc; intro a ad cap W hs hw
    rw [List.nil_append, Nat.zero_add] at hw
    rw [Nat.zero_add] at hs
    repeat (first | (refine sxv hs hw ?_; clear hs; intro a hs) | refine sxc hs ?_ | (refine sxa hs hw ?_; clear hs hw; intro a b W hw hs) | (refine sxs hs hw ?_; clear hs hw; intro W hs hw) | ((with_reducible first | refine st_ptrSome hs (k := ?_) | refine st_ptrNone hs (k := ?_)); clear hs; intro a hs))
    refine Or.inr ⟨(ad, cap), hs, ?_⟩
    show Has 0 w _ ((if (Nat.beq 4 1 || D 4) = true then _ else _) :: _ :: (if (Nat.beq 5 1 || D 5) = true then _ else if (Nat.beq 4 1 || D 4) = true then _ else _) :: (if (Nat.beq 6 1 || D 6) = true then _ else if (Nat.beq 5 1 || D 5) = true then _ else _) :: (if (Nat.beq 5 1 || D 5) = true then _ else _) :: _)
    rw [h4, h5, h6]
    exact hw.drop2
  case c3_7 =>
    intro u LD D a W hcl hi hp hs hw
    have h4 := Go.Sx.not_done hcl hi 4 (by kernel_rfl)
    have h5 := Go.Sx.not_done hcl h4 5 (by kernel_rfl)
    have h6 := Go.Sx.not_done hcl h5 6 (by kernel_rfl)
    simp only [hi, h4, h5, h6, Bool.false_eq_true, if_false] at hw
    repeat (first | (refine sxv hs hw ?_; clear hs; intro a hs) | refine sxc hs ?_ | (refine sxa hs hw ?_; clear hs hw; intro a b W hw hs) | (refine sxs hs hw ?_; clear hs hw; intro W hs hw) | ((with_reducible first | refine st_ptrSome hs (k := ?_) | refine st_ptrNone hs (k := ?_)); clear hs; intro a hs))
    refine Or.inr ⟨(none, _), hs, ?_⟩
    show Has 0 w _ ((if (Nat.beq 4 3 || D 4) = true then _ else if (Nat.beq 1 3 || D 1) = true then _ else _) :: _ :: (if (Nat.beq 5 3 || D 5) = true then _ else if (Nat.beq 4 3 || D 4) = true then _ else _) :: (if (Nat.beq 6 3 || D 6) = true then _ else if (Nat.beq 5 3 || D 5) = true then _ else _) :: (if (Nat.beq 5 3 || D 5) = true then _ else _) :: _)
    rw [h4, h5, h6]
    exact hw.fill (Upd.tl Upd.hd)
  case c4_7 =>
    intro u LD D a W hcl hi hp hs hw
    have h1 := Go.Sx.done hp 1 (by kernel_rfl)
    have h3 := Go.Sx.done hp 3 (by kernel_rfl)
    have h5 := Go.Sx.not_done hcl hi 5 (by kernel_rfl)
    have h6 := Go.Sx.not_done hcl h5 6 (by kernel_rfl)
    simp only [hi, h1, h3, h5, h6, Bool.false_eq_true, if_false, if_true] at hw
    refine st_append_lit hs (hw := hw) (k := m.length) (xs := ys) (hi := In.tl In.hd) (hl := rfl) (h1 := rfl) (h63 := by omega) (hb := by omega) (c := ?_)
    clear hs hw; intro a ad cap W hs hw
    repeat (first | (refine sxv hs hw ?_; clear hs; intro a hs) | refine sxc hs ?_ | (refine sxa hs hw ?_; clear hs hw; intro a b W hw hs) | (refine sxs hs hw ?_; clear hs hw; intro W hs hw) | ((with_reducible first | refine st_ptrSome hs (k := ?_) | refine st_ptrNone hs (k := ?_)); clear hs; intro a hs))
    refine Or.inr ⟨(ad, cap), hs, ?_⟩
    show Has 0 w _ (_ :: (if (Nat.beq 3 4 || D 3) = true then _ else _) :: (if (Nat.beq 5 4 || D 5) = true then _ else _) :: (if (Nat.beq 6 4 || D 6) = true then _ else if (Nat.beq 5 4 || D 5) = true then _ else _) :: (if (Nat.beq 5 4 || D 5) = true then _ else _) :: _)
    rw [h3, h5, h6]
    exact hw.perm (by repeat (first | exact List.Perm.refl _ | refine perm_pick (by repeat (first | exact Pick.hd | apply Pick.tl)) ?_))
  case c5_7 =>
    intro u LD D a W hcl hi hp hs hw
    have h4 := Go.Sx.done hp 4 (by kernel_rfl)
    have h3 := Go.Sx.done (hcl 4 _ rfl h4) 3 (by kernel_rfl)
    have h6 := Go.Sx.not_done hcl hi 6 (by kernel_rfl)
    simp only [hi, h3, h4, h6, Bool.false_eq_true, if_false, if_true] at hw
    replace hw : Has 0 w _ (Sx.Own 38 3 (.slice (u 4).1 (m.length + 1) (u 4).2) (m.length + 1) (ys ++ (batCells b1 (.slice oad b1.l.length ocap))) :: Fz H3 :: Free :: Cells (u 3).2 (batCells b1 (.slice oad b1.l.length ocap)) 38 :: Free :: ViewAt q1 d1 es :: Cells b3 (batCells b1 (.slice oad b1.l.length ocap)) 38 :: []) := hw.perm (by repeat (first | exact List.Perm.refl _ | refine perm_pick (by repeat (first | exact Pick.hd | apply Pick.tl)) ?_))
    obtain ⟨H4, hle4, hw, hrr⟩ := hw.freeze_own
    have hbb : BatsH H4 (.slice (u 4).1 (m ++ [b1]).length (u 4).2) (m ++ [b1]) := by
      refine ⟨_, by rw [List.length_append, List.length_singleton]; exact hrr, ?_⟩
      exact ((hbc.mono (BatIn.le (hle2.trans hle3))).mono (BatIn.le hle4)).app (Ch.unit ⟨_, rfl, RdH.le hov hle4⟩)
    have hbo2 : ∀ b ∈ m ++ [b1], BatOk b := by
      intro b hb
      rcases List.mem_append.1 hb with hb | hb
      · exact hbo b hb
      · rw [List.mem_singleton.1 hb]; exact hbk
    have hml2 : (m ++ [b1]).length ≤ 1000 := by rw [List.length_append, List.length_singleton]; omega
    have hlen : m.length + 1 = (m ++ [b1]).length := by rw [List.length_append, List.length_singleton]
    rw [hlen] at hs
    refine st_call hs (hc := replay_New w _ H4 none [] (m ++ [b1]) _ _ (fun _ => rfl) hbo2 hml2 hbb (hle.trans hle4) hT hw.free) (k := ?_); rintro e0 W1 ⟨q2, rfl, hw1⟩; refine ⟨_, rfl, ?_⟩; clear hs hw; intro a hs
    replace hw := Has.drop2 hw1; clear hw1
    repeat (first | (refine sxv hs hw ?_; clear hs; intro a hs) | refine sxc hs ?_ | (refine sxa hs hw ?_; clear hs hw; intro a b W hw hs) | (refine sxs hs hw ?_; clear hs hw; intro W hs hw) | ((with_reducible first | refine st_ptrSome hs (k := ?_) | refine st_ptrNone hs (k := ?_)); clear hs; intro a hs))
    rw [← hlen] at hs
    refine Or.inr ⟨(none, q2), hs, ?_⟩
    show Has 0 w _ ((if (Nat.beq 4 5 || D 4) = true then _ else _) :: (if (Nat.beq 3 5 || D 3) = true then _ else _) :: _ :: (if (Nat.beq 6 5 || D 6) = true then _ else _) :: _ :: _)
    rw [h3, h4, h6]
    replace hw : Has 0 w _ (Fz H4 :: Fact (H3.le H4) :: ViewAt q2 (playL [] (m ++ [b1])).1 (playL [] (m ++ [b1])).2 :: Free :: Cells (u 3).2 (batCells b1 (.slice oad b1.l.length ocap)) 38 :: Free :: ViewAt q1 d1 es :: Cells b3 (batCells b1 (.slice oad b1.l.length ocap)) 38 :: []) := (hw.fact hle4).perm (by repeat (first | exact List.Perm.refl _ | refine perm_pick (by repeat (first | exact Pick.hd | apply Pick.tl)) ?_))
    replace hw := Has.shut (Ls := fun H => Fz H :: Fact (H3.le H) :: []) H4 hw
    exact hw.perm (by repeat (first | exact List.Perm.refl _ | refine perm_pick (by repeat (first | exact Pick.hd | apply Pick.tl)) ?_))
  case c6_7 =>
    intro u LD D a W hcl hi hp hs hw
    have h5 := Go.Sx.done hp 5 (by kernel_rfl)
    simp only [hi, h5, Bool.false_eq_true, if_false, if_true] at hw
    repeat (first | (refine sxv hs hw ?_; clear hs; intro a hs) | refine sxc hs ?_ | (refine sxa hs hw ?_; clear hs hw; intro a b W hw hs) | (refine sxs hs hw ?_; clear hs hw; intro W hs hw) | ((with_reducible first | refine st_ptrSome hs (k := ?_) | refine st_ptrNone hs (k := ?_)); clear hs; intro a hs))
    refine Or.inr ⟨u 5, hs, ?_⟩
    show Has 0 w _ (_ :: _ :: (if (Nat.beq 5 6 || D 5) = true then _ else _) :: _ :: (if (Nat.beq 5 6 || D 5) = true then _ else _) :: _)
    rw [h5]
    exact hw
  case k_7 =>
    clear hs hw
    intro u a W hs hw
    replace hw : Has 0 w W (Free :: Cells (u 3).2 (batCells b1 (.slice oad b1.l.length ocap)) 38 :: Free :: ViewAt (u 6).2 (playL [] (m ++ [b1])).1 (playL [] (m ++ [b1])).2 :: Ex (fun H => Fz H :: Fact (H3.le H) :: []) :: ViewAt q1 d1 es :: Cells b3 (batCells b1 (.slice oad b1.l.length ocap)) 38 :: []) := hw
    replace hs : Slots a 80 [(0, .slice mad m.length mcap), (3, .pointer (some ⟨b3, 0, none⟩)), (6, .pointer (some ⟨q1, 0, none⟩)), (7, .pointer (some ⟨(u 6).2, 0, none⟩))] := hs.of ⟨rfl, rfl, rfl, rfl, trivial⟩
    generalize (u 6).2 = q2 at *
    generalize (u 3).2 = bx at *
    clear u
    rw [hpn] at hw
    simp only at hw
    replace hw : Has 0 w W (Ex (fun H => Fz H :: Fact (H3.le H) :: []) :: ViewAt q2 Z.2 (es ++ [Z.1]) :: ViewAt q1 d1 es :: Cells b3 (batCells b1 (.slice oad b1.l.length ocap)) 38 :: []) := hw.sel (by repeat (first | exact Sel.nil | exact Sel.refl _ | refine Sel.cons (by repeat (first | exact Pick.hd | apply Pick.tl)) ?_ | refine Sel.skip ?_))
    obtain ⟨H4, hw⟩ := Has.open hw
    replace hw : Has 0 w W (Fz H4 :: Fact (H3.le H4) :: ViewAt q2 Z.2 (es ++ [Z.1]) :: ViewAt q1 d1 es :: Cells b3 (batCells b1 (.slice oad b1.l.length ocap)) 38 :: []) := hw
    have hle4 : H3.le H4 := hw.told (In.tl In.hd)
    replace hw := hw.drop2
    have hel2 : (es ++ [Z.1]).length = m.length + 1 := by rw [List.length_append, List.length_singleton, hpl]
    have hov4 := RdH.le hov hle4
    repeat (first | (refine sxv hs hw ?_; clear hs; intro a hs) | refine sxc hs ?_ | (refine sxa hs hw ?_; clear hs hw; intro a b W hw hs) | (refine sxs hs hw ?_; clear hs hw; intro W hs hw) | ((with_reducible first | refine st_ptrSome hs (k := ?_) | refine st_ptrNone hs (k := ?_)); clear hs; intro a hs))
    replace hw : Has 0 w _ (ViewAt q1 d1 es :: ViewAt q2 Z.2 (es ++ [Z.1]) :: Fz H4 :: Cells b3 (batCells b1 (.slice oad b1.l.length ocap)) 38 :: []) := hw.perm (by repeat (first | exact List.Perm.refl _ | refine perm_pick (by repeat (first | exact Pick.hd | apply Pick.tl)) ?_))
    refine st_call hs (hc := view_Errs w _ q1 d1 es _ (by omega) hw) (k := ?_); rintro e0 W1 ⟨xv, rfl, hw1⟩; refine ⟨_, rfl, ?_⟩; clear hs hw; intro a hs; replace hw := hw1; clear hw1
    obtain ⟨xad, xcap, rfl⟩ := hw.own_slice
    repeat (first | (refine sxv hs hw ?_; clear hs; intro a hs) | refine sxc hs ?_ | (refine sxa hs hw ?_; clear hs hw; intro a b W hw hs) | (refine sxs hs hw ?_; clear hs hw; intro W hs hw) | ((with_reducible first | refine st_ptrSome hs (k := ?_) | refine st_ptrNone hs (k := ?_)); clear hs; intro a hs))
    replace hw : Has 0 w _ (ViewAt q2 Z.2 (es ++ [Z.1]) :: Sx.Own 40 1 (.slice xad es.length xcap) es.length (es.map (Value.int .i64)) :: ViewAt q1 d1 es :: Fz H4 :: Cells b3 (batCells b1 (.slice oad b1.l.length ocap)) 38 :: []) := hw.perm (by repeat (first | exact List.Perm.refl _ | refine perm_pick (by repeat (first | exact Pick.hd | apply Pick.tl)) ?_))
    refine st_call hs (hc := view_Errs w _ q2 Z.2 (es ++ [Z.1]) _ (by omega) hw) (k := ?_); rintro e0 W1 ⟨yv, rfl, hw1⟩; refine ⟨_, rfl, ?_⟩; clear hs hw; intro a hs; replace hw := hw1; clear hw1
    obtain ⟨yad, ycap, rfl⟩ := hw.own_slice
    replace hw : Has 0 w _ (Sx.Own 40 1 (.slice yad (es ++ [Z.1]).length ycap) (es ++ [Z.1]).length ((es ++ [Z.1]).map (Value.int .i64)) :: Fz H4 :: Sx.Own 40 1 (.slice xad es.length xcap) es.length (es.map (Value.int .i64)) :: ViewAt q2 Z.2 (es ++ [Z.1]) :: ViewAt q1 d1 es :: Cells b3 (batCells b1 (.slice oad b1.l.length ocap)) 38 :: []) := hw.perm (by repeat (first | exact List.Perm.refl _ | refine perm_pick (by repeat (first | exact Pick.hd | apply Pick.tl)) ?_))
    obtain ⟨H5, hle5, hw2, hy⟩ := hw.freeze_own
    clear hw; replace hw := hw2; clear hw2
    obtain ⟨H6, hle6, hw2, hx⟩ := hw.swap2.freeze_own
    clear hw; replace hw := hw2; clear hw2
    replace hy := RdH.le hy hle6
    have hov6 := RdH.le (RdH.le hov4 hle5) hle6
    have hleA := ((hle.trans hle4).trans hle5).trans hle6
    repeat (first | (refine sxv hs hw ?_; clear hs; intro a hs) | refine sxc hs ?_ | (refine sxa hs hw ?_; clear hs hw; intro a b W hw hs) | (refine sxs hs hw ?_; clear hs hw; intro W hs hw) | ((with_reducible first | refine st_ptrSome hs (k := ?_) | refine st_ptrNone hs (k := ?_)); clear hs; intro a hs))
    rw [show (((es.length : Int)) != (m.length : Int)) = false from by rw [hpl]; exact bne_self_eq_false _] at hs
    repeat (first | (refine sxv hs hw ?_; clear hs; intro a hs) | refine sxc hs ?_ | (refine sxa hs hw ?_; clear hs hw; intro a b W hw hs) | (refine sxs hs hw ?_; clear hs hw; intro W hs hw) | ((with_reducible first | refine st_ptrSome hs (k := ?_) | refine st_ptrNone hs (k := ?_)); clear hs; intro a hs))
    have hwr : IntKind.i64.wrap ((m.length : Int) + 1) = (((es ++ [Z.1]).length : Nat) : Int) := by
      rw [hel2, IntWalk.i64_in ((m.length : Int) + 1) (by omega)]; omega
    rw [hwr, show ((((es ++ [Z.1]).length : Nat) : Int) != (((es ++ [Z.1]).length : Nat) : Int)) = false from bne_self_eq_false _] at hs
    repeat (first | (refine sxv hs hw ?_; clear hs; intro a hs) | refine sxc hs ?_ | (refine sxa hs hw ?_; clear hs hw; intro a b W hw hs) | (refine sxs hs hw ?_; clear hs hw; intro W hs hw) | ((with_reducible first | refine st_ptrSome hs (k := ?_) | refine st_ptrNone hs (k := ?_)); clear hs; intro a hs))
    refine st_loop (σ := Nat) (fun i => [(3, .pointer (some ⟨b3, 0, none⟩)), (6, .pointer (some ⟨q1, 0, none⟩)), (7, .pointer (some ⟨q2, 0, none⟩)), (8, .slice xad es.length xcap), (9, .slice yad (es ++ [Z.1]).length ycap), (10, .int .i64 (i : Int))]) (fun _ => ViewAt q1 d1 es :: ViewAt q2 Z.2 (es ++ [Z.1]) :: Fz H6 :: Cells b3 (batCells b1 (.slice oad b1.l.length ocap)) 38 :: []) (fun i => i ≤ es.length) (fun i => es.length - i) 0 (Nat.zero_le _) hs ⟨rfl, rfl, rfl, rfl, rfl, rfl, trivial⟩ (hw.perm (by repeat (first | exact List.Perm.refl _ | refine perm_pick (by repeat (first | exact Pick.hd | apply Pick.tl)) ?_))) ?_
    clear hs hw
    rintro i a W hi hs hw
    repeat (first | (refine sxv hs hw ?_; clear hs; intro a hs) | refine sxc hs ?_ | (refine sxa hs hw ?_; clear hs hw; intro a b W hw hs) | (refine sxs hs hw ?_; clear hs hw; intro W hs hw) | ((with_reducible first | refine st_ptrSome hs (k := ?_) | refine st_ptrNone hs (k := ?_)); clear hs; intro a hs))
    refine cd_split hs (kt := fun hcc => ?_) (kf := fun hcc => ?_)
    · have hi' : i < es.length := by simpa using hcc
      obtain ⟨o, hoi⟩ : ∃ o, es[i]? = some o := ⟨es[i], List.getElem?_eq_getElem hi'⟩
      have hoj : (es ++ [Z.1])[i]? = some o := by rw [List.getElem?_append_left hi']; exact hoi
      obtain ⟨g1, f1, c1, rfl, rfl, hc1⟩ := chH_at (fun _ _ h => by rw [h]; rfl) hx (chMap (Value.int .i64) es) rfl hoi
      obtain ⟨g2, f2, c2, rfl, rfl, hc2⟩ := chH_at (fun _ _ h => by rw [h]; rfl) hy (chMap (Value.int .i64) (es ++ [Z.1])) rfl hoj
      repeat (first | (refine sxv hs hw ?_; clear hs; intro a hs) | refine sxc hs ?_ | (refine sxa hs hw ?_; clear hs hw; intro a b W hw hs) | (refine sxs hs hw ?_; clear hs hw; intro W hs hw) | ((with_reducible first | refine st_ptrSome hs (k := ?_) | refine st_ptrNone hs (k := ?_)); clear hs; intro a hs))
      refine rg_draw (V := [.slice (some ⟨g1, f1, none⟩) es.length xcap, .int .i64 (i : Int), .pointer (some ⟨g1, f1 + i * 1, none⟩), .int .i64 o, .slice (some ⟨g2, f2, none⟩) (es ++ [Z.1]).length ycap, .int .i64 (i : Int), .pointer (some ⟨g2, f2 + i * 1, none⟩), .int .i64 o, .bool false])
        (Rs := fun D => ViewAt q1 d1 es :: ViewAt q2 Z.2 (es ++ [Z.1]) :: Fz H6 :: Cells b3 (batCells b1 (.slice oad b1.l.length ocap)) 38 :: []) hs hw (ho := ⟨?_, ?_, ?c2_c, ?c3_c, ?_, ?_, ?c6_c, ?c7_c, ?c8_c, trivial⟩) (k := ?k_c)
      case c2_c =>
        intro LD D a W hcl hi hp hs hw
        refine st_index_at hs (z := [.int .i64 0]) (h0 := by omega) (h1 := by omega) (c := ?_); clear hs; intro a hs
        repeat (first | (refine sxv hs hw ?_; clear hs; intro a hs) | refine sxc hs ?_ | (refine sxa hs hw ?_; clear hs hw; intro a b W hw hs) | (refine sxs hs hw ?_; clear hs hw; intro W hs hw) | ((with_reducible first | refine st_ptrSome hs (k := ?_) | refine st_ptrNone hs (k := ?_)); clear hs; intro a hs))
        exact ⟨hs, hw⟩
      case c3_c =>
        intro LD D a W hcl hi hp hs hw
        refine st_load_at hs (hc := hc1 hw (by repeat (first | exact In.hd | apply In.tl)) 0 _ rfl) (c := ?_); clear hs; intro a hs
        repeat (first | (refine sxv hs hw ?_; clear hs; intro a hs) | refine sxc hs ?_ | (refine sxa hs hw ?_; clear hs hw; intro a b W hw hs) | (refine sxs hs hw ?_; clear hs hw; intro W hs hw) | ((with_reducible first | refine st_ptrSome hs (k := ?_) | refine st_ptrNone hs (k := ?_)); clear hs; intro a hs))
        exact ⟨hs, hw⟩
      case c6_c =>
        intro LD D a W hcl hi hp hs hw
        refine st_index_at hs (z := [.int .i64 0]) (h0 := by omega) (h1 := by rw [hel2]; omega) (c := ?_); clear hs; intro a hs
        repeat (first | (refine sxv hs hw ?_; clear hs; intro a hs) | refine sxc hs ?_ | (refine sxa hs hw ?_; clear hs hw; intro a b W hw hs) | (refine sxs hs hw ?_; clear hs hw; intro W hs hw) | ((with_reducible first | refine st_ptrSome hs (k := ?_) | refine st_ptrNone hs (k := ?_)); clear hs; intro a hs))
        exact ⟨hs, hw⟩
      case c7_c =>
        intro LD D a W hcl hi hp hs hw
        refine st_load_at hs (hc := hc2 hw (by repeat (first | exact In.hd | apply In.tl)) 0 _ rfl) (c := ?_); clear hs; intro a hs
        repeat (first | (refine sxv hs hw ?_; clear hs; intro a hs) | refine sxc hs ?_ | (refine sxa hs hw ?_; clear hs hw; intro a b W hw hs) | (refine sxs hs hw ?_; clear hs hw; intro W hs hw) | ((with_reducible first | refine st_ptrSome hs (k := ?_) | refine st_ptrNone hs (k := ?_)); clear hs; intro a hs))
        exact ⟨hs, hw⟩
      case c8_c =>
        intro LD D a W hcl hi hp hs hw
        repeat (first | (refine sxv hs hw ?_; clear hs; intro a hs) | refine sxc hs ?_ | (refine sxa hs hw ?_; clear hs hw; intro a b W hw hs) | (refine sxs hs hw ?_; clear hs hw; intro W hs hw) | ((with_reducible first | refine st_ptrSome hs (k := ?_) | refine st_ptrNone hs (k := ?_)); clear hs; intro a hs))
        rw [bne_self_eq_false] at hs
        exact ⟨hs, hw⟩
      case k_c =>
        clear hs hw
        intro a W hs hw
        replace hw : Has 0 w W (ViewAt q1 d1 es :: ViewAt q2 Z.2 (es ++ [Z.1]) :: Fz H6 :: Cells b3 (batCells b1 (.slice oad b1.l.length ocap)) 38 :: []) := hw
        replace hs : Slots a 80 [(61, .bool false), (3, .pointer (some ⟨b3, 0, none⟩)), (6, .pointer (some ⟨q1, 0, none⟩)), (7, .pointer (some ⟨q2, 0, none⟩)), (8, .slice (some ⟨g1, f1, none⟩) es.length xcap), (9, .slice (some ⟨g2, f2, none⟩) (es ++ [Z.1]).length ycap), (10, .int .i64 (i : Int))] := hs.of ⟨rfl, rfl, rfl, rfl, rfl, rfl, rfl, trivial⟩
        repeat (first | (refine sxv hs hw ?_; clear hs; intro a hs) | refine sxc hs ?_ | (refine sxa hs hw ?_; clear hs hw; intro a b W hw hs) | (refine sxs hs hw ?_; clear hs hw; intro W hs hw) | ((with_reducible first | refine st_ptrSome hs (k := ?_) | refine st_ptrNone hs (k := ?_)); clear hs; intro a hs))
        exact st_again (i + 1) hs hw hi' (by show es.length - (i + 1) < es.length - i; omega) ⟨rfl, rfl, rfl, rfl, rfl, int_eq (by show IntKind.i64.wrap ((i : Int) + 1) = ((i + 1 : Nat) : Int); rw [IntWalk.i64_in _ (by omega)]; omega), trivial⟩
      all_goals
        intro LD D a W hcl hi hp hs hw
        repeat (first | (refine sxv hs hw ?_; clear hs; intro a hs) | refine sxc hs ?_ | (refine sxa hs hw ?_; clear hs hw; intro a b W hw hs) | (refine sxs hs hw ?_; clear hs hw; intro W hs hw) | ((with_reducible first | refine st_ptrSome hs (k := ?_) | refine st_ptrNone hs (k := ?_)); clear hs; intro a hs))
        exact ⟨hs, hw⟩
    · clear hcc hi
      repeat (first | (refine sxv hs hw ?_; clear hs; intro a hs) | refine sxc hs ?_ | (refine sxa hs hw ?_; clear hs hw; intro a b W hw hs) | (refine sxs hs hw ?_; clear hs hw; intro W hs hw) | ((with_reducible first | refine st_ptrSome hs (k := ?_) | refine st_ptrNone hs (k := ?_)); clear hs; intro a hs))
      refine st_call hs (hc := view_Doc w _ q1 d1 es _ hw) (k := ?_); rintro e0 W1 ⟨dp, rfl, hw1⟩; refine ⟨_, rfl, ?_⟩; clear hs hw; intro a hs; replace hw := hw1; clear hw1
      obtain ⟨g2, f2, c2, rfl, rfl, hc2⟩ := chH_at (fun _ _ h => by rw [h]; rfl) hy (chMap (Value.int .i64) (es ++ [Z.1])) rfl (i := es.length) (o := Z.1) (by rw [List.getElem?_append_right (Nat.le_refl _), Nat.sub_self]; rfl)
      repeat (first | (refine sxv hs hw ?_; clear hs; intro a hs) | refine sxc hs ?_ | (refine sxa hs hw ?_; clear hs hw; intro a b W hw hs) | (refine sxs hs hw ?_; clear hs hw; intro W hs hw) | ((with_reducible first | refine st_ptrSome hs (k := ?_) | refine st_ptrNone hs (k := ?_)); clear hs; intro a hs))
      replace hw : Has 0 w _ (DocAt dp d1 :: Free :: ViewAt q2 Z.2 (es ++ [Z.1]) :: Fz H6 :: Cells b3 (batCells b1 (.slice oad b1.l.length ocap)) 38 :: []) := (hw.sel (by repeat (first | exact Sel.nil | exact Sel.refl _ | refine Sel.cons (by repeat (first | exact Pick.hd | apply Pick.tl)) ?_ | refine Sel.skip ?_)) : Has 0 w _ (DocAt dp d1 :: ViewAt q2 Z.2 (es ++ [Z.1]) :: Fz H6 :: Cells b3 (batCells b1 (.slice oad b1.l.length ocap)) 38 :: [])).free.swap2
      refine rg_drawU (σ := Nat) (V := fun u => [.pointer (some ⟨dp, 0, none⟩), .pointer (some ⟨b3, 0 + 2, none⟩), .slice oad b1.l.length ocap, .int .i64 Z.1, .slice (some ⟨g2, f2, none⟩) (es ++ [Z.1]).length ycap, .slice xad es.length xcap, .int .i64 (es.length : Int), .pointer (some ⟨g2, f2 + es.length * 1, none⟩), .int .i64 Z.1, .bool true, .bool true, .pointer (some ⟨dp, 0, none⟩), .pointer (some ⟨q2, 0, none⟩), .pointer (some ⟨u 13, 0, none⟩), .bool true, .bool true, .bool true])
        (Rs := fun u D => (if D 3 then DocAt dp Z.2 else DocAt dp d1) :: (if D 13 then DocAt (u 13) Z.2 else Free) :: ViewAt q2 Z.2 (es ++ [Z.1]) :: Fz H6 :: Cells b3 (batCells b1 (.slice oad b1.l.length ocap)) 38 :: []) (fun _ => 0) hs hw (hVu := ?vu_e) (ho := ⟨?_, ?_, ?_, ?c3_e, ?_, ?_, ?_, ?c7_e, ?c8_e, ?c9_e, ?_, ?_, ?_, ?c13_e, ?c14_e, ?_, ?_, trivial⟩) (k := ?k_e)
      case vu_e =>
        intro u u' j h
        rcases j with _ | _ | _ | _ | _ | _ | _ | _ | _ | _ | _ | _ | _ | _ | _ | _ | _ | j
        all_goals first | rfl | simp [h]
      case c3_e =>
        intro u LD D a W hcl hi hp hs hw
        simp only [hi, Bool.false_eq_true, if_false] at hw
        refine st_call hs (hc := doc_ApplyL w _ H6 dp d1 b1.l _ _ hbk.ops hov6 (by repeat (first | exact In.hd | apply In.tl)) hleA hT hw) (k := ?_); rintro e0 W1 ⟨rfl, hw1⟩; refine ⟨_, rfl, ?_⟩; clear hs hw; intro a hs; replace hw := hw1; clear hw1
        rw [hap] at hs hw
        repeat (first | (refine sxv hs hw ?_; clear hs; intro a hs) | refine sxc hs ?_ | (refine sxa hs hw ?_; clear hs hw; intro a b W hw hs) | (refine sxs hs hw ?_; clear hs hw; intro W hs hw) | ((with_reducible first | refine st_ptrSome hs (k := ?_) | refine st_ptrNone hs (k := ?_)); clear hs; intro a hs))
        exact Or.inl ⟨hs, hw⟩
      case c7_e =>
        intro u LD D a W hcl hi hp hs hw
        refine st_index_at hs (z := [.int .i64 0]) (h0 := by omega) (h1 := by rw [hel2]; omega) (c := ?_); clear hs; intro a hs
        repeat (first | (refine sxv hs hw ?_; clear hs; intro a hs) | refine sxc hs ?_ | (refine sxa hs hw ?_; clear hs hw; intro a b W hw hs) | (refine sxs hs hw ?_; clear hs hw; intro W hs hw) | ((with_reducible first | refine st_ptrSome hs (k := ?_) | refine st_ptrNone hs (k := ?_)); clear hs; intro a hs))
        exact Or.inl ⟨hs, hw⟩
      case c8_e =>
        intro u LD D a W hcl hi hp hs hw
        refine st_load_at hs (hc := hc2 hw (by repeat (first | exact In.hd | apply In.tl)) 0 _ rfl) (c := ?_); clear hs; intro a hs
        repeat (first | (refine sxv hs hw ?_; clear hs; intro a hs) | refine sxc hs ?_ | (refine sxa hs hw ?_; clear hs hw; intro a b W hw hs) | (refine sxs hs hw ?_; clear hs hw; intro W hs hw) | ((with_reducible first | refine st_ptrSome hs (k := ?_) | refine st_ptrNone hs (k := ?_)); clear hs; intro a hs))
        exact Or.inl ⟨hs, hw⟩
      case c9_e =>
        intro u LD D a W hcl hi hp hs hw
        repeat (first | (refine sxv hs hw ?_; clear hs; intro a hs) | refine sxc hs ?_ | (refine sxa hs hw ?_; clear hs hw; intro a b W hw hs) | (refine sxs hs hw ?_; clear hs hw; intro W hs hw) | ((with_reducible first | refine st_ptrSome hs (k := ?_) | refine st_ptrNone hs (k := ?_)); clear hs; intro a hs))
        rw [beq_self_eq_true] at hs
        exact Or.inl ⟨hs, hw⟩
      case c13_e =>
        intro u LD D a W hcl hi hp hs hw
        have h10 := Go.Sx.done hp 10 (by kernel_rfl)
        have h9 := Go.Sx.done (hcl 10 _ rfl h10) 9 (by kernel_rfl)
        have h3 := Go.Sx.done (hcl 9 _ rfl h9) 3 (by kernel_rfl)
        simp only [hi, h3, Bool.false_eq_true, if_false, if_true] at hw
        repeat (first | (refine sxv hs hw ?_; clear hs; intro a hs) | refine sxc hs ?_ | (refine sxa hs hw ?_; clear hs hw; intro a b W hw hs) | (refine sxs hs hw ?_; clear hs hw; intro W hs hw) | ((with_reducible first | refine st_ptrSome hs (k := ?_) | refine st_ptrNone hs (k := ?_)); clear hs; intro a hs))
        replace hw : Has 0 w _ (ViewAt q2 Z.2 (es ++ [Z.1]) :: DocAt dp Z.2 :: Free :: Fz H6 :: Cells b3 (batCells b1 (.slice oad b1.l.length ocap)) 38 :: []) := hw.perm (by repeat (first | exact List.Perm.refl _ | refine perm_pick (by repeat (first | exact Pick.hd | apply Pick.tl)) ?_))
        refine st_call hs (hc := view_Doc w _ q2 Z.2 (es ++ [Z.1]) _ hw) (k := ?_); rintro e0 W1 ⟨dq, rfl, hw1⟩; refine ⟨_, rfl, ?_⟩; clear hs hw; intro a hs; replace hw := hw1; clear hw1
        repeat (first | (refine sxv hs hw ?_; clear hs; intro a hs) | refine sxc hs ?_ | (refine sxa hs hw ?_; clear hs hw; intro a b W hw hs) | (refine sxs hs hw ?_; clear hs hw; intro W hs hw) | ((with_reducible first | refine st_ptrSome hs (k := ?_) | refine st_ptrNone hs (k := ?_)); clear hs; intro a hs))
        refine Or.inr ⟨dq, hs, ?_⟩
        show Has 0 w _ ((if (Nat.beq 3 13 || D 3) = true then _ else _) :: _)
        rw [h3]
        replace hw : Has 0 w _ (DocAt dp Z.2 :: DocAt dq Z.2 :: ViewAt q2 Z.2 (es ++ [Z.1]) :: Fz H6 :: Cells b3 (batCells b1 (.slice oad b1.l.length ocap)) 38 :: []) := hw.sel (by repeat (first | exact Sel.nil | exact Sel.refl _ | refine Sel.cons (by repeat (first | exact Pick.hd | apply Pick.tl)) ?_ | refine Sel.skip ?_))
        exact hw
      case c14_e =>
        intro u LD D a W hcl hi hp hs hw
        have h13 := Go.Sx.done hp 13 (by kernel_rfl)
        have h10 := Go.Sx.done (hcl 13 _ rfl h13) 10 (by kernel_rfl)
        have h9 := Go.Sx.done (hcl 10 _ rfl h10) 9 (by kernel_rfl)
        have h3 := Go.Sx.done (hcl 9 _ rfl h9) 3 (by kernel_rfl)
        simp only [h3, h13, if_true] at hw
        repeat (first | (refine sxv hs hw ?_; clear hs; intro a hs) | refine sxc hs ?_ | (refine sxa hs hw ?_; clear hs hw; intro a b W hw hs) | (refine sxs hs hw ?_; clear hs hw; intro W hs hw) | ((with_reducible first | refine st_ptrSome hs (k := ?_) | refine st_ptrNone hs (k := ?_)); clear hs; intro a hs))
        refine st_call hs (hc := doc_Eq w _ dp (u 13) Z.2 Z.2 _ hzf (by have := hzf.ok.len; omega) hw) (k := ?_); rintro e0 W1 ⟨rfl, hw1⟩; refine ⟨_, rfl, ?_⟩; clear hs hw; intro a hs; replace hw := hw1; clear hw1
        rw [eqD_self hzf.ok.keys] at hs
        repeat (first | (refine sxv hs hw ?_; clear hs; intro a hs) | refine sxc hs ?_ | (refine sxa hs hw ?_; clear hs hw; intro a b W hw hs) | (refine sxs hs hw ?_; clear hs hw; intro W hs hw) | ((with_reducible first | refine st_ptrSome hs (k := ?_) | refine st_ptrNone hs (k := ?_)); clear hs; intro a hs))
        refine Or.inl ⟨hs, ?_⟩
        show Has 0 w _ ((if (Nat.beq 3 14 || D 3) = true then _ else _) :: (if (Nat.beq 13 14 || D 13) = true then _ else _) :: _)
        rw [h3, h13]
        exact hw
      case k_e =>
        clear hs hw
        intro u a W hs hw
        replace hw : Has 0 w W (DocAt dp Z.2 :: DocAt (u 13) Z.2 :: ViewAt q2 Z.2 (es ++ [Z.1]) :: Fz H6 :: Cells b3 (batCells b1 (.slice oad b1.l.length ocap)) 38 :: []) := hw
        replace hs : Slots a 80 [(4, .bool true)] := hs.of ⟨rfl, trivial⟩
        repeat (first | (refine sxv hs hw ?_; clear hs; intro a hs) | refine sxc hs ?_ | (refine sxa hs hw ?_; clear hs hw; intro a b W hw hs) | (refine sxs hs hw ?_; clear hs hw; intro W hs hw) | ((with_reducible first | refine st_ptrSome hs (k := ?_) | refine st_ptrNone hs (k := ?_)); clear hs; intro a hs))
        exact rt1 hs rfl rfl ⟨rfl, hw.endF (by repeat (first | exact In.hd | apply In.tl)) hleA⟩
      all_goals
        intro u LD D a W hcl hi hp hs hw
        repeat (first | (refine sxv hs hw ?_; clear hs; intro a hs) | refine sxc hs ?_ | (refine sxa hs hw ?_; clear hs hw; intro a b W hw hs) | (refine sxs hs hw ?_; clear hs hw; intro W hs hw) | ((with_reducible first | refine st_ptrSome hs (k := ?_) | refine st_ptrNone hs (k := ?_)); clear hs; intro a hs))
        exact Or.inl ⟨hs, hw⟩
  all_goals
    intro u LD D a W hcl hi hp hs hw
    repeat (first | (refine sxv hs hw ?_; clear hs; intro a hs) | refine sxc hs ?_ | (refine sxa hs hw ?_; clear hs hw; intro a b W hw hs) | (refine sxs hs hw ?_; clear hs hw; intro W hs hw) | ((with_reducible first | refine st_ptrSome hs (k := ?_) | refine st_ptrNone hs (k := ?_)); clear hs; intro a hs))
    exact Or.inl ⟨hs, hw⟩
end Go.Proofs.YthpenehgfogloaaDoor.Sw

/-
  The walk of ReplayOwn.
-/
set_option linter.unusedVariables false
set_option maxRecDepth 10000
namespace Go.Proofs.YthpenehgfogloaaDoor.Sw
open Go.RowKit Go.Sx

theorem applyL_errs (d : Dm) (l : List OpD) : (applyL d l).1 ≠ -3 := by
  have hr : ∀ (d : Dm) (k : ByteArray) (x : Option DV), (setRL d k x).1 ≠ -3 := by
    intro d k x
    unfold setRL
    split
    · simp
    · split <;> simp
  have ho : ∀ (d : Dm) (o : OpD), (doL d o).1 ≠ -3 := by
    intro d o
    unfold doL
    split
    · split
      · exact hr _ _ _
      · simp
    · split
      · split
        · simp
        · split
          · simp
          · exact hr _ _ _
      · exact hr _ _ _
  have hg : ∀ (l : List OpD) (d : Dm), (goL l d).1 ≠ -3 := by
    intro l
    induction l with
    | nil => intro d; unfold goL; simp
    | cons o l ih =>
      intro d
      unfold goL
      split
      · simp
      · split
        · exact ih _
        · exact ho d o
  unfold applyL
  split
  · simp
  · split
    · simp
    · exact hg l d
theorem playL_errs : ∀ (l : List BatchD) (d : Dm), ∀ x ∈ (playL d l).2, x ≠ -3
  | [], d, x, h => by simp [playL] at h
  | b :: l, d, x, h => by
    have h : x ∈ (applyL d b.l).1 :: (playL (applyL d b.l).2 l).2 := h
    rcases List.mem_cons.1 h with rfl | h
    · exact applyL_errs d b.l
    · exact playL_errs l _ x h
abbrev mineO : OpD := ⟨1, ⟨#[109, 105, 110, 101]⟩, 1, 77, ⟨#[]⟩, 0, 0, ⟨#[]⟩, 0⟩
theorem mineO_ok : ∀ o ∈ [mineO], OpOk o := by
  intro o ho
  rw [List.mem_singleton] at ho
  subst ho
  exact ⟨⟨by decide, by decide⟩, ⟨by decide, by decide⟩, ⟨by decide, by decide⟩, ⟨by decide, by decide⟩, ⟨by decide, by decide⟩, ⟨by decide, by decide⟩, by decide, by decide, by decide⟩

set_option maxHeartbeats 32000000 in
theorem walk_ReplayOwn (l : List BatchD) (v : Value) (w : World) (hb : ∀ b ∈ l, BatWf b) (hr : BatsRd w v l) (hT : Tabs w) :
    Calls Tryd.prog 5 ⟨[v]⟩ w fun e w' => e = .returned (.bool true) ∧ Below w.heap.size w w' := by
  have hw := Has.startF w
  refine enter Tryd.func5 Tryd.ntmps5 rfl rfl fun a hs => ?_
  repeat (first | (refine sxv hs hw ?_; clear hs; intro a hs) | refine sxc hs ?_ | (refine sxa hs hw ?_; clear hs hw; intro a b W hw hs) | (refine sxs hs hw ?_; clear hs hw; intro W hs hw))
  refine st_call hs (hc := law23_begun _ hT) (k := ?_); rintro e0 W1 ⟨rfl, hb⟩; refine ⟨_, rfl, ?_⟩; clear hs; intro a hs; replace hw := hw.below hb; clear hb
  repeat (first | (refine sxv hs hw ?_; clear hs; intro a hs) | refine sxc hs ?_ | (refine sxa hs hw ?_; clear hs hw; intro a b W hw hs) | (refine sxs hs hw ?_; clear hs hw; intro W hs hw))
  refine st_call hs (hc := law7_Batches w _ (fr w) l v 10 _ (by decide) hb hr.h hw) (k := ?_); rintro e0 W1 ⟨bv, H1, rfl, hle1, hbs, hw1⟩; refine ⟨_, rfl, ?_⟩; clear hs hw; intro a hs; have hw := hw1; clear hw1
  have hbo := batsB_ok hb 10
  have hbl := batsB_le l 10
  generalize batsB l 10 = m at *
  repeat (first | (refine sxv hs hw ?_; clear hs; intro a hs) | refine sxc hs ?_ | (refine sxa hs hw ?_; clear hs hw; intro a b W hw hs) | (refine sxs hs hw ?_; clear hs hw; intro W hs hw))
  refine st_call hs (hc := replay_New w _ H1 none [] m _ _ (fun _ => rfl) hbo (by omega) hbs hle1 hT hw.free) (k := ?_); rintro e0 W1 ⟨q1, rfl, hw1⟩; refine ⟨_, rfl, ?_⟩; clear hs hw; intro a hs
  have hw := Has.drop2 hw1; clear hw1
  have hpl := playL_len m []
  have hpe := playL_errs m []
  have hdf := playL_fine (l := m) DocFine.nil hbo
  generalize playL [] m = A at *
  obtain ⟨d1, es⟩ := A
  simp only at hpl hpe hw hdf
  have hel : es.length ≤ 10 := by omega
  repeat (first | (refine sxv hs hw ?_; clear hs; intro a hs) | refine sxc hs ?_ | (refine sxa hs hw ?_; clear hs hw; intro a b W hw hs) | (refine sxs hs hw ?_; clear hs hw; intro W hs hw))
  refine st_call hs (hc := view_Doc w _ q1 d1 es _ hw) (k := ?_); rintro e0 W1 ⟨p1, rfl, hw1⟩; refine ⟨_, rfl, ?_⟩; clear hs hw; intro a hs; have hw := hw1; clear hw1
  refine st_call hs (hc := doc_Encode w _ p1 d1 _ hdf hw) (k := ?_); rintro e0 W1 ⟨ad, cap, rfl, hw1⟩; refine ⟨_, rfl, ?_⟩; clear hs hw; intro a hs; have hw := hw1; clear hw1
  refine st_string_b hs (r := hw.rd_own In.hd) (k := ?_); clear hs; intro a hs
  replace hw : Has 0 w _ (ViewAt q1 d1 es :: Fz H1 :: []) := hw.sel (by repeat (first | exact Sel.nil | exact Sel.refl _ | refine Sel.cons (by repeat (first | exact Pick.hd | apply Pick.tl)) ?_ | refine Sel.skip ?_))
  repeat (first | (refine sxv hs hw ?_; clear hs; intro a hs) | refine sxc hs ?_ | (refine sxa hs hw ?_; clear hs hw; intro a b W hw hs) | (refine sxs hs hw ?_; clear hs hw; intro W hs hw))
  refine st_call hs (hc := view_Doc w _ q1 d1 es _ hw) (k := ?_); rintro e0 W1 ⟨p2, rfl, hw1⟩; refine ⟨_, rfl, ?_⟩; clear hs hw; intro a hs; have hw := hw1; clear hw1
  repeat (first | (refine sxv hs hw ?_; clear hs; intro a hs) | refine sxc hs ?_ | (refine sxa hs hw ?_; clear hs hw; intro a b W hw hs) | (refine sxs hs hw ?_; clear hs hw; intro W hs hw))
  obtain ⟨bo, qo⟩ := nm1 hw; subst qo
  replace hw : Has 0 w _ (Cells bo (opCells mineO) 47 :: Fz H1 :: DocAt p2 d1 :: ViewAt q1 d1 es :: []) := hw.perm (by repeat (first | exact List.Perm.refl _ | refine perm_pick (by repeat (first | exact Pick.hd | apply Pick.tl)) ?_))
  obtain ⟨H2, hle2, hw2, hop⟩ := hw.freeze_lit (m := 1) (sz := 9) rfl (by decide)
  clear hw; have hw := hw2; clear hw2
  refine st_call hs (hc := doc_ApplyL w _ H2 p2 d1 [mineO] _ _ mineO_ok (RdH.le (n := 1) (xs := [mineO].flatMap opCells) hop (Fh.le.refl _)) (by repeat (first | exact In.hd | apply In.tl)) (hle1.trans hle2) hT (hw.perm (by repeat (first | exact List.Perm.refl _ | refine perm_pick (by repeat (first | exact Pick.hd | apply Pick.tl)) ?_)) : Has 0 w _ (DocAt p2 d1 :: Fz H2 :: ViewAt q1 d1 es :: []))) (k := ?_); rintro e0 W1 ⟨rfl, hw1⟩; refine ⟨_, rfl, ?_⟩; clear hs hw; intro a hs; have hw := hw1; clear hw1
  replace hw : Has 0 w _ (ViewAt q1 d1 es :: Fz H2 :: []) := hw.sel (by repeat (first | exact Sel.nil | exact Sel.refl _ | refine Sel.cons (by repeat (first | exact Pick.hd | apply Pick.tl)) ?_ | refine Sel.skip ?_))
  repeat (first | (refine sxv hs hw ?_; clear hs; intro a hs) | refine sxc hs ?_ | (refine sxa hs hw ?_; clear hs hw; intro a b W hw hs) | (refine sxs hs hw ?_; clear hs hw; intro W hs hw))
  refine st_call hs (hc := view_Errs w _ q1 d1 es _ (by omega) hw) (k := ?_); rintro e0 W1 ⟨xv, rfl, hw1⟩; refine ⟨_, rfl, ?_⟩; clear hs hw; intro a hs; have hw := hw1; clear hw1
  obtain ⟨xad, xcap, rfl⟩ := hw.own_slice
  repeat (first | (refine sxv hs hw ?_; clear hs; intro a hs) | refine sxc hs ?_ | (refine sxa hs hw ?_; clear hs hw; intro a b W hw hs) | (refine sxs hs hw ?_; clear hs hw; intro W hs hw))
  refine st_loop (σ := Nat × Option Addr × List Value) (fun t => [(4, .pointer (some ⟨q1, 0, none⟩)), (5, .string ⟨(docB d1).toArray⟩), (6, .slice t.2.1 es.length xcap), (7, .int .i64 (t.1 : Int))]) (fun t => Sx.Own 40 1 (.slice t.2.1 es.length xcap) es.length t.2.2 :: ViewAt q1 d1 es :: Fz H2 :: []) (fun t => t.1 ≤ es.length) (fun t => es.length - t.1) (0, xad, es.map (Value.int .i64)) (Nat.zero_le _) hs ⟨rfl, rfl, rfl, rfl, trivial⟩ hw ?_
  clear hs hw
  rintro ⟨j, xad, xs⟩ a W hj hs hw
  simp only at hj hs hw
  repeat (first | (refine sxv hs hw ?_; clear hs; intro a hs) | refine sxc hs ?_ | (refine sxa hs hw ?_; clear hs hw; intro a b W hw hs) | (refine sxs hs hw ?_; clear hs hw; intro W hs hw))
  refine cd_split hs (kt := fun hcc => ?_) (kf := fun hcc => ?_)
  · have hj' : j < es.length := by simpa using hcc
    obtain ⟨g, cur, rfl, hcur, hcl0, hkc, hcm, hw2⟩ := hw.open_own (by omega)
    clear hw; have hw := hw2; clear hw2
    repeat (first | (refine sxv hs hw ?_; clear hs; intro a hs) | refine sxc hs ?_ | (refine sxa hs hw ?_; clear hs hw; intro a b W hw hs) | (refine sxs hs hw ?_; clear hs hw; intro W hs hw))
    refine st_index_at hs (z := [.int .i64 0]) (h0 := by omega) (h1 := by omega) (c := ?_); clear hs; intro a hs
    repeat (first | (refine sxv hs hw ?_; clear hs; intro a hs) | refine sxc hs ?_ | (refine sxa hs hw ?_; clear hs hw; intro a b W hw hs) | (refine sxs hs hw ?_; clear hs hw; intro W hs hw))
    refine st_store hs (hw := hw) (vs := [.int .i64 (-3)]) (hl := by show Nat.ble (0 + j * 1 + 1) cur.length = true; rw [hcl0]; apply Nat.ble_eq_true_of_le; omega) (k := ?_); clear hs hw; intro W hs hw
    rw [ov_one] at hw
    repeat (first | (refine sxv hs hw ?_; clear hs; intro a hs) | refine sxc hs ?_ | (refine sxa hs hw ?_; clear hs hw; intro a b W hw hs) | (refine sxs hs hw ?_; clear hs hw; intro W hs hw))
    replace hw := hw.shut_own (k := es.length) (size := 1) (cap := xcap) rfl (by rw [List.length_set]; exact hcl0) hkc hcm
    exact st_again (j + 1, _, _) hs hw hj' (by show es.length - (j + 1) < es.length - j; omega) ⟨rfl, rfl, rfl, int_eq (by show IntKind.i64.wrap ((j : Int) + 1) = ((j + 1 : Nat) : Int); rw [IntWalk.i64_in _ (by omega)]; omega), trivial⟩
  · clear hcc hj
    replace hw : Has 0 w _ (ViewAt q1 d1 es :: Fz H2 :: []) := hw.sub (List.Sublist.cons _ (List.Sublist.refl _))
    replace hs : Slots a 55 [(4, .pointer (some ⟨q1, 0, none⟩)), (5, .string ⟨(docB d1).toArray⟩)] := hs.of ⟨rfl, rfl, trivial⟩
    repeat (first | (refine sxv hs hw ?_; clear hs; intro a hs) | refine sxc hs ?_ | (refine sxa hs hw ?_; clear hs hw; intro a b W hw hs) | (refine sxs hs hw ?_; clear hs hw; intro W hs hw))
    refine st_loop (σ := Nat) (fun t => [(4, .pointer (some ⟨q1, 0, none⟩)), (5, .string ⟨(docB d1).toArray⟩), (8, .int .i64 (t : Int))]) (fun t => ViewAt q1 d1 es :: Fz H2 :: []) (fun t => t ≤ es.length) (fun t => es.length - t) 0 (Nat.zero_le _) hs ⟨rfl, rfl, rfl, trivial⟩ hw ?_
    clear hs hw
    rintro j a W hj hs hw
    repeat (first | (refine sxv hs hw ?_; clear hs; intro a hs) | refine sxc hs ?_ | (refine sxa hs hw ?_; clear hs hw; intro a b W hw hs) | (refine sxs hs hw ?_; clear hs hw; intro W hs hw))
    refine st_call hs (hc := view_Errs w _ q1 d1 es _ (by omega) hw) (k := ?_); rintro e0 W1 ⟨xv, rfl, hw1⟩; refine ⟨_, rfl, ?_⟩; clear hs hw; intro a hs; have hw := hw1; clear hw1
    obtain ⟨yad, ycap, rfl⟩ := hw.own_slice
    repeat (first | (refine sxv hs hw ?_; clear hs; intro a hs) | refine sxc hs ?_ | (refine sxa hs hw ?_; clear hs hw; intro a b W hw hs) | (refine sxs hs hw ?_; clear hs hw; intro W hs hw))
    replace hw : Has 0 w _ (ViewAt q1 d1 es :: Fz H2 :: []) := hw.sub (List.Sublist.cons _ (List.Sublist.refl _))
    refine cd_split hs (kt := fun hcc => ?_) (kf := fun hcc => ?_)
    · have hj' : j < es.length := by simpa using hcc
      obtain ⟨o, hoi⟩ : ∃ o, es[j]? = some o := ⟨es[j], List.getElem?_eq_getElem hj'⟩
      have ho3 := hpe o (List.mem_of_getElem? hoi)
      repeat (first | (refine sxv hs hw ?_; clear hs; intro a hs) | refine sxc hs ?_ | (refine sxa hs hw ?_; clear hs hw; intro a b W hw hs) | (refine sxs hs hw ?_; clear hs hw; intro W hs hw))
      refine st_call hs (hc := view_Errs w _ q1 d1 es _ (by omega) hw) (k := ?_); rintro e0 W1 ⟨xv, rfl, hw1⟩; refine ⟨_, rfl, ?_⟩; clear hs hw; intro a hs; have hw := hw1; clear hw1
      obtain ⟨zad, zcap, rfl⟩ := hw.own_slice
      repeat (first | (refine sxv hs hw ?_; clear hs; intro a hs) | refine sxc hs ?_ | (refine sxa hs hw ?_; clear hs hw; intro a b W hw hs) | (refine sxs hs hw ?_; clear hs hw; intro W hs hw))
      refine st_index_ch hs (i := j) (r := hw.rd_own In.hd) (hk := fun _ _ h => by rw [h]; rfl) (ch := chMap (Value.int .i64) es) (ho := hoi) (hlen := rfl) (c := ?_); clear hs; intro a g off c hc hcl hpc hlt hs
      subst hc
      repeat (first | (refine sxv hs hw ?_; clear hs; intro a hs) | refine sxc hs ?_ | (refine sxa hs hw ?_; clear hs hw; intro a b W hw hs) | (refine sxs hs hw ?_; clear hs hw; intro W hs hw))
      refine st_load_at hs (hc := hpc 0 _ rfl) (c := ?_); clear hs hpc; intro a hs
      repeat (first | (refine sxv hs hw ?_; clear hs; intro a hs) | refine sxc hs ?_ | (refine sxa hs hw ?_; clear hs hw; intro a b W hw hs) | (refine sxs hs hw ?_; clear hs hw; intro W hs hw))
      rw [show (o == -3) = false from by simpa using ho3] at hs
      repeat (first | (refine sxv hs hw ?_; clear hs; intro a hs) | refine sxc hs ?_ | (refine sxa hs hw ?_; clear hs hw; intro a b W hw hs) | (refine sxs hs hw ?_; clear hs hw; intro W hs hw))
      exact st_again (j + 1) hs (hw.sub (List.Sublist.cons _ (List.Sublist.refl _))) hj' (by show es.length - (j + 1) < es.length - j; omega) ⟨rfl, rfl, int_eq (by show IntKind.i64.wrap ((j : Int) + 1) = ((j + 1 : Nat) : Int); rw [IntWalk.i64_in _ (by omega)]; omega), trivial⟩
    · repeat (first | (refine sxv hs hw ?_; clear hs; intro a hs) | refine sxc hs ?_ | (refine sxa hs hw ?_; clear hs hw; intro a b W hw hs) | (refine sxs hs hw ?_; clear hs hw; intro W hs hw))
      refine st_call hs (hc := view_Doc w _ q1 d1 es _ hw) (k := ?_); rintro e0 W1 ⟨p3, rfl, hw1⟩; refine ⟨_, rfl, ?_⟩; clear hs hw; intro a hs; have hw := hw1; clear hw1
      repeat (first | (refine sxv hs hw ?_; clear hs; intro a hs) | refine sxc hs ?_ | (refine sxa hs hw ?_; clear hs hw; intro a b W hw hs) | (refine sxs hs hw ?_; clear hs hw; intro W hs hw))
      refine st_call hs (hc := doc_Encode w _ p3 d1 _ hdf hw) (k := ?_); rintro e0 W1 ⟨ad, cap, rfl, hw1⟩; refine ⟨_, rfl, ?_⟩; clear hs hw; intro a hs; have hw := hw1; clear hw1
      refine st_string_b hs (r := hw.rd_own In.hd) (k := ?_); clear hs; intro a hs
      repeat (first | (refine sxv hs hw ?_; clear hs; intro a hs) | refine sxc hs ?_ | (refine sxa hs hw ?_; clear hs hw; intro a b W hw hs) | (refine sxs hs hw ?_; clear hs hw; intro W hs hw))
      rw [beq_self_eq_true] at hs
      repeat (first | (refine sxv hs hw ?_; clear hs; intro a hs) | refine sxc hs ?_ | (refine sxa hs hw ?_; clear hs hw; intro a b W hw hs) | (refine sxs hs hw ?_; clear hs hw; intro W hs hw))
      exact rt1 hs rfl rfl ⟨rfl, hw.endF (by repeat (first | exact In.hd | apply In.tl)) (hle1.trans hle2)⟩
end Go.Proofs.YthpenehgfogloaaDoor.Sw

/-
  Documents: the walks of Decode and of the reference's Encode.
-/
set_option linter.unusedVariables false
set_option maxRecDepth 10000
namespace Go.Proofs.YthpenehgfogloaaDoor.Sw
open Go.RowKit Go.Sx

-- pieces

abbrev kindV (v : DV) : Int := kindOf (some v)
def ddRes (H : Fh) (w0 : World) (R : List Res) (l : List UInt8) (e : Ending) (W' : World) : Prop :=
  (decDoc l = none ∧ e = .returned (.tuple ⟨[.pointer none, .int .i64 1]⟩) ∧ Has 0 w0 W' R) ∨ ∃ d p, decDoc l = some d ∧ e = .returned (.tuple ⟨[.pointer (some ⟨p, 0, none⟩), .int .i64 0]⟩) ∧ Has 0 w0 W' (DocAt p d :: R)

set_option maxHeartbeats 16000000 in
theorem doc_Decode (w0 W : World) (H : Fh) (l : List UInt8) (v : Value) (R : List Res) (hl : l.length ≤ 1000000) (r : RdH H 1 v l.length (bys l)) (i : In (Fz H) R) (hH : (fr w0).le H) (hT : Tabs w0) (hw : Has 0 w0 W R) :
    Calls Tryd.prog 25 ⟨[v]⟩ W (ddRes H w0 R l) := by
  obtain ⟨sad, scap, rfl⟩ := r.slice
  have hgl := Ph.getI_le l
  have hgr := getI_range l
  refine enter Tryd.func25 Tryd.ntmps25 rfl rfl fun a hs => ?_
  repeat (first | (refine sxv hs hw ?_; clear hs; intro a hs) | refine sxc hs ?_ | (refine sxa hs hw ?_; clear hs hw; intro a b W hw hs) | (refine sxs hs hw ?_; clear hs hw; intro W hs hw))
  refine st_call hs (hc := doc_New w0 _ _ hw) (k := ?_); rintro e0 W1 ⟨p, rfl, hw1⟩; refine ⟨_, rfl, ?_⟩; clear hs hw; intro a hs; have hw := hw1; clear hw1
  repeat (first | (refine sxv hs hw ?_; clear hs; intro a hs) | refine sxc hs ?_ | (refine sxa hs hw ?_; clear hs hw; intro a b W hw hs) | (refine sxs hs hw ?_; clear hs hw; intro W hs hw))
  refine st_call hs (hc := num_Get _ _ l (hw.rdH (In.tl i) r)) (k := ?_); rintro e0 W1 ⟨rfl, rfl⟩; refine ⟨_, rfl, ?_⟩; clear hs; intro a hs
  have hdec : decDoc l = if (Ph.getI l).2.2 = 0 ∧ 0 ≤ (Ph.getI l).1 ∧ (Ph.getI l).1 ≤ 50 then (match rdPairs (Ph.getI l).1.toNat [] (l.drop (Ph.getI l).2.1) with | none => none | some d => if docB d = l then some d else none) else none := rfl
  generalize Ph.getI l = g at *
  obtain ⟨n, at_, er⟩ := g
  simp only at hgl hgr hdec hs
  by_cases he : er = 0
  · subst he
    repeat (first | (refine sxv hs hw ?_; clear hs; intro a hs) | refine sxc hs ?_ | (refine sxa hs hw ?_; clear hs hw; intro a b W hw hs) | (refine sxs hs hw ?_; clear hs hw; intro W hs hw))
    cases c1 : decide (n < 0) with
    | true =>
      rw [c1] at hs
      have g1 := of_decide_eq_true c1
      repeat (first | (refine sxv hs hw ?_; clear hs; intro a hs) | refine sxc hs ?_ | (refine sxa hs hw ?_; clear hs hw; intro a b W hw hs) | (refine sxs hs hw ?_; clear hs hw; intro W hs hw))
      exact rt2 hs rfl rfl rfl (.inl ⟨by rw [hdec, if_neg (by omega)], rfl, hw.sub (List.Sublist.cons _ (List.Sublist.refl _))⟩)
    | false =>
    rw [c1] at hs
    have g1 := of_decide_eq_false c1
    repeat (first | (refine sxv hs hw ?_; clear hs; intro a hs) | refine sxc hs ?_ | (refine sxa hs hw ?_; clear hs hw; intro a b W hw hs) | (refine sxs hs hw ?_; clear hs hw; intro W hs hw))
    cases c2 : decide (n > 50) with
    | true =>
      rw [c2] at hs
      have g2 := of_decide_eq_true c2
      repeat (first | (refine sxv hs hw ?_; clear hs; intro a hs) | refine sxc hs ?_ | (refine sxa hs hw ?_; clear hs hw; intro a b W hw hs) | (refine sxs hs hw ?_; clear hs hw; intro W hs hw))
      exact rt2 hs rfl rfl rfl (.inl ⟨by rw [hdec, if_neg (by omega)], rfl, hw.sub (List.Sublist.cons _ (List.Sublist.refl _))⟩)
    | false =>
    rw [c2] at hs
    have g2 := of_decide_eq_false c2
    rw [if_pos (by omega)] at hdec
    obtain ⟨nn, rfl⟩ : ∃ nn : Nat, n = (nn : Int) := ⟨n.toNat, by omega⟩
    rw [Int.toNat_natCast] at hdec
    repeat (first | (refine sxv hs hw ?_; clear hs; intro a hs) | refine sxc hs ?_ | (refine sxa hs hw ?_; clear hs hw; intro a b W hw hs) | (refine sxs hs hw ?_; clear hs hw; intro W hs hw))
    generalize hR : rdPairs nn [] (l.drop at_) = RR at hdec
    have none_ : ∀ {W : World}, RR = none → Has 0 w0 W R → ddRes H w0 R l (.returned (.tuple ⟨[.pointer none, .int .i64 1]⟩)) W := fun h hw => .inl ⟨by rw [hdec, h], rfl, hw⟩
    refine st_loop (σ := Nat × Dm × Nat) (fun t => [(0, .slice sad l.length scap), (4, .pointer (some ⟨p, 0, none⟩)), (6, .int .i64 (t.2.2 : Int)), (32, .int .i64 (nn : Int)), (33, .int .i64 (t.1 : Int))]) (fun t => DocAt p t.2.1 :: R) (fun t => t.1 ≤ nn ∧ t.2.2 ≤ l.length ∧ rdPairs (nn - t.1) t.2.1 (l.drop t.2.2) = RR) (fun t => nn - t.1) (0, [], at_) ⟨Nat.zero_le _, hgl, hR⟩ hs ⟨rfl, rfl, rfl, rfl, rfl, trivial⟩ hw ?_
    clear hs hw
    rintro ⟨j, d, at2⟩ a W ⟨hj, hat, hrd⟩ hs hw
    simp only at hj hat hrd hs hw
    have hkd := docKeys hw
    repeat (first | (refine sxv hs hw ?_; clear hs; intro a hs) | refine sxc hs ?_ | (refine sxa hs hw ?_; clear hs hw; intro a b W hw hs) | (refine sxs hs hw ?_; clear hs hw; intro W hs hw))
    refine cd_split hs (kt := fun hcc => ?_) (kf := fun hcc => ?_)
    · have hj' : j < nn := by simpa using hcc
      rw [show nn - j = (nn - (j + 1)) + 1 from by omega] at hrd
      simp only [rdPairs] at hrd
      repeat (first | (refine sxv hs hw ?_; clear hs; intro a hs) | refine sxc hs ?_ | (refine sxa hs hw ?_; clear hs hw; intro a b W hw hs) | (refine sxs hs hw ?_; clear hs hw; intro W hs hw))
      refine st_sliceH_lo hs (i := (at2 : Int)) (z := [.int .u8 0]) r (by omega) (by omega) (c := ?_); clear hs; intro a v1 r1 hs
      rw [Int.toNat_natCast, bys_drop, ← List.length_drop] at r1
      have hsl : (l.drop at2).length = l.length - at2 := List.length_drop
      have hsd : ∀ k, (l.drop at2).drop k = l.drop (at2 + k) := fun k => List.drop_drop
      rw [hsd, hsd] at hrd
      generalize l.drop at2 = s at *
      have hkle := getT_le s
      have hksz := getT_size s
      repeat (first | (refine sxv hs hw ?_; clear hs; intro a hs) | refine sxc hs ?_ | (refine sxa hs hw ?_; clear hs hw; intro a b W hw hs) | (refine sxs hs hw ?_; clear hs hw; intro W hs hw))
      refine st_call hs (hc := num_GetText _ _ s (hw.rdH (In.tl i) r1)) (k := ?_); rintro e0 W1 ⟨rfl, rfl⟩; refine ⟨_, rfl, ?_⟩; clear hs; intro a hs
      generalize Ph.getT s = G at *
      obtain ⟨kt, kk, ke⟩ := G
      simp only at hkle hksz hrd hs
      by_cases ke0 : ke = 0
      · subst ke0
        repeat (first | (refine sxv hs hw ?_; clear hs; intro a hs) | refine sxc hs ?_ | (refine sxa hs hw ?_; clear hs hw; intro a b W hw hs) | (refine sxs hs hw ?_; clear hs hw; intro W hs hw))
        refine st_call hs (hc := runes_Key ⟨kt.toArray⟩ _ (by omega) (hT.keep (hw.endF (In.tl i) hH))) (k := ?_); rintro e0 W1 ⟨rfl, hb⟩; refine ⟨_, rfl, ?_⟩; clear hs; intro a hs; replace hw := hw.below hb; clear hb
        have ek : Ph.keyB (⟨kt.toArray⟩ : ByteArray).data.toList = Ph.keyB kt := rfl
        rw [ek] at hs
        cases hK : Ph.keyB kt with
        | false =>
          rw [hK] at hs hrd
          simp only [Bool.and_false] at hrd
          repeat (first | (refine sxv hs hw ?_; clear hs; intro a hs) | refine sxc hs ?_ | (refine sxa hs hw ?_; clear hs hw; intro a b W hw hs) | (refine sxs hs hw ?_; clear hs hw; intro W hs hw))
          exact rt2 hs rfl rfl rfl (none_ hrd.symm (hw.sel (by repeat (first | exact Sel.refl _ | refine Sel.skip ?_))))
        | true =>
        rw [hK] at hs hrd
        simp only [Bool.and_true] at hrd
        repeat (first | (refine sxv hs hw ?_; clear hs; intro a hs) | refine sxc hs ?_ | (refine sxa hs hw ?_; clear hs hw; intro a b W hw hs) | (refine sxs hs hw ?_; clear hs hw; intro W hs hw))
        rw [show IntKind.i64.wrap ((at2 : Int) + (kk : Int)) = ((at2 + kk : Nat) : Int) from by rw [IntWalk.i64_in _ (by omega)]; omega] at hs
        refine st_sliceH_lo hs (i := ((at2 + kk : Nat) : Int)) (z := [.int .u8 0]) r (by omega) (by omega) (c := ?_); clear hs; intro a v2 r2 hs
        rw [Int.toNat_natCast, bys_drop, ← List.length_drop] at r2
        have hgle := getR_le (l.drop (at2 + kk))
        have hgrr := getR_range (l.drop (at2 + kk))
        have hsl2 : (l.drop (at2 + kk)).length = l.length - (at2 + kk) := List.length_drop
        have hsd2 : ∀ k, (l.drop (at2 + kk)).drop k = l.drop (at2 + kk + k) := fun k => List.drop_drop
        have e3 : ∀ m, l.drop (at2 + (kk + m)) = l.drop (at2 + kk + m) := fun m => by rw [Nat.add_assoc]
        rw [e3] at hrd
        generalize l.drop (at2 + kk) = s2 at *
        repeat (first | (refine sxv hs hw ?_; clear hs; intro a hs) | refine sxc hs ?_ | (refine sxa hs hw ?_; clear hs hw; intro a b W hw hs) | (refine sxs hs hw ?_; clear hs hw; intro W hs hw))
        refine st_call hs (hc := value_Get _ _ s2 (hw.rdH (In.tl i) r2) (hT.keep (hw.endF (In.tl i) hH))) (k := ?_); rintro e0 W1 ⟨rfl, hb⟩; refine ⟨_, rfl, ?_⟩; clear hs; intro a hs; replace hw := hw.below hb; clear hb
        generalize getR s2 = G2 at *
        obtain ⟨⟨rk, rn, rs⟩, rm, re⟩ := G2
        simp only at hgle hgrr hrd hs
        by_cases re0 : re = 0
        · subst re0
          repeat (first | (refine sxv hs hw ?_; clear hs; intro a hs) | refine sxc hs ?_ | (refine sxa hs hw ?_; clear hs hw; intro a b W hw hs) | (refine sxs hs hw ?_; clear hs hw; intro W hs hw))
          have hns : rs.size ≤ 9223372036854775807 := by omega
          refine st_call hs (hc := value_Of rk rn rs _ hns (hT.keep (hw.endF (In.tl (In.tl i)) hH))) (k := ?_); rintro e0 W1 ⟨rfl, hb⟩; refine ⟨_, rfl, ?_⟩; clear hs; intro a hs; replace hw := hw.below hb; clear hb
          generalize hof : (ofRaw rk rn rs).1 = x at *
          repeat (first | (refine sxv hs hw ?_; clear hs; intro a hs) | refine sxc hs ?_ | (refine sxa hs hw ?_; clear hs hw; intro a b W hw hs) | (refine sxs hs hw ?_; clear hs hw; intro W hs hw))
          obtain ⟨b11, q11⟩ := nm2 hw; subst q11
          obtain ⟨b13, q13⟩ := nm1 hw; subst q13
          refine st_store hs (hw := hw) (vs := [vCell x]) (h1 := by rcases x with _ | n | s <;> rfl) (k := ?_); clear hs hw; intro W hs hw
          repeat (first | (refine sxv hs hw ?_; clear hs; intro a hs) | refine sxc hs ?_ | (refine sxa hs hw ?_; clear hs hw; intro a b W hw hs) | (refine sxs hs hw ?_; clear hs hw; intro W hs hw))
          refine st_call hs (hc := Kind_any x _) (k := ?_); rintro e0 W1 ⟨rfl, hb⟩; refine ⟨_, rfl, ?_⟩; clear hs; intro a hs; replace hw := hw.below hb; clear hb
          cases x with
          | none =>
            repeat (first | (refine sxv hs hw ?_; clear hs; intro a hs) | refine sxc hs ?_ | (refine sxa hs hw ?_; clear hs hw; intro a b W hw hs) | (refine sxs hs hw ?_; clear hs hw; intro W hs hw))
            exact rt2 hs rfl rfl rfl (none_ hrd.symm (hw.sel (by repeat (first | exact Sel.refl _ | refine Sel.skip ?_))))
          | some v =>
            rw [show kindOf (some v) = kindV v from rfl] at hs
            have hk0 : (kindV v == 0) = false := by rcases v with n | s <;> rfl
            repeat (first | (refine sxv hs hw ?_; clear hs; intro a hs) | refine sxc hs ?_ | (refine sxa hs hw ?_; clear hs hw; intro a b W hw hs) | (refine sxs hs hw ?_; clear hs hw; intro W hs hw))
            rw [hk0] at hs
            have hw : Has 0 w0 _ (DocAt p d :: Cells b13 [vCell (some v)] 77 :: R) := hw.sel (by repeat (first | exact Sel.nil | exact Sel.refl _ | refine Sel.cons (by repeat (first | exact Pick.hd | apply Pick.tl)) ?_ | refine Sel.skip ?_))
            obtain ⟨m, d2, hp, hk, hw⟩ := docOpen hw
            obtain ⟨d3, h3, h4⟩ := dset_kv (⟨kt.toArray⟩ : ByteArray) v ((dKeys_perm hp).2 hk)
            repeat (first | (refine sxv hs hw ?_; clear hs; intro a hs) | refine sxc hs ?_ | (refine sxa hs hw ?_; clear hs hw; intro a b W hw hs) | (refine sxs hs hw ?_; clear hs hw; intro W hs hw))
            refine rg_draw (V := [.pointer (some ⟨p, 0, none⟩), .pointer (some ⟨p, 0, none⟩), .pointer (some ⟨p, 0 + 0, none⟩), .map (some m), .string ⟨kt.toArray⟩, .agg ⟨[vCell (some v)]⟩, .bool true])
              (Rs := fun D => Cells p [.map (some m)] 79 :: (if D 6 then MapOf m (kvOf d3) else MapOf m (kvOf d2)) :: Cells b13 [vCell (some v)] 77 :: R) hs hw (ho := ⟨?_, ?_, ?_, ?_, ?_, ?_, ?c6_1, trivial⟩) (k := ?k_1)
            case c6_1 =>
              intro LD D a W hcl hi hp hs hw
              simp only [hi, Bool.false_eq_true, if_false] at hw
              refine st_update hs (hw := hw) (v := vOf v) (c := ?_); clear hs hw; intro W hs hw
              rw [h3] at hw
              repeat (first | (refine sxv hs hw ?_; clear hs; intro a hs) | refine sxc hs ?_ | (refine sxa hs hw ?_; clear hs hw; intro a b W hw hs) | (refine sxs hs hw ?_; clear hs hw; intro W hs hw))
              exact ⟨hs, hw⟩
            case k_1 =>
              clear hs hw
              intro a W hs hw
              replace hw : Has 0 w0 W (Cells p [.map (some m)] 79 :: MapOf m (kvOf d3) :: Cells b13 [vCell (some v)] 77 :: R) := hw
              have hw := docShut (hw.sub (List.Sublist.cons_cons _ (List.Sublist.cons_cons _ (List.Sublist.cons _ (List.Sublist.refl _))))) (h4.trans (setD_perm hp ⟨kt.toArray⟩ v)) (setD_keys hk ⟨kt.toArray⟩ v)
              have hw := docLike hw (setL_perm d ⟨kt.toArray⟩ v).symm
              repeat (first | (refine sxv hs hw ?_; clear hs; intro a hs) | refine sxc hs ?_ | (refine sxa hs hw ?_; clear hs hw; intro a b W hw hs) | (refine sxs hs hw ?_; clear hs hw; intro W hs hw))
              refine st_again (j + 1, setL d ⟨kt.toArray⟩ v, at2 + kk + rm) hs hw ⟨hj', by show at2 + kk + rm ≤ l.length; omega, hrd⟩ (by show nn - (j + 1) < nn - j; omega) ⟨rfl, rfl, int_eq ?_, rfl, int_eq ?_, trivial⟩
              · show IntKind.i64.wrap ((at2 : Int) + IntKind.i64.wrap ((kk : Int) + (rm : Int))) = ((at2 + kk + rm : Nat) : Int)
                rw [IntWalk.i64_in ((kk : Int) + (rm : Int)) (by omega), IntWalk.i64_in _ (by omega)]; omega
              · show IntKind.i64.wrap ((j : Int) + 1) = ((j + 1 : Nat) : Int)
                rw [IntWalk.i64_in _ (by omega)]; omega
            all_goals
              intro LD D a W hcl hi hp hs hw
              repeat (first | (refine sxv hs hw ?_; clear hs; intro a hs) | refine sxc hs ?_ | (refine sxa hs hw ?_; clear hs hw; intro a b W hw hs) | (refine sxs hs hw ?_; clear hs hw; intro W hs hw))
              exact ⟨hs, hw⟩
        · have e1 : (re != 0) = true := by simpa using re0
          have e2 : (re == 0) = false := by simpa using re0
          rw [e2] at hrd
          repeat (first | (refine sxv hs hw ?_; clear hs; intro a hs) | refine sxc hs ?_ | (refine sxa hs hw ?_; clear hs hw; intro a b W hw hs) | (refine sxs hs hw ?_; clear hs hw; intro W hs hw))
          rw [e1] at hs
          repeat (first | (refine sxv hs hw ?_; clear hs; intro a hs) | refine sxc hs ?_ | (refine sxa hs hw ?_; clear hs hw; intro a b W hw hs) | (refine sxs hs hw ?_; clear hs hw; intro W hs hw))
          exact rt2 hs rfl rfl rfl (none_ hrd.symm (hw.sel (by repeat (first | exact Sel.refl _ | refine Sel.skip ?_))))
      · have e1 : (ke != 0) = true := by simpa using ke0
        have e2 : (ke == 0) = false := by simpa using ke0
        rw [e2] at hrd
        simp only [Bool.false_and] at hrd
        repeat (first | (refine sxv hs hw ?_; clear hs; intro a hs) | refine sxc hs ?_ | (refine sxa hs hw ?_; clear hs hw; intro a b W hw hs) | (refine sxs hs hw ?_; clear hs hw; intro W hs hw))
        rw [e1] at hs
        repeat (first | (refine sxv hs hw ?_; clear hs; intro a hs) | refine sxc hs ?_ | (refine sxa hs hw ?_; clear hs hw; intro a b W hw hs) | (refine sxs hs hw ?_; clear hs hw; intro W hs hw))
        exact rt2 hs rfl rfl rfl (none_ hrd.symm (hw.sel (by repeat (first | exact Sel.refl _ | refine Sel.skip ?_))))
    · have hj' : j = nn := by have : ¬ j < nn := by simpa using hcc
                              omega
      subst hj'
      rw [Nat.sub_self] at hrd
      simp only [rdPairs] at hrd
      subst hrd
      have hfd := rdPairs_some j [] _ d hR (by rw [List.length_drop]; omega) (by simp; omega) DocFine.nil
      repeat (first | (refine sxv hs hw ?_; clear hs; intro a hs) | refine sxc hs ?_ | (refine sxa hs hw ?_; clear hs hw; intro a b W hw hs) | (refine sxs hs hw ?_; clear hs hw; intro W hs hw))
      refine st_call hs (hc := doc_Encode w0 _ p d _ hfd hw) (k := ?_); rintro e0 W1 ⟨ad, cap, rfl, hw1⟩; refine ⟨_, rfl, ?_⟩; clear hs hw; intro a hs; have hw := hw1; clear hw1
      repeat (first | (refine sxv hs hw ?_; clear hs; intro a hs) | refine sxc hs ?_ | (refine sxa hs hw ?_; clear hs hw; intro a b W hw hs) | (refine sxs hs hw ?_; clear hs hw; intro W hs hw))
      refine st_call hs (hc := bytes_Equal (docB d) l _ _ _ (hw.rd_own In.hd) (hw.rdH (In.tl (In.tl i)) r)) (k := ?_); rintro e0 W1 ⟨rfl, hb⟩; refine ⟨_, rfl, ?_⟩; clear hs; intro a hs; replace hw := hw.below hb; clear hb
      simp only at hdec
      by_cases heq : docB d = l
      · rw [if_pos heq] at hdec
        rw [show (docB d == l) = true from by simpa using heq] at hs
        repeat (first | (refine sxv hs hw ?_; clear hs; intro a hs) | refine sxc hs ?_ | (refine sxa hs hw ?_; clear hs hw; intro a b W hw hs) | (refine sxs hs hw ?_; clear hs hw; intro W hs hw))
        exact rt2 hs rfl rfl rfl (.inr ⟨d, p, hdec, rfl, hw.sub (List.Sublist.cons _ (List.Sublist.refl _))⟩)
      · rw [if_neg heq] at hdec
        rw [show (docB d == l) = false from by simpa using heq] at hs
        repeat (first | (refine sxv hs hw ?_; clear hs; intro a hs) | refine sxc hs ?_ | (refine sxa hs hw ?_; clear hs hw; intro a b W hw hs) | (refine sxs hs hw ?_; clear hs hw; intro W hs hw))
        exact rt2 hs rfl rfl rfl (.inl ⟨hdec, rfl, hw.sub (List.Sublist.cons _ (List.Sublist.cons _ (List.Sublist.refl _)))⟩)
  · have e1 : (er != 0) = true := by simpa using he
    repeat (first | (refine sxv hs hw ?_; clear hs; intro a hs) | refine sxc hs ?_ | (refine sxa hs hw ?_; clear hs hw; intro a b W hw hs) | (refine sxs hs hw ?_; clear hs hw; intro W hs hw))
    rw [e1] at hs
    repeat (first | (refine sxv hs hw ?_; clear hs; intro a hs) | refine sxc hs ?_ | (refine sxa hs hw ?_; clear hs hw; intro a b W hw hs) | (refine sxs hs hw ?_; clear hs hw; intro W hs hw))
    exact rt2 hs rfl rfl rfl (.inl ⟨by rw [hdec, if_neg (by omega)], rfl, hw.sub (List.Sublist.cons _ (List.Sublist.refl _))⟩)

/-! the reference's Encode -/

set_option maxHeartbeats 16000000 in
theorem ref_DocEncode (w0 W : World) (H : Fh) (d : Dm) (dv : Value) (R : List Res) (hd : DocFine d) (r : DocH H dv d) (i : In (Fz H) R) (hw : Has 0 w0 W R) :
    Calls Tryd.prog 26 ⟨[.agg ⟨[dv]⟩]⟩ W fun e W' => ∃ ad cap, e = .returned (.slice ad (docB d).length cap) ∧ Has 0 w0 W' (Sx.OwnB 5 (.slice ad (docB d).length cap) (docB d) :: R) := by
  obtain ⟨dad, dcap, rfl⟩ := r.slice
  have hl := hd.ok.len
  refine enter Tryd.func26 Tryd.ntmps26 rfl rfl fun a hs => ?_
  repeat (first | (refine sxv hs hw ?_; clear hs; intro a hs) | refine sxc hs ?_ | (refine sxa hs hw ?_; clear hs hw; intro a b W hw hs) | (refine sxs hs hw ?_; clear hs hw; intro W hs hw))
  obtain ⟨b1, q1⟩ := nm1 hw; subst q1
  refine st_call hs (hc := ref_Put w0 _ (d.length : Int) _ (by omega) (by omega) hw) (k := ?_); rintro e0 W1 ⟨ad, cap, rfl, hw1⟩; refine ⟨_, rfl, ?_⟩; clear hs hw; intro a hs; have hw := hw1; clear hw1
  repeat (first | (refine sxv hs hw ?_; clear hs; intro a hs) | refine sxc hs ?_ | (refine sxa hs hw ?_; clear hs hw; intro a b W hw hs) | (refine sxs hs hw ?_; clear hs hw; intro W hs hw))
  refine st_loop (σ := Value × Nat) (fun s => [(1, .pointer (some ⟨b1, 0, none⟩)), (3, s.1), (4, .int .i64 (s.2 : Int))]) (fun s => Sx.OwnB 5 s.1 (docA d s.2) :: Cells b1 [.slice dad d.length dcap] 52 :: R) (fun s => s.2 ≤ d.length) (fun s => d.length - s.2) (.slice ad (Ph.putI (d.length : Int)).length cap, 0) (Nat.zero_le _) hs ⟨rfl, rfl, rfl, trivial⟩ (by rw [show docA d 0 = Ph.putI (d.length : Int) from by simp [docA]]; exact hw) ?_
  clear hs hw
  rintro ⟨v, j⟩ a W hj hs hw
  simp only at hj hs hw
  repeat (first | (refine sxv hs hw ?_; clear hs; intro a hs) | refine sxc hs ?_ | (refine sxa hs hw ?_; clear hs hw; intro a b W hw hs) | (refine sxs hs hw ?_; clear hs hw; intro W hs hw))
  refine cd_split hs (kt := fun hcc => ?_) (kf := fun hcc => ?_)
  · have hj' : j < d.length := by simpa using hcc
    obtain ⟨o, hoi⟩ : ∃ o, d[j]? = some o := ⟨d[j], List.getElem?_eq_getElem hj'⟩
    have hpo := hd.ok.all o (List.mem_of_getElem? hoi)
    have hacc := docA_len hd.ok j
    have hnext := docA_next hoi
    generalize docA d j = acc at *
    obtain ⟨vad, vcap, rfl⟩ := hw.own_slice
    have hp2 := putT_le o.1
    have hp3 := putR_le (kindOf (some o.2)) (intIn (some o.2)) (textIn (some o.2))
    have hkey := hpo.key
    have hki := kind_i64 o.2
    have hrr := raw_range (k := o.1) (v := o.2) hpo
    obtain ⟨g, f, c, rfl, rfl, hc1⟩ := chH_at pair_len r (chFlat pairCells d) rfl hoi
    repeat (first | (refine sxv hs hw ?_; clear hs; intro a hs) | refine sxc hs ?_ | (refine sxa hs hw ?_; clear hs hw; intro a b W hw hs) | (refine sxs hs hw ?_; clear hs hw; intro W hs hw))
    have hw : Has 0 w0 W (Sx.OwnB 5 (.slice vad acc.length vcap) (acc) :: Free :: Free :: Cells b1 [.slice (some ⟨g, f, none⟩) d.length dcap] 52 :: R) := hw.free.free.perm (by repeat (first | exact List.Perm.refl _ | refine perm_pick (by repeat (first | exact Pick.hd | apply Pick.tl)) ?_))
    refine rg_drawU (σ := Option Addr × Nat) (V := fun u => [(.slice vad acc.length vcap), .pointer (some ⟨b1, 0 + 0, none⟩), .slice (some ⟨g, f, none⟩) d.length dcap, .int .i64 (j : Int), .pointer (some ⟨g, f + j * 4, none⟩), .pointer (some ⟨g, f + j * 4 + 0, none⟩), .string o.1, (.slice (u 7).1 (Ph.putT o.1.data.toList).length (u 7).2), (.slice (u 8).1 (acc ++ Ph.putT o.1.data.toList).length (u 8).2), .pointer (some ⟨b1, 0 + 0, none⟩), .slice (some ⟨g, f, none⟩) d.length dcap, .int .i64 (j : Int), .pointer (some ⟨g, f + j * 4, none⟩), .pointer (some ⟨g, f + j * 4 + 1, none⟩), .agg ⟨rawCells (some o.2)⟩, (.slice (u 15).1 (putR (kindOf (some o.2)) (intIn (some o.2)) (textIn (some o.2))).length (u 15).2), (.slice (u 16).1 (acc ++ Ph.putT o.1.data.toList ++ putR (kindOf (some o.2)) (intIn (some o.2)) (textIn (some o.2))).length (u 16).2), (.slice (u 17).1 (acc ++ Ph.putT o.1.data.toList ++ putR (kindOf (some o.2)) (intIn (some o.2)) (textIn (some o.2))).length (u 17).2)])
      (Rs := fun u D => (if D 17 then Sx.OwnB 5 (.slice (u 17).1 (acc ++ Ph.putT o.1.data.toList ++ putR (kindOf (some o.2)) (intIn (some o.2)) (textIn (some o.2))).length (u 17).2) (acc ++ Ph.putT o.1.data.toList ++ putR (kindOf (some o.2)) (intIn (some o.2)) (textIn (some o.2))) else if D 16 then Sx.OwnB 5 (.slice (u 16).1 (acc ++ Ph.putT o.1.data.toList ++ putR (kindOf (some o.2)) (intIn (some o.2)) (textIn (some o.2))).length (u 16).2) (acc ++ Ph.putT o.1.data.toList ++ putR (kindOf (some o.2)) (intIn (some o.2)) (textIn (some o.2))) else if D 8 then Sx.OwnB 5 (.slice (u 8).1 (acc ++ Ph.putT o.1.data.toList).length (u 8).2) (acc ++ Ph.putT o.1.data.toList) else Sx.OwnB 5 (.slice vad acc.length vcap) (acc)) :: (if D 7 then Sx.OwnB 5 (.slice (u 7).1 (Ph.putT o.1.data.toList).length (u 7).2) (Ph.putT o.1.data.toList) else Free) :: (if D 15 then Sx.OwnB 5 (.slice (u 15).1 (putR (kindOf (some o.2)) (intIn (some o.2)) (textIn (some o.2))).length (u 15).2) (putR (kindOf (some o.2)) (intIn (some o.2)) (textIn (some o.2))) else Free) :: Cells b1 [.slice (some ⟨g, f, none⟩) d.length dcap] 52 :: R) (fun _ => (none, 0)) hs hw (hVu := ?vu_c) (ho := ⟨?_, ?_, ?_, ?_, ?c4_c, ?_, ?c6_c, ?c7_c, ?c8_c, ?_, ?_, ?_, ?c12_c, ?_, ?c14_c, ?c15_c, ?c16_c, ?c17_c, trivial⟩) (k := ?k_c)
    case vu_c =>
      intro u u' j h
      rcases j with _ | _ | _ | _ | _ | _ | _ | _ | _ | _ | _ | _ | _ | _ | _ | _ | _ | _ | j
      all_goals first | rfl | simp [h]
    case c4_c =>
      intro u LD D a W hcl hi hp hs hw
      refine st_index_at hs (z := [.string ⟨#[]⟩, .int .i64 0, .int .i64 0, .string ⟨#[]⟩]) (h0 := by omega) (h1 := by omega) (c := ?_); clear hs; intro a hs
      repeat (first | (refine sxv hs hw ?_; clear hs; intro a hs) | refine sxc hs ?_ | (refine sxa hs hw ?_; clear hs hw; intro a b W hw hs) | (refine sxs hs hw ?_; clear hs hw; intro W hs hw))
      exact Or.inl ⟨hs, hw⟩
    case c6_c =>
      intro u LD D a W hcl hi hp hs hw
      refine st_load_at hs (hc := hc1 hw (In.tl (In.tl (In.tl (In.tl i)))) 0 _ rfl) (c := ?_); clear hs; intro a hs
      repeat (first | (refine sxv hs hw ?_; clear hs; intro a hs) | refine sxc hs ?_ | (refine sxa hs hw ?_; clear hs hw; intro a b W hw hs) | (refine sxs hs hw ?_; clear hs hw; intro W hs hw))
      exact Or.inl ⟨hs, hw⟩
    case c12_c =>
      intro u LD D a W hcl hi hp hs hw
      refine st_index_at hs (z := [.string ⟨#[]⟩, .int .i64 0, .int .i64 0, .string ⟨#[]⟩]) (h0 := by omega) (h1 := by omega) (c := ?_); clear hs; intro a hs
      repeat (first | (refine sxv hs hw ?_; clear hs; intro a hs) | refine sxc hs ?_ | (refine sxa hs hw ?_; clear hs hw; intro a b W hw hs) | (refine sxs hs hw ?_; clear hs hw; intro W hs hw))
      exact Or.inl ⟨hs, hw⟩
    case c14_c =>
      intro u LD D a W hcl hi hp hs hw
      refine st_load_ats hs (cs := rawCells (some o.2)) (hc := fun k x h => by rw [Nat.add_assoc _ 1 k, Nat.add_comm 1 k]; exact hc1 hw (In.tl (In.tl (In.tl (In.tl i)))) (k + 1) x h) (hl := by rfl) (c := ?_); clear hs; intro a hs
      repeat (first | (refine sxv hs hw ?_; clear hs; intro a hs) | refine sxc hs ?_ | (refine sxa hs hw ?_; clear hs hw; intro a b W hw hs) | (refine sxs hs hw ?_; clear hs hw; intro W hs hw))
      exact Or.inl ⟨hs, hw⟩
    case c7_c =>
      intro u LD D a W hcl hi hp hs hw
      have h8 := Go.Sx.not_done hcl hi 8 (by kernel_rfl)
      have h16 := Go.Sx.not_done hcl h8 16 (by kernel_rfl)
      have h17 := Go.Sx.not_done hcl h16 17 (by kernel_rfl)
      simp only [hi, h8, h16, h17, Bool.false_eq_true, if_false] at hw
      refine st_call hs (hc := ref_PutText w0 _ o.1 _ (by omega) hw) (k := ?_); rintro e0 W1 ⟨ad, cap, rfl, hw1⟩; refine ⟨_, rfl, ?_⟩; clear hs hw; intro a hs; have hw := hw1; clear hw1
      repeat (first | (refine sxv hs hw ?_; clear hs; intro a hs) | refine sxc hs ?_ | (refine sxa hs hw ?_; clear hs hw; intro a b W hw hs) | (refine sxs hs hw ?_; clear hs hw; intro W hs hw))
      refine Or.inr ⟨(ad, cap), hs, ?_⟩
      show Has 0 w0 _ ((if (Nat.beq 17 7 || D 17) = true then _ else if (Nat.beq 16 7 || D 16) = true then _ else if (Nat.beq 8 7 || D 8) = true then _ else _) :: _)
      rw [h17, h16, h8]
      exact hw.fill (Upd.tl Upd.hd)
    case c8_c =>
      intro u LD D a W hcl hi hp hs hw
      have h7 := Go.Sx.done hp 7 (by kernel_rfl)
      have h16 := Go.Sx.not_done hcl hi 16 (by kernel_rfl)
      have h17 := Go.Sx.not_done hcl h16 17 (by kernel_rfl)
      simp only [hi, h7, h16, h17, Bool.false_eq_true, if_false, if_true] at hw
      refine st_append_b hs hw (l := acc) (m := Ph.putT o.1.data.toList) (hr := src_rd (hw.rd_own (In.tl In.hd)) (bys_one _)) (hb := by omega) (c := ?_); clear hs hw; intro a ad cap W hs hw
      repeat (first | (refine sxv hs hw ?_; clear hs; intro a hs) | refine sxc hs ?_ | (refine sxa hs hw ?_; clear hs hw; intro a b W hw hs) | (refine sxs hs hw ?_; clear hs hw; intro W hs hw))
      refine Or.inr ⟨(ad, cap), hs, ?_⟩
      show Has 0 w0 _ ((if (Nat.beq 17 8 || D 17) = true then _ else if (Nat.beq 16 8 || D 16) = true then _ else _) :: (if (Nat.beq 7 8 || D 7) = true then _ else _) :: _)
      rw [h17, h16, h7]
      exact hw
    case c15_c =>
      intro u LD D a W hcl hi hp hs hw
      have h16 := Go.Sx.not_done hcl hi 16 (by kernel_rfl)
      have h17 := Go.Sx.not_done hcl h16 17 (by kernel_rfl)
      simp only [hi, h16, h17, Bool.false_eq_true, if_false] at hw
      refine st_call hs (hc := ref_PutRaw w0 _ (kindOf (some o.2)) (intIn (some o.2)) (textIn (some o.2)) _ hki.1 hki.2 hrr.1.1 hrr.1.2 (by omega) hw) (k := ?_); rintro e0 W1 ⟨ad, cap, rfl, hw1⟩; refine ⟨_, rfl, ?_⟩; clear hs hw; intro a hs; have hw := hw1; clear hw1
      repeat (first | (refine sxv hs hw ?_; clear hs; intro a hs) | refine sxc hs ?_ | (refine sxa hs hw ?_; clear hs hw; intro a b W hw hs) | (refine sxs hs hw ?_; clear hs hw; intro W hs hw))
      refine Or.inr ⟨(ad, cap), hs, ?_⟩
      show Has 0 w0 _ ((if (Nat.beq 17 15 || D 17) = true then _ else if (Nat.beq 16 15 || D 16) = true then _ else _) :: _)
      rw [h17, h16]
      exact hw.fill (Upd.tl (Upd.tl Upd.hd))
    case c16_c =>
      intro u LD D a W hcl hi hp hs hw
      have h8 := Go.Sx.done hp 8 (by kernel_rfl)
      have h15 := Go.Sx.done hp 15 (by kernel_rfl)
      have h17 := Go.Sx.not_done hcl hi 17 (by kernel_rfl)
      simp only [hi, h8, h15, h17, Bool.false_eq_true, if_false, if_true] at hw
      refine st_append_b hs hw (l := acc ++ Ph.putT o.1.data.toList) (m := putR (kindOf (some o.2)) (intIn (some o.2)) (textIn (some o.2))) (hr := src_rd (hw.rd_own (In.tl (In.tl In.hd))) (bys_one _)) (hb := by first | omega | (simp only [List.length_append]; omega)) (c := ?_); clear hs hw; intro a ad cap W hs hw
      repeat (first | (refine sxv hs hw ?_; clear hs; intro a hs) | refine sxc hs ?_ | (refine sxa hs hw ?_; clear hs hw; intro a b W hw hs) | (refine sxs hs hw ?_; clear hs hw; intro W hs hw))
      refine Or.inr ⟨(ad, cap), hs, ?_⟩
      show Has 0 w0 _ ((if (Nat.beq 17 16 || D 17) = true then _ else _) :: _ :: (if (Nat.beq 15 16 || D 15) = true then _ else _) :: _)
      rw [h17, h15]
      exact hw
    case c17_c =>
      intro u LD D a W hcl hi hp hs hw
      have h16 := Go.Sx.done hp 16 (by kernel_rfl)
      simp only [hi, h16, Bool.false_eq_true, if_false, if_true] at hw
      repeat (first | (refine sxv hs hw ?_; clear hs; intro a hs) | refine sxc hs ?_ | (refine sxa hs hw ?_; clear hs hw; intro a b W hw hs) | (refine sxs hs hw ?_; clear hs hw; intro W hs hw))
      exact Or.inr ⟨u 16, hs, hw⟩
    case k_c =>
      clear hs hw
      intro u a W hs hw
      replace hw : Has 0 w0 W (Sx.OwnB 5 (.slice (u 17).1 (acc ++ Ph.putT o.1.data.toList ++ putR (kindOf (some o.2)) (intIn (some o.2)) (textIn (some o.2))).length (u 17).2) (acc ++ Ph.putT o.1.data.toList ++ putR (kindOf (some o.2)) (intIn (some o.2)) (textIn (some o.2))) :: Sx.OwnB 5 (.slice (u 7).1 (Ph.putT o.1.data.toList).length (u 7).2) (Ph.putT o.1.data.toList) :: Sx.OwnB 5 (.slice (u 15).1 (putR (kindOf (some o.2)) (intIn (some o.2)) (textIn (some o.2))).length (u 15).2) (putR (kindOf (some o.2)) (intIn (some o.2)) (textIn (some o.2))) :: Cells b1 [.slice (some ⟨g, f, none⟩) d.length dcap] 52 :: R) := hw
      replace hw := hw.drop2.drop2
      replace hs : Slots a 34 [(1, .pointer (some ⟨b1, 0, none⟩)), (3, (.slice (u 17).1 (acc ++ Ph.putT o.1.data.toList ++ putR (kindOf (some o.2)) (intIn (some o.2)) (textIn (some o.2))).length (u 17).2)), (4, .int .i64 (j : Int))] := hs.of ⟨rfl, rfl, rfl, trivial⟩
      generalize (u 17).1 = ad1 at *
      generalize (u 17).2 = cap1 at *
      clear u
      rw [← hnext] at hs hw
      repeat (first | (refine sxv hs hw ?_; clear hs; intro a hs) | refine sxc hs ?_ | (refine sxa hs hw ?_; clear hs hw; intro a b W hw hs) | (refine sxs hs hw ?_; clear hs hw; intro W hs hw))
      exact st_again (_, j + 1) hs hw hj' (by show d.length - (j + 1) < d.length - j; omega) ⟨rfl, rfl, int_eq (by show IntKind.i64.wrap ((j : Int) + 1) = ((j + 1 : Nat) : Int); rw [IntWalk.i64_in _ (by omega)]; omega), trivial⟩
    all_goals
      intro u LD D a W hcl hi hp hs hw
      repeat (first | (refine sxv hs hw ?_; clear hs; intro a hs) | refine sxc hs ?_ | (refine sxa hs hw ?_; clear hs hw; intro a b W hw hs) | (refine sxs hs hw ?_; clear hs hw; intro W hs hw))
      exact Or.inl ⟨hs, hw⟩
  · have hj' : j = d.length := by have h9 : ¬ j < d.length := by simpa using hcc
                                  omega
    subst hj'
    rw [docA_all] at hw
    repeat (first | (refine sxv hs hw ?_; clear hs; intro a hs) | refine sxc hs ?_ | (refine sxa hs hw ?_; clear hs hw; intro a b W hw hs) | (refine sxs hs hw ?_; clear hs hw; intro W hs hw))
    obtain ⟨ad, cap, rfl⟩ := hw.own_slice
    exact rt1 hs rfl rfl ⟨ad, cap, rfl, hw.drop2⟩
end Go.Proofs.YthpenehgfogloaaDoor.Sw

/-
  The walks of packhorselaw6.begun, tells, DocNone.
-/
set_option linter.unusedVariables false
set_option maxRecDepth 10000
namespace Go.Proofs.YthpenehgfogloaaDoor.Sw
open Go.RowKit Go.Sx

theorem dec_fine_len {d : Dm} (h : DocFine d) (hk : ∀ p ∈ d, p.1.size ≤ 10000) : (docB d).length ≤ 1000000 := by
  have h1 : ∀ m : Dm, (∀ p ∈ m, PairOk p) → (∀ p ∈ m, p.1.size ≤ 10000) → (m.flatMap pairB).length ≤ m.length * 10300 := by
    intro m
    induction m with
    | nil => intro _ _; simp
    | cons p m ih =>
      intro a b
      have h1 := pairB_len (a p (by simp))
      have h2 := b p (by simp)
      have h3 := ih (fun q hq => a q (by simp [hq])) (fun q hq => b q (by simp [hq]))
      rw [List.flatMap_cons, List.length_append, List.length_cons]
      omega
  have h2 := h1 d h.ok.all hk
  have h3 := Ph.putI_length_le (d.length : Int)
  have h4 := h.ok.len
  unfold docB
  rw [List.length_append]
  omega

/-- A document's own bytes give it back. -/
theorem doc_DecodeOf (w0 W : World) (H : Fh) (d : Dm) (v : Value) (R : List Res) (hd : DocFine d) (hl : (docB d).length ≤ 1000000) (r : RdH H 1 v (docB d).length (bys (docB d))) (i : In (Fz H) R) (hH : (fr w0).le H) (hT : Tabs w0) (hw : Has 0 w0 W R) :
    Calls Tryd.prog 25 ⟨[v]⟩ W fun e W' => ∃ p, e = .returned (.tuple ⟨[.pointer (some ⟨p, 0, none⟩), .int .i64 0]⟩) ∧ Has 0 w0 W' (DocAt p d :: R) := by
  refine (doc_Decode w0 W H (docB d) v R hl r i hH hT hw).mono ?_
  rintro e W' (⟨h, _, _⟩ | ⟨d2, p, h, rfl, hw⟩)
  · rw [dec_docB hd] at h; cases h
  · rw [dec_docB hd] at h
    injection h with h
    subst h
    exact ⟨p, rfl, hw⟩

abbrev add5 : OpD := ⟨4, ⟨#[110]⟩, 0, 0, ⟨#[]⟩, 0, 0, ⟨#[]⟩, 5⟩
abbrev d5 : Dm := [(⟨#[110]⟩, .inl 5)]
theorem app5 : applyL [] [add5] = (0, d5) := by kernel_rfl
theorem add5_ok : ∀ o ∈ [add5], OpOk o := by
  intro o ho
  rw [List.mem_singleton] at ho
  subst ho
  exact ⟨⟨by decide, by decide⟩, ⟨by decide, by decide⟩, ⟨by decide, by decide⟩, ⟨by decide, by decide⟩, ⟨by decide, by decide⟩, ⟨by decide, by decide⟩, by decide, by decide, by decide⟩
theorem d5_fine : DocFine d5 := by
  have h := applyL_fine DocFine.nil add5_ok
  rwa [app5] at h
theorem getd5 : getK d5 ⟨#[110]⟩ = some (.inl 5) := by kernel_rfl
theorem len5 : (docB d5).length ≤ 1000000 := dec_fine_len d5_fine (by intro p hp; rw [List.mem_singleton] at hp; subst hp; decide)

set_option maxHeartbeats 16000000 in
theorem law6_begun (w : World) (hT : Tabs w) :
    Calls Tryd.prog 21 ⟨[]⟩ w fun e w' => e = .returned (.bool true) ∧ Below w.heap.size w w' := by
  have hw := Has.startF w
  refine enter Tryd.func21 Tryd.ntmps21 rfl rfl fun a hs => ?_
  repeat (first | (refine sxv hs hw ?_; clear hs; intro a hs) | refine sxc hs ?_ | (refine sxa hs hw ?_; clear hs hw; intro a b W hw hs) | (refine sxs hs hw ?_; clear hs hw; intro W hs hw))
  refine st_call hs (hc := doc_New w _ _ hw) (k := ?_); rintro e0 W1 ⟨p, rfl, hw1⟩; refine ⟨_, rfl, ?_⟩; clear hs hw; intro a hs; have hw := hw1; clear hw1
  repeat (first | (refine sxv hs hw ?_; clear hs; intro a hs) | refine sxc hs ?_ | (refine sxa hs hw ?_; clear hs hw; intro a b W hw hs) | (refine sxs hs hw ?_; clear hs hw; intro W hs hw) | ((with_reducible first | refine st_ptrSome hs (k := ?_) | refine st_ptrNone hs (k := ?_)); clear hs; intro a hs))
  obtain ⟨bo, qo⟩ := nm1 hw; subst qo
  replace hw : Has 0 w _ (Cells bo (opCells add5) 47 :: Fz (fr w) :: DocAt p [] :: []) := hw.perm (by repeat (first | exact List.Perm.refl _ | refine perm_pick (by repeat (first | exact Pick.hd | apply Pick.tl)) ?_))
  obtain ⟨H1, hle1, hw2, hop⟩ := hw.freeze_lit (m := 1) (sz := 9) rfl (by decide)
  clear hw; have hw := hw2; clear hw2
  refine st_call hs (hc := doc_ApplyL w _ H1 p [] [add5] _ _ add5_ok (RdH.le (n := 1) (xs := [add5].flatMap opCells) hop (Fh.le.refl _)) (by repeat (first | exact In.hd | apply In.tl)) hle1 hT (hw.perm (by repeat (first | exact List.Perm.refl _ | refine perm_pick (by repeat (first | exact Pick.hd | apply Pick.tl)) ?_)) : Has 0 w _ (DocAt p [] :: Fz H1 :: []))) (k := ?_); rw [app5]; rintro e0 W1 ⟨rfl, hw1⟩; refine ⟨_, rfl, ?_⟩; clear hs hw; intro a hs; have hw := hw1; clear hw1
  repeat (first | (refine sxv hs hw ?_; clear hs; intro a hs) | refine sxc hs ?_ | (refine sxa hs hw ?_; clear hs hw; intro a b W hw hs) | (refine sxs hs hw ?_; clear hs hw; intro W hs hw) | ((with_reducible first | refine st_ptrSome hs (k := ?_) | refine st_ptrNone hs (k := ?_)); clear hs; intro a hs))
  refine st_call hs (hc := doc_Get w _ p d5 ⟨#[110]⟩ _ hw) (k := ?_); rw [getd5]; rintro e0 W1 ⟨rfl, hw1⟩; refine ⟨_, rfl, ?_⟩; clear hs hw; intro a hs; have hw := hw1; clear hw1
  repeat (first | (refine sxv hs hw ?_; clear hs; intro a hs) | refine sxc hs ?_ | (refine sxa hs hw ?_; clear hs hw; intro a b W hw hs) | (refine sxs hs hw ?_; clear hs hw; intro W hs hw) | ((with_reducible first | refine st_ptrSome hs (k := ?_) | refine st_ptrNone hs (k := ?_)); clear hs; intro a hs))
  obtain ⟨b3, q3⟩ := nm1 hw; subst q3
  replace hw : Has 0 w _ (DocAt p d5 :: Cells b3 (rawCells (some (.inl 5))) 25 :: Fz H1 :: []) := hw.perm (by repeat (first | exact List.Perm.refl _ | refine perm_pick (by repeat (first | exact Pick.hd | apply Pick.tl)) ?_))
  refine st_call hs (hc := doc_Encode w _ p d5 _ d5_fine hw) (k := ?_); rintro e0 W1 ⟨ad, cap, rfl, hw1⟩; refine ⟨_, rfl, ?_⟩; clear hs hw; intro a hs; have hw := hw1; clear hw1
  replace hw : Has 0 w _ (Sx.OwnB 5 (.slice ad (docB d5).length cap) (docB d5) :: Fz H1 :: DocAt p d5 :: Cells b3 (rawCells (some (.inl 5))) 25 :: []) := hw.perm (by repeat (first | exact List.Perm.refl _ | refine perm_pick (by repeat (first | exact Pick.hd | apply Pick.tl)) ?_))
  obtain ⟨H2, hle2, hw2, hbb⟩ := hw.freeze_own
  clear hw; have hw := hw2; clear hw2
  have hle := hle1.trans hle2
  repeat (first | (refine sxv hs hw ?_; clear hs; intro a hs) | refine sxc hs ?_ | (refine sxa hs hw ?_; clear hs hw; intro a b W hw hs) | (refine sxs hs hw ?_; clear hs hw; intro W hs hw) | ((with_reducible first | refine st_ptrSome hs (k := ?_) | refine st_ptrNone hs (k := ?_)); clear hs; intro a hs))
  refine st_call hs (hc := doc_DecodeOf w _ H2 d5 _ _ d5_fine len5 hbb (by repeat (first | exact In.hd | apply In.tl)) hle hT hw) (k := ?_); rintro e0 W1 ⟨c, rfl, hw1⟩; refine ⟨_, rfl, ?_⟩; clear hs hw; intro a hs; have hw := hw1; clear hw1
  repeat (first | (refine sxv hs hw ?_; clear hs; intro a hs) | refine sxc hs ?_ | (refine sxa hs hw ?_; clear hs hw; intro a b W hw hs) | (refine sxs hs hw ?_; clear hs hw; intro W hs hw) | ((with_reducible first | refine st_ptrSome hs (k := ?_) | refine st_ptrNone hs (k := ?_)); clear hs; intro a hs))
  replace hw : Has 0 w _ (DocAt p d5 :: DocAt c d5 :: Fz H2 :: []) := hw.sel (by repeat (first | exact Sel.nil | exact Sel.refl _ | refine Sel.cons (by repeat (first | exact Pick.hd | apply Pick.tl)) ?_ | refine Sel.skip ?_))
  refine st_call hs (hc := doc_Keys w _ p d5 _ d5_fine hw) (k := ?_); rintro e0 W1 ⟨kv, rfl, hw1⟩; refine ⟨_, rfl, ?_⟩; clear hs hw; intro a hs; have hw := hw1; clear hw1
  obtain ⟨kad2, kcap2, rfl⟩ := hw.own_slice
  repeat (first | (refine sxv hs hw ?_; clear hs; intro a hs) | refine sxc hs ?_ | (refine sxa hs hw ?_; clear hs hw; intro a b W hw hs) | (refine sxs hs hw ?_; clear hs hw; intro W hs hw) | ((with_reducible first | refine st_ptrSome hs (k := ?_) | refine st_ptrNone hs (k := ?_)); clear hs; intro a hs))
  replace hw : Has 0 w _ (DocAt c d5 :: DocAt p d5 :: Fz H2 :: []) := hw.sel (by repeat (first | exact Sel.nil | exact Sel.refl _ | refine Sel.cons (by repeat (first | exact Pick.hd | apply Pick.tl)) ?_ | refine Sel.skip ?_))
  refine st_call hs (hc := doc_Eq w _ c p d5 d5 _ d5_fine (by decide) hw) (k := ?_); rw [eqD_self d5_fine.ok.keys]; rintro e0 W1 ⟨rfl, hw1⟩; refine ⟨_, rfl, ?_⟩; clear hs hw; intro a hs; have hw := hw1; clear hw1
  repeat (first | (refine sxv hs hw ?_; clear hs; intro a hs) | refine sxc hs ?_ | (refine sxa hs hw ?_; clear hs hw; intro a b W hw hs) | (refine sxs hs hw ?_; clear hs hw; intro W hs hw) | ((with_reducible first | refine st_ptrSome hs (k := ?_) | refine st_ptrNone hs (k := ?_)); clear hs; intro a hs))
  replace hw : Has 0 w _ (DocAt p d5 :: Fz H2 :: []) := hw.sel (by repeat (first | exact Sel.nil | exact Sel.refl _ | refine Sel.cons (by repeat (first | exact Pick.hd | apply Pick.tl)) ?_ | refine Sel.skip ?_))
  refine st_call hs (hc := doc_Copy w _ p d5 _ hw) (k := ?_); rintro e0 W1 ⟨q, rfl, hw1⟩; refine ⟨_, rfl, ?_⟩; clear hs hw; intro a hs; have hw := hw1; clear hw1
  repeat (first | (refine sxv hs hw ?_; clear hs; intro a hs) | refine sxc hs ?_ | (refine sxa hs hw ?_; clear hs hw; intro a b W hw hs) | (refine sxs hs hw ?_; clear hs hw; intro W hs hw) | ((with_reducible first | refine st_ptrSome hs (k := ?_) | refine st_ptrNone hs (k := ?_)); clear hs; intro a hs))
  refine st_call hs (hc := doc_Eq w _ q p d5 d5 _ d5_fine (by decide) hw) (k := ?_); rw [eqD_self d5_fine.ok.keys]; rintro e0 W1 ⟨rfl, hw1⟩; refine ⟨_, rfl, ?_⟩; clear hs hw; intro a hs; have hw := hw1; clear hw1
  repeat (first | (refine sxv hs hw ?_; clear hs; intro a hs) | refine sxc hs ?_ | (refine sxa hs hw ?_; clear hs hw; intro a b W hw hs) | (refine sxs hs hw ?_; clear hs hw; intro W hs hw) | ((with_reducible first | refine st_ptrSome hs (k := ?_) | refine st_ptrNone hs (k := ?_)); clear hs; intro a hs))
  exact rt1 hs rfl rfl ⟨rfl, hw.endF (by repeat (first | exact In.hd | apply In.tl)) hle⟩

set_option maxHeartbeats 16000000 in
theorem law6_tells (w0 W : World) (H : Fh) (l : List UInt8) (v : Value) (R : List Res) (hl : l.length ≤ 1000000) (r : RdH H 1 v l.length (bys l)) (i : In (Fz H) R) (hH : (fr w0).le H) (hT : Tabs w0) (hw : Has 0 w0 W R) :
    Calls Tryd.prog 28 ⟨[v]⟩ W fun e W' => e = .returned (.bool true) ∧ Has 0 w0 W' R := by
  obtain ⟨sad, scap, rfl⟩ := r.slice
  refine enter Tryd.func28 Tryd.ntmps28 rfl rfl fun a hs => ?_
  repeat (first | (refine sxv hs hw ?_; clear hs; intro a hs) | refine sxc hs ?_ | (refine sxa hs hw ?_; clear hs hw; intro a b W hw hs) | (refine sxs hs hw ?_; clear hs hw; intro W hs hw))
  refine st_call hs (hc := doc_Decode w0 _ H l _ _ hl r i hH hT hw) (k := ?_); rintro e0 W1 (⟨_, rfl, hw1⟩ | ⟨d, p, hdd, rfl, hw1⟩)
  · refine ⟨_, rfl, ?_⟩; clear hs hw; intro a hs; have hw := hw1; clear hw1
    repeat (first | (refine sxv hs hw ?_; clear hs; intro a hs) | refine sxc hs ?_ | (refine sxa hs hw ?_; clear hs hw; intro a b W hw hs) | (refine sxs hs hw ?_; clear hs hw; intro W hs hw) | ((with_reducible first | refine st_ptrSome hs (k := ?_) | refine st_ptrNone hs (k := ?_)); clear hs; intro a hs))
    exact rt1 hs rfl rfl ⟨rfl, hw⟩
  · refine ⟨_, rfl, ?_⟩; clear hs hw; intro a hs; have hw := hw1; clear hw1
    obtain ⟨hdl, hdf⟩ := decDoc_some hl hdd
    repeat (first | (refine sxv hs hw ?_; clear hs; intro a hs) | refine sxc hs ?_ | (refine sxa hs hw ?_; clear hs hw; intro a b W hw hs) | (refine sxs hs hw ?_; clear hs hw; intro W hs hw))
    have hw : Has 0 w0 _ (DocAt p d :: Free :: R) := hw.free.swap2
    refine rg_drawU (σ := Option Addr × Nat) (V := fun u => [.pointer (some ⟨p, 0, none⟩), .slice (u 1).1 l.length (u 1).2, .string ⟨l.toArray⟩, .slice sad l.length scap, .string ⟨l.toArray⟩, .bool true, .bool true])
      (Rs := fun u D => DocAt p d :: (if D 1 then Sx.OwnB 5 (.slice (u 1).1 l.length (u 1).2) l else Free) :: R) (fun _ => (none, 0)) hs hw (hVu := ?vu_c) (ho := ⟨?_, ?c1_c, ?c2_c, ?_, ?c4_c, ?c5_c, ?_, trivial⟩) (k := ?k_c)
    case vu_c =>
      intro u u' j h
      rcases j with _ | _ | _ | _ | _ | _ | _ | j
      all_goals first | rfl | simp [h]
    case c1_c =>
      intro u LD D a W hcl hi hp hs hw
      simp only [hi, Bool.false_eq_true, if_false] at hw
      refine st_call hs (hc := doc_Encode w0 _ p d _ hdf hw) (k := ?_); rw [hdl]; rintro e0 W1 ⟨ad, cap, rfl, hw1⟩; refine ⟨_, rfl, ?_⟩; clear hs hw; intro a hs; have hw := hw1; clear hw1
      repeat (first | (refine sxv hs hw ?_; clear hs; intro a hs) | refine sxc hs ?_ | (refine sxa hs hw ?_; clear hs hw; intro a b W hw hs) | (refine sxs hs hw ?_; clear hs hw; intro W hs hw))
      exact Or.inr ⟨(ad, cap), hs, hw.swap2.fill (Upd.tl Upd.hd) |>.swap2⟩
    case c2_c =>
      intro u LD D a W hcl hi hp hs hw
      have h1 := Go.Sx.done hp 1 (by kernel_rfl)
      have hw0 := hw
      simp only [h1, if_true] at hw
      refine st_string_b hs (r := hw.rd_own (In.tl In.hd)) (k := ?_); clear hs; intro a hs
      repeat (first | (refine sxv hs hw ?_; clear hs; intro a hs) | refine sxc hs ?_ | (refine sxa hs hw ?_; clear hs hw; intro a b W hw hs) | (refine sxs hs hw ?_; clear hs hw; intro W hs hw))
      exact Or.inl ⟨hs, hw0⟩
    case c4_c =>
      intro u LD D a W hcl hi hp hs hw
      refine st_string_b hs (r := hw.rdH (In.tl (In.tl i)) r) (k := ?_); clear hs; intro a hs
      repeat (first | (refine sxv hs hw ?_; clear hs; intro a hs) | refine sxc hs ?_ | (refine sxa hs hw ?_; clear hs hw; intro a b W hw hs) | (refine sxs hs hw ?_; clear hs hw; intro W hs hw))
      exact Or.inl ⟨hs, hw⟩
    case c5_c =>
      intro u LD D a W hcl hi hp hs hw
      repeat (first | (refine sxv hs hw ?_; clear hs; intro a hs) | refine sxc hs ?_ | (refine sxa hs hw ?_; clear hs hw; intro a b W hw hs) | (refine sxs hs hw ?_; clear hs hw; intro W hs hw))
      rw [beq_self_eq_true] at hs
      exact Or.inl ⟨hs, hw⟩
    case k_c =>
      clear hs hw
      intro u a W hs hw
      replace hw : Has 0 w0 W (DocAt p d :: Sx.OwnB 5 (.slice (u 1).1 l.length (u 1).2) l :: R) := hw
      replace hs : Slots a 24 [(2, .bool true)] := hs.of ⟨rfl, trivial⟩
      repeat (first | (refine sxv hs hw ?_; clear hs; intro a hs) | refine sxc hs ?_ | (refine sxa hs hw ?_; clear hs hw; intro a b W hw hs) | (refine sxs hs hw ?_; clear hs hw; intro W hs hw))
      exact rt1 hs rfl rfl ⟨rfl, hw.sub (List.Sublist.cons _ (List.Sublist.cons _ (List.Sublist.refl _)))⟩
    all_goals
      intro u LD D a W hcl hi hp hs hw
      repeat (first | (refine sxv hs hw ?_; clear hs; intro a hs) | refine sxc hs ?_ | (refine sxa hs hw ?_; clear hs hw; intro a b W hw hs) | (refine sxs hs hw ?_; clear hs hw; intro W hs hw))
      exact Or.inl ⟨hs, hw⟩
end Go.Proofs.YthpenehgfogloaaDoor.Sw

/-
  Documents that are none; the walk of DocNone.
-/
set_option linter.unusedVariables false
set_option maxRecDepth 10000
namespace Go.Sx
section
variable {P : Program} {ops : Array Oper} {rest : List Oper} {Q : Exit → Act → World → Prop} {a : Act} {n : Nat} {L : List (Nat × Value)} {W : World} {d : Nat} {T S S' : TypeId} {p : String} {e : Array Edge} {x y : Operand} {ad : Addr} {pa : Option Addr}
/-- Two pointers, of which one is nil. -/
theorem st_peqR (hs : Slots a n L) (hx : ev L x = some (.pointer pa) := by with_unfolding_all exact rfl) (hy : ev L y = some (.pointer none) := by with_unfolding_all exact rfl) (ht : P.underlying S = some (.pointer (P.pointee S)) := by kernel_rfl) (hd : Nat.blt d n = true := by with_unfolding_all exact rfl)
    (k : ∀ a', Slots a' n ((d, .bool pa.isNone) :: L) → wpList P ops Q rest a' W) : wpList P ops Q (⟨some d, .binOp .eql S x y S', T, p, e, none⟩ :: rest) a W := by
  refine st_value hs hd (W' := W) ?_ k
  have h2 := run_eql_pointer_nil (P := P) W S pa ht
  simp only [execOp, hs.ev hx, hs.ev hy, Sem.run_bind]
  simp [eqGuard, h2]
theorem st_peqL (hs : Slots a n L) (hx : ev L x = some (.pointer none) := by with_unfolding_all exact rfl) (hy : ev L y = some (.pointer (some ad)) := by with_unfolding_all exact rfl) (ht : P.underlying S = some (.pointer (P.pointee S)) := by kernel_rfl) (hd : Nat.blt d n = true := by with_unfolding_all exact rfl)
    (k : ∀ a', Slots a' n ((d, .bool false) :: L) → wpList P ops Q rest a' W) : wpList P ops Q (⟨some d, .binOp .eql S x y S', T, p, e, none⟩ :: rest) a W := by
  refine st_value hs hd (W' := W) ?_ k
  have h0 : ∀ d : Nat, (Op.equalIn (d + 1) S (.pointer none) (.pointer (some ad))).run P W = .ok false W := by
    intro d
    simp [Op.equalIn, run_underlying ht]
  have h1 : (Op.equal S (.pointer none) (.pointer (some ad))).run P W = .ok false W := h0 9999
  have h2 : (binOp .eql S (.pointer none) (.pointer (some ad))).run P W = .ok (.bool false) W := by
    simp only [binOp]
    simp [h1]
  simp only [execOp, hs.ev hx, hs.ev hy, Sem.run_bind]
  simp [eqGuard, h2]
end
end Go.Sx
namespace Go.Proofs.YthpenehgfogloaaDoor.Sw
open Go.RowKit Go.Sx

set_option maxHeartbeats 4000000 in
theorem doc_Apply0 (v : Value) (W : World) : Calls Tryd.prog 18 ⟨[.pointer none, v]⟩ W fun e W' => e = .returned (.int .i64 1) ∧ Below W.heap.size W W' := by
  have hw := Has.start (G := 0) (w := W) (Nat.zero_le _)
  refine enter Tryd.func18 Tryd.ntmps18 rfl rfl fun a hs => ?_
  repeat (first | (refine sxv hs hw ?_; clear hs; intro a hs) | refine sxc hs ?_ | (refine sxa hs hw ?_; clear hs hw; intro a b W hw hs) | (refine sxs hs hw ?_; clear hs hw; intro W hs hw) | ((with_reducible first | refine st_ptrSome hs (k := ?_) | refine st_ptrNone hs (k := ?_)); clear hs; intro a hs))
  exact rt1 hs rfl rfl ⟨rfl, hw.end (by repeat (first | exact In.hd | apply In.tl))⟩
set_option maxHeartbeats 4000000 in
theorem doc_Eq00 (W : World) : Calls Tryd.prog 19 ⟨[.pointer none, .pointer none]⟩ W fun e W' => e = .returned (.bool true) ∧ Below W.heap.size W W' := by
  have hw := Has.start (G := 0) (w := W) (Nat.zero_le _)
  refine enter Tryd.func19 Tryd.ntmps19 rfl rfl fun a hs => ?_
  repeat (first | (refine sxv hs hw ?_; clear hs; intro a hs) | refine sxc hs ?_ | (refine sxa hs hw ?_; clear hs hw; intro a b W hw hs) | (refine sxs hs hw ?_; clear hs hw; intro W hs hw) | ((with_reducible first | refine st_ptrSome hs (k := ?_) | refine st_ptrNone hs (k := ?_)); clear hs; intro a hs))
  refine st_peqR hs (k := ?_); clear hs; intro a hs
  repeat (first | (refine sxv hs hw ?_; clear hs; intro a hs) | refine sxc hs ?_ | (refine sxa hs hw ?_; clear hs hw; intro a b W hw hs) | (refine sxs hs hw ?_; clear hs hw; intro W hs hw) | ((with_reducible first | refine st_ptrSome hs (k := ?_) | refine st_ptrNone hs (k := ?_)); clear hs; intro a hs))
  exact rt1 hs rfl rfl ⟨rfl, hw.end (by repeat (first | exact In.hd | apply In.tl))⟩
set_option maxHeartbeats 4000000 in
theorem doc_Eq0p (p : Nat) (W : World) : Calls Tryd.prog 19 ⟨[.pointer none, .pointer (some ⟨p, 0, none⟩)]⟩ W fun e W' => e = .returned (.bool false) ∧ Below W.heap.size W W' := by
  have hw := Has.start (G := 0) (w := W) (Nat.zero_le _)
  refine enter Tryd.func19 Tryd.ntmps19 rfl rfl fun a hs => ?_
  repeat (first | (refine sxv hs hw ?_; clear hs; intro a hs) | refine sxc hs ?_ | (refine sxa hs hw ?_; clear hs hw; intro a b W hw hs) | (refine sxs hs hw ?_; clear hs hw; intro W hs hw) | ((with_reducible first | refine st_ptrSome hs (k := ?_) | refine st_ptrNone hs (k := ?_)); clear hs; intro a hs))
  refine st_peqL hs (k := ?_); clear hs; intro a hs
  repeat (first | (refine sxv hs hw ?_; clear hs; intro a hs) | refine sxc hs ?_ | (refine sxa hs hw ?_; clear hs hw; intro a b W hw hs) | (refine sxs hs hw ?_; clear hs hw; intro W hs hw) | ((with_reducible first | refine st_ptrSome hs (k := ?_) | refine st_ptrNone hs (k := ?_)); clear hs; intro a hs))
  exact rt1 hs rfl rfl ⟨rfl, hw.end (by repeat (first | exact In.hd | apply In.tl))⟩
set_option maxHeartbeats 4000000 in
theorem doc_Eqp0 (p : Nat) (W : World) : Calls Tryd.prog 19 ⟨[.pointer (some ⟨p, 0, none⟩), .pointer none]⟩ W fun e W' => e = .returned (.bool false) ∧ Below W.heap.size W W' := by
  have hw := Has.start (G := 0) (w := W) (Nat.zero_le _)
  refine enter Tryd.func19 Tryd.ntmps19 rfl rfl fun a hs => ?_
  repeat (first | (refine sxv hs hw ?_; clear hs; intro a hs) | refine sxc hs ?_ | (refine sxa hs hw ?_; clear hs hw; intro a b W hw hs) | (refine sxs hs hw ?_; clear hs hw; intro W hs hw) | ((with_reducible first | refine st_ptrSome hs (k := ?_) | refine st_ptrNone hs (k := ?_)); clear hs; intro a hs))
  refine st_peqR hs (k := ?_); clear hs; intro a hs
  repeat (first | (refine sxv hs hw ?_; clear hs; intro a hs) | refine sxc hs ?_ | (refine sxa hs hw ?_; clear hs hw; intro a b W hw hs) | (refine sxs hs hw ?_; clear hs hw; intro W hs hw) | ((with_reducible first | refine st_ptrSome hs (k := ?_) | refine st_ptrNone hs (k := ?_)); clear hs; intro a hs))
  exact rt1 hs rfl rfl ⟨rfl, hw.end (by repeat (first | exact In.hd | apply In.tl))⟩
theorem decDoc_nil : decDoc [] = none := by kernel_rfl
theorem docB_nil : (docB ([] : Dm)).length = 1 := by kernel_rfl

set_option maxHeartbeats 16000000 in
theorem walk_DocNone (w : World) (hT : Tabs w) :
    Calls Tryd.prog 8 ⟨[]⟩ w fun e w' => e = .returned (.bool true) ∧ Below w.heap.size w w' := by
  have hw := Has.startF w
  refine enter Tryd.func8 Tryd.ntmps8 rfl rfl fun a hs => ?_
  repeat (first | (refine sxv hs hw ?_; clear hs; intro a hs) | refine sxc hs ?_ | (refine sxa hs hw ?_; clear hs hw; intro a b W hw hs) | (refine sxs hs hw ?_; clear hs hw; intro W hs hw))
  refine st_call hs (hc := doc_Get0 ⟨#[107]⟩ _) (k := ?_); rintro e0 W1 ⟨rfl, hb⟩; refine ⟨_, rfl, ?_⟩; clear hs; intro a hs; replace hw := hw.below hb; clear hb
  repeat (first | (refine sxv hs hw ?_; clear hs; intro a hs) | refine sxc hs ?_ | (refine sxa hs hw ?_; clear hs hw; intro a b W hw hs) | (refine sxs hs hw ?_; clear hs hw; intro W hs hw))
  obtain ⟨b2, q2⟩ := nm1 hw; subst q2
  refine st_call hs (hc := doc_Decode w _ (fr w) [] _ _ (by decide) (RdH.nil _ _ _ (by omega)) (In.tl In.hd) (Fh.le.refl _) hT hw) (k := ?_); rintro e0 W1 (⟨_, rfl, hw1⟩ | ⟨d, p, hdd, rfl, hw1⟩)
  case inr => rw [decDoc_nil] at hdd; cases hdd
  refine ⟨_, rfl, ?_⟩; clear hs hw; intro a hs; have hw := hw1; clear hw1
  repeat (first | (refine sxv hs hw ?_; clear hs; intro a hs) | refine sxc hs ?_ | (refine sxa hs hw ?_; clear hs hw; intro a b W hw hs) | (refine sxs hs hw ?_; clear hs hw; intro W hs hw))
  refine st_call hs (hc := law6_begun _ (hT.keep (hw.endF (by repeat (first | exact In.hd | apply In.tl)) (Fh.le.refl _)))) (k := ?_); rintro e0 W1 ⟨rfl, hb⟩; refine ⟨_, rfl, ?_⟩; clear hs; intro a hs; replace hw := hw.below hb; clear hb
  repeat (first | (refine sxv hs hw ?_; clear hs; intro a hs) | refine sxc hs ?_ | (refine sxa hs hw ?_; clear hs hw; intro a b W hw hs) | (refine sxs hs hw ?_; clear hs hw; intro W hs hw))
  refine st_call hs (hc := doc_Apply0 _ _) (k := ?_); rintro e0 W1 ⟨rfl, hb⟩; refine ⟨_, rfl, ?_⟩; clear hs; intro a hs; replace hw := hw.below hb; clear hb
  repeat (first | (refine sxv hs hw ?_; clear hs; intro a hs) | refine sxc hs ?_ | (refine sxa hs hw ?_; clear hs hw; intro a b W hw hs) | (refine sxs hs hw ?_; clear hs hw; intro W hs hw))
  refine st_call hs (hc := doc_Keys0 _) (k := ?_); rintro e0 W1 ⟨rfl, hb⟩; refine ⟨_, rfl, ?_⟩; clear hs; intro a hs; replace hw := hw.below hb; clear hb
  repeat (first | (refine sxv hs hw ?_; clear hs; intro a hs) | refine sxc hs ?_ | (refine sxa hs hw ?_; clear hs hw; intro a b W hw hs) | (refine sxs hs hw ?_; clear hs hw; intro W hs hw))
  refine st_call hs (hc := doc_Eq00 _) (k := ?_); rintro e0 W1 ⟨rfl, hb⟩; refine ⟨_, rfl, ?_⟩; clear hs; intro a hs; replace hw := hw.below hb; clear hb
  repeat (first | (refine sxv hs hw ?_; clear hs; intro a hs) | refine sxc hs ?_ | (refine sxa hs hw ?_; clear hs hw; intro a b W hw hs) | (refine sxs hs hw ?_; clear hs hw; intro W hs hw))
  replace hw : Has 0 w _ (Fz (fr w) :: []) := hw.sel (by repeat (first | exact Sel.nil | exact Sel.refl _ | refine Sel.cons (by repeat (first | exact Pick.hd | apply Pick.tl)) ?_ | refine Sel.skip ?_))
  refine st_call hs (hc := doc_New w _ _ hw) (k := ?_); rintro e0 W1 ⟨p, rfl, hw1⟩; refine ⟨_, rfl, ?_⟩; clear hs hw; intro a hs; have hw := hw1; clear hw1
  repeat (first | (refine sxv hs hw ?_; clear hs; intro a hs) | refine sxc hs ?_ | (refine sxa hs hw ?_; clear hs hw; intro a b W hw hs) | (refine sxs hs hw ?_; clear hs hw; intro W hs hw))
  refine st_call hs (hc := doc_Eq0p p _) (k := ?_); rintro e0 W1 ⟨rfl, hb⟩; refine ⟨_, rfl, ?_⟩; clear hs; intro a hs; replace hw := hw.below hb; clear hb
  repeat (first | (refine sxv hs hw ?_; clear hs; intro a hs) | refine sxc hs ?_ | (refine sxa hs hw ?_; clear hs hw; intro a b W hw hs) | (refine sxs hs hw ?_; clear hs hw; intro W hs hw))
  refine st_call hs (hc := doc_New w _ _ hw) (k := ?_); rintro e0 W1 ⟨p2, rfl, hw1⟩; refine ⟨_, rfl, ?_⟩; clear hs hw; intro a hs; have hw := hw1; clear hw1
  repeat (first | (refine sxv hs hw ?_; clear hs; intro a hs) | refine sxc hs ?_ | (refine sxa hs hw ?_; clear hs hw; intro a b W hw hs) | (refine sxs hs hw ?_; clear hs hw; intro W hs hw))
  refine st_call hs (hc := doc_Eqp0 p2 _) (k := ?_); rintro e0 W1 ⟨rfl, hb⟩; refine ⟨_, rfl, ?_⟩; clear hs; intro a hs; replace hw := hw.below hb; clear hb
  repeat (first | (refine sxv hs hw ?_; clear hs; intro a hs) | refine sxc hs ?_ | (refine sxa hs hw ?_; clear hs hw; intro a b W hw hs) | (refine sxs hs hw ?_; clear hs hw; intro W hs hw))
  refine st_call hs (hc := doc_New w _ _ hw) (k := ?_); rintro e0 W1 ⟨p3, rfl, hw1⟩; refine ⟨_, rfl, ?_⟩; clear hs hw; intro a hs; have hw := hw1; clear hw1
  repeat (first | (refine sxv hs hw ?_; clear hs; intro a hs) | refine sxc hs ?_ | (refine sxa hs hw ?_; clear hs hw; intro a b W hw hs) | (refine sxs hs hw ?_; clear hs hw; intro W hs hw))
  refine st_call hs (hc := doc_Encode w _ p3 [] _ DocFine.nil hw) (k := ?_); rw [docB_nil]; rintro e0 W1 ⟨ad, cap, rfl, hw1⟩; refine ⟨_, rfl, ?_⟩; clear hs hw; intro a hs; have hw := hw1; clear hw1
  repeat (first | (refine sxv hs hw ?_; clear hs; intro a hs) | refine sxc hs ?_ | (refine sxa hs hw ?_; clear hs hw; intro a b W hw hs) | (refine sxs hs hw ?_; clear hs hw; intro W hs hw))
  exact rt1 hs rfl rfl ⟨rfl, hw.endF (by repeat (first | exact In.hd | apply In.tl)) (Fh.le.refl _)⟩
end Go.Proofs.YthpenehgfogloaaDoor.Sw

/-
  Slices of operations, slices of such slices among the arguments: opened into what the walks read.
-/
set_option linter.unusedVariables false
set_option maxRecDepth 10000
namespace Go.Proofs.YthpenehgfogloaaDoor
open Go.ChangeShapes Go.WideShapes Go.ChangeAt Go.RowKit Go.Lib Go.Sx Go.Proofs Go.Deep
open Sw Go.Joins

section
variable {H : Type} {enc : TypeId × Value → H} {w : World} {spare : Nat → Bool} {held : Bool}

-- pieces

theorem open_opl {r : Reach} {b0 : Nat} {v : Value} {d : DataW H} {p : List MemPlace} (hv : Value.okWide Tryd.prog w r b0 36 v) (h : DataW.Trod enc Tryd.prog w 0 spare held 36 v d p) : ∃ l : List OpD, (∀ o ∈ l, OpWf o) ∧ Rd w 9 v l.length (l.flatMap opCells) := by
  obtain ⟨b, len, cap, rfl⟩ := okWide_slice Tryd.underlying36 hv
  obtain ⟨fuel, hf⟩ := h
  obtain ⟨sv, l, e, h1, h2⟩ := open_ops hf
  simp [Value.cells] at e
  subst e
  exact ⟨l, h1, h2⟩

theorem open_opl_cells {fuel : Nat} {cs : List Value} {x : DataW H × List MemPlace} (h : DataW.trod enc Tryd.prog w 0 spare held fuel 36 cs = some x) : ∃ l, OplRd w l cs ∧ ∀ o ∈ l, OpWf o := by
  obtain ⟨sv, l, e, h1, h2⟩ := open_ops h
  exact ⟨l, ⟨sv, e, h2⟩, h1⟩

theorem open_opll {r : Reach} {b0 : Nat} {v : Value} {d : DataW H} {p : List MemPlace} (hv : Value.okWide Tryd.prog w r b0 49 v) (h : DataW.Trod enc Tryd.prog w 0 spare held 49 v d p) : ∃ l, (∀ x ∈ l, ∀ o ∈ x, OpWf o) ∧ OpllRd w v l := by
  obtain ⟨b, len, cap, rfl⟩ := okWide_slice Tryd.underlying49 hv
  obtain ⟨fuel, hf⟩ := h
  obtain ⟨sv, l, e, h1, h2⟩ := open_list (Rr := OplRd w) (Wf := fun x : List OpD => ∀ o ∈ x, OpWf o) Tryd.underlying49 (by kernel_rfl : _ = 1) (by decide) open_opl_cells hf
  simp [Value.cells] at e
  subst e
  exact ⟨l, h1, h2⟩

end
end Go.Proofs.YthpenehgfogloaaDoor

/-
  The walk of DocBack.
-/
set_option linter.unusedVariables false
set_option maxRecDepth 10000
namespace Go.Proofs.YthpenehgfogloaaDoor.Sw
open Go.RowKit Go.Sx

abbrev putO (k : ByteArray) (n : Int) : OpD := ⟨1, k, 1, n, ⟨#[]⟩, 0, 0, ⟨#[]⟩, 0⟩
abbrev delO (k : ByteArray) : OpD := ⟨2, k, 0, 0, ⟨#[]⟩, 0, 0, ⟨#[]⟩, 0⟩
theorem putO_ok {k : ByteArray} {n : Int} (h : k.size ≤ 1000000) (hn : i64 n) : OpOk (putO k n) := by
  have z : i64 0 := ⟨by decide, by decide⟩
  have o : i64 1 := ⟨by decide, by decide⟩
  have e : (⟨#[]⟩ : ByteArray).size ≤ 1000000 := by decide
  exact ⟨o, o, hn, z, z, z, h, e, e⟩
theorem delO_ok {k : ByteArray} (h : k.size ≤ 1000000) : OpOk (delO k) := by
  have z : i64 0 := ⟨by decide, by decide⟩
  have o : i64 2 := ⟨by decide, by decide⟩
  have e : (⟨#[]⟩ : ByteArray).size ≤ 1000000 := by decide
  exact ⟨o, z, z, z, z, z, h, e, e⟩
theorem putO_may {k : ByteArray} {n : Int} (h : Ph.keyB k.data.toList = true) : mayD (putO k n) = true := by
  unfold mayD mayOp
  have h1 : rawEq 1 n ⟨#[]⟩ 0 0 ⟨#[]⟩ = false := by
    cases hh : rawEq 1 n ⟨#[]⟩ 0 0 ⟨#[]⟩ with
    | false => rfl
    | true => have := (rawEq_iff.1 hh).1; omega
  have h2 : rawEq 0 0 ⟨#[]⟩ 0 0 ⟨#[]⟩ = true := rawEq_iff.2 ⟨rfl, rfl, rfl⟩
  simp [h, ofRaw_int, ofRaw_zero, h1, h2]
theorem delO_may {k : ByteArray} (h : Ph.keyB k.data.toList = true) : mayD (delO k) = true := by
  unfold mayD mayOp
  have h2 : rawEq 0 0 ⟨#[]⟩ 0 0 ⟨#[]⟩ = true := rawEq_iff.2 ⟨rfl, rfl, rfl⟩
  simp [h, ofRaw_zero, h2]
theorem delD_out {d : Dm} {k : ByteArray} (h : getK d k = none) : delD d k = d := by
  have hn := getK_none.1 h
  unfold delD
  rw [List.filter_eq_self]
  intro q hq
  have : ks k q.1 = false := by
    cases hks : ks k q.1 with
    | false => rfl
    | true => exact absurd (List.mem_map.2 ⟨q, hq, (ks_iff.1 hks).symm⟩) hn
  simp [this]
theorem delD_setL : ∀ {d : Dm} {k : ByteArray} (v : DV), getK d k = none → delD (setL d k v) k = d
  | [], k, v, _ => by simp [setL, delD_cons, ks_self]; rfl
  | p :: d, k, v, h => by
    have hn := getK_none.1 h
    have hp : ks k p.1 = false := by
      cases hks : ks k p.1 with
      | false => rfl
      | true => exact absurd (by rw [ks_iff.1 hks]; simp) hn
    have hd : getK d k = none := getK_none.2 fun hh => hn (by simp only [List.map_cons, List.mem_cons]; exact .inr hh)
    simp only [setL]
    cases lessK p.1 k with
    | false =>
      simp only
      rw [delD_cons, ks_self]
      simp only
      rw [delD_out h, delD_out h]
    | true =>
      simp only [hp]
      rw [delD_cons, hp]
      simp only
      rw [delD_setL v hd]
theorem setL_len {d : Dm} {k : ByteArray} (v : DV) (h : getK d k = none) : (setL d k v).length = d.length + 1 := by
  rw [(setL_perm d k v).length_eq]
  show (delD d k).length + 1 = _
  rw [delD_out h]
theorem doL_put (d : Dm) (k : ByteArray) (n : Int) : doL d (putO k n) = setRL d k (some (.inl n)) := rfl
theorem doL_del (d : Dm) (k : ByteArray) : doL d (delO k) = (0, delD d k) := rfl
theorem setRL_new {d : Dm} {k : ByteArray} (v : DV) (hl : d.length < 50) : setRL d k (some v) = (0, setL d k v) := by
  unfold setRL
  simp only
  rw [if_neg (fun h => by omega)]
theorem app_put {d : Dm} {k : ByteArray} (n : Int) (hk : Ph.keyB k.data.toList = true) (hl : d.length < 50) : applyL d [putO k n] = (0, setL d k (.inl n)) := by
  unfold applyL goL
  rw [putO_may hk, doL_put, setRL_new _ hl]
  simp [goL]
theorem app_del {d : Dm} {k : ByteArray} (hk : Ph.keyB k.data.toList = true) : applyL d [delO k] = (0, delD d k) := by
  unfold applyL goL
  rw [delO_may hk, doL_del]
  simp [goL]
theorem app_pd {d : Dm} {k : ByteArray} (n : Int) (hk : Ph.keyB k.data.toList = true) (hl : d.length < 50) : applyL d [putO k n, delO k] = (0, delD (setL d k (.inl n)) k) := by
  unfold applyL goL
  rw [putO_may hk, doL_put, setRL_new _ hl]
  simp only [goL, delO_may hk, doL_del]
  simp
theorem doL_len (d : Dm) (o : OpD) : (doL d o).2.length ≤ d.length + 1 := by
  have h : ∀ (k : ByteArray) (x : Option DV), (setRL d k x).2.length ≤ d.length + 1 := by
    intro k x
    unfold setRL
    split
    · have := delD_len d k
      show (delD d k).length ≤ _
      omega
    · split
      · show d.length ≤ _; omega
      · rename_i v _
        show (setL d k v).length ≤ _
        rw [(setL_perm d k v).length_eq]
        show (delD d k).length + 1 ≤ _
        have := delD_len d k
        omega
  unfold doL
  split
  · split
    · exact h _ _
    · show d.length ≤ _; omega
  · split
    · split
      · show d.length ≤ _; omega
      · split
        · show d.length ≤ _; omega
        · exact h _ _
    · exact h _ _
theorem goL_len : ∀ (l : List OpD) (d : Dm), (goL l d).2.length ≤ d.length + l.length
  | [], d => Nat.le_refl _
  | o :: l, d => by
    unfold goL
    have h1 := doL_len d o
    split
    · show d.length ≤ _; omega
    · split
      · have := goL_len l (doL d o).2
        simp only [List.length_cons]
        omega
      · show d.length ≤ _; omega
theorem applyL_len (d : Dm) (l : List OpD) : (applyL d l).2.length ≤ d.length + 8 := by
  unfold applyL
  split
  · show d.length ≤ _; omega
  · split
    · have := goL_len l d
      show (goL l d).2.length ≤ _
      omega
    · show d.length ≤ _; omega
theorem eqD_more {d d2 : Dm} (h : d.length ≠ d2.length) : eqD d d2 = false := by
  unfold eqD
  rw [Bool.and_eq_false_iff]
  right
  simpa using h

set_option maxHeartbeats 32000000 in
theorem walk_DocBack (l : List OpD) (v : Value) (key : ByteArray) (w : World) (ho : ∀ o ∈ l, OpWf o) (hr : Rd w 9 v l.length (l.flatMap opCells)) (hks : key.size ≤ 9223372036854775807) (hT : Tabs w) :
    Calls Tryd.prog 9 ⟨[v, .string key]⟩ w fun e w' => e = .returned (.bool true) ∧ Below w.heap.size w w' := by
  have hw := Has.startF w
  have hso : OpsH (fr w) v l := RdH.of_rd hr (Fh.le.refl _) (by decide)
  obtain ⟨sad, scap, rfl⟩ := hso.slice
  refine enter Tryd.func9 Tryd.ntmps9 rfl rfl fun a hs => ?_
  repeat (first | (refine sxv hs hw ?_; clear hs; intro a hs) | refine sxc hs ?_ | (refine sxa hs hw ?_; clear hs hw; intro a b W hw hs) | (refine sxs hs hw ?_; clear hs hw; intro W hs hw))
  refine st_call hs (hc := law6_begun _ hT) (k := ?_); rintro e0 W1 ⟨rfl, hb⟩; refine ⟨_, rfl, ?_⟩; clear hs; intro a hs; replace hw := hw.below hb; clear hb
  repeat (first | (refine sxv hs hw ?_; clear hs; intro a hs) | refine sxc hs ?_ | (refine sxa hs hw ?_; clear hs hw; intro a b W hw hs) | (refine sxs hs hw ?_; clear hs hw; intro W hs hw))
  refine st_call hs (hc := law5_Cut l _ _ (wf_sizes ho) (hw.rdH In.hd hso)) (k := ?_); rintro e0 W1 ⟨nad, ncap, rfl, hw1⟩; refine ⟨_, rfl, ?_⟩; clear hs; intro a hs; replace hw := hw.call hw1; clear hw1
  have hmo := cutD_ok ho
  generalize cutD l = m at *
  obtain ⟨H1, hle1, hw2, hops⟩ := hw.freeze_own
  clear hw; have hw := hw2; clear hw2
  repeat (first | (refine sxv hs hw ?_; clear hs; intro a hs) | refine sxn hs ?_ | (refine sxa hs hw ?_; clear hs hw; intro a b W hw hs) | (refine sxs hs hw ?_; clear hs hw; intro W hs hw))
  refine sq ?_
  refine merge (M := fun a W => ∃ k : ByteArray, k.size ≤ 40 ∧ Slots a 79 [(0, .slice nad m.length ncap), (1, .string k)] ∧ Has 0 w W (Fz H1 :: [])) ?_ ?_
  · repeat (first | (refine sxv hs hw ?_; clear hs; intro a hs) | refine sxc hs ?_ | (refine sxa hs hw ?_; clear hs hw; intro a b W hw hs) | (refine sxs hs hw ?_; clear hs hw; intro W hs hw))
    cases c1 : decide ((key.size : Int) > 40) with
    | true =>
      rw [c1] at hs
      have g1 := of_decide_eq_true c1
      repeat (first | (refine sxv hs hw ?_; clear hs; intro a hs) | refine sxc hs ?_ | (refine sxa hs hw ?_; clear hs hw; intro a b W hw hs) | (refine sxs hs hw ?_; clear hs hw; intro W hs hw))
      refine st_slice_str_hi hs (h0 := by omega) (h1 := by omega) (c := ?_); clear hs; intro a hs
      repeat (first | (refine sxv hs hw ?_; clear hs; intro a hs) | refine sxc hs ?_ | (refine sxa hs hw ?_; clear hs hw; intro a b W hw hs) | (refine sxs hs hw ?_; clear hs hw; intro W hs hw))
      exact ⟨key.extract 0 40, by rw [ByteArray.size_extract]; omega, hs.of ⟨rfl, rfl, trivial⟩, hw⟩
    | false =>
      rw [c1] at hs
      have g1 := of_decide_eq_false c1
      repeat (first | (refine sxv hs hw ?_; clear hs; intro a hs) | refine sxc hs ?_ | (refine sxa hs hw ?_; clear hs hw; intro a b W hw hs) | (refine sxs hs hw ?_; clear hs hw; intro W hs hw))
      exact ⟨key, by omega, hs.of ⟨rfl, rfl, trivial⟩, hw⟩
  clear hs hw
  rintro a W ⟨k, hk40, hs, hw⟩
  repeat (first | (refine sxv hs hw ?_; clear hs; intro a hs) | refine sxc hs ?_ | (refine sxa hs hw ?_; clear hs hw; intro a b W hw hs) | (refine sxs hs hw ?_; clear hs hw; intro W hs hw))
  refine st_call hs (hc := ref_Key k _ (by omega)) (k := ?_); rintro e0 W1 ⟨rfl, hb⟩; refine ⟨_, rfl, ?_⟩; clear hs; intro a hs; replace hw := hw.below hb; clear hb
  cases hkb : Ph.keyB k.data.toList with
  | false =>
    rw [hkb] at hs
    repeat (first | (refine sxv hs hw ?_; clear hs; intro a hs) | refine sxc hs ?_ | (refine sxa hs hw ?_; clear hs hw; intro a b W hw hs) | (refine sxs hs hw ?_; clear hs hw; intro W hs hw))
    exact rt1 hs rfl rfl ⟨rfl, hw.endF (by repeat (first | exact In.hd | apply In.tl)) hle1⟩
  | true =>
  rw [hkb] at hs
  repeat (first | (refine sxv hs hw ?_; clear hs; intro a hs) | refine sxc hs ?_ | (refine sxa hs hw ?_; clear hs hw; intro a b W hw hs) | (refine sxs hs hw ?_; clear hs hw; intro W hs hw))
  refine st_call hs (hc := doc_New w _ _ hw) (k := ?_); rintro e0 W1 ⟨p, rfl, hw1⟩; refine ⟨_, rfl, ?_⟩; clear hs hw; intro a hs; have hw := hw1; clear hw1
  repeat (first | (refine sxv hs hw ?_; clear hs; intro a hs) | refine sxc hs ?_ | (refine sxa hs hw ?_; clear hs hw; intro a b W hw hs) | (refine sxs hs hw ?_; clear hs hw; intro W hs hw))
  refine st_call hs (hc := doc_ApplyL w _ H1 p [] m _ _ hmo hops (by repeat (first | exact In.hd | apply In.tl)) hle1 hT hw) (k := ?_); rintro e0 W1 ⟨rfl, hw1⟩; refine ⟨_, rfl, ?_⟩; clear hs hw; intro a hs; have hw := hw1; clear hw1
  have hdf := applyL_fine DocFine.nil hmo
  have hdl := applyL_len [] m
  generalize (applyL [] m).1 = er at *
  generalize (applyL [] m).2 = d at *
  simp only [List.length_nil, Nat.zero_add] at hdl
  repeat (first | (refine sxv hs hw ?_; clear hs; intro a hs) | refine sxc hs ?_ | (refine sxa hs hw ?_; clear hs hw; intro a b W hw hs) | (refine sxs hs hw ?_; clear hs hw; intro W hs hw))
  refine st_call hs (hc := doc_Get w _ p d k _ hw) (k := ?_); rintro e0 W1 ⟨rfl, hw1⟩; refine ⟨_, rfl, ?_⟩; clear hs hw; intro a hs; have hw := hw1; clear hw1
  cases hg : (getK d k).isSome with
  | true =>
    rw [hg] at hs
    repeat (first | (refine sxv hs hw ?_; clear hs; intro a hs) | refine sxc hs ?_ | (refine sxa hs hw ?_; clear hs hw; intro a b W hw hs) | (refine sxs hs hw ?_; clear hs hw; intro W hs hw))
    exact rt1 hs rfl rfl ⟨rfl, hw.endF (by repeat (first | exact In.hd | apply In.tl)) hle1⟩
  | false =>
  rw [hg] at hs
  have hgn : getK d k = none := by simpa using hg
  rw [hgn] at hs
  have hds := delD_setL (.inl 3) hgn
  have hsl := setL_len (.inl 3) hgn
  have hap := app_put (d := d) 3 hkb (by omega)
  have had := app_del (d := setL d k (.inl 3)) hkb
  have hapd := app_pd (d := d) 3 hkb (by omega)
  rw [hds] at had hapd
  have hpo : OpOk (putO k 3) := putO_ok (by omega) ⟨by decide, by decide⟩
  have hdo : OpOk (delO k) := delO_ok (by omega)
  have hap1 : (applyL d [putO k 3]).1 = 0 := by rw [hap]
  have hap2 : (applyL d [putO k 3]).2 = setL d k (.inl 3) := by rw [hap]
  have had1 : (applyL (setL d k (.inl 3)) [delO k]).1 = 0 := by rw [had]
  have had2 : (applyL (setL d k (.inl 3)) [delO k]).2 = d := by rw [had]
  have hapd1 : (applyL d [putO k 3, delO k]).1 = 0 := by rw [hapd]
  have hapd2 : (applyL d [putO k 3, delO k]).2 = d := by rw [hapd]
  have hsf := applyL_fine hdf (l := [putO k 3]) (by intro o ho; rw [List.mem_singleton.1 ho]; exact hpo)
  rw [hap2] at hsf
  have hself := eqD_self hdf.ok.keys
  have hdif := eqD_more (d := setL d k (.inl 3)) (d2 := d) (by omega)
  repeat (first | (refine sxv hs hw ?_; clear hs; intro a hs) | refine sxc hs ?_ | (refine sxa hs hw ?_; clear hs hw; intro a b W hw hs) | (refine sxs hs hw ?_; clear hs hw; intro W hs hw))
  replace hw : Has 0 w _ (DocAt p d :: Fz H1 :: []) := hw.sel (by repeat (first | exact Sel.nil | exact Sel.refl _ | refine Sel.cons (by repeat (first | exact Pick.hd | apply Pick.tl)) ?_ | refine Sel.skip ?_))
  refine st_call hs (hc := doc_Copy w _ p d _ hw) (k := ?_); rintro e0 W1 ⟨q, rfl, hw1⟩; refine ⟨_, rfl, ?_⟩; clear hs hw; intro a hs; have hw := hw1; clear hw1
  repeat (first | (refine sxv hs hw ?_; clear hs; intro a hs) | refine sxc hs ?_ | (refine sxa hs hw ?_; clear hs hw; intro a b W hw hs) | (refine sxs hs hw ?_; clear hs hw; intro W hs hw))
  obtain ⟨bs, qs⟩ := nm1 hw; subst qs
  obtain ⟨b11, q11⟩ := nm2 hw; subst q11
  obtain ⟨b10, q10⟩ := nm3 hw; subst q10
  replace hw : Has 0 w _ (Cells bs ([putO k 3, delO k].flatMap opCells) 47 :: Fz H1 :: Cells b11 (opCells (delO k)) 47 :: Cells b10 (opCells (putO k 3)) 47 :: DocAt q d :: DocAt p d :: []) := hw.perm (by repeat (first | exact List.Perm.refl _ | refine perm_pick (by repeat (first | exact Pick.hd | apply Pick.tl)) ?_))
  obtain ⟨H2, hle2, hw2, hop⟩ := hw.freeze_lit (m := 2) (sz := 9) rfl (by decide)
  clear hw; have hw := hw2; clear hw2
  replace hw : Has 0 w _ (DocAt p d :: Fz H2 :: Cells b11 (opCells (delO k)) 47 :: Cells b10 (opCells (putO k 3)) 47 :: DocAt q d :: []) := hw.perm (by repeat (first | exact List.Perm.refl _ | refine perm_pick (by repeat (first | exact Pick.hd | apply Pick.tl)) ?_))
  refine st_call hs (hc := doc_ApplyL w _ H2 p d [putO k 3, delO k] _ _ (by intro o ho; rcases List.mem_cons.1 ho with rfl | ho; exact hpo; rw [List.mem_singleton.1 ho]; exact hdo) hop (by repeat (first | exact In.hd | apply In.tl)) (hle1.trans hle2) hT hw) (k := ?_); rw [hapd1, hapd2]; rintro e0 W1 ⟨rfl, hw1⟩; refine ⟨_, rfl, ?_⟩; clear hs hw; intro a hs; have hw := hw1; clear hw1
  repeat (first | (refine sxv hs hw ?_; clear hs; intro a hs) | refine sxc hs ?_ | (refine sxa hs hw ?_; clear hs hw; intro a b W hw hs) | (refine sxs hs hw ?_; clear hs hw; intro W hs hw))
  replace hw : Has 0 w _ (DocAt p d :: DocAt q d :: Fz H2 :: Cells b11 (opCells (delO k)) 47 :: Cells b10 (opCells (putO k 3)) 47 :: []) := hw.perm (by repeat (first | exact List.Perm.refl _ | refine perm_pick (by repeat (first | exact Pick.hd | apply Pick.tl)) ?_))
  refine st_call hs (hc := doc_Eq w _ p q d d _ hdf (by omega) hw) (k := ?_); rw [hself]; rintro e0 W1 ⟨rfl, hw1⟩; refine ⟨_, rfl, ?_⟩; clear hs hw; intro a hs; have hw := hw1; clear hw1
  repeat (first | (refine sxv hs hw ?_; clear hs; intro a hs) | refine sxc hs ?_ | (refine sxa hs hw ?_; clear hs hw; intro a b W hw hs) | (refine sxs hs hw ?_; clear hs hw; intro W hs hw))
  obtain ⟨bt, qt⟩ := nm1 hw; subst qt
  replace hw : Has 0 w _ (Cells bt ([putO k 3].flatMap opCells) 47 :: Fz H2 :: DocAt p d :: DocAt q d :: Cells b11 (opCells (delO k)) 47 :: []) := hw.sel (by repeat (first | exact Sel.nil | exact Sel.refl _ | refine Sel.cons (by repeat (first | exact Pick.hd | apply Pick.tl)) ?_ | refine Sel.skip ?_))
  obtain ⟨H3, hle3, hw2, hop3⟩ := hw.freeze_lit (m := 1) (sz := 9) rfl (by decide)
  clear hw; have hw := hw2; clear hw2
  have hle := (hle1.trans hle2).trans hle3
  replace hw : Has 0 w _ (DocAt p d :: Fz H3 :: DocAt q d :: Cells b11 (opCells (delO k)) 47 :: []) := hw.perm (by repeat (first | exact List.Perm.refl _ | refine perm_pick (by repeat (first | exact Pick.hd | apply Pick.tl)) ?_))
  refine st_call hs (hc := doc_ApplyL w _ H3 p d [putO k 3] _ _ (by intro o ho; rw [List.mem_singleton.1 ho]; exact hpo) hop3 (by repeat (first | exact In.hd | apply In.tl)) hle hT hw) (k := ?_); rw [hap1, hap2]; rintro e0 W1 ⟨rfl, hw1⟩; refine ⟨_, rfl, ?_⟩; clear hs hw; intro a hs; have hw := hw1; clear hw1
  generalize setL d k (.inl 3) = d3 at *
  repeat (first | (refine sxv hs hw ?_; clear hs; intro a hs) | refine sxc hs ?_ | (refine sxa hs hw ?_; clear hs hw; intro a b W hw hs) | (refine sxs hs hw ?_; clear hs hw; intro W hs hw))
  replace hw : Has 0 w _ (DocAt p d3 :: DocAt q d :: Fz H3 :: Cells b11 (opCells (delO k)) 47 :: []) := hw.perm (by repeat (first | exact List.Perm.refl _ | refine perm_pick (by repeat (first | exact Pick.hd | apply Pick.tl)) ?_))
  refine st_call hs (hc := doc_Eq w _ p q d3 d _ hsf (by omega) hw) (k := ?_); rw [hdif]; rintro e0 W1 ⟨rfl, hw1⟩; refine ⟨_, rfl, ?_⟩; clear hs hw; intro a hs; have hw := hw1; clear hw1
  repeat (first | (refine sxv hs hw ?_; clear hs; intro a hs) | refine sxc hs ?_ | (refine sxa hs hw ?_; clear hs hw; intro a b W hw hs) | (refine sxs hs hw ?_; clear hs hw; intro W hs hw))
  obtain ⟨bu, qu⟩ := nm1 hw; subst qu
  replace hw : Has 0 w _ (Cells bu ([delO k].flatMap opCells) 47 :: Fz H3 :: DocAt p d3 :: DocAt q d :: []) := hw.sel (by repeat (first | exact Sel.nil | exact Sel.refl _ | refine Sel.cons (by repeat (first | exact Pick.hd | apply Pick.tl)) ?_ | refine Sel.skip ?_))
  obtain ⟨H4, hle4, hw2, hop4⟩ := hw.freeze_lit (m := 1) (sz := 9) rfl (by decide)
  clear hw; have hw := hw2; clear hw2
  replace hw : Has 0 w _ (DocAt p d3 :: Fz H4 :: DocAt q d :: []) := hw.perm (by repeat (first | exact List.Perm.refl _ | refine perm_pick (by repeat (first | exact Pick.hd | apply Pick.tl)) ?_))
  refine st_call hs (hc := doc_ApplyL w _ H4 p d3 [delO k] _ _ (by intro o ho; rw [List.mem_singleton.1 ho]; exact hdo) hop4 (by repeat (first | exact In.hd | apply In.tl)) (hle.trans hle4) hT hw) (k := ?_); rw [had1, had2]; rintro e0 W1 ⟨rfl, hw1⟩; refine ⟨_, rfl, ?_⟩; clear hs hw; intro a hs; have hw := hw1; clear hw1
  repeat (first | (refine sxv hs hw ?_; clear hs; intro a hs) | refine sxc hs ?_ | (refine sxa hs hw ?_; clear hs hw; intro a b W hw hs) | (refine sxs hs hw ?_; clear hs hw; intro W hs hw))
  replace hw : Has 0 w _ (DocAt p d :: DocAt q d :: Fz H4 :: []) := hw.perm (by repeat (first | exact List.Perm.refl _ | refine perm_pick (by repeat (first | exact Pick.hd | apply Pick.tl)) ?_))
  refine st_call hs (hc := doc_Eq w _ p q d d _ hdf (by omega) hw) (k := ?_); rw [hself]; rintro e0 W1 ⟨rfl, hw1⟩; refine ⟨_, rfl, ?_⟩; clear hs hw; intro a hs; have hw := hw1; clear hw1
  repeat (first | (refine sxv hs hw ?_; clear hs; intro a hs) | refine sxc hs ?_ | (refine sxa hs hw ?_; clear hs hw; intro a b W hw hs) | (refine sxs hs hw ?_; clear hs hw; intro W hs hw))
  exact rt1 hs rfl rfl ⟨rfl, hw.endF (by repeat (first | exact In.hd | apply In.tl)) (hle.trans hle4)⟩
end Go.Proofs.YthpenehgfogloaaDoor.Sw

/-
  What is mine, lent: all pieces but the first are held still during a call, and are mine again behind it.
-/
set_option linter.unusedVariables false
namespace Go.Sx
open Go.RowKit

theorem Has.lend {w W : World} {r : Res} {L : List Res} (h : Has 0 w W (r :: L)) : ∃ H : Fh, (∀ {H0}, In (Fz H0) L → H0.le H) ∧ (∀ {E size v n xs}, In (Own E size v n xs) L → RdH H size v n xs) ∧ Has 0 w W (r :: Fz H :: []) ∧ ∀ {W1 r'}, Has 0 w W1 (r' :: Fz H :: []) → Has 0 w W1 (r' :: L) := by
  classical
  obtain ⟨F1, h1, h2, h3⟩ := h.has
  have hH : ∀ b o, (0 ≤ b ∧ b < W.heap.size) ∧ ¬ F1 b → W.heap[b]? = some o → (if (0 ≤ b ∧ b < W.heap.size) ∧ ¬ F1 b then W.heap[b]? else none) = some o := fun b o hb ho => by rw [if_pos hb]; exact ho
  refine ⟨fun b => if (0 ≤ b ∧ b < W.heap.size) ∧ ¬ F1 b then W.heap[b]? else none, fun {H0} i b o hb => ?_, fun {E size v n xs} i => ?_, ⟨h.ext, h.glob, F1, h1, h2, fun b => (0 ≤ b ∧ b < W.heap.size) ∧ ¬ F1 b, fun _ hb => hb, fun b o hb => ?_, trivial⟩, fun {W1 r'} k => ?_⟩
  · obtain ⟨F2, a1, a2, _⟩ := h3.upd i
    exact hH b o (a1 b (a2 b o hb).1) (a2 b o hb).2
  · obtain ⟨F2, a1, ⟨hl, hx⟩, _⟩ := h3.upd i
    rcases hx with ⟨rfl, rfl⟩ | ⟨g, cap, cur, rfl, hF, hg, hnc, hcm, hcs, ht⟩
    · exact ⟨hl, none, 0, rfl, by omega, by omega, .inl rfl⟩
    · refine ⟨hl, some ⟨g, 0, none⟩, cap, rfl, hnc, by unfold maxLen at hcm; omega, .inr ⟨g, 0, ⟨cur⟩, E, (0, 0), rfl, hH g _ (a1 g hF) hg, fun j x hx => ?_⟩⟩
      rw [← ht, List.getElem?_take] at hx
      split at hx
      · simpa using hx
      · cases hx
  · simp only at hb
    split at hb
    · rename_i hc
      exact ⟨hc, hb⟩
    · cases hb
  · obtain ⟨G1, k1, k2, G2, k3, k4, _⟩ := k.has
    have hk : ∀ b, (0 ≤ b ∧ b < W.heap.size) ∧ ¬ F1 b → G2 b ∧ W1.heap[b]? = W.heap[b]? := fun b hb => by
      have ho : W.heap[b]? = some W.heap[b] := Array.getElem?_eq_getElem hb.1.2
      obtain ⟨a1, a2⟩ := k4 b _ (hH b _ hb ho)
      exact ⟨a1, a2.trans ho.symm⟩
    exact ⟨k.ext, k.glob, G1, k1, k2, (h3.loc fun b hb => (hk b hb).2).mono fun b hb => k3 b (hk b hb).1⟩

section
variable {P : Program}
/-- What a list of operations does, said once; then on. -/
def Calm (M : Act → World → Prop) : Exit → Act → World → Prop := fun ex a W => match ex with | .normal => M a W | _ => False
theorem Oper.wp_calmM {o : Oper} {a : Act} {W : World} {N M : Act → World → Prop} {Q : Exit → Act → World → Prop} (h : o.wp P a W N (Calm M)) : o.wp P a W N Q := by
  unfold Oper.wp at *
  generalize (execOp a.eval o).run P W = r at *
  cases r with
  | ok x w' =>
    cases x <;> simp only [Oper.upon] at h ⊢ <;> first
      | exact h
      | exact Calls.mono h (fun e w'' he => by
          cases e with
          | returned v => exact he
          | panicked c => exact he.elim
          | outgrown => obtain ⟨_, _, he⟩ := he; exact he.elim)
  | halt x w' => cases x <;> simp only [Oper.upon] at h ⊢ <;> exact h.elim
theorem mergeL {ops : Array Oper} {Q : Exit → Act → World → Prop} {M : Act → World → Prop} (hm : ∀ a W, M a W → Q .normal a W) : ∀ {l : List Oper} {a : Act} {W : World}, wpList P ops (Calm M) l a W → wpList P ops Q l a W
  | [], a, W, h => hm a W h
  | o :: rest, a, W, h => by
    unfold wpList at h ⊢
    split
    · rename_i hw
      rw [if_pos hw] at h
      rcases h with h | ⟨_, h⟩
      · exact .inl (Oper.wp_calmM (Oper.wp_mono (fun a w h => mergeL hm h) h))
      · obtain ⟨_, _, h⟩ := h
        exact h.elim
    · rename_i hw
      rw [if_neg hw] at h
      exact mergeL hm h
end
end Go.Sx
