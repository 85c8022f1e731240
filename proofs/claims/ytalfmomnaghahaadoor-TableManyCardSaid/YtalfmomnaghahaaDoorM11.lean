/-
  Texts of the proof, one behind the other (part 11).
-/
import Derived.Test.YtalfmomnaghahaaDoorM10
import Derived.Deep.Slices
/-
  An operation, and a batch, among the arguments: opened into what the walks read.
-/
set_option linter.unusedVariables false
set_option maxRecDepth 10000
namespace Go.Proofs.YtalfmomnaghahaaDoor
open Go.ChangeShapes Go.WideShapes Go.ChangeAt Go.RowKit Go.Lib Go.Sx Go.Proofs Go.Deep
open Sw Go.Joins

theorem list9 {α : Type} {l : List α} (h : l.length = 9) : ∃ c0 c1 c2 c3 c4 c5 c6 c7 c8, l = [c0, c1, c2, c3, c4, c5, c6, c7, c8] := by
  match l, h with
  | [c0, c1, c2, c3, c4, c5, c6, c7, c8], _ => exact ⟨c0, c1, c2, c3, c4, c5, c6, c7, c8, rfl⟩

section
variable {H : Type} {enc : TypeId × Value → H} {w : World} {base : Nat} {spare : Nat → Bool} {held : Bool}
theorem open_raw_cells {fuel : Nat} {v0 v1 v2 : Value} {x : DataW H × List MemPlace} (h : DataW.trod enc Tryd.prog w base spare held fuel 39 [v0, v1, v2] = some x) :
    ∃ (k n : Int) (s : ByteArray), v0 = .int .i64 k ∧ v1 = .int .i64 n ∧ v2 = .string s ∧ (Lit.int .i64 k).wf = true ∧ (Lit.int .i64 n).wf = true ∧ s.size ≤ maxLen := by
  obtain ⟨xs, n, _, rfl, hl, hlen, hf⟩ := DataW.trod_struct Tryd.underlying39 h
  have c1 : Tryd.prog.cellsOf 3 = 1 := by kernel_rfl
  have c2 : Tryd.prog.cellsOf 2 = 1 := by kernel_rfl
  have c3 : Tryd.prog.cellsOf 9 = 1 := by kernel_rfl
  match xs, hlen with
  | [y0, y1, y2], _ =>
    have h0 := hf 0 _ rfl
    have h1 := hf 1 _ rfl
    have h2 := hf 2 _ rfl
    change DataW.trod enc _ w base spare held n 3 (([v0, v1, v2].drop 0).take (Tryd.prog.cellsOf 3)) = some y0 at h0
    change DataW.trod enc _ w base spare held n 2 (([v0, v1, v2].drop 1).take (Tryd.prog.cellsOf 2)) = some y1 at h1
    change DataW.trod enc _ w base spare held n 9 (([v0, v1, v2].drop 2).take (Tryd.prog.cellsOf 9)) = some y2 at h2
    rw [c1] at h0
    rw [c2] at h1
    rw [c3] at h2
    obtain ⟨k, e0, _, w0⟩ := DataW.trod_int Tryd.underlying3 h0
    obtain ⟨m, e1, _, w1⟩ := DataW.trod_int Tryd.underlying2 h1
    obtain ⟨s, e2, _, w2⟩ := DataW.trod_string Tryd.underlying9 h2
    simp at e0 e1 e2
    exact ⟨k, m, s, e0, e1, e2, w0, w1, w2⟩

theorem open_op_cells {fuel : Nat} {cs : List Value} {x : DataW H × List MemPlace} (h : DataW.trod enc Tryd.prog w base spare held fuel 41 cs = some x) :
    ∃ o : OpD, cs = opCells o ∧ OpWf o := by
  obtain ⟨xs, n, _, rfl, hl, hlen, hf⟩ := DataW.trod_struct Tryd.underlying41 h
  have c0 : Tryd.prog.cellsOf 41 = 9 := by kernel_rfl
  have c1 : Tryd.prog.cellsOf 3 = 1 := by kernel_rfl
  have c2 : Tryd.prog.cellsOf 2 = 1 := by kernel_rfl
  have c3 : Tryd.prog.cellsOf 9 = 1 := by kernel_rfl
  have c4 : Tryd.prog.cellsOf 39 = 3 := by kernel_rfl
  obtain ⟨v0, v1, v2, v3, v4, v5, v6, v7, v8, rfl⟩ := list9 (hl.trans c0)
  match xs, hlen with
  | [y0, y1, y2, y3, y4], _ =>
    have h0 := hf 0 _ rfl
    have h1 := hf 1 _ rfl
    have h2 := hf 2 _ rfl
    have h3 := hf 3 _ rfl
    have h4 := hf 4 _ rfl
    change DataW.trod enc _ w base spare held n 3 (([v0, v1, v2, v3, v4, v5, v6, v7, v8].drop 0).take (Tryd.prog.cellsOf 3)) = some y0 at h0
    change DataW.trod enc _ w base spare held n 9 (([v0, v1, v2, v3, v4, v5, v6, v7, v8].drop 1).take (Tryd.prog.cellsOf 9)) = some y1 at h1
    change DataW.trod enc _ w base spare held n 39 (([v0, v1, v2, v3, v4, v5, v6, v7, v8].drop 2).take (Tryd.prog.cellsOf 39)) = some y2 at h2
    change DataW.trod enc _ w base spare held n 39 (([v0, v1, v2, v3, v4, v5, v6, v7, v8].drop 5).take (Tryd.prog.cellsOf 39)) = some y3 at h3
    change DataW.trod enc _ w base spare held n 2 (([v0, v1, v2, v3, v4, v5, v6, v7, v8].drop 8).take (Tryd.prog.cellsOf 2)) = some y4 at h4
    rw [c1] at h0
    rw [c3] at h1
    rw [c4] at h2 h3
    rw [c2] at h4
    obtain ⟨k, e0, _, w0⟩ := DataW.trod_int Tryd.underlying3 h0
    obtain ⟨s, e1, _, w1⟩ := DataW.trod_string Tryd.underlying9 h1
    obtain ⟨vk, vn, vs, g0, g1, g2, u0, u1, u2⟩ := open_raw_cells (v0 := v2) (v1 := v3) (v2 := v4) h2
    obtain ⟨ok, on, os, g3, g4, g5, u3, u4, u5⟩ := open_raw_cells (v0 := v5) (v1 := v6) (v2 := v7) h3
    obtain ⟨m, e4, _, w4⟩ := DataW.trod_int Tryd.underlying2 h4
    simp at e0 e1 e4
    subst e0 e1 e4 g0 g1 g2 g3 g4 g5
    exact ⟨⟨k, s, vk, vn, vs, ok, on, os, m⟩, rfl, w0, u0, u1, u3, u4, w4, w1, u2, u5⟩

theorem open_op {r : Reach} {b0 : Nat} {v : Value} {d : DataW H} {p : List MemPlace} (hv : Value.okWide Tryd.prog w r b0 41 v) (h : DataW.Trod enc Tryd.prog w base spare held 41 v d p) :
    ∃ o : OpD, v = .agg ⟨opCells o⟩ ∧ OpWf o := by
  obtain ⟨cs, rfl, hsz⟩ := okWide_struct Tryd.underlying41 hv
  obtain ⟨fuel, hf⟩ := h
  obtain ⟨o, e, ho⟩ := open_op_cells hf
  refine ⟨o, ?_, ho⟩
  obtain ⟨l⟩ := cs
  simp only [Value.cells] at e
  rw [e]

instance : Inhabited OpD := ⟨⟨0, ⟨#[]⟩, 0, 0, ⟨#[]⟩, 0, 0, ⟨#[]⟩, 0⟩⟩
theorem flat_get : ∀ (l : List OpD) (j : Nat) (x : Value), (l.flatMap opCells)[j]? = some x → ∃ i o k, l[i]? = some o ∧ (opCells o)[k]? = some x ∧ j = i * 9 + k ∧ k < 9
  | [], j, x, h => by simp at h
  | o :: l, j, x, h => by
    rw [List.flatMap_cons, List.getElem?_append] at h
    split at h
    · rename_i hj
      exact ⟨0, o, j, rfl, h, by omega, hj⟩
    · rename_i hj
      have hL : (opCells o).length = 9 := rfl
      obtain ⟨i, o', k, h1, h2, h3, h4⟩ := flat_get l _ x h
      exact ⟨i + 1, o', k, by simpa using h1, h2, by omega, h4⟩
theorem flat_len (l : List OpD) : (l.flatMap opCells).length = l.length * 9 := by
  induction l with
  | nil => rfl
  | cons o l ih => rw [List.flatMap_cons, List.length_append, ih, List.length_cons]; show 9 + _ = _; omega

theorem open_ops {fuel : Nat} {cs : List Value} {x : DataW H × List MemPlace} (h : DataW.trod enc Tryd.prog w 0 spare held fuel 23 cs = some x) :
    ∃ (sv : Value) (l : List OpD), cs = [sv] ∧ (∀ o ∈ l, OpWf o) ∧ Rd w 9 sv l.length (l.flatMap opCells) := by
  have hlt := DataW.trod_lt _ _ _ _ h
  have c0 : Tryd.prog.cellsOf 41 = 9 := by kernel_rfl
  rcases open_slice Tryd.underlying23 h with ⟨rfl, -⟩ | ⟨a, len, cap, m, n, D, Pl, rfl, -, hl, hm, hmm, rfl, hx⟩
  · exact ⟨_, [], rfl, by simp, Rd.nil w 9 0 (by omega)⟩
  · have hlm : len ≤ m := by rw [hmm]; split <;> omega
    obtain ⟨O, hO⟩ := choose_lt (n := len) (α := OpD) (p := fun i o => OpWf o ∧ ∀ k u, (opCells o)[k]? = some u → w.cell? ((a.add (i * 9)).add k) = some u) fun i hi => by
      obtain ⟨cs', h1, h2⟩ := hx i (by omega)
      obtain ⟨o, rfl, ho⟩ := open_op_cells h2
      rw [c0] at h1
      obtain ⟨_, _, h3⟩ := World.cells?_some h1
      refine ⟨o, ho, fun k u hk => ?_⟩
      have hk9 : k < 9 := (List.getElem?_eq_some_iff.1 hk).1
      rw [h3 k hk9]; exact hk
    have hcap : cap ≤ 9223372036854775807 := max63 hm
    have hL : ((List.range len).map O).length = len := by simp
    refine ⟨_, (List.range len).map O, rfl, fun o ho => ?_, ?_⟩
    · obtain ⟨i, hi, rfl⟩ := List.mem_map.1 ho
      exact (hO i (List.mem_range.1 hi)).1
    · rw [hL]
      refine ⟨by rw [flat_len, hL], some a, cap, rfl, hl, hcap, ?_⟩
      rcases Nat.eq_zero_or_pos len with h0 | h0
      · exact .inl h0
      · right
        obtain ⟨b, off, spot⟩ := a
        have h00 := (hO 0 h0).2 0 (.int .i64 (O 0).kind) rfl
        have hspot : spot = none := by simpa [Addr.add] using World.cell?_spot h00
        subst hspot
        refine ⟨b, off, rfl, ?_, fun j x hj => ?_⟩
        · exact hlt (.cell b off) (List.mem_append_left _ (MemPlace.mem_row.2 ⟨0, by rw [c0]; omega, rfl⟩))
        · obtain ⟨i, o, k, h1, h2, rfl, h4⟩ := flat_get _ _ _ hj
          have hi : i < len := by have := (List.getElem?_eq_some_iff.1 h1).1; omega
          rw [List.getElem?_map, List.getElem?_range hi, Option.map_some, Option.some.injEq] at h1
          subst h1
          have := (hO i hi).2 k x h2
          rw [add_add, add_plain] at this
          exact this

theorem open_batch {r : Reach} {b0 : Nat} {v : Value} {d : DataW H} {p : List MemPlace} (hv : Value.okWide Tryd.prog w r b0 25 v) (h : DataW.Trod enc Tryd.prog w 0 spare held 25 v d p) :
    ∃ (c q : Int) (l : List OpD) (sv : Value), v = .agg ⟨[.int .i64 c, .int .i64 q, sv]⟩ ∧ (Lit.int .i64 c).wf = true ∧ (Lit.int .i64 q).wf = true ∧ (∀ o ∈ l, OpWf o) ∧ Rd w 9 sv l.length (l.flatMap opCells) := by
  obtain ⟨v0, v1, v2, y0, y1, y2, m, rfl, rfl, rfl, h0, h1, h2⟩ := open_agg3 Tryd.underlying25 (by kernel_rfl) (by kernel_rfl) hv h
  obtain ⟨k, e0, rfl, w0⟩ := DataW.trod_int Tryd.underlying3 h0
  obtain ⟨n, e1, rfl, w1⟩ := DataW.trod_int Tryd.underlying2 h1
  obtain ⟨sv, l, e2, ho, hr⟩ := open_ops h2
  simp only [List.cons.injEq, and_true] at e0 e1 e2
  subst e0 e1 e2
  exact ⟨k, n, l, v2, rfl, w0, w1, ho, hr⟩
end
end Go.Proofs.YtalfmomnaghahaaDoor

/-
  Slices of batches, rows, whole numbers among the arguments: opened into what the walks read.
-/
set_option linter.unusedVariables false
set_option maxRecDepth 10000
namespace Go.Proofs.YtalfmomnaghahaaDoor
open Go.ChangeShapes Go.WideShapes Go.ChangeAt Go.RowKit Go.Lib Go.Sx Go.Proofs Go.Deep
open Sw Go.Joins

section
variable {H : Type} {enc : TypeId × Value → H} {w : World} {spare : Nat → Bool} {held : Bool}
theorem ch_map {α : Type} {Rr : α → List Value → Prop} (O : Nat → α) (C : Nat → List Value) : ∀ l : List Nat, (∀ i ∈ l, Rr (O i) (C i)) → Ch Rr (l.map O) (l.flatMap C)
  | [], _ => rfl
  | i :: l, h => ⟨C i, l.flatMap C, rfl, h i (by simp), ch_map O C l fun j hj => h j (by simp [hj])⟩
theorem flatMap_get {C : Nat → List Value} {k : Nat} : ∀ (n b : Nat) (j : Nat) (x : Value), (∀ i, b ≤ i → i < b + n → (C i).length = k) → ((List.range' b n).flatMap C)[j]? = some x → ∃ i kk, b ≤ i ∧ i < b + n ∧ (C i)[kk]? = some x ∧ j = (i - b) * k + kk ∧ kk < k
  | 0, b, j, x, _, h => by simp at h
  | n + 1, b, j, x, hk, h => by
    rw [List.range'_succ, List.flatMap_cons, List.getElem?_append] at h
    have hb := hk b (Nat.le_refl _) (by omega)
    split at h
    · rename_i hj
      exact ⟨b, j, Nat.le_refl _, by omega, h, by simp, by omega⟩
    · rename_i hj
      obtain ⟨i, kk, h1, h2, h3, h4, h5⟩ := flatMap_get n (b + 1) _ x (fun i h1 h2 => hk i (by omega) (by omega)) h
      refine ⟨i, kk, by omega, by omega, h3, ?_, h5⟩
      have e : (i - b) * k = (i - (b + 1)) * k + k := by
        rw [show i - b = (i - (b + 1)) + 1 by omega, Nat.add_mul, Nat.one_mul]
      omega
theorem flatMap_len {C : Nat → List Value} {k : Nat} : ∀ (n b : Nat), (∀ i, b ≤ i → i < b + n → (C i).length = k) → ((List.range' b n).flatMap C).length = n * k
  | 0, b, _ => by simp
  | n + 1, b, hk => by
    rw [List.range'_succ, List.flatMap_cons, List.length_append, hk b (Nat.le_refl _) (by omega), flatMap_len n (b + 1) fun i h1 h2 => hk i (by omega) (by omega), Nat.add_mul]
    omega
theorem open_list {α : Type} [Inhabited α] {t e : TypeId} {k : Nat} (ht : Tryd.prog.underlying t = some (.slice e)) (hc : Tryd.prog.cellsOf e = k) (hk0 : 0 < k) {Rr : α → List Value → Prop} {Wf : α → Prop}
    (op : ∀ {fuel : Nat} {cs : List Value} {x : DataW H × List MemPlace}, DataW.trod enc Tryd.prog w 0 spare held fuel e cs = some x → ∃ o, Rr o cs ∧ Wf o)
    {fuel : Nat} {cs : List Value} {x : DataW H × List MemPlace} (h : DataW.trod enc Tryd.prog w 0 spare held fuel t cs = some x) :
    ∃ (sv : Value) (l : List α), cs = [sv] ∧ (∀ o ∈ l, Wf o) ∧ ∃ xs, Rd w k sv l.length xs ∧ Ch Rr l xs := by
  have hlt := DataW.trod_lt _ _ _ _ h
  rcases open_slice ht h with ⟨rfl, -⟩ | ⟨a, len, cap, m, n, D, Pl, rfl, -, hl, hm, hmm, rfl, hx⟩
  · exact ⟨_, [], rfl, by simp, [], Rd.nil w k 0 (by omega), rfl⟩
  · have hlm : len ≤ m := by rw [hmm]; split <;> omega
    obtain ⟨O, hO⟩ := choose_lt (n := len) (α := α × List Value) (p := fun i o => Rr o.1 o.2 ∧ Wf o.1 ∧ o.2.length = k ∧ ∀ j u, o.2[j]? = some u → w.cell? ((a.add (i * k)).add j) = some u) fun i hi => by
      obtain ⟨cs', h1, h2⟩ := hx i (by omega)
      obtain ⟨o, ho1, ho2⟩ := op h2
      rw [hc] at h1
      obtain ⟨_, hlen, h3⟩ := World.cells?_some h1
      refine ⟨(o, cs'), ho1, ho2, by simpa using hlen, fun j u hj => ?_⟩
      have hjk : j < k := by
        have h9 : j < cs'.length := (List.getElem?_eq_some_iff.1 hj).1
        have e : cs'.length = k := by simpa using hlen
        omega
      rw [h3 j hjk]; exact hj
    have hcap : cap ≤ 9223372036854775807 := max63 hm
    have hL : ((List.range len).map fun i => (O i).1).length = len := by simp
    have hr : List.range len = List.range' 0 len := List.range_eq_range'
    have hks : ∀ i, 0 ≤ i → i < 0 + len → (O i).2.length = k := fun i _ hi => (hO i (by omega)).2.2.1
    refine ⟨_, (List.range len).map fun i => (O i).1, rfl, fun o ho => ?_, (List.range len).flatMap fun i => (O i).2, ?_, ch_map _ _ _ fun i hi => (hO i (List.mem_range.1 hi)).1⟩
    · obtain ⟨i, hi, rfl⟩ := List.mem_map.1 ho
      exact (hO i (List.mem_range.1 hi)).2.1
    · rw [hL]
      refine ⟨by rw [hr]; exact flatMap_len len 0 hks, some a, cap, rfl, hl, hcap, ?_⟩
      rcases Nat.eq_zero_or_pos len with h0 | h0
      · exact .inl h0
      · right
        obtain ⟨b, off, spot⟩ := a
        have h00 : ∃ u, (O 0).2[0]? = some u := ⟨_, List.getElem?_eq_getElem (by rw [hks 0 (Nat.zero_le _) (by omega)]; exact hk0)⟩
        obtain ⟨u0, hu0⟩ := h00
        have h00 := (hO 0 h0).2.2.2 0 u0 hu0
        have hspot : spot = none := by simpa [Addr.add] using World.cell?_spot h00
        subst hspot
        refine ⟨b, off, rfl, ?_, fun j x hj => ?_⟩
        · have hpos : 0 < m * k := Nat.mul_pos (by omega) hk0
          exact hlt (.cell b off) (List.mem_append_left _ (MemPlace.mem_row.2 ⟨0, by rw [hc]; exact hpos, rfl⟩))
        · rw [hr] at hj
          obtain ⟨i, kk, h1, h2, h3, rfl, h5⟩ := flatMap_get len 0 j x hks hj
          have := (hO i (by omega)).2.2.2 kk x h3
          rw [add_add, add_plain] at this
          exact this

theorem open_bat_cells {fuel : Nat} {cs : List Value} {x : DataW H × List MemPlace} (h : DataW.trod enc Tryd.prog w 0 spare held fuel 25 cs = some x) : ∃ b, BatRd w b cs ∧ BatWf b := by
  obtain ⟨xs, n, _, rfl, hl, hlen, hf⟩ := DataW.trod_struct Tryd.underlying25 h
  have c0 : Tryd.prog.cellsOf 25 = 3 := by kernel_rfl
  have c1 : Tryd.prog.cellsOf 3 = 1 := by kernel_rfl
  have c2 : Tryd.prog.cellsOf 2 = 1 := by kernel_rfl
  have c3 : Tryd.prog.cellsOf 23 = 1 := by kernel_rfl
  rw [c0] at hl
  match cs, hl, xs, hlen with
  | [v0, v1, v2], _, [y0, y1, y2], _ =>
    have h0 := hf 0 _ rfl
    have h1 := hf 1 _ rfl
    have h2 := hf 2 _ rfl
    change DataW.trod enc _ w 0 spare held n 3 (([v0, v1, v2].drop 0).take (Tryd.prog.cellsOf 3)) = some y0 at h0
    change DataW.trod enc _ w 0 spare held n 2 (([v0, v1, v2].drop 1).take (Tryd.prog.cellsOf 2)) = some y1 at h1
    change DataW.trod enc _ w 0 spare held n 23 (([v0, v1, v2].drop 2).take (Tryd.prog.cellsOf 23)) = some y2 at h2
    rw [c1] at h0
    rw [c2] at h1
    rw [c3] at h2
    obtain ⟨k, e0, _, w0⟩ := DataW.trod_int Tryd.underlying3 h0
    obtain ⟨m, e1, _, w1⟩ := DataW.trod_int Tryd.underlying2 h1
    obtain ⟨sv, l, e2, ho, hr⟩ := open_ops h2
    simp at e0 e1 e2
    subst e0 e1 e2
    exact ⟨⟨k, m, l⟩, ⟨v2, rfl, hr⟩, w0, w1, ho⟩
theorem open_row_cells {fuel : Nat} {cs : List Value} {x : DataW H × List MemPlace} (h : DataW.trod enc Tryd.prog w 0 spare held fuel 28 cs = some x) : ∃ r, RowRd w r cs ∧ RowWf r := by
  obtain ⟨xs, n, _, rfl, hl, hlen, hf⟩ := DataW.trod_struct Tryd.underlying28 h
  have c0 : Tryd.prog.cellsOf 28 = 5 := by kernel_rfl
  have c1 : Tryd.prog.cellsOf 26 = 1 := by kernel_rfl
  have c2 : Tryd.prog.cellsOf 2 = 1 := by kernel_rfl
  have c3 : Tryd.prog.cellsOf 25 = 3 := by kernel_rfl
  rw [c0] at hl
  match cs, hl, xs, hlen with
  | [v0, v1, v2, v3, v4], _, [y0, y1, y2], _ =>
    have h0 := hf 0 _ rfl
    have h1 := hf 1 _ rfl
    have h2 := hf 2 _ rfl
    change DataW.trod enc _ w 0 spare held n 2 (([v0, v1, v2, v3, v4].drop 0).take (Tryd.prog.cellsOf 2)) = some y0 at h0
    change DataW.trod enc _ w 0 spare held n 25 (([v0, v1, v2, v3, v4].drop 1).take (Tryd.prog.cellsOf 25)) = some y1 at h1
    change DataW.trod enc _ w 0 spare held n 26 (([v0, v1, v2, v3, v4].drop 4).take (Tryd.prog.cellsOf 26)) = some y2 at h2
    rw [c2] at h0
    rw [c3] at h1
    rw [c1] at h2
    obtain ⟨k, e0, _, w0⟩ := DataW.trod_int Tryd.underlying2 h0
    obtain ⟨b, ⟨sv, e1, hr⟩, hb⟩ := open_bat_cells h1
    obtain ⟨m, e2, _, w2⟩ := DataW.trod_int Tryd.underlying26 h2
    simp [batCells] at e0 e1 e2
    obtain ⟨e11, e12, e13⟩ := e1
    subst e0 e11 e12 e13 e2
    exact ⟨⟨k, b, m⟩, ⟨v3, rfl, hr⟩, w0, w2, hb⟩
theorem open_int_cells {fuel : Nat} {cs : List Value} {x : DataW H × List MemPlace} (h : DataW.trod enc Tryd.prog w 0 spare held fuel 3 cs = some x) : ∃ k, IntIn k cs ∧ (Lit.int .i64 k).wf = true := by
  obtain ⟨k, e0, _, w0⟩ := DataW.trod_int Tryd.underlying3 h
  exact ⟨k, (by simpa using e0 : cs = [.int .i64 k]), w0⟩
instance : Inhabited BatchD := ⟨⟨0, 0, []⟩⟩
instance : Inhabited RowD := ⟨zeroRow⟩
theorem open_bats {r : Reach} {b0 : Nat} {v : Value} {d : DataW H} {p : List MemPlace} (hv : Value.okWide Tryd.prog w r b0 51 v) (h : DataW.Trod enc Tryd.prog w 0 spare held 51 v d p) : ∃ l, (∀ b ∈ l, BatWf b) ∧ BatsRd w v l := by
  obtain ⟨b, len, cap, rfl⟩ := okWide_slice Tryd.underlying51 hv
  obtain ⟨fuel, hf⟩ := h
  obtain ⟨sv, l, e, h1, h2⟩ := open_list Tryd.underlying51 (by kernel_rfl : _ = 3) (by decide) open_bat_cells hf
  simp [Value.cells] at e
  subst e
  exact ⟨l, h1, h2⟩
theorem open_rows {r : Reach} {b0 : Nat} {v : Value} {d : DataW H} {p : List MemPlace} (hv : Value.okWide Tryd.prog w r b0 35 v) (h : DataW.Trod enc Tryd.prog w 0 spare held 35 v d p) : ∃ l, (∀ b ∈ l, RowWf b) ∧ RowsRd w v l := by
  obtain ⟨b, len, cap, rfl⟩ := okWide_slice Tryd.underlying35 hv
  obtain ⟨fuel, hf⟩ := h
  obtain ⟨sv, l, e, h1, h2⟩ := open_list Tryd.underlying35 (by kernel_rfl : _ = 5) (by decide) open_row_cells hf
  simp [Value.cells] at e
  subst e
  exact ⟨l, h1, h2⟩

-- pieces

theorem open_intl {r : Reach} {b0 : Nat} {v : Value} {d : DataW H} {p : List MemPlace} (hv : Value.okWide Tryd.prog w r b0 123 v) (h : DataW.Trod enc Tryd.prog w 0 spare held 123 v d p) : ∃ l, (∀ k ∈ l, (Lit.int .i64 k).wf = true) ∧ IntsRd w v l := by
  obtain ⟨b, len, cap, rfl⟩ := okWide_slice Tryd.underlying123 hv
  obtain ⟨fuel, hf⟩ := h
  obtain ⟨sv, l, e, h1, h2⟩ := open_list Tryd.underlying123 (by kernel_rfl : _ = 1) (by decide) open_int_cells hf
  simp [Value.cells] at e
  subst e
  exact ⟨l, h1, h2⟩

end
end Go.Proofs.YtalfmomnaghahaaDoor
