/-
  Texts of the proof, one behind the other (part 8).
-/
import Derived.Test.YtmalklakaalaoaaDoorM7
set_option linter.unusedVariables false
set_option maxRecDepth 10000
namespace Go.Proofs.YtmalklakaalaoaaDoor
open Go.ChangeShapes Go.WideShapes Go.ChangeAt Go.RowKit Go.Lib Go.Sx Go.Proofs Go.Deep
open Sw Go.Joins
section
variable {H : Type} {enc : TypeId × Value → H} {w : World} {spare : Nat → Bool} {held : Bool}
theorem ch_map {α : Type} {Rr : α → List Value → Prop} (O : Nat → α) (C : Nat → List Value) : ∀ l : List Nat, (∀ i ∈ l, Rr (O i) (C i)) → Ch Rr (l.map O) (l.flatMap C)
  | [], _ => rfl
  | i :: l, h => ⟨C i, l.flatMap C, rfl, h i (by simp), ch_map O C l fun j hj => h j (by simp [hj])⟩
theorem flatMap_get {C : Nat → List Value} {k : Nat} : ∀ (n b : Nat) (j : Nat) (x : Value), (∀ i, b ≤ i → i < b + n → (C i).length = k) → ((List.range' b n).flatMap C)[j]? = some x → ∃ i kk, b ≤ i ∧ i < b + n ∧ (C i)[kk]? = some x ∧ j = (i - b) * k + kk ∧ kk < k
  | 0, b, j, x, _, h => by simp at h
  | n + 1, b, j, x, hk, h => by
    rw [List.range'_succ, List.flatMap_cons, List.getElem?_append] at h
    have hb := hk b (Nat.le_refl _) (by omega)
    split at h
    · rename_i hj
      exact ⟨b, j, Nat.le_refl _, by omega, h, by simp, by omega⟩
    · rename_i hj
      obtain ⟨i, kk, h1, h2, h3, h4, h5⟩ := flatMap_get n (b + 1) _ x (fun i h1 h2 => hk i (by omega) (by omega)) h
      refine ⟨i, kk, by omega, by omega, h3, ?_, h5⟩
      have e : (i - b) * k = (i - (b + 1)) * k + k := by
        rw [show i - b = (i - (b + 1)) + 1 by omega, Nat.add_mul, Nat.one_mul]
      omega
theorem flatMap_len {C : Nat → List Value} {k : Nat} : ∀ (n b : Nat), (∀ i, b ≤ i → i < b + n → (C i).length = k) → ((List.range' b n).flatMap C).length = n * k
  | 0, b, _ => by simp
  | n + 1, b, hk => by
    rw [List.range'_succ, List.flatMap_cons, List.length_append, hk b (Nat.le_refl _) (by omega), flatMap_len n (b + 1) fun i h1 h2 => hk i (by omega) (by omega), Nat.add_mul]
    omega
theorem open_list {α : Type} [Inhabited α] {t e : TypeId} {k : Nat} (ht : Tryd.prog.underlying t = some (.slice e)) (hc : Tryd.prog.cellsOf e = k) (hk0 : 0 < k) {Rr : α → List Value → Prop} {Wf : α → Prop}
    (op : ∀ {fuel : Nat} {cs : List Value} {x : DataW H × List MemPlace}, DataW.trod enc Tryd.prog w 0 spare held fuel e cs = some x → ∃ o, Rr o cs ∧ Wf o)
    {fuel : Nat} {cs : List Value} {x : DataW H × List MemPlace} (h : DataW.trod enc Tryd.prog w 0 spare held fuel t cs = some x) :
    ∃ (sv : Value) (l : List α), cs = [sv] ∧ (∀ o ∈ l, Wf o) ∧ ∃ xs, Rd w k sv l.length xs ∧ Ch Rr l xs := by
  have hlt := DataW.trod_lt _ _ _ _ h
  rcases open_slice ht h with ⟨rfl, -⟩ | ⟨a, len, cap, m, n, D, Pl, rfl, -, hl, hm, hmm, rfl, hx⟩
  · exact ⟨_, [], rfl, by simp, [], Rd.nil w k 0 (by omega), rfl⟩
  · have hlm : len ≤ m := by rw [hmm]; split <;> omega
    obtain ⟨O, hO⟩ := choose_lt (n := len) (α := α × List Value) (p := fun i o => Rr o.1 o.2 ∧ Wf o.1 ∧ o.2.length = k ∧ ∀ j u, o.2[j]? = some u → w.cell? ((a.add (i * k)).add j) = some u) fun i hi => by
      obtain ⟨cs', h1, h2⟩ := hx i (by omega)
      obtain ⟨o, ho1, ho2⟩ := op h2
      rw [hc] at h1
      obtain ⟨_, hlen, h3⟩ := World.cells?_some h1
      refine ⟨(o, cs'), ho1, ho2, by simpa using hlen, fun j u hj => ?_⟩
      have hjk : j < k := by
        have h9 : j < cs'.length := (List.getElem?_eq_some_iff.1 hj).1
        have e : cs'.length = k := by simpa using hlen
        omega
      rw [h3 j hjk]; exact hj
    have hcap : cap ≤ 9223372036854775807 := max63 hm
    have hL : ((List.range len).map fun i => (O i).1).length = len := by simp
    have hr : List.range len = List.range' 0 len := List.range_eq_range'
    have hks : ∀ i, 0 ≤ i → i < 0 + len → (O i).2.length = k := fun i _ hi => (hO i (by omega)).2.2.1
    refine ⟨_, (List.range len).map fun i => (O i).1, rfl, fun o ho => ?_, (List.range len).flatMap fun i => (O i).2, ?_, ch_map _ _ _ fun i hi => (hO i (List.mem_range.1 hi)).1⟩
    · obtain ⟨i, hi, rfl⟩ := List.mem_map.1 ho
      exact (hO i (List.mem_range.1 hi)).2.1
    · rw [hL]
      refine ⟨by rw [hr]; exact flatMap_len len 0 hks, some a, cap, rfl, hl, hcap, ?_⟩
      rcases Nat.eq_zero_or_pos len with h0 | h0
      · exact .inl h0
      · right
        obtain ⟨b, off, spot⟩ := a
        have h00 : ∃ u, (O 0).2[0]? = some u := ⟨_, List.getElem?_eq_getElem (by rw [hks 0 (Nat.zero_le _) (by omega)]; exact hk0)⟩
        obtain ⟨u0, hu0⟩ := h00
        have h00 := (hO 0 h0).2.2.2 0 u0 hu0
        have hspot : spot = none := by simpa [Addr.add] using World.cell?_spot h00
        subst hspot
        refine ⟨b, off, rfl, ?_, fun j x hj => ?_⟩
        · have hpos : 0 < m * k := Nat.mul_pos (by omega) hk0
          exact hlt (.cell b off) (List.mem_append_left _ (MemPlace.mem_row.2 ⟨0, by rw [hc]; exact hpos, rfl⟩))
        · rw [hr] at hj
          obtain ⟨i, kk, h1, h2, h3, rfl, h5⟩ := flatMap_get len 0 j x hks hj
          have := (hO i (by omega)).2.2.2 kk x h3
          rw [add_add, add_plain] at this
          exact this
theorem open_int_cells {fuel : Nat} {cs : List Value} {x : DataW H × List MemPlace} (h : DataW.trod enc Tryd.prog w 0 spare held fuel 3 cs = some x) : ∃ k, IntIn k cs ∧ (Lit.int .i64 k).wf = true := by
  obtain ⟨k, e0, _, w0⟩ := DataW.trod_int Tryd.underlying3 h
  exact ⟨k, (by simpa using e0 : cs = [.int .i64 k]), w0⟩
instance : Inhabited BatchD := ⟨⟨0, 0, []⟩⟩
instance : Inhabited RowD := ⟨zeroRow⟩ -- 32
-- pieces
theorem open_intl {r : Reach} {b0 : Nat} {v : Value} {d : DataW H} {p : List MemPlace} (hv : Value.okWide Tryd.prog w r b0 46 v) (h : DataW.Trod enc Tryd.prog w 0 spare held 46 v d p) : ∃ l, (∀ k ∈ l, (Lit.int .i64 k).wf = true) ∧ IntsRd w v l := by
  obtain ⟨b, len, cap, rfl⟩ := okWide_slice Tryd.underlying46 hv
  obtain ⟨fuel, hf⟩ := h
  obtain ⟨sv, l, e, h1, h2⟩ := open_list Tryd.underlying46 (by kernel_rfl : _ = 1) (by decide) open_int_cells hf
  simp [Value.cells] at e
  subst e
  exact ⟨l, h1, h2⟩
end
end Go.Proofs.YtmalklakaalaoaaDoor

set_option linter.unusedVariables false
set_option maxRecDepth 10000
namespace Go.Proofs.YtmalklakaalaoaaDoor.Sw
open Go.RowKit Go.Sx
abbrev an7 : OpD := ⟨4, ⟨#[110]⟩, 0, 0, ⟨#[]⟩, 0, 0, ⟨#[]⟩, 1⟩
def dN (i : Nat) : Dm := if i = 0 then [] else [(⟨#[110]⟩, .inl (i : Int))]
def tstN (i : Nat) : Bool := match applyL (dN i) [an7] with | (e, [(k, .inl n)]) => e == 0 && k.data.toList == [110] && n == ((i + 1 : Nat) : Int) | _ => false
theorem tst_all : ((List.range 60).all tstN) = true := by kernel_rfl
theorem an7_apply {i : Nat} (hi : i < 60) : applyL (dN i) [an7] = (0, dN (i + 1)) := by
  have h := List.all_eq_true.1 tst_all i (List.mem_range.2 hi)
  unfold tstN at h
  split at h
  · rename_i e k n he
    rw [he]
    simp only [Bool.and_eq_true, beq_iff_eq] at h
    obtain ⟨⟨h1, h2⟩, h3⟩ := h
    have hk : k = ⟨#[110]⟩ := by
      obtain ⟨⟨l⟩⟩ := k
      simp only at h2
      rw [h2]
    unfold dN
    rw [if_neg (by omega), h1, hk, h3]
  · cases h
theorem an7_ok : ∀ o ∈ [an7], OpOk o := by
  intro o ho
  rw [List.mem_singleton] at ho
  subst ho
  exact ⟨⟨by decide, by decide⟩, ⟨by decide, by decide⟩, ⟨by decide, by decide⟩, ⟨by decide, by decide⟩, ⟨by decide, by decide⟩, ⟨by decide, by decide⟩, by decide, by decide, by decide⟩
theorem an7_len : ([an7].flatMap opB).length ≤ 100 := of_decide_eq_true (by kernel_rfl)
theorem an7_may : [an7].all mayD = true := by kernel_rfl
theorem may_an7 {c q : Int} (hc : 1 ≤ c ∧ c ≤ 5) (hq : 1 ≤ q ∧ q ≤ 1099511627776) : mayB ⟨c, q, [an7]⟩ = true := by
  have h1 := Ph.putI_length_le c
  have h2 := Ph.putI_length_le q
  have h3 := Ph.putI_length_le (([an7] : List OpD).length : Int)
  have h4 := an7_len
  have hl : ((textB c q [an7]).length : Int) ≤ 1200 := by
    unfold textB headB
    simp only [List.length_append] at *
    omega
  show mayBatch c q [an7] = true
  unfold mayBatch
  rw [decide_eq_false (show ¬ c < 1 by omega), decide_eq_false (show ¬ c > 5 by omega), decide_eq_false (show ¬ q < 1 by omega), decide_eq_false (show ¬ q > 1099511627776 by omega), an7_may, decide_eq_true hl]
  rfl
structure AddF (i : Nat) (f : FoldD) : Prop where
  fine : FoldFine f
  place : f.place = (i : Int)
  doc : f.d = dN i
  last : ∀ c, 0 ≤ lastOf f c ∧ lastOf f c ≤ (i : Int)
theorem AddF.zero : AddF 0 emptyF := by
  refine ⟨FoldFine.empty, rfl, rfl, fun c => ?_⟩
  unfold lastOf
  split
  · have : ∀ k : Nat, (((emptyF.told)[k]?).map (·.1)).getD 0 = 0 := by
      intro k
      rcases k with _ | _ | _ | _ | _ | _ | k <;> rfl
    rw [this]; decide
  · decide
def lsOf (f : FoldD) : List Value := [.int .i64 0, .int .i64 (lastOf f 1), .int .i64 (lastOf f 2), .int .i64 (lastOf f 3), .int .i64 (lastOf f 4), .int .i64 (lastOf f 5)]
theorem ls_at {f : FoldD} {c : Int} (hc : 1 ≤ c ∧ c ≤ 5) : (lsOf f)[c.toNat]? = some (.int .i64 (lastOf f c)) := by
  have : c = 1 ∨ c = 2 ∨ c = 3 ∨ c = 4 ∨ c = 5 := by omega
  rcases this with rfl | rfl | rfl | rfl | rfl <;> rfl
theorem last_set {f : FoldD} (h6 : f.told.length = 6) {b : BatchD} (hc : 1 ≤ b.c ∧ b.c ≤ 5) (c' : Int) : lastOf (nextF f b) c' = if c' = b.c then b.q else lastOf f c' := by
  unfold lastOf
  by_cases h15 : 1 ≤ c' ∧ c' ≤ 5
  · rw [if_pos h15, if_pos h15]
    show (((f.told.set b.c.toNat (b.q, nextR f b))[c'.toNat]?).map (·.1)).getD 0 = _
    rw [List.getElem?_set]
    by_cases he : c' = b.c
    · rw [if_pos (by rw [he]), if_pos (by omega), if_pos he]; rfl
    · rw [if_neg (by omega), if_neg he]
  · rw [if_neg h15, if_neg h15, if_neg (by omega)]
theorem ls_next {f : FoldD} (h6 : f.told.length = 6) {c q : Int} {l : List OpD} (hc : 1 ≤ c ∧ c ≤ 5) : ov (lsOf f) c.toNat [.int .i64 q] = lsOf (nextF f ⟨c, q, l⟩) := by
  have h := last_set h6 (b := ⟨c, q, l⟩) hc
  unfold lsOf
  rw [h 1, h 2, h 3, h 4, h 5]
  have : c = 1 ∨ c = 2 ∨ c = 3 ∨ c = 4 ∨ c = 5 := by omega
  rcases this with rfl | rfl | rfl | rfl | rfl <;> rfl
theorem next_wrong {f : FoldD} {c q : Int} {l : List OpD} (hq : q ≠ IntKind.i64.wrap (lastOf f c + 1)) : next f ⟨c, q, l⟩ = (f, zeroRow, false) := by
  have : nextB f ⟨c, q, l⟩ = false := by
    unfold nextB
    show (_ && (q == IntKind.i64.wrap (lastOf f c + 1))) = false
    rw [beq_eq_false_iff_ne.2 hq, Bool.and_false]
  unfold Sw.next
  rw [this]
theorem addF_next {i : Nat} {f : FoldD} (h : AddF i f) (hi : i < 60) {c : Int} (hc : 1 ≤ c ∧ c ≤ 5) : BatOk ⟨c, lastOf f c + 1, [an7]⟩ ∧ BatOk ⟨c, lastOf f c + 2, [an7]⟩ ∧ IntKind.i64.wrap (lastOf f c + 1) = lastOf f c + 1 ∧ IntKind.i64.wrap (lastOf f c + 1 + 1) = lastOf f c + 2 ∧ next f ⟨c, lastOf f c + 2, [an7]⟩ = (f, zeroRow, false) ∧
    ∃ g : FoldD, next f ⟨c, lastOf f c + 1, [an7]⟩ = (g, ⟨((i + 1 : Nat) : Int), ⟨c, lastOf f c + 1, [an7]⟩, 0⟩, true) ∧ AddF (i + 1) g ∧ next g ⟨c, lastOf f c + 1, [an7]⟩ = (g, zeroRow, false) ∧ ov (lsOf f) c.toNat [.int .i64 (lastOf f c + 1)] = lsOf g ∧ lastOf g c = lastOf f c + 1 := by
  have hl := h.last c
  have hw : IntKind.i64.wrap (lastOf f c + 1) = lastOf f c + 1 := IntWalk.i64_in _ (by omega)
  have hw2 : IntKind.i64.wrap (lastOf f c + 1 + 1) = lastOf f c + 2 := by rw [IntWalk.i64_in _ (by omega)]; omega
  have hok : ∀ q, 0 ≤ q ∧ q ≤ 100 → BatOk ⟨c, q, [an7]⟩ := fun q hq => ⟨⟨by show _ ≤ c; omega, by show c ≤ _; omega⟩, ⟨by show _ ≤ q; omega, by show q ≤ _; omega⟩, an7_ok⟩
  have hB : nextB f ⟨c, lastOf f c + 1, [an7]⟩ = true := by
    unfold nextB
    rw [may_an7 hc (by omega)]
    show (true && (lastOf f c + 1 == IntKind.i64.wrap (lastOf f c + 1))) = true
    rw [hw, beq_self_eq_true]; rfl
  have hN : next f ⟨c, lastOf f c + 1, [an7]⟩ = (nextF f ⟨c, lastOf f c + 1, [an7]⟩, nextR f ⟨c, lastOf f c + 1, [an7]⟩, true) := by
    unfold Sw.next; rw [hB]
  have hap := an7_apply hi
  have hpw : IntKind.i64.wrap (f.place + 1) = ((i + 1 : Nat) : Int) := by
    rw [h.place, IntWalk.i64_in _ (by omega)]; omega
  have hR : nextR f ⟨c, lastOf f c + 1, [an7]⟩ = ⟨((i + 1 : Nat) : Int), ⟨c, lastOf f c + 1, [an7]⟩, 0⟩ := by
    unfold nextR
    rw [hpw, h.doc, hap]
  have hF := (h.fine.next (hok (lastOf f c + 1) (by omega)) (by rw [h.place]; omega)).1
  rw [hN] at hF
  have hset := last_set h.fine.six (b := ⟨c, lastOf f c + 1, [an7]⟩) hc
  have hlg : lastOf (nextF f ⟨c, lastOf f c + 1, [an7]⟩) c = lastOf f c + 1 := by rw [hset c, if_pos rfl]
  refine ⟨hok _ (by omega), hok _ (by omega), hw, hw2, next_wrong (by rw [hw]; omega), nextF f ⟨c, lastOf f c + 1, [an7]⟩, by rw [hN, hR], ⟨hF, hpw, ?_, fun c' => ?_⟩, next_wrong (by rw [hlg, IntWalk.i64_in _ (by omega)]; omega), ls_next h.fine.six hc, hlg⟩
  · show (applyL f.d [an7]).2 = _
    rw [h.doc, hap]
  · rw [hset c']
    have h2 := h.last c'
    split
    · show 0 ≤ lastOf f c + 1 ∧ lastOf f c + 1 ≤ _
      omega
    · omega
theorem get_dN {i : Nat} (hi : i ≤ 60) : rawCells (getK (dN i) ⟨#[110]⟩) = [.int .i64 (if i = 0 then 0 else 1), .int .i64 (i : Int), .string ⟨#[]⟩] ∧ (getK (dN i) ⟨#[110]⟩).isSome = decide (0 < (i : Int)) := by
  by_cases h : i = 0
  · subst h
    exact ⟨rfl, rfl⟩
  · unfold dN
    rw [if_neg h, if_neg h, decide_eq_true (show 0 < (i : Int) by omega)]
    exact ⟨rfl, rfl⟩
set_option maxHeartbeats 32000000 in
theorem walk_FoldClients (l : List Int) (v : Value) (w : World) (hl : ∀ x ∈ l, (Lit.int .i64 x).wf = true) (hr : IntsRd w v l) (hT : Tabs w) :
    Calls Tryd.prog 5 ⟨[v]⟩ w fun e w' => e = .returned (.bool true) ∧ Below w.heap.size w w' := by
  have hw := Has.startF w
  obtain ⟨xs, hrl, hch⟩ := hr
  have hrl0 := RdH.of_rd hrl (Fh.le.refl _) (by decide)
  obtain ⟨sad, scap, rfl⟩ := hrl0.slice
  have h63 := hrl0.len
  refine enter Tryd.func5 Tryd.ntmps5 rfl rfl fun a hs => ?_
  repeat (first | (refine sxv hs hw ?_; clear hs; intro a hs) | refine sxc hs ?_ | (refine sxa hs hw ?_; clear hs hw; intro a b W hw hs) | (refine sxs hs hw ?_; clear hs hw; intro W hs hw))
  refine st_call hs (hc := law7_begun _ hT) (k := ?_); rintro e0 W1 ⟨rfl, hb⟩; refine ⟨_, rfl, ?_⟩; clear hs; intro a hs; replace hw := hw.below hb; clear hb
  repeat (first | (refine sxv hs hw ?_; clear hs; intro a hs) | refine sxc hs ?_ | (refine sxa hs hw ?_; clear hs hw; intro a b W hw hs) | (refine sxs hs hw ?_; clear hs hw; intro W hs hw))
  refine st_call hs (hc := fold_New w _ (fr w) _ hw) (k := ?_); rintro e0 W1 ⟨p, rfl, hw1⟩; refine ⟨_, rfl, ?_⟩; clear hs hw; intro a hs; have hw := hw1; clear hw1
  repeat (first | (refine sxv hs hw ?_; clear hs; intro a hs) | refine sxc hs ?_ | (refine sxa hs hw ?_; clear hs hw; intro a b W hw hs) | (refine sxs hs hw ?_; clear hs hw; intro W hs hw))
  obtain ⟨b5, q5⟩ := nm1 hw; subst q5
  replace hw : Has 0 w _ (FoldAt (fr w) p emptyF :: Cells b5 (lsOf emptyF) 47 :: Fz (fr w) :: []) := hw.perm (by repeat (first | exact List.Perm.refl _ | refine perm_pick (by repeat (first | exact Pick.hd | apply Pick.tl)) ?_))
  refine st_loop (σ := Nat × FoldD × Fh) (fun t => [(0, .slice sad l.length scap), (4, .pointer (some ⟨p, 0, none⟩)), (5, .pointer (some ⟨b5, 0, none⟩)), (6, .int .i64 (t.1 : Int))]) (fun t => FoldAt t.2.2 p t.2.1 :: Cells b5 (lsOf t.2.1) 47 :: Fz t.2.2 :: []) (fun t => t.1 ≤ l.length ∧ t.1 ≤ 60 ∧ AddF t.1 t.2.1 ∧ (fr w).le t.2.2) (fun t => l.length - t.1) (0, emptyF, fr w) ⟨Nat.zero_le _, Nat.zero_le _, AddF.zero, Fh.le.refl _⟩ hs ⟨rfl, rfl, rfl, rfl, trivial⟩ hw ?_
  clear hs hw
  rintro ⟨i, f, H⟩ a W ⟨hi, hi60, hf, hH⟩ hs hw
  simp only at hi hi60 hf hH hs hw
  repeat (first | (refine sxv hs hw ?_; clear hs; intro a hs) | refine sxc hs ?_ | (refine sxa hs hw ?_; clear hs hw; intro a b W hw hs) | (refine sxs hs hw ?_; clear hs hw; intro W hs hw))
  cases c1 : decide ((i : Int) < (l.length : Int)) with
  | false =>
    rw [c1] at hs
    have g1 := of_decide_eq_false c1
    have hmin : (if (60 : Int) < (l.length : Int) then (60 : Int) else (l.length : Int)) = (i : Int) := by split <;> omega
    have hgd := get_dN hi60
    repeat (first | (refine sxv hs hw ?_; clear hs; intro a hs) | refine sxc hs ?_ | (refine sxa hs hw ?_; clear hs hw; intro a b W hw hs) | (refine sxs hs hw ?_; clear hs hw; intro W hs hw))
    refine st_call hs (hc := fold_Doc w _ H p f _ hw) (k := ?_); rintro e0 W1 ⟨dq, rfl, hw1⟩; refine ⟨_, rfl, ?_⟩; clear hs hw; intro a hs; have hw := hw1; clear hw1
    rw [hf.doc] at hw
    repeat (first | (refine sxv hs hw ?_; clear hs; intro a hs) | refine sxc hs ?_ | (refine sxa hs hw ?_; clear hs hw; intro a b W hw hs) | (refine sxs hs hw ?_; clear hs hw; intro W hs hw))
    refine st_call hs (hc := doc_Get w _ dq (dN i) ⟨#[110]⟩ _ hw) (k := ?_); rw [hgd.1, hgd.2]; rintro e0 W1 ⟨rfl, hw1⟩; refine ⟨_, rfl, ?_⟩; clear hs hw; intro a hs; have hw := hw1; clear hw1
    repeat (first | (refine sxv hs hw ?_; clear hs; intro a hs) | refine sxc hs ?_ | (refine sxa hs hw ?_; clear hs hw; intro a b W hw hs) | (refine sxs hs hw ?_; clear hs hw; intro W hs hw))
    refine st_min hs (k := ?_); clear hs; intro a hs
    rw [hmin] at hs
    repeat (first | (refine sxv hs hw ?_; clear hs; intro a hs) | refine sxc hs ?_ | (refine sxa hs hw ?_; clear hs hw; intro a b W hw hs) | (refine sxs hs hw ?_; clear hs hw; intro W hs hw))
    rw [show decide ((i : Int) > 0) = decide (0 < (i : Int)) from rfl, beq_self_eq_true] at hs
    repeat (first | (refine sxv hs hw ?_; clear hs; intro a hs) | refine sxc hs ?_ | (refine sxa hs hw ?_; clear hs hw; intro a b W hw hs) | (refine sxs hs hw ?_; clear hs hw; intro W hs hw))
    rw [beq_self_eq_true] at hs
    repeat (first | (refine sxv hs hw ?_; clear hs; intro a hs) | refine sxc hs ?_ | (refine sxa hs hw ?_; clear hs hw; intro a b W hw hs) | (refine sxs hs hw ?_; clear hs hw; intro W hs hw))
    exact rt1 hs rfl rfl ⟨rfl, hw.endF (by repeat (first | exact In.hd | apply In.tl)) hH⟩
  | true =>
  rw [c1] at hs
  have g1 := of_decide_eq_true c1
  repeat (first | (refine sxv hs hw ?_; clear hs; intro a hs) | refine sxc hs ?_ | (refine sxa hs hw ?_; clear hs hw; intro a b W hw hs) | (refine sxs hs hw ?_; clear hs hw; intro W hs hw))
  cases c2 : decide ((i : Int) < 60) with
  | false =>
    rw [c2] at hs
    have g2 := of_decide_eq_false c2
    have hmin : (if (60 : Int) < (l.length : Int) then (60 : Int) else (l.length : Int)) = (i : Int) := by split <;> omega
    have hgd := get_dN hi60
    repeat (first | (refine sxv hs hw ?_; clear hs; intro a hs) | refine sxc hs ?_ | (refine sxa hs hw ?_; clear hs hw; intro a b W hw hs) | (refine sxs hs hw ?_; clear hs hw; intro W hs hw))
    refine st_call hs (hc := fold_Doc w _ H p f _ hw) (k := ?_); rintro e0 W1 ⟨dq, rfl, hw1⟩; refine ⟨_, rfl, ?_⟩; clear hs hw; intro a hs; have hw := hw1; clear hw1
    rw [hf.doc] at hw
    repeat (first | (refine sxv hs hw ?_; clear hs; intro a hs) | refine sxc hs ?_ | (refine sxa hs hw ?_; clear hs hw; intro a b W hw hs) | (refine sxs hs hw ?_; clear hs hw; intro W hs hw))
    refine st_call hs (hc := doc_Get w _ dq (dN i) ⟨#[110]⟩ _ hw) (k := ?_); rw [hgd.1, hgd.2]; rintro e0 W1 ⟨rfl, hw1⟩; refine ⟨_, rfl, ?_⟩; clear hs hw; intro a hs; have hw := hw1; clear hw1
    repeat (first | (refine sxv hs hw ?_; clear hs; intro a hs) | refine sxc hs ?_ | (refine sxa hs hw ?_; clear hs hw; intro a b W hw hs) | (refine sxs hs hw ?_; clear hs hw; intro W hs hw))
    refine st_min hs (k := ?_); clear hs; intro a hs
    rw [hmin] at hs
    repeat (first | (refine sxv hs hw ?_; clear hs; intro a hs) | refine sxc hs ?_ | (refine sxa hs hw ?_; clear hs hw; intro a b W hw hs) | (refine sxs hs hw ?_; clear hs hw; intro W hs hw))
    rw [show decide ((i : Int) > 0) = decide (0 < (i : Int)) from rfl, beq_self_eq_true] at hs
    repeat (first | (refine sxv hs hw ?_; clear hs; intro a hs) | refine sxc hs ?_ | (refine sxa hs hw ?_; clear hs hw; intro a b W hw hs) | (refine sxs hs hw ?_; clear hs hw; intro W hs hw))
    rw [beq_self_eq_true] at hs
    repeat (first | (refine sxv hs hw ?_; clear hs; intro a hs) | refine sxc hs ?_ | (refine sxa hs hw ?_; clear hs hw; intro a b W hw hs) | (refine sxs hs hw ?_; clear hs hw; intro W hs hw))
    exact rt1 hs rfl rfl ⟨rfl, hw.endF (by repeat (first | exact In.hd | apply In.tl)) hH⟩
  | true =>
  rw [c2] at hs
  have g2 := of_decide_eq_true c2
  obtain ⟨x, hx⟩ : ∃ x, l[i]? = some x := ⟨l[i]'(by omega), List.getElem?_eq_getElem _⟩
  have hrH := RdH.of_rd hrl hH (by decide)
  repeat (first | (refine sxv hs hw ?_; clear hs; intro a hs) | refine sxc hs ?_ | (refine sxa hs hw ?_; clear hs hw; intro a b W hw hs) | (refine sxs hs hw ?_; clear hs hw; intro W hs hw))
  refine st_index_ch hs (r := hw.rdH (by repeat (first | exact In.hd | apply In.tl)) hrH) (hk := IntIn.len) (ch := hch) (ho := hx) (hlen := rfl) (c := ?_); clear hs; intro a g off cc hcc2 hcl hpc hlt hs
  rw [show cc = [.int .i64 x] from hcc2] at hpc
  refine st_load_at hs (hc := by have := hpc 0 _ rfl; rwa [Nat.add_zero] at this) (c := ?_); clear hs hpc; intro a hs
  repeat (first | (refine sxv hs hw ?_; clear hs; intro a hs) | refine sxc hs ?_ | (refine sxa hs hw ?_; clear hs hw; intro a b W hw hs) | (refine sxs hs hw ?_; clear hs hw; intro W hs hw))
  have hm1 := Int.tmod_lt_of_pos x (show (0 : Int) < 5 by decide)
  have hm0 : -5 < x.tmod 5 := by have := Int.tmod_lt_of_pos (-x) (show (0 : Int) < 5 by decide); rw [Int.neg_tmod] at this; omega
  have hm2 := Int.tmod_nonneg 5 (show 0 ≤ x.tmod 5 + 5 by omega)
  have hm3 := Int.tmod_lt_of_pos (x.tmod 5 + 5) (show (0 : Int) < 5 by decide)
  have hwx : IntKind.i64.wrap (x.tmod 5 + 5) = x.tmod 5 + 5 := IntWalk.i64_in _ (by omega)
  rw [hwx] at hs
  obtain ⟨c, hc⟩ : ∃ c, IntKind.i64.wrap (1 + (x.tmod 5 + 5).tmod 5) = c := ⟨_, rfl⟩
  have hc15 : 1 ≤ c ∧ c ≤ 5 := by rw [← hc, IntWalk.i64_in _ (by omega)]; omega
  rw [hc] at hs
  clear hc hm0 hm1 hm2 hm3 hwx
  obtain ⟨hb1, hb2, hq1, hq2, hskip, g, hnext, hg, hagain, hls, hlg⟩ := addF_next hf (by omega) hc15
  have hcN : (c.toNat : Int) = c := by omega
  repeat (first | (refine sxv hs hw ?_; clear hs; intro a hs) | refine sxc hs ?_ | (refine sxa hs hw ?_; clear hs hw; intro a b W hw hs) | (refine sxs hs hw ?_; clear hs hw; intro W hs hw))
  refine st_index_arr hs (h0 := by omega) (h1 := by omega) (c := ?_); clear hs; intro a hs
  repeat (first | (refine sxv hs hw ?_; clear hs; intro a hs) | refine sxc hs ?_ | (refine sxa hs hw ?_; clear hs hw; intro a b W hw hs) | (refine sxs hs hw ?_; clear hs hw; intro W hs hw))
  refine st_load_one hs (hw := hw) (hi := (by repeat (first | exact In.hd | apply In.tl))) (v := .int .i64 (lastOf f c)) (hv := by show (lsOf f)[0 + c.toNat * 1]? = _; rw [Nat.zero_add, Nat.mul_one]; exact ls_at hc15) (k := ?_); clear hs; intro a hs
  repeat (first | (refine sxv hs hw ?_; clear hs; intro a hs) | refine sxc hs ?_ | (refine sxa hs hw ?_; clear hs hw; intro a b W hw hs) | (refine sxs hs hw ?_; clear hs hw; intro W hs hw))
  rw [hq1] at hs hw
  obtain ⟨b8, q8⟩ := nm1 hw; subst q8
  obtain ⟨bo, qo⟩ := nm2 hw; subst qo
  replace hw : Has 0 w _ (Cells bo (opCells an7) 38 :: Fz H :: FoldAt H p f :: Cells b8 (batCells ⟨c, lastOf f c + 1, [an7]⟩ (.slice (some ⟨bo, 0, none⟩) 1 1)) 29 :: Cells b5 (lsOf f) 47 :: []) := hw.perm (by repeat (first | exact List.Perm.refl _ | refine perm_pick (by repeat (first | exact Pick.hd | apply Pick.tl)) ?_))
  obtain ⟨H1, hle1, hw2, hop⟩ := hw.freeze_lit (m := 1) (sz := 9) rfl (by decide)
  clear hw; have hw := hw2; clear hw2
  replace hop : OpsH H1 (.slice (some ⟨bo, 0, none⟩) 1 1) [an7] := hop
  replace hs : Slots a 122 [(0, .slice sad l.length scap), (4, .pointer (some ⟨p, 0, none⟩)), (5, .pointer (some ⟨b5, 0, none⟩)), (6, .int .i64 (i : Int)), (7, .int .i64 c), (8, .pointer (some ⟨b8, 0, none⟩))] := hs.of ⟨rfl, rfl, rfl, rfl, rfl, rfl, trivial⟩
  replace hw : Has 0 w _ (Free :: Free :: Cells b8 (batCells ⟨c, lastOf f c + 1, [an7]⟩ (.slice (some ⟨bo, 0, none⟩) 1 1)) 29 :: FoldAt H1 p f :: Cells b5 (lsOf f) 47 :: Fz H1 :: []) := (foldLe (hw.swap2) hle1).free.free.perm (by repeat (first | exact List.Perm.refl _ | refine perm_pick (by repeat (first | exact Pick.hd | apply Pick.tl)) ?_))
  refine rg_drawU (σ := Nat) (V := fun u => [.agg ⟨batCells ⟨c, lastOf f c + 1, [an7]⟩ (.slice (some ⟨bo, 0, none⟩) 1 1)⟩, .agg ⟨batCells ⟨c, lastOf f c + 1, [an7]⟩ (.slice (some ⟨bo, 0, none⟩) 1 1)⟩, .pointer (some ⟨u 2, 0, none⟩), .pointer (some ⟨u 3, 0, none⟩), undef, undef])
    (Rs := fun u D => (if D 4 then Cells (u 2) (batCells ⟨c, lastOf f c + 1, [an7]⟩ (.slice (some ⟨bo, 0, none⟩) 1 1)) 29 else if D 2 then Cells (u 2) [.int .i64 0, .int .i64 0, .slice none 0 0] 29 else Free) :: (if D 5 then Cells (u 3) (batCells ⟨c, lastOf f c + 1, [an7]⟩ (.slice (some ⟨bo, 0, none⟩) 1 1)) 29 else if D 3 then Cells (u 3) [.int .i64 0, .int .i64 0, .slice none 0 0] 29 else Free) :: Cells b8 (batCells ⟨c, lastOf f c + 1, [an7]⟩ (.slice (some ⟨bo, 0, none⟩) 1 1)) 29 :: FoldAt H1 p f :: Cells b5 (lsOf f) 47 :: Fz H1 :: []) (fun _ => 0) hs hw (hVu := ?vu_1) (ho := ⟨?_, ?_, ?c2_1, ?c3_1, ?c4_1, ?c5_1, trivial⟩) (k := ?k_1)
  case vu_1 =>
    intro u u' j h
    rcases j with _ | _ | _ | _ | _ | _ | j
    all_goals first | rfl | simp [h]
  case c2_1 =>
    intro u LD D a W hcl hi hp hs hw
    have h4 := Go.Sx.not_done hcl hi 4 (by kernel_rfl)
    simp only [hi, h4, Bool.false_eq_true, if_false] at hw
    repeat (first | (refine sxv hs hw ?_; clear hs; intro a hs) | refine sxc hs ?_ | (refine sxa hs hw ?_; clear hs hw; intro a b W hw hs) | (refine sxs hs hw ?_; clear hs hw; intro W hs hw) | ((with_reducible first | refine st_ptrSome hs (k := ?_) | refine st_ptrNone hs (k := ?_)); clear hs; intro a hs))
    obtain ⟨bx, qx⟩ := nm1 hw; subst qx
    refine Or.inr ⟨bx, hs, ?_⟩
    show Has 0 w _ ((if (Nat.beq 4 2 || D 4) = true then _ else _) :: _)
    rw [h4]
    exact hw.fill Upd.hd
  case c3_1 =>
    intro u LD D a W hcl hi hp hs hw
    have h5 := Go.Sx.not_done hcl hi 5 (by kernel_rfl)
    simp only [hi, h5, Bool.false_eq_true, if_false] at hw
    repeat (first | (refine sxv hs hw ?_; clear hs; intro a hs) | refine sxc hs ?_ | (refine sxa hs hw ?_; clear hs hw; intro a b W hw hs) | (refine sxs hs hw ?_; clear hs hw; intro W hs hw) | ((with_reducible first | refine st_ptrSome hs (k := ?_) | refine st_ptrNone hs (k := ?_)); clear hs; intro a hs))
    obtain ⟨bx, qx⟩ := nm1 hw; subst qx
    refine Or.inr ⟨bx, hs, ?_⟩
    show Has 0 w _ (_ :: (if (Nat.beq 5 3 || D 5) = true then _ else _) :: _)
    rw [h5]
    exact hw.fill (Upd.tl Upd.hd)
  case c4_1 =>
    intro u LD D a W hcl hi hp hs hw
    have h2 := Go.Sx.done hp 2 (by kernel_rfl)
    simp only [hi, h2, Bool.false_eq_true, if_false, if_true] at hw
    repeat (first | (refine sxv hs hw ?_; clear hs; intro a hs) | refine sxc hs ?_ | (refine sxa hs hw ?_; clear hs hw; intro a b W hw hs) | (refine sxs hs hw ?_; clear hs hw; intro W hs hw) | ((with_reducible first | refine st_ptrSome hs (k := ?_) | refine st_ptrNone hs (k := ?_)); clear hs; intro a hs))
    exact Or.inl ⟨hs, hw⟩
  case c5_1 =>
    intro u LD D a W hcl hi hp hs hw
    have h3 := Go.Sx.done hp 3 (by kernel_rfl)
    simp only [hi, h3, Bool.false_eq_true, if_false, if_true] at hw
    repeat (first | (refine sxv hs hw ?_; clear hs; intro a hs) | refine sxc hs ?_ | (refine sxa hs hw ?_; clear hs hw; intro a b W hw hs) | (refine sxs hs hw ?_; clear hs hw; intro W hs hw) | ((with_reducible first | refine st_ptrSome hs (k := ?_) | refine st_ptrNone hs (k := ?_)); clear hs; intro a hs))
    exact Or.inl ⟨hs, hw⟩
  case k_1 =>
    clear hs hw
    intro u a W hs hw
    replace hw : Has 0 w W (Cells (u 2) (batCells ⟨c, lastOf f c + 1, [an7]⟩ (.slice (some ⟨bo, 0, none⟩) 1 1)) 29 :: Cells (u 3) (batCells ⟨c, lastOf f c + 1, [an7]⟩ (.slice (some ⟨bo, 0, none⟩) 1 1)) 29 :: Cells b8 (batCells ⟨c, lastOf f c + 1, [an7]⟩ (.slice (some ⟨bo, 0, none⟩) 1 1)) 29 :: FoldAt H1 p f :: Cells b5 (lsOf f) 47 :: Fz H1 :: []) := hw
    replace hs : Slots a 122 [(0, .slice sad l.length scap), (4, .pointer (some ⟨p, 0, none⟩)), (5, .pointer (some ⟨b5, 0, none⟩)), (6, .int .i64 (i : Int)), (7, .int .i64 c), (8, .pointer (some ⟨b8, 0, none⟩)), (9, .pointer (some ⟨u 2, 0, none⟩)), (10, .pointer (some ⟨u 3, 0, none⟩))] := hs.of ⟨rfl, rfl, rfl, rfl, rfl, rfl, rfl, rfl, trivial⟩
    generalize u 2 = b9 at *
    generalize u 3 = b10 at *
    clear u
    have hleA := hH.trans hle1
    repeat (first | (refine sxv hs hw ?_; clear hs; intro a hs) | refine sxc hs ?_ | (refine sxa hs hw ?_; clear hs hw; intro a b W hw hs) | (refine sxs hs hw ?_; clear hs hw; intro W hs hw) | ((with_reducible first | refine st_ptrSome hs (k := ?_) | refine st_ptrNone hs (k := ?_)); clear hs; intro a hs))
    rw [hq2] at hs hw
    replace hw : Has 0 w _ (FoldAt H1 p f :: Fz H1 :: Cells b9 (batCells ⟨c, lastOf f c + 1, [an7]⟩ (.slice (some ⟨bo, 0, none⟩) 1 1)) 29 :: Cells b10 (batCells ⟨c, lastOf f c + 2, [an7]⟩ (.slice (some ⟨bo, 0, none⟩) 1 1)) 29 :: Cells b8 (batCells ⟨c, lastOf f c + 1, [an7]⟩ (.slice (some ⟨bo, 0, none⟩) 1 1)) 29 :: Cells b5 (lsOf f) 47 :: []) := (show Has 0 w _ (Cells b9 _ _ :: Cells b10 (batCells ⟨c, lastOf f c + 2, [an7]⟩ (.slice (some ⟨bo, 0, none⟩) 1 1)) 29 :: _) from hw).perm (by repeat (first | exact List.Perm.refl _ | refine perm_pick (by repeat (first | exact Pick.hd | apply Pick.tl)) ?_))
    refine st_call hs (hc := fold_Next w _ H1 p f ⟨c, lastOf f c + 2, [an7]⟩ (.slice (some ⟨bo, 0, none⟩) 1 1) _ hb2 hop hleA hT hw) (k := ?_); rw [hskip]; rintro e0 W1 ⟨sv1, H2, rfl, hle2, hsv1, hw1⟩; refine ⟨_, rfl, ?_⟩; clear hs hw; intro a hs; have hw := hw1; clear hw1
    obtain ⟨fad1, fcap1, rfl⟩ := hsv1.slice
    repeat (first | (refine sxv hs hw ?_; clear hs; intro a hs) | refine sxc hs ?_ | (refine sxa hs hw ?_; clear hs hw; intro a b W hw hs) | (refine sxs hs hw ?_; clear hs hw; intro W hs hw) | ((with_reducible first | refine st_ptrSome hs (k := ?_) | refine st_ptrNone hs (k := ?_)); clear hs; intro a hs))
    replace hw : Has 0 w _ (FoldAt H2 p f :: Fz H2 :: Cells b9 (batCells ⟨c, lastOf f c + 1, [an7]⟩ (.slice (some ⟨bo, 0, none⟩) 1 1)) 29 :: Cells b8 (batCells ⟨c, lastOf f c + 1, [an7]⟩ (.slice (some ⟨bo, 0, none⟩) 1 1)) 29 :: Cells b5 (lsOf f) 47 :: []) := hw.sel (by repeat (first | exact Sel.nil | exact Sel.refl _ | refine Sel.cons (by repeat (first | exact Pick.hd | apply Pick.tl)) ?_ | refine Sel.skip ?_))
    refine st_call hs (hc := fold_Next w _ H2 p f ⟨c, lastOf f c + 1, [an7]⟩ (.slice (some ⟨bo, 0, none⟩) 1 1) _ hb1 (RdH.le hop hle2) (hleA.trans hle2) hT hw) (k := ?_); rw [hnext]; rintro e0 W1 ⟨sv2, H3, rfl, hle3, hsv2, hw1⟩; refine ⟨_, rfl, ?_⟩; clear hs hw; intro a hs; have hw := hw1; clear hw1
    obtain ⟨fad2, fcap2, rfl⟩ := hsv2.slice
    repeat (first | (refine sxv hs hw ?_; clear hs; intro a hs) | refine sxc hs ?_ | (refine sxa hs hw ?_; clear hs hw; intro a b W hw hs) | (refine sxs hs hw ?_; clear hs hw; intro W hs hw) | ((with_reducible first | refine st_ptrSome hs (k := ?_) | refine st_ptrNone hs (k := ?_)); clear hs; intro a hs))
    obtain ⟨b13, q13⟩ := nm1 hw; subst q13
    replace hw : Has 0 w _ (FoldAt H3 p g :: Fz H3 :: Cells b13 (rowCells ⟨((i + 1 : Nat) : Int), ⟨c, lastOf f c + 1, [an7]⟩, 0⟩ (.slice fad2 [an7].length fcap2)) 32 :: Cells b9 (batCells ⟨c, lastOf f c + 1, [an7]⟩ (.slice (some ⟨bo, 0, none⟩) 1 1)) 29 :: Cells b5 (lsOf f) 47 :: []) := hw.sel (by repeat (first | exact Sel.nil | exact Sel.refl _ | refine Sel.cons (by repeat (first | exact Pick.hd | apply Pick.tl)) ?_ | refine Sel.skip ?_))
    refine st_call hs (hc := fold_Next w _ H3 p g ⟨c, lastOf f c + 1, [an7]⟩ (.slice (some ⟨bo, 0, none⟩) 1 1) _ hb1 (RdH.le hop (hle2.trans hle3)) ((hleA.trans hle2).trans hle3) hT hw) (k := ?_); rw [hagain]; rintro e0 W1 ⟨sv3, H4, rfl, hle4, hsv3, hw1⟩; refine ⟨_, rfl, ?_⟩; clear hs hw; intro a hs; have hw := hw1; clear hw1
    obtain ⟨fad3, fcap3, rfl⟩ := hsv3.slice
    repeat (first | (refine sxv hs hw ?_; clear hs; intro a hs) | refine sxc hs ?_ | (refine sxa hs hw ?_; clear hs hw; intro a b W hw hs) | (refine sxs hs hw ?_; clear hs hw; intro W hs hw) | ((with_reducible first | refine st_ptrSome hs (k := ?_) | refine st_ptrNone hs (k := ?_)); clear hs; intro a hs))
    replace hw : Has 0 w _ (FoldAt H4 p g :: Fz H4 :: Cells b13 (rowCells ⟨((i + 1 : Nat) : Int), ⟨c, lastOf f c + 1, [an7]⟩, 0⟩ (.slice fad2 [an7].length fcap2)) 32 :: Cells b5 (lsOf f) 47 :: []) := hw.sel (by repeat (first | exact Sel.nil | exact Sel.refl _ | refine Sel.cons (by repeat (first | exact Pick.hd | apply Pick.tl)) ?_ | refine Sel.skip ?_))
    refine st_index_arr hs (h0 := by omega) (h1 := by omega) (c := ?_); clear hs; intro a hs
    rw [show 0 + c.toNat * [Value.int .i64 0].length = c.toNat from by show 0 + c.toNat * 1 = _; omega] at hs
    repeat (first | (refine sxv hs hw ?_; clear hs; intro a hs) | refine sxc hs ?_ | (refine sxa hs hw ?_; clear hs hw; intro a b W hw hs) | (refine sxs hs hw ?_; clear hs hw; intro W hs hw) | ((with_reducible first | refine st_ptrSome hs (k := ?_) | refine st_ptrNone hs (k := ?_)); clear hs; intro a hs))
    refine st_load_one hs (hw := hw) (hi := (by repeat (first | exact In.hd | apply In.tl))) (v := .int .i64 (lastOf f c)) (hv := ls_at hc15) (k := ?_); clear hs; intro a hs
    repeat (first | (refine sxv hs hw ?_; clear hs; intro a hs) | refine sxc hs ?_ | (refine sxa hs hw ?_; clear hs hw; intro a b W hw hs) | (refine sxs hs hw ?_; clear hs hw; intro W hs hw) | ((with_reducible first | refine st_ptrSome hs (k := ?_) | refine st_ptrNone hs (k := ?_)); clear hs; intro a hs))
    rw [hq1] at hs
    refine st_index_arr hs (h0 := by omega) (h1 := by omega) (c := ?_); clear hs; intro a hs
    rw [show 0 + c.toNat * [Value.int .i64 0].length = c.toNat from by show 0 + c.toNat * 1 = _; omega] at hs
    replace hw : Has 0 w _ (Cells b5 (lsOf f) 47 :: FoldAt H4 p g :: Fz H4 :: Cells b13 (rowCells ⟨((i + 1 : Nat) : Int), ⟨c, lastOf f c + 1, [an7]⟩, 0⟩ (.slice fad2 [an7].length fcap2)) 32 :: []) := hw.perm (by repeat (first | exact List.Perm.refl _ | refine perm_pick (by repeat (first | exact Pick.hd | apply Pick.tl)) ?_))
    have hbl : Nat.ble (c.toNat + [Value.int .i64 (lastOf f c + 1)].length) (lsOf f).length = true := by
      rw [Nat.ble_eq]
      show _ + 1 ≤ 6
      omega
    refine st_store hs (hw := hw) (hu := Upd.hd) (hl := hbl) (k := ?_); clear hs hw; intro W hs hw
    rw [show ov (lsOf f) c.toNat _ = lsOf g from hls] at hw
    replace hs : Slots a 122 [(0, .slice sad l.length scap), (4, .pointer (some ⟨p, 0, none⟩)), (5, .pointer (some ⟨b5, 0, none⟩)), (6, .int .i64 (i : Int)), (7, .int .i64 c), (12, .bool false), (13, .pointer (some ⟨b13, 0, none⟩)), (14, .bool true), (16, .bool false)] := hs.of ⟨rfl, rfl, rfl, rfl, rfl, rfl, rfl, rfl, rfl, trivial⟩
    have hi1 : IntKind.i64.wrap ((i : Int) + 1) = ((i + 1 : Nat) : Int) := by rw [IntWalk.i64_in _ (by omega)]; omega
    repeat (first | (refine sxv hs hw ?_; clear hs; intro a hs) | refine sxc hs ?_ | (refine sxa hs hw ?_; clear hs hw; intro a b W hw hs) | (refine sxs hs hw ?_; clear hs hw; intro W hs hw) | ((with_reducible first | refine st_ptrSome hs (k := ?_) | refine st_ptrNone hs (k := ?_)); clear hs; intro a hs))
    refine rg_draw (V := [.bool false, .bool false, .bool true, .bool false, .bool false, .bool false, .bool false, .bool false, .bool false, .pointer (some ⟨b13, 0 + 0, none⟩), .int .i64 ((i + 1 : Nat) : Int), .int .i64 (i : Int), .int .i64 ((i + 1 : Nat) : Int), .bool false, .bool false, .bool false, .pointer (some ⟨p, 0, none⟩), .int .i64 c, .int .i64 (lastOf f c + 1), .int .i64 c, .pointer (some ⟨b5, c.toNat, none⟩), .int .i64 (lastOf f c + 1), .bool false, .bool false])
      (Rs := fun D => Cells b5 (lsOf g) 47 :: FoldAt H4 p g :: Fz H4 :: Cells b13 (rowCells ⟨((i + 1 : Nat) : Int), ⟨c, lastOf f c + 1, [an7]⟩, 0⟩ (.slice fad2 [an7].length fcap2)) 32 :: []) hs hw (ho := ⟨?_, ?_, ?_, ?_, ?_, ?_, ?_, ?_, ?_, ?_, ?_, ?_, ?d12_c, ?d13_c, ?_, ?_, ?_, ?_, ?d18_c, ?_, ?d20_c, ?d21_c, ?d22_c, ?_, trivial⟩) (k := ?kd_c)
    case d12_c =>
      intro LD D a W hcl hi hp hs hw
      repeat (first | (refine sxv hs hw ?_; clear hs; intro a hs) | refine sxc hs ?_ | (refine sxa hs hw ?_; clear hs hw; intro a b W hw hs) | (refine sxs hs hw ?_; clear hs hw; intro W hs hw) | ((with_reducible first | refine st_ptrSome hs (k := ?_) | refine st_ptrNone hs (k := ?_)); clear hs; intro a hs))
      rw [hi1] at hs
      exact ⟨hs, hw⟩
    case d13_c =>
      intro LD D a W hcl hi hp hs hw
      repeat (first | (refine sxv hs hw ?_; clear hs; intro a hs) | refine sxc hs ?_ | (refine sxa hs hw ?_; clear hs hw; intro a b W hw hs) | (refine sxs hs hw ?_; clear hs hw; intro W hs hw) | ((with_reducible first | refine st_ptrSome hs (k := ?_) | refine st_ptrNone hs (k := ?_)); clear hs; intro a hs))
      rw [bne_self_eq_false] at hs
      exact ⟨hs, hw⟩
    case d18_c =>
      intro LD D a W hcl hi hp hs hw
      repeat (first | (refine sxv hs hw ?_; clear hs; intro a hs) | refine sxc hs ?_ | (refine sxa hs hw ?_; clear hs hw; intro a b W hw hs) | (refine sxs hs hw ?_; clear hs hw; intro W hs hw) | ((with_reducible first | refine st_ptrSome hs (k := ?_) | refine st_ptrNone hs (k := ?_)); clear hs; intro a hs))
      replace hw := hw.swap2
      refine st_call hs (hc := fold_Last w _ H4 p g c _ hw) (k := ?_); rw [hlg]; rintro e0 W1 ⟨rfl, hw1⟩; refine ⟨_, rfl, ?_⟩; clear hs hw; intro a hs; have hw := hw1.swap2; clear hw1
      repeat (first | (refine sxv hs hw ?_; clear hs; intro a hs) | refine sxc hs ?_ | (refine sxa hs hw ?_; clear hs hw; intro a b W hw hs) | (refine sxs hs hw ?_; clear hs hw; intro W hs hw) | ((with_reducible first | refine st_ptrSome hs (k := ?_) | refine st_ptrNone hs (k := ?_)); clear hs; intro a hs))
      exact ⟨hs, hw⟩
    case d20_c =>
      intro LD D a W hcl hi hp hs hw
      repeat (first | (refine sxv hs hw ?_; clear hs; intro a hs) | refine sxc hs ?_ | (refine sxa hs hw ?_; clear hs hw; intro a b W hw hs) | (refine sxs hs hw ?_; clear hs hw; intro W hs hw) | ((with_reducible first | refine st_ptrSome hs (k := ?_) | refine st_ptrNone hs (k := ?_)); clear hs; intro a hs))
      refine st_index_arr hs (h0 := by omega) (h1 := by omega) (c := ?_); clear hs; intro a hs
      rw [show 0 + c.toNat * [Value.int .i64 0].length = c.toNat from by show 0 + c.toNat * 1 = _; omega] at hs
      repeat (first | (refine sxv hs hw ?_; clear hs; intro a hs) | refine sxc hs ?_ | (refine sxa hs hw ?_; clear hs hw; intro a b W hw hs) | (refine sxs hs hw ?_; clear hs hw; intro W hs hw) | ((with_reducible first | refine st_ptrSome hs (k := ?_) | refine st_ptrNone hs (k := ?_)); clear hs; intro a hs))
      exact ⟨hs, hw⟩
    case d21_c =>
      intro LD D a W hcl hi hp hs hw
      repeat (first | (refine sxv hs hw ?_; clear hs; intro a hs) | refine sxc hs ?_ | (refine sxa hs hw ?_; clear hs hw; intro a b W hw hs) | (refine sxs hs hw ?_; clear hs hw; intro W hs hw) | ((with_reducible first | refine st_ptrSome hs (k := ?_) | refine st_ptrNone hs (k := ?_)); clear hs; intro a hs))
      refine st_load_one hs (hw := hw) (hi := In.hd) (v := .int .i64 (lastOf f c + 1)) (hv := by rw [← hlg]; exact ls_at hc15) (k := ?_); clear hs; intro a hs
      repeat (first | (refine sxv hs hw ?_; clear hs; intro a hs) | refine sxc hs ?_ | (refine sxa hs hw ?_; clear hs hw; intro a b W hw hs) | (refine sxs hs hw ?_; clear hs hw; intro W hs hw) | ((with_reducible first | refine st_ptrSome hs (k := ?_) | refine st_ptrNone hs (k := ?_)); clear hs; intro a hs))
      exact ⟨hs, hw⟩
    case d22_c =>
      intro LD D a W hcl hi hp hs hw
      repeat (first | (refine sxv hs hw ?_; clear hs; intro a hs) | refine sxc hs ?_ | (refine sxa hs hw ?_; clear hs hw; intro a b W hw hs) | (refine sxs hs hw ?_; clear hs hw; intro W hs hw) | ((with_reducible first | refine st_ptrSome hs (k := ?_) | refine st_ptrNone hs (k := ?_)); clear hs; intro a hs))
      rw [bne_self_eq_false] at hs
      exact ⟨hs, hw⟩
    case kd_c =>
      clear hs hw
      intro a W hs hw
      replace hs : Slots a 122 [(102, .bool false), (0, .slice sad l.length scap), (4, .pointer (some ⟨p, 0, none⟩)), (5, .pointer (some ⟨b5, 0, none⟩)), (6, .int .i64 (i : Int))] := hs.of ⟨rfl, rfl, rfl, rfl, rfl, trivial⟩
      repeat (first | (refine sxv hs hw ?_; clear hs; intro a hs) | refine sxc hs ?_ | (refine sxa hs hw ?_; clear hs hw; intro a b W hw hs) | (refine sxs hs hw ?_; clear hs hw; intro W hs hw) | ((with_reducible first | refine st_ptrSome hs (k := ?_) | refine st_ptrNone hs (k := ?_)); clear hs; intro a hs))
      replace hw : Has 0 w _ (FoldAt H4 p g :: Cells b5 (lsOf g) 47 :: Fz H4 :: []) := hw.sel (by repeat (first | exact Sel.nil | exact Sel.refl _ | refine Sel.cons (by repeat (first | exact Pick.hd | apply Pick.tl)) ?_ | refine Sel.skip ?_))
      exact st_again (i + 1, g, H4) hs hw ⟨by show i + 1 ≤ _; omega, by show i + 1 ≤ 60; omega, hg, ((hleA.trans hle2).trans hle3).trans hle4⟩ (by show l.length - (i + 1) < l.length - i; omega) ⟨rfl, rfl, rfl, int_eq hi1, trivial⟩
    all_goals
      intro LD D a W hcl hi hp hs hw
      repeat (first | (refine sxv hs hw ?_; clear hs; intro a hs) | refine sxc hs ?_ | (refine sxa hs hw ?_; clear hs hw; intro a b W hw hs) | (refine sxs hs hw ?_; clear hs hw; intro W hs hw) | ((with_reducible first | refine st_ptrSome hs (k := ?_) | refine st_ptrNone hs (k := ?_)); clear hs; intro a hs))
      exact ⟨hs, hw⟩
  all_goals
    intro u LD D a W hcl hi hp hs hw
    repeat (first | (refine sxv hs hw ?_; clear hs; intro a hs) | refine sxc hs ?_ | (refine sxa hs hw ?_; clear hs hw; intro a b W hw hs) | (refine sxs hs hw ?_; clear hs hw; intro W hs hw) | ((with_reducible first | refine st_ptrSome hs (k := ?_) | refine st_ptrNone hs (k := ?_)); clear hs; intro a hs))
    exact Or.inl ⟨hs, hw⟩
end Go.Proofs.YtmalklakaalaoaaDoor.Sw
