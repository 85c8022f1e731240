/-
  Texts of the proof, one behind the other (part 10).
-/
import Derived.Test.YtcfaicomnngegaaDoorM9
/-
  The walk of JudgeOne.
-/
set_option linter.unusedVariables false
set_option maxRecDepth 10000
namespace Go.Sx
open Go.RowKit
theorem In.of_mem {r : Res} : ∀ {L : List Res}, r ∈ L → In r L
  | q :: L, h => by
    rcases List.mem_cons.1 h with rfl | h
    · exact In.hd
    · exact In.tl (In.of_mem h)
theorem keepB {w W : World} {p : Fh → Prop} {b : Bool} (h : Has 0 w W ((if b = true then Ex (fun H => Fz H :: Fact ((fr w).le H ∧ p H) :: []) else Fz (fr w)) :: [])) : Below w.heap.size w W := by
  cases b with
  | false => exact h.endF In.hd (Fh.le.refl _)
  | true =>
    have h : Has 0 w W (Ex (fun H => Fz H :: Fact ((fr w).le H ∧ p H) :: []) :: []) := h
    obtain ⟨H, h⟩ := Has.open h
    have h : Has 0 w W (Fz H :: Fact ((fr w).le H ∧ p H) :: []) := h
    have h2 := h.told (In.tl In.hd)
    exact h.endF In.hd h2.1
theorem keepP {w W : World} {p : Fh → Prop} {b : Bool} (h : Has 0 w W ((if b = true then Ex (fun H => Fz H :: Fact ((fr w).le H ∧ p H) :: []) else Fz (fr w)) :: [])) (hb : b = true) : ∃ H, p H ∧ Has 0 w W (Fz H :: []) := by
  subst hb
  have h : Has 0 w W (Ex (fun H => Fz H :: Fact ((fr w).le H ∧ p H) :: []) :: []) := h
  obtain ⟨H, h⟩ := Has.open h
  have h : Has 0 w W (Fz H :: Fact ((fr w).le H ∧ p H) :: []) := h
  have h2 := h.told (In.tl In.hd)
  exact ⟨H, h2.2, h.sub (List.Sublist.cons_cons _ (List.Sublist.cons _ (List.Sublist.refl _)))⟩
theorem frLe {w W : World} (h : Below w.heap.size w W) : (fr w).le (fr W) := fun b o hb => by
  have hlt : b < w.heap.size := (Array.getElem?_eq_some_iff.1 hb).1
  exact (h.block b hlt).trans hb
theorem keepNew {w W : World} {p : Fh → Prop} (h : Below w.heap.size w W) (hp : p (fr W)) : Has 0 w W (Ex (fun H => Fz H :: Fact ((fr w).le H ∧ p H) :: []) :: []) := by
  have h1 : Has 0 w W (Fz (fr W) :: []) := ((Has.startF w).below h).trans (Has.startF W)
  exact Has.shut (Ls := fun H => Fz H :: Fact ((fr w).le H ∧ p H) :: []) (fr W) ((h1.fact (p := (fr w).le (fr W) ∧ p (fr W)) ⟨frLe h, hp⟩).perm (List.Perm.swap _ _ _))
theorem perm_pull {α β : Type} (f : α → β) : ∀ {l : List α} {i : Nat} {x : α}, l[i]? = some x → (l.map f).Perm (f x :: (l.eraseIdx i).map f)
  | y :: l, 0, x, h => by
    obtain rfl : y = x := by simpa using h
    exact List.Perm.refl _
  | y :: l, i + 1, x, h => ((perm_pull f (l := l) (i := i) (by simpa using h)).cons _).trans (List.Perm.swap _ _ _)
theorem erase_set {α : Type} : ∀ {l : List α} {i : Nat} {x : α}, (l.set i x).eraseIdx i = l.eraseIdx i
  | [], _, _ => rfl
  | y :: l, 0, x => rfl
  | y :: l, i + 1, x => by simp [erase_set]
end Go.Sx
namespace Go.Proofs.YtcfaicomnngegaaDoor.Sw
open Go.RowKit Go.Sx

/-- A list of rows of one's own. -/
structure Cp where
  rs : List RowD
  ad : Option Addr
  cap : Nat
  xs : List Value
def Cp.v (c : Cp) : Value := .slice c.ad c.rs.length c.cap
def Cp.r (c : Cp) : Res := Sx.Own 36 5 c.v c.rs.length c.xs
def Cp.ok (H : Fh) (c : Cp) : Prop := Ch (RowIn H) c.rs c.xs
def CpC (c : Cp) (cs : List Value) : Prop := cs = [c.v]
theorem CpC.len : ∀ (c : Cp) (cs : List Value), CpC c cs → cs.length = 1 := by rintro c cs rfl; rfl
theorem cpCh : ∀ cs : List Cp, Ch CpC cs (cs.map Cp.v)
  | [] => rfl
  | c :: cs => ⟨[c.v], cs.map Cp.v, rfl, rfl, cpCh cs⟩
theorem cpsRd {w0 W : World} {L : List Res} {H : Fh} {v : Value} {cs : List Cp} (h : Has 0 w0 W L) (i : In (Sx.Own 25 1 v cs.length (cs.map Cp.v)) L) (i2 : In (Fz H) L) (hm : ∀ c ∈ cs, In c.r L) (hk : ∀ c ∈ cs, c.ok H) : ListsRd W v (cs.map Cp.rs) := by
  refine ⟨cs.map Cp.v, by rw [List.length_map]; exact h.rd_own i, ?_⟩
  have key : ∀ l : List Cp, (∀ c ∈ l, c ∈ cs) → Ch (ListRd W) (l.map Cp.rs) (l.map Cp.v) := by
    intro l
    induction l with
    | nil => intro _; rfl
    | cons c l ih =>
      intro hl
      have hc := hl c (by simp)
      exact ⟨[c.v], l.map Cp.v, rfl, ⟨c.v, rfl, c.xs, h.rd_own (hm c hc), rowRd h i2 (hk c hc)⟩, ih fun c' hc' => hl c' (by simp [hc'])⟩
  exact key cs fun c hc => hc
theorem cpsRd' {w0 W : World} {H : Fh} {v : Value} {cs : List Cp} (h : Has 0 w0 W (Sx.Own 25 1 v cs.length (cs.map Cp.v) :: Fz H :: cs.map Cp.r)) (hk : ∀ c ∈ cs, c.ok H) : ListsRd W v (cs.map Cp.rs) :=
  cpsRd h In.hd (In.tl In.hd) (fun c hc => In.tl (In.tl (In.of_mem (List.mem_map_of_mem hc)))) hk
theorem one_takes {rows : List RowD} {ls : List (List RowD)} (h : ∀ l ∈ ls, ∃ k, l = rows.take k) : oneB ls = true := by
  refine oneB_yes fun i hi k hk => ?_
  have hk' : k < ls.length := by omega
  obtain ⟨p, hp⟩ := h ls[i] (List.getElem_mem hi)
  obtain ⟨q, hq⟩ := h ls[k] (List.getElem_mem hk')
  refine fr2_of (List.getElem?_eq_getElem hi) (List.getElem?_eq_getElem hk') ?_
  rw [hp, hq]
  have key : ∀ p q : Nat, p ≤ q → front (rows.take p) (rows.take q) = true := fun p q hpq => by
    rw [front_iff, List.length_take, List.take_take]
    rcases Nat.le_total p rows.length with h1 | h1
    · rw [Nat.min_eq_left h1, Nat.min_eq_left hpq]
    · rw [Nat.min_eq_right h1, List.take_of_length_le h1, Nat.min_eq_left (by omega), List.take_length]
  rcases Nat.le_total p q with h1 | h1
  · exact .inl (key p q h1)
  · exact .inr (key q p h1)
theorem longL_mem : ∀ (ls : List (List RowD)), longL ls = [] ∨ longL ls ∈ ls := by
  have key : ∀ (ls : List (List RowD)) (b : List RowD), ls.foldl longer b = b ∨ ls.foldl longer b ∈ ls := by
    intro ls
    induction ls with
    | nil => intro b; exact .inl rfl
    | cons x ls ih =>
      intro b
      rcases ih (longer b x) with h | h
      · simp only [List.foldl_cons, h]
        unfold longer
        split
        · exact .inr (by simp)
        · exact .inl rfl
      · exact .inr (List.mem_cons_of_mem _ h)
  intro ls; exact key ls []
theorem rem_in {x n : Int} (h0 : 0 < n) (h1 : n ≤ 100) : 0 ≤ (IntKind.i64.wrap (x.tmod n + n)).tmod n ∧ (IntKind.i64.wrap (x.tmod n + n)).tmod n < n := by
  have a1 := Int.tmod_lt_of_pos x h0
  have a2 : -n < x.tmod n := by
    have := Int.lt_tmod_of_pos x h0
    omega
  rw [IntWalk.i64_in _ (by omega)]
  exact ⟨Int.tmod_nonneg _ (by omega), Int.tmod_lt_of_pos _ h0⟩

set_option maxHeartbeats 32000000 in
theorem walk_JudgeOne (l : List BatchD) (v : Value) (cuts : List Int) (cv : Value) (which spoil : Int) (w : World) (hb : ∀ b ∈ l, BatWf b) (hr : BatsRd w v l) (hcw : ∀ k ∈ cuts, (Lit.int .i64 k).wf = true) (hcr : IntsRd w cv cuts) (hwh : (Lit.int .i64 which).wf = true) (hsp : (Lit.int .i64 spoil).wf = true) (hT : Tabs w) :
    Calls Tryd.prog 3 ⟨[v, cv, .int .i64 which, .int .i64 spoil]⟩ w fun e w' => e = .returned (.bool true) ∧ Below w.heap.size w w' := by
  have hw := Has.startF w
  obtain ⟨cxs, hcr, hcch⟩ := hcr
  obtain ⟨cad, ccap, rfl⟩ := Rd.sl hcr
  have hclen := hcr.len
  have hcH := RdH.of_rd hcr (Fh.le.refl _) (by decide)
  refine enter Tryd.func3 Tryd.ntmps3 rfl rfl fun a hs => ?_
  repeat (first | (refine sxv hs hw ?_; clear hs; intro a hs) | refine sxc hs ?_ | (refine sxa hs hw ?_; clear hs hw; intro a b W hw hs) | (refine sxs hs hw ?_; clear hs hw; intro W hs hw))
  refine st_call hs (hc := law28_begun _ hT) (k := ?_); rintro e0 W1 ⟨rfl, hb⟩; refine ⟨_, rfl, ?_⟩; clear hs; intro a hs; replace hw := hw.below hb; clear hb
  repeat (first | (refine sxv hs hw ?_; clear hs; intro a hs) | refine sxc hs ?_ | (refine sxa hs hw ?_; clear hs hw; intro a b W hw hs) | (refine sxs hs hw ?_; clear hs hw; intro W hs hw))
  refine st_call hs (hc := law21_Rows w _ (fr w) l v _ hb hr.h hw) (k := ?_); rintro e0 W1 ⟨xv, H1, rfl, hle1, hx, hw1⟩; refine ⟨_, rfl, ?_⟩; clear hs hw; intro a hs; have hw := hw1; clear hw1
  have hx40 := (rows_play l).2
  have hx8 := rows_8 l
  generalize rowsOf l = rows at *
  obtain ⟨xad, xcap, rfl⟩ := hx.sl
  obtain ⟨xs, hxr, hxc⟩ := hx
  repeat (first | (refine sxv hs hw ?_; clear hs; intro a hs) | refine sxn hs ?_ | (refine sxa hs hw ?_; clear hs hw; intro a b W hw hs) | (refine sxs hs hw ?_; clear hs hw; intro W hs hw))
  refine sq ?_
  refine merge (M := fun a W => ∃ (cs : List Cp) (best : Nat) (ad : Option Addr) (cap : Nat), cs.length ≤ 8 ∧ (∀ c ∈ cs, c.ok H1 ∧ ∃ k, c.rs = rows.take k) ∧ (cs = [] ∨ (cs.map Cp.rs)[best]? = some (longL (cs.map Cp.rs))) ∧ Slots a 145 [(2, .int .i64 which), (3, .int .i64 spoil), (11, .slice ad cs.length cap), (12, .int .i64 (best : Int))] ∧ Has 0 w W (Sx.Own 25 1 (.slice ad cs.length cap) cs.length (cs.map Cp.v) :: Fz H1 :: cs.map Cp.r)) ?_ ?_
  · have hw := hw.nilOwn 25 1
    repeat (first | (refine sxv hs hw ?_; clear hs; intro a hs) | refine sxc hs ?_ | (refine sxa hs hw ?_; clear hs hw; intro a b W hw hs) | (refine sxs hs hw ?_; clear hs hw; intro W hs hw))
    refine st_loop (σ := Nat × Nat × List Cp × Option Addr × Nat) (fun t => [(1, .slice cad cuts.length ccap), (2, .int .i64 which), (3, .int .i64 spoil), (10, .slice xad rows.length xcap), (11, .slice t.2.2.2.1 t.2.2.1.length t.2.2.2.2), (12, .int .i64 (t.2.1 : Int)), (13, .int .i64 (t.1 : Int))]) (fun t => Sx.Own 25 1 (.slice t.2.2.2.1 t.2.2.1.length t.2.2.2.2) t.2.2.1.length (t.2.2.1.map Cp.v) :: Fz H1 :: t.2.2.1.map Cp.r) (fun t => t.1 ≤ cuts.length ∧ t.1 ≤ 8 ∧ t.2.2.1.length = t.1 ∧ (∀ c ∈ t.2.2.1, c.ok H1 ∧ ∃ k, c.rs = rows.take k) ∧ (t.1 = 0 ∧ t.2.1 = 0 ∨ (t.2.2.1.map Cp.rs)[t.2.1]? = some (longL (t.2.2.1.map Cp.rs)))) (fun t => cuts.length - t.1) (0, 0, [], none, 0) ⟨Nat.zero_le _, Nat.zero_le _, rfl, by simp, .inl ⟨rfl, rfl⟩⟩ hs ⟨rfl, rfl, rfl, rfl, rfl, rfl, rfl, trivial⟩ hw ?_
    clear hs hw
    rintro ⟨j, best, cs, oad, ocap⟩ a W ⟨hj, hj8, hlenj, hok, hbest⟩ hs hw
    simp only at hj hj8 hlenj hok hbest hs hw
    have hex : cs = [] ∨ (cs.map Cp.rs)[best]? = some (longL (cs.map Cp.rs)) := by
      rcases hbest with ⟨rfl, _⟩ | h
      · exact .inl (List.eq_nil_of_length_eq_zero hlenj)
      · exact .inr h
    repeat (first | (refine sxv hs hw ?_; clear hs; intro a hs) | refine sxc hs ?_ | (refine sxa hs hw ?_; clear hs hw; intro a b W hw hs) | (refine sxs hs hw ?_; clear hs hw; intro W hs hw))
    cases hc1 : decide ((j : Int) < (cuts.length : Int)) with
    | false =>
      rw [hc1] at hs
      repeat (first | (refine sxv hs hw ?_; clear hs; intro a hs) | refine sxc hs ?_ | (refine sxa hs hw ?_; clear hs hw; intro a b W hw hs) | (refine sxs hs hw ?_; clear hs hw; intro W hs hw))
      exact ⟨cs, best, oad, ocap, by omega, hok, hex, hs.of ⟨rfl, rfl, rfl, rfl, trivial⟩, hw⟩
    | true =>
    rw [hc1] at hs
    have hj' : j < cuts.length := by have := of_decide_eq_true hc1; omega
    repeat (first | (refine sxv hs hw ?_; clear hs; intro a hs) | refine sxc hs ?_ | (refine sxa hs hw ?_; clear hs hw; intro a b W hw hs) | (refine sxs hs hw ?_; clear hs hw; intro W hs hw))
    cases hc2 : decide ((j : Int) < 8) with
    | false =>
      rw [hc2] at hs
      repeat (first | (refine sxv hs hw ?_; clear hs; intro a hs) | refine sxc hs ?_ | (refine sxa hs hw ?_; clear hs hw; intro a b W hw hs) | (refine sxs hs hw ?_; clear hs hw; intro W hs hw))
      exact ⟨cs, best, oad, ocap, by omega, hok, hex, hs.of ⟨rfl, rfl, rfl, rfl, trivial⟩, hw⟩
    | true =>
    rw [hc2] at hs
    have hjn' : j < 8 := by have := of_decide_eq_true hc2; omega
    obtain ⟨x0, hxi⟩ : ∃ o, cuts[j]? = some o := ⟨cuts[j], List.getElem?_eq_getElem hj'⟩
    repeat (first | (refine sxv hs hw ?_; clear hs; intro a hs) | refine sxn hs ?_ | (refine sxa hs hw ?_; clear hs hw; intro a b W hw hs) | (refine sxs hs hw ?_; clear hs hw; intro W hs hw))
    refine sq ?_
    repeat (first | (refine sxv hs hw ?_; clear hs; intro a hs) | refine sxn hs ?_ | (refine sxa hs hw ?_; clear hs hw; intro a b W hw hs) | (refine sxs hs hw ?_; clear hs hw; intro W hs hw))
    refine sq ?_
    refine merge (M := fun a W => ∃ m : Nat, m ≤ rows.length ∧ Slots a 145 [(14, .int .i64 (m : Int)), (1, .slice cad cuts.length ccap), (2, .int .i64 which), (3, .int .i64 spoil), (10, .slice xad rows.length xcap), (11, .slice oad cs.length ocap), (12, .int .i64 (best : Int)), (13, .int .i64 (j : Int))] ∧ Has 0 w W (Sx.Own 25 1 (.slice oad cs.length ocap) cs.length (cs.map Cp.v) :: Fz H1 :: cs.map Cp.r)) ?_ ?_
    · repeat (first | (refine sxv hs hw ?_; clear hs; intro a hs) | refine sxc hs ?_ | (refine sxa hs hw ?_; clear hs hw; intro a b W hw hs) | (refine sxs hs hw ?_; clear hs hw; intro W hs hw))
      cases hc3 : decide ((rows.length : Int) > 0) with
      | false =>
        rw [hc3] at hs
        repeat (first | (refine sxv hs hw ?_; clear hs; intro a hs) | refine sxc hs ?_ | (refine sxa hs hw ?_; clear hs hw; intro a b W hw hs) | (refine sxs hs hw ?_; clear hs hw; intro W hs hw))
        exact ⟨0, Nat.zero_le _, hs.of ⟨rfl, rfl, rfl, rfl, rfl, rfl, rfl, rfl, trivial⟩, hw⟩
      | true =>
        rw [hc3] at hs
        repeat (first | (refine sxv hs hw ?_; clear hs; intro a hs) | refine sxc hs ?_ | (refine sxa hs hw ?_; clear hs hw; intro a b W hw hs) | (refine sxs hs hw ?_; clear hs hw; intro W hs hw))
        refine st_index_ch hs (r := hw.rdH (In.tl In.hd) (hcH.le hle1)) (hk := IntIn.len) (ch := hcch) (ho := hxi) (hlen := rfl) (c := ?_); clear hs; intro a g off c hc hcl hpc hlt hs
        obtain rfl := hc
        refine st_load_at hs (hc := hpc 0 _ rfl) (c := ?_); clear hs; intro a hs
        clear hpc
        repeat (first | (refine sxv hs hw ?_; clear hs; intro a hs) | refine sxc hs ?_ | (refine sxa hs hw ?_; clear hs hw; intro a b W hw hs) | (refine sxs hs hw ?_; clear hs hw; intro W hs hw))
        have e1 : IntKind.i64.wrap ((rows.length : Int) + 1) = ((rows.length + 1 : Nat) : Int) := by rw [IntWalk.i64_in _ (by omega)]; omega
        rw [e1] at hs
        refine st_idiv hs (hne := by simp; omega) (k := ?_); clear hs; intro a hs
        repeat (first | (refine sxv hs hw ?_; clear hs; intro a hs) | refine sxc hs ?_ | (refine sxa hs hw ?_; clear hs hw; intro a b W hw hs) | (refine sxs hs hw ?_; clear hs hw; intro W hs hw))
        rw [e1] at hs
        have hri := rem_in (x := x0) (n := ((rows.length + 1 : Nat) : Int)) (by omega) (by omega)
        have e2 : IntKind.i64.wrap (IntKind.i64.wrap (x0.tmod ((rows.length + 1 : Nat) : Int) + (rows.length : Int)) + 1) = IntKind.i64.wrap (x0.tmod ((rows.length + 1 : Nat) : Int) + ((rows.length + 1 : Nat) : Int)) := by
          have a1 := Int.tmod_lt_of_pos x0 (b := ((rows.length + 1 : Nat) : Int)) (by omega)
          have a2 := Int.lt_tmod_of_pos x0 (b := ((rows.length + 1 : Nat) : Int)) (by omega)
          rw [IntWalk.i64_in (x0.tmod ((rows.length + 1 : Nat) : Int) + (rows.length : Int)) (by omega)]
          congr 1; omega
        rw [e2] at hs
        refine st_idiv hs (hne := by simp; omega) (k := ?_); clear hs; intro a hs
        obtain ⟨m, hm⟩ := Int.eq_ofNat_of_zero_le hri.1
        rw [hm] at hs
        repeat (first | (refine sxv hs hw ?_; clear hs; intro a hs) | refine sxc hs ?_ | (refine sxa hs hw ?_; clear hs hw; intro a b W hw hs) | (refine sxs hs hw ?_; clear hs hw; intro W hs hw))
        exact ⟨m, by have := hri.2; omega, hs.of ⟨rfl, rfl, rfl, rfl, rfl, rfl, rfl, rfl, trivial⟩, hw⟩
    clear hs hw
    rintro a W ⟨m, hm, hs, hw⟩
    repeat (first | (refine sxv hs hw ?_; clear hs; intro a hs) | refine sxc hs ?_ | (refine sxa hs hw ?_; clear hs hw; intro a b W hw hs) | (refine sxs hs hw ?_; clear hs hw; intro W hs hw))
    refine st_slice_hi (z := zrc) hs (r := hw.rdH (In.tl In.hd) hxr) (i := (m : Int)) (h0 := by omega) (h1 := by omega) (c := ?_); clear hs; intro a sad scap hsr hs
    have hml : (rows.take m).length = m := by rw [List.length_take]; omega
    have hsr' : Rd W 5 (.slice sad m scap) m (xs.take (m * 5)) := hsr
    replace hs : Slots a 145 ((54, .slice sad m scap) :: _) := hs
    have hxc' := hxc.take RowIn.len m
    repeat (first | (refine sxv hs hw ?_; clear hs; intro a hs) | refine sxc hs ?_ | (refine sxa hs hw ?_; clear hs hw; intro a b W hw hs) | (refine sxs hs hw ?_; clear hs hw; intro W hs hw))
    have hw := hw.nilOwn 36 5
    refine st_append hs (hw := hw) (k := 0) (m := m) (xs := []) (news := xs.take (m * 5)) (hsrc := src_rd hsr' (hxc'.ones RowIn.ones)) (h63 := by omega) (hb := by omega) (c := ?_)
    clear hs hw hsr hsr'; intro a nad ncap W hs hw
    rw [List.nil_append, Nat.zero_add] at hw
    rw [Nat.zero_add] at hs
    obtain ⟨cn, hcn⟩ : ∃ cn : Cp, cn = ⟨rows.take m, nad, ncap, xs.take (m * 5)⟩ := ⟨_, rfl⟩
    have hcv : cn.v = .slice nad m ncap := by rw [hcn]; unfold Cp.v; rw [hml]
    have hcr' : cn.r = Sx.Own 36 5 (.slice nad m ncap) m (xs.take (m * 5)) := by unfold Cp.r; rw [hcv, hcn]; simp only [hml]
    have hcrs : cn.rs = rows.take m := by rw [hcn]
    have hcok : cn.ok H1 := by rw [hcn]; exact hxc'
    rw [← hcr'] at hw
    repeat (first | (refine sxv hs hw ?_; clear hs; intro a hs) | refine sxc hs ?_ | (refine sxa hs hw ?_; clear hs hw; intro a b W hw hs) | (refine sxs hs hw ?_; clear hs hw; intro W hs hw))
    obtain ⟨bx, qx⟩ := nm1 hw; subst qx
    have hw : Has 0 w _ (Sx.Own 25 1 (.slice oad cs.length ocap) cs.length (cs.map Cp.v) :: Cells bx [.slice nad m ncap] 25 :: Fz H1 :: cn.r :: cs.map Cp.r) := hw.perm (by repeat (first | exact List.Perm.refl _ | refine perm_pick (by repeat (first | exact Pick.hd | apply Pick.tl)) ?_))
    refine st_append1 hs (hw := hw) (hi := In.hd) (ch := cpCh cs) (ha := (show CpC cn [.slice nad m ncap] from by unfold CpC; rw [hcv])) (hl := rfl) (h1 := rfl) (hb := by omega) (h63 := by omega) (k := ?_)
    clear hs hw; intro a ad2 cap2 W hs hw hc2'
    have ecs : cs.map Cp.v ++ [.slice nad m ncap] = (cs ++ [cn]).map Cp.v := by rw [← hcv]; simp
    have hl1 : (cs ++ [cn]).length = j + 1 := by rw [List.length_append, hlenj]; rfl
    have hok' : ∀ c ∈ cs ++ [cn], c.ok H1 ∧ ∃ k, c.rs = rows.take k := by
      intro c hc
      rcases List.mem_append.1 hc with hc | hc
      · exact hok c hc
      · obtain rfl := List.mem_singleton.1 hc
        exact ⟨hcok, m, hcrs⟩
    have hxj : (cs ++ [cn])[j]? = some cn := by rw [List.getElem?_append_right (by omega), hlenj, Nat.sub_self]; rfl
    have em : (cs ++ [cn]).map Cp.rs = cs.map Cp.rs ++ [cn.rs] := by simp
    obtain ⟨y, hy, hyl⟩ : ∃ y : Cp, (cs ++ [cn])[best]? = some y ∧ (longL ((cs ++ [cn]).map Cp.rs) = if y.rs.length < cn.rs.length then cn.rs else y.rs) := by
      rcases hbest with ⟨rfl, rfl⟩ | hbest
      · have : cs = [] := List.eq_nil_of_length_eq_zero hlenj
        subst this
        refine ⟨cn, rfl, ?_⟩
        rw [if_neg (by omega)]
        exact longer_nil cn.rs
      · rw [List.getElem?_map] at hbest
        cases hbc : cs[best]? with
        | none => rw [hbc] at hbest; cases hbest
        | some y =>
          rw [hbc] at hbest
          have hyr : y.rs = longL (cs.map Cp.rs) := Option.some.inj hbest
          refine ⟨y, ?_, ?_⟩
          · rw [List.getElem?_append_left (List.getElem?_eq_some_iff.1 hbc).1]; exact hbc
          · rw [em, longL_snoc, hyr]; rfl
    have hbl := (List.getElem?_eq_some_iff.1 hy).1
    repeat (first | (refine sxv hs hw ?_; clear hs; intro a hs) | refine sxc hs ?_ | (refine sxa hs hw ?_; clear hs hw; intro a b W hw hs) | (refine sxs hs hw ?_; clear hs hw; intro W hs hw))
    have hw : Has 0 w W (Sx.Own 25 1 (.slice ad2 (cs ++ [cn]).length cap2) (cs ++ [cn]).length ((cs ++ [cn]).map Cp.v) :: Fz H1 :: (cs ++ [cn]).map Cp.r) := by
      rw [← ecs, List.map_append]
      exact (hw.sub (List.Sublist.cons_cons _ (List.Sublist.cons _ (List.Sublist.refl _)))).perm (List.Perm.cons _ (List.Perm.cons _ (List.perm_append_comm (l₁ := [cn.r]))))
    obtain ⟨g, cur, rfl, hcur, hcl0, hkc, hcm, hw⟩ := hw.open_own (by omega)
    have hch2 := cpCh (cs ++ [cn])
    obtain ⟨cx, rfl, hcutx⟩ := hch2.mem CpC.len hxj
    obtain ⟨cy, rfl, hcuty⟩ := hch2.mem CpC.len hy
    have hatx := Ch.at_cur (R := CpC) (l := cs ++ [cn]) (a := cn) (j := 0) hcutx hcur rfl
    have haty := Ch.at_cur (R := CpC) (l := cs ++ [cn]) (a := y) (j := 0) hcuty hcur rfl
    refine rg_draw (V := [.slice (some ⟨g, 0, none⟩) (cs ++ [cn]).length cap2, .int .i64 (j : Int), .pointer (some ⟨g, 0 + j * 1, none⟩), .slice cn.ad cn.rs.length cn.cap, .int .i64 (cn.rs.length : Int), .slice (some ⟨g, 0, none⟩) (cs ++ [cn]).length cap2, .int .i64 (best : Int), .pointer (some ⟨g, 0 + best * 1, none⟩), .slice y.ad y.rs.length y.cap, .int .i64 (y.rs.length : Int), .bool (decide ((cn.rs.length : Int) > (y.rs.length : Int)))])
      (Rs := fun D => Cells g cur 25 :: Fz H1 :: (cs ++ [cn]).map Cp.r) hs hw (ho := ⟨?_, ?_, ?c2_1, ?c3_1, ?_, ?_, ?_, ?c7_1, ?c8_1, ?_, ?_, trivial⟩) (k := ?k_1)
    case c2_1 =>
      intro LD D a W hcl hi hp hs hw
      refine st_index_at hs (z := [.slice none 0 0]) (h0 := by omega) (h1 := by omega) (c := ?_); clear hs; intro a hs
      repeat (first | (refine sxv hs hw ?_; clear hs; intro a hs) | refine sxc hs ?_ | (refine sxa hs hw ?_; clear hs hw; intro a b W hw hs) | (refine sxs hs hw ?_; clear hs hw; intro W hs hw))
      exact ⟨hs, hw⟩
    case c3_1 =>
      intro LD D a W hcl hi hp hs hw
      refine st_load_one hs (hw := hw) (hi := In.hd) (hv := by show cur[0 + j * 1]? = _; rw [Nat.zero_add]; exact hatx) (k := ?_); clear hs; intro a hs
      repeat (first | (refine sxv hs hw ?_; clear hs; intro a hs) | refine sxc hs ?_ | (refine sxa hs hw ?_; clear hs hw; intro a b W hw hs) | (refine sxs hs hw ?_; clear hs hw; intro W hs hw))
      exact ⟨hs, hw⟩
    case c7_1 =>
      intro LD D a W hcl hi hp hs hw
      refine st_index_at hs (z := [.slice none 0 0]) (h0 := by omega) (h1 := by omega) (c := ?_); clear hs; intro a hs
      repeat (first | (refine sxv hs hw ?_; clear hs; intro a hs) | refine sxc hs ?_ | (refine sxa hs hw ?_; clear hs hw; intro a b W hw hs) | (refine sxs hs hw ?_; clear hs hw; intro W hs hw))
      exact ⟨hs, hw⟩
    case c8_1 =>
      intro LD D a W hcl hi hp hs hw
      refine st_load_one hs (hw := hw) (hi := In.hd) (hv := by show cur[0 + best * 1]? = _; rw [Nat.zero_add]; exact haty) (k := ?_); clear hs; intro a hs
      repeat (first | (refine sxv hs hw ?_; clear hs; intro a hs) | refine sxc hs ?_ | (refine sxa hs hw ?_; clear hs hw; intro a b W hw hs) | (refine sxs hs hw ?_; clear hs hw; intro W hs hw))
      exact ⟨hs, hw⟩
    case k_1 =>
      clear hs hw
      intro a W hs hw
      replace hs : Slots a 145 [(68, .bool (decide ((cn.rs.length : Int) > (y.rs.length : Int)))), (1, .slice cad cuts.length ccap), (2, .int .i64 which), (3, .int .i64 spoil), (10, .slice xad rows.length xcap), (11, .slice (some ⟨g, 0, none⟩) (cs ++ [cn]).length cap2), (12, .int .i64 (best : Int)), (13, .int .i64 (j : Int))] := hs.of ⟨rfl, rfl, rfl, rfl, rfl, rfl, rfl, rfl, trivial⟩
      have hw := hw.shut_own (k := (cs ++ [cn]).length) (size := 1) hcur hcl0 hkc hcm
      cases hgt : decide ((cn.rs.length : Int) > (y.rs.length : Int)) with
      | true =>
        rw [hgt] at hs
        repeat (first | (refine sxv hs hw ?_; clear hs; intro a hs) | refine sxc hs ?_ | (refine sxa hs hw ?_; clear hs hw; intro a b W hw hs) | (refine sxs hs hw ?_; clear hs hw; intro W hs hw))
        exact st_again (j + 1, j, cs ++ [cn], some ⟨g, 0, none⟩, cap2) hs hw ⟨hj', hjn', hl1, hok', .inr (by rw [hyl, if_pos (by have := of_decide_eq_true hgt; omega), List.getElem?_map, hxj]; rfl)⟩ (by show cuts.length - (j + 1) < cuts.length - j; omega) ⟨rfl, rfl, rfl, rfl, rfl, rfl, int_eq (by show IntKind.i64.wrap ((j : Int) + 1) = ((j + 1 : Nat) : Int); rw [IntWalk.i64_in _ (by omega)]; omega), trivial⟩
      | false =>
        rw [hgt] at hs
        repeat (first | (refine sxv hs hw ?_; clear hs; intro a hs) | refine sxc hs ?_ | (refine sxa hs hw ?_; clear hs hw; intro a b W hw hs) | (refine sxs hs hw ?_; clear hs hw; intro W hs hw))
        exact st_again (j + 1, best, cs ++ [cn], some ⟨g, 0, none⟩, cap2) hs hw ⟨hj', hjn', hl1, hok', .inr (by rw [hyl, if_neg (by have := of_decide_eq_false hgt; omega), List.getElem?_map, hy]; rfl)⟩ (by show cuts.length - (j + 1) < cuts.length - j; omega) ⟨rfl, rfl, rfl, rfl, rfl, rfl, int_eq (by show IntKind.i64.wrap ((j : Int) + 1) = ((j + 1 : Nat) : Int); rw [IntWalk.i64_in _ (by omega)]; omega), trivial⟩
    all_goals
      intro LD D a W hcl hi hp hs hw
      repeat (first | (refine sxv hs hw ?_; clear hs; intro a hs) | refine sxc hs ?_ | (refine sxa hs hw ?_; clear hs hw; intro a b W hw hs) | (refine sxs hs hw ?_; clear hs hw; intro W hs hw))
      exact ⟨hs, hw⟩
  · clear hs hw hxr hxc hcr hcH
    rintro a W ⟨cs, best, ad, cap, hc8, hok, hbest, hs, hw⟩
    have hlists := cpsRd' hw fun c hc => (hok c hc).1
    have hone : oneB (cs.map Cp.rs) = true := one_takes (rows := rows) fun l hl => by
      obtain ⟨c, hc, rfl⟩ := List.mem_map.1 hl
      exact (hok c hc).2
    repeat (first | (refine sxv hs hw ?_; clear hs; intro a hs) | refine sxc hs ?_ | (refine sxa hs hw ?_; clear hs hw; intro a b W hw hs) | (refine sxs hs hw ?_; clear hs hw; intro W hs hw))
    cases h0 : ((cs.length : Int) == 0) with
    | true =>
      rw [h0] at hs
      have hle := hle1
      repeat (first | (refine sxv hs hw ?_; clear hs; intro a hs) | refine sxc hs ?_ | (refine sxa hs hw ?_; clear hs hw; intro a b W hw hs) | (refine sxs hs hw ?_; clear hs hw; intro W hs hw))
      refine st_call hs (hc := judge_One [] _ _ ⟨[], Rd.nil _ _ _ (by omega), rfl⟩) (k := ?_); rintro e0 W1 ⟨rfl, hb⟩; refine ⟨_, rfl, ?_⟩; clear hs; intro a hs; replace hw := hw.below hb; clear hb
      rw [show oneB [] = true from rfl] at hs
      repeat (first | (refine sxv hs hw ?_; clear hs; intro a hs) | refine sxc hs ?_ | (refine sxa hs hw ?_; clear hs hw; intro a b W hw hs) | (refine sxs hs hw ?_; clear hs hw; intro W hs hw))
      refine st_call hs (hc := judge_Longest [] _ _ (by simp) ⟨[], Rd.nil _ _ _ (by omega), rfl⟩) (k := ?_); rintro e0 W1 ⟨⟨v', rfl, hr'⟩, hb2⟩; refine ⟨_, rfl, ?_⟩; clear hs; intro a hs; replace hw := hw.below hb2; clear hb2
      obtain ⟨lxs, hr', _⟩ := hr'
      obtain ⟨lad, lcap, rfl⟩ := Rd.sl hr'
      repeat (first | (refine sxv hs hw ?_; clear hs; intro a hs) | refine sxc hs ?_ | (refine sxa hs hw ?_; clear hs hw; intro a b W hw hs) | (refine sxs hs hw ?_; clear hs hw; intro W hs hw))
      exact rt1 hs rfl rfl ⟨rfl, hw.endF (In.tl In.hd) hle⟩
    | false =>
    rw [h0] at hs
    have hpos : 0 < cs.length := by
      rcases Nat.eq_zero_or_pos cs.length with h | h
      · rw [h] at h0; cases h0
      · exact h
    have hbest : (cs.map Cp.rs)[best]? = some (longL (cs.map Cp.rs)) := by
      rcases hbest with rfl | h
      · simp at hpos
      · exact h
    have hs1 : ∀ l ∈ cs.map Cp.rs, l.length ≤ 1000000 ∧ ∀ r ∈ l, r.b.l.length ≤ 1000 := by
      intro l hl
      obtain ⟨c, hc, rfl⟩ := List.mem_map.1 hl
      obtain ⟨k, hk⟩ := (hok c hc).2
      rw [hk]
      exact ⟨by rw [List.length_take]; omega, fun r hr => by have := hx8 r (List.mem_of_mem_take hr); omega⟩
    obtain ⟨y, hy, hyl⟩ : ∃ y : Cp, cs[best]? = some y ∧ y.rs = longL (cs.map Cp.rs) := by
      rw [List.getElem?_map] at hbest
      cases hbc : cs[best]? with
      | none => rw [hbc] at hbest; cases hbest
      | some y => rw [hbc] at hbest; exact ⟨y, rfl, Option.some.inj hbest⟩
    have hbl := (List.getElem?_eq_some_iff.1 hy).1
    repeat (first | (refine sxv hs hw ?_; clear hs; intro a hs) | refine sxc hs ?_ | (refine sxa hs hw ?_; clear hs hw; intro a b W hw hs) | (refine sxs hs hw ?_; clear hs hw; intro W hs hw))
    obtain ⟨g, cur, rfl, hcur, hcl0, hkc, hcm, hw1⟩ := hw.open_own hpos
    obtain ⟨cy, rfl, hcuty⟩ := (cpCh cs).mem CpC.len hy
    have haty := Ch.at_cur (R := CpC) (l := cs) (a := y) (j := 0) hcuty hcur rfl
    have hcelly : W.cell? ⟨g, 0 + best * 1, none⟩ = some y.v := by
      rw [cell_block (hw1.block In.hd).1, Nat.zero_add]; exact haty
    have hyrd : RowsRd W y.v (longL (cs.map Cp.rs)) := by
      rw [← hyl]
      exact ⟨y.xs, hw.rd_own (In.tl (In.tl (In.of_mem (List.mem_map_of_mem (List.mem_of_getElem? hy))))), rowRd hw (In.tl In.hd) (hok y (List.mem_of_getElem? hy)).1⟩
    have hgl : g < W.heap.size := (hw1.block In.hd).2.2
    obtain ⟨Wr, qW⟩ : ∃ x, x = W := ⟨_, rfl⟩
    subst qW
    have hwA := hw1
    clear hw hw1
    have hw := Has.startF Wr
    refine rg_drawU (σ := Value) (V := fun u => [.slice (some ⟨g, 0, none⟩) cs.length cap, .bool true, .bool false, .bool false, .slice (some ⟨g, 0, none⟩) cs.length cap, (u 5), .slice (some ⟨g, 0, none⟩) cs.length cap, .int .i64 (best : Int), .pointer (some ⟨g, 0 + best * 1, none⟩), .slice y.ad y.rs.length y.cap, .bool true, .bool false, .bool false])
      (Rs := fun u D => (if D 5 = true then Ex (fun H => Fz H :: Fact ((fr Wr).le H ∧ RowsH H (u 5) (longL (cs.map Cp.rs))) :: []) else Fz (fr Wr)) :: []) (fun _ => .slice none 0 0) hs hw (hVu := ?vu_3) (ho := ⟨?_, ?c1_3, ?_, ?_, ?_, ?c5_3, ?_, ?_, ?c8_3, ?c9_3, ?c10_3, ?_, ?_, trivial⟩) (k := ?k_3)
    case vu_3 =>
      intro u u' j h
      rcases j with _ | _ | _ | _ | _ | _ | _ | _ | _ | _ | _ | _ | _ | j
      all_goals first | rfl | simp [h]
    case c1_3 =>
      intro u LD D a W hcl hi hp hs hw
      refine st_call hs (hc := judge_One (cs.map Cp.rs) _ _ (hlists.below (keepB hw))) (k := ?_); rintro e0 W1 ⟨rfl, hb⟩; refine ⟨_, rfl, ?_⟩; clear hs; intro a hs; replace hw := hw.below hb; clear hb
      rw [hone] at hs
      repeat (first | (refine sxv hs hw ?_; clear hs; intro a hs) | refine sxc hs ?_ | (refine sxa hs hw ?_; clear hs hw; intro a b W hw hs) | (refine sxs hs hw ?_; clear hs hw; intro W hs hw))
      exact Or.inl ⟨hs, hw⟩
    case c5_3 =>
      intro u LD D a W hcl hi hp hs hw
      repeat (first | (refine sxv hs hw ?_; clear hs; intro a hs) | refine sxc hs ?_ | (refine sxa hs hw ?_; clear hs hw; intro a b W hw hs) | (refine sxs hs hw ?_; clear hs hw; intro W hs hw))
      refine st_call hs (hc := judge_Longest (cs.map Cp.rs) _ _ hs1 (hlists.below (keepB hw))) (k := ?_); rintro e0 W1 ⟨⟨v', rfl, hr'⟩, hb2⟩; refine ⟨_, rfl, ?_⟩; clear hs; intro a hs; replace hw := hw.below hb2; clear hb2
      repeat (first | (refine sxv hs hw ?_; clear hs; intro a hs) | refine sxc hs ?_ | (refine sxa hs hw ?_; clear hs hw; intro a b W hw hs) | (refine sxs hs hw ?_; clear hs hw; intro W hs hw))
      exact Or.inr ⟨v', hs, keepNew (p := fun H => RowsH H v' (longL (cs.map Cp.rs))) (keepB hw) hr'.h⟩
    case c8_3 =>
      intro u LD D a W hcl hi hp hs hw
      repeat (first | (refine sxv hs hw ?_; clear hs; intro a hs) | refine sxc hs ?_ | (refine sxa hs hw ?_; clear hs hw; intro a b W hw hs) | (refine sxs hs hw ?_; clear hs hw; intro W hs hw))
      refine st_index_at hs (z := [.slice none 0 0]) (h0 := by omega) (h1 := by omega) (c := ?_); clear hs; intro a hs
      repeat (first | (refine sxv hs hw ?_; clear hs; intro a hs) | refine sxc hs ?_ | (refine sxa hs hw ?_; clear hs hw; intro a b W hw hs) | (refine sxs hs hw ?_; clear hs hw; intro W hs hw))
      exact Or.inl ⟨hs, hw⟩
    case c9_3 =>
      intro u LD D a W hcl hi hp hs hw
      repeat (first | (refine sxv hs hw ?_; clear hs; intro a hs) | refine sxc hs ?_ | (refine sxa hs hw ?_; clear hs hw; intro a b W hw hs) | (refine sxs hs hw ?_; clear hs hw; intro W hs hw))
      refine st_load_at hs (hc := ((keepB hw).cell hgl).trans hcelly) (c := ?_); clear hs; intro a hs
      repeat (first | (refine sxv hs hw ?_; clear hs; intro a hs) | refine sxc hs ?_ | (refine sxa hs hw ?_; clear hs hw; intro a b W hw hs) | (refine sxs hs hw ?_; clear hs hw; intro W hs hw))
      exact Or.inl ⟨hs, hw⟩
    case c10_3 =>
      intro u LD D a W hcl hi hp hs hw
      repeat (first | (refine sxv hs hw ?_; clear hs; intro a hs) | refine sxc hs ?_ | (refine sxa hs hw ?_; clear hs hw; intro a b W hw hs) | (refine sxs hs hw ?_; clear hs hw; intro W hs hw))
      obtain ⟨H, hrh, hwr⟩ := keepP hw (Go.Sx.done hp 5 (by kernel_rfl))
      obtain ⟨xs1, hr1, hc1'⟩ := hrh.rds hwr In.hd
      obtain ⟨xs2, hr2, hc2'⟩ := hyrd.below (keepB hw)
      refine st_call hs (hc := ref_EqRows (longL (cs.map Cp.rs)) _ xs1 (longL (cs.map Cp.rs)) _ xs2 _ hr1 hc1' hr2 hc2') (k := ?_); rintro e0 W1 ⟨rfl, hb⟩; refine ⟨_, rfl, ?_⟩; clear hs; intro a hs; replace hw := hw.below hb; clear hb
      rw [eqRows_iff.2 rfl] at hs
      repeat (first | (refine sxv hs hw ?_; clear hs; intro a hs) | refine sxc hs ?_ | (refine sxa hs hw ?_; clear hs hw; intro a b W hw hs) | (refine sxs hs hw ?_; clear hs hw; intro W hs hw))
      exact Or.inl ⟨hs, hw⟩
    case k_3 =>
      clear hs hw
      intro u a W hs hw
      have hbW := keepB hw
      clear hw
      have hw := hwA.below hbW
      clear hwA hlists hyrd hcelly
      replace hs : Slots a 145 [(91, .bool false), (2, .int .i64 which), (3, .int .i64 spoil), (11, .slice (some ⟨g, 0, none⟩) cs.length cap)] := hs.of ⟨rfl, rfl, rfl, rfl, trivial⟩
      repeat (first | (refine sxv hs hw ?_; clear hs; intro a hs) | refine sxc hs ?_ | (refine sxa hs hw ?_; clear hs hw; intro a b W hw hs) | (refine sxs hs hw ?_; clear hs hw; intro W hs hw))
      refine st_idiv hs (hne := by simpa using h0) (k := ?_); clear hs; intro a hs
      repeat (first | (refine sxv hs hw ?_; clear hs; intro a hs) | refine sxc hs ?_ | (refine sxa hs hw ?_; clear hs hw; intro a b W hw hs) | (refine sxs hs hw ?_; clear hs hw; intro W hs hw))
      refine st_idiv hs (hne := by simpa using h0) (k := ?_); clear hs; intro a hs
      have hki := rem_in (x := which) (n := (cs.length : Int)) (by omega) (by omega)
      obtain ⟨K, hK⟩ := Int.eq_ofNat_of_zero_le hki.1
      rw [hK] at hs
      have hKl : K < cs.length := by have := hki.2; omega
      obtain ⟨⟨krs, kad, kcap, kxs⟩, hck⟩ : ∃ c, cs[K]? = some c := ⟨cs[K], List.getElem?_eq_getElem hKl⟩
      obtain ⟨ck, hckc, hcutk⟩ := (cpCh cs).mem CpC.len hck
      have hatk : cur[K * 1 + 0]? = some (.slice kad krs.length kcap) := Ch.at_cur (R := CpC) (l := cs) (a := ⟨krs, kad, kcap, kxs⟩) (j := 0) hcutk hcur (by rw [hckc]; rfl)
      have hkr40 : krs.length ≤ 40 := by
        obtain ⟨k0, hk0⟩ := (hok _ (List.mem_of_getElem? hck)).2
        have : krs = rows.take k0 := hk0
        rw [this, List.length_take]; omega
      repeat (first | (refine sxv hs hw ?_; clear hs; intro a hs) | refine sxc hs ?_ | (refine sxa hs hw ?_; clear hs hw; intro a b W hw hs) | (refine sxs hs hw ?_; clear hs hw; intro W hs hw))
      refine st_index_at hs (z := [.slice none 0 0]) (h0 := by omega) (h1 := by omega) (c := ?_); clear hs; intro a hs
      repeat (first | (refine sxv hs hw ?_; clear hs; intro a hs) | refine sxc hs ?_ | (refine sxa hs hw ?_; clear hs hw; intro a b W hw hs) | (refine sxs hs hw ?_; clear hs hw; intro W hs hw))
      refine st_load_one hs (hw := hw) (hi := In.hd) (hv := by show cur[0 + K * 1]? = _; rw [Nat.zero_add]; exact hatk) (k := ?_); clear hs; intro a hs
      repeat (first | (refine sxv hs hw ?_; clear hs; intro a hs) | refine sxc hs ?_ | (refine sxa hs hw ?_; clear hs hw; intro a b W hw hs) | (refine sxs hs hw ?_; clear hs hw; intro W hs hw))
      cases hkp : decide ((krs.length : Int) > 0) with
      | false =>
        rw [hkp] at hs
        have hw := hw.shut_own (k := cs.length) (size := 1) hcur hcl0 hkc hcm
        have hls2 : ∀ {W' : World}, Below W.heap.size W W' → ListsRd W' (.slice (some ⟨g, 0, none⟩) cs.length cap) (cs.map Cp.rs) := fun hbb => (cpsRd' hw fun c hc => (hok c hc).1).below hbb
        repeat (first | (refine sxv hs hw ?_; clear hs; intro a hs) | refine sxc hs ?_ | (refine sxa hs hw ?_; clear hs hw; intro a b W hw hs) | (refine sxs hs hw ?_; clear hs hw; intro W hs hw))
        refine st_call hs (hc := judge_One (cs.map Cp.rs) _ _ (hls2 (Below.refl _ _))) (k := ?_); rintro e0 W1 ⟨rfl, hb⟩; refine ⟨_, rfl, ?_⟩; clear hs; intro a hs; replace hw := hw.below hb
        repeat (first | (refine sxv hs hw ?_; clear hs; intro a hs) | refine sxc hs ?_ | (refine sxa hs hw ?_; clear hs hw; intro a b W hw hs) | (refine sxs hs hw ?_; clear hs hw; intro W hs hw))
        refine st_call hs (hc := law28_one (cs.map Cp.rs) _ _ (hls2 hb)) (k := ?_); rintro e0 W1 ⟨rfl, hb⟩; refine ⟨_, rfl, ?_⟩; clear hs; intro a hs; replace hw := hw.below hb; clear hb
        repeat (first | (refine sxv hs hw ?_; clear hs; intro a hs) | refine sxc hs ?_ | (refine sxa hs hw ?_; clear hs hw; intro a b W hw hs) | (refine sxs hs hw ?_; clear hs hw; intro W hs hw))
        rw [beq_self_eq_true] at hs
        repeat (first | (refine sxv hs hw ?_; clear hs; intro a hs) | refine sxc hs ?_ | (refine sxa hs hw ?_; clear hs hw; intro a b W hw hs) | (refine sxs hs hw ?_; clear hs hw; intro W hs hw))
        exact rt1 hs rfl rfl ⟨rfl, hw.endF (In.tl In.hd) hle1⟩
      | true =>
        rw [hkp] at hs
        have hkp' : 0 < krs.length := by have := of_decide_eq_true hkp; omega
        have hkn : ((krs.length : Int) == 0) = false := beq_eq_false_iff_ne.2 (by omega)
        have hji := rem_in (x := spoil) (n := (krs.length : Int)) (by omega) (by omega)
        obtain ⟨J, hJ⟩ := Int.eq_ofNat_of_zero_le hji.1
        have hJl : J < krs.length := by have := hji.2; omega
        repeat (first | (refine sxv hs hw ?_; clear hs; intro a hs) | refine sxn hs ?_ | (refine sxa hs hw ?_; clear hs hw; intro a b W hw hs) | (refine sxs hs hw ?_; clear hs hw; intro W hs hw))
        refine sq ?_
        refine rg_draw (V := [.int .i64 spoil, .slice (some ⟨g, 0, none⟩) cs.length cap, .int .i64 (K : Int), .pointer (some ⟨g, 0 + K * 1, none⟩), .slice kad krs.length kcap, .int .i64 (krs.length : Int), .int .i64 (spoil.tmod (krs.length : Int)), .slice (some ⟨g, 0, none⟩) cs.length cap, .int .i64 (K : Int), .pointer (some ⟨g, 0 + K * 1, none⟩), .slice kad krs.length kcap, .int .i64 (krs.length : Int), .int .i64 (IntKind.i64.wrap (spoil.tmod (krs.length : Int) + (krs.length : Int))), .slice (some ⟨g, 0, none⟩) cs.length cap, .int .i64 (K : Int), .pointer (some ⟨g, 0 + K * 1, none⟩), .slice kad krs.length kcap, .int .i64 (krs.length : Int), .int .i64 ((IntKind.i64.wrap (spoil.tmod (krs.length : Int) + (krs.length : Int))).tmod (krs.length : Int)), .int .i64 ((IntKind.i64.wrap (spoil.tmod (krs.length : Int) + (krs.length : Int))).tmod (krs.length : Int))])
          (Rs := fun D => Cells g cur 25 :: Fz H1 :: cs.map Cp.r) hs hw (ho := ⟨?_, ?_, ?_, ?c3_2, ?c4_2, ?_, ?c6_2, ?_, ?_, ?c9_2, ?c10_2, ?_, ?_, ?_, ?_, ?c15_2, ?c16_2, ?_, ?c18_2, ?_, trivial⟩) (k := ?k_2)
        case c3_2 =>
          intro LD D a W hcl hi hp hs hw
          refine st_index_at hs (z := [.slice none 0 0]) (h0 := by omega) (h1 := by omega) (c := ?_); clear hs; intro a hs
          repeat (first | (refine sxv hs hw ?_; clear hs; intro a hs) | refine sxc hs ?_ | (refine sxa hs hw ?_; clear hs hw; intro a b W hw hs) | (refine sxs hs hw ?_; clear hs hw; intro W hs hw))
          exact ⟨hs, hw⟩
        case c4_2 =>
          intro LD D a W hcl hi hp hs hw
          refine st_load_one hs (hw := hw) (hi := In.hd) (hv := by show cur[0 + K * 1]? = _; rw [Nat.zero_add]; exact hatk) (k := ?_); clear hs; intro a hs
          repeat (first | (refine sxv hs hw ?_; clear hs; intro a hs) | refine sxc hs ?_ | (refine sxa hs hw ?_; clear hs hw; intro a b W hw hs) | (refine sxs hs hw ?_; clear hs hw; intro W hs hw))
          exact ⟨hs, hw⟩
        case c6_2 =>
          intro LD D a W hcl hi hp hs hw
          refine st_idiv hs (hne := hkn) (k := ?_); clear hs; intro a hs
          repeat (first | (refine sxv hs hw ?_; clear hs; intro a hs) | refine sxc hs ?_ | (refine sxa hs hw ?_; clear hs hw; intro a b W hw hs) | (refine sxs hs hw ?_; clear hs hw; intro W hs hw))
          exact ⟨hs, hw⟩
        case c9_2 =>
          intro LD D a W hcl hi hp hs hw
          refine st_index_at hs (z := [.slice none 0 0]) (h0 := by omega) (h1 := by omega) (c := ?_); clear hs; intro a hs
          repeat (first | (refine sxv hs hw ?_; clear hs; intro a hs) | refine sxc hs ?_ | (refine sxa hs hw ?_; clear hs hw; intro a b W hw hs) | (refine sxs hs hw ?_; clear hs hw; intro W hs hw))
          exact ⟨hs, hw⟩
        case c10_2 =>
          intro LD D a W hcl hi hp hs hw
          refine st_load_one hs (hw := hw) (hi := In.hd) (hv := by show cur[0 + K * 1]? = _; rw [Nat.zero_add]; exact hatk) (k := ?_); clear hs; intro a hs
          repeat (first | (refine sxv hs hw ?_; clear hs; intro a hs) | refine sxc hs ?_ | (refine sxa hs hw ?_; clear hs hw; intro a b W hw hs) | (refine sxs hs hw ?_; clear hs hw; intro W hs hw))
          exact ⟨hs, hw⟩
        case c15_2 =>
          intro LD D a W hcl hi hp hs hw
          refine st_index_at hs (z := [.slice none 0 0]) (h0 := by omega) (h1 := by omega) (c := ?_); clear hs; intro a hs
          repeat (first | (refine sxv hs hw ?_; clear hs; intro a hs) | refine sxc hs ?_ | (refine sxa hs hw ?_; clear hs hw; intro a b W hw hs) | (refine sxs hs hw ?_; clear hs hw; intro W hs hw))
          exact ⟨hs, hw⟩
        case c16_2 =>
          intro LD D a W hcl hi hp hs hw
          refine st_load_one hs (hw := hw) (hi := In.hd) (hv := by show cur[0 + K * 1]? = _; rw [Nat.zero_add]; exact hatk) (k := ?_); clear hs; intro a hs
          repeat (first | (refine sxv hs hw ?_; clear hs; intro a hs) | refine sxc hs ?_ | (refine sxa hs hw ?_; clear hs hw; intro a b W hw hs) | (refine sxs hs hw ?_; clear hs hw; intro W hs hw))
          exact ⟨hs, hw⟩
        case c18_2 =>
          intro LD D a W hcl hi hp hs hw
          refine st_idiv hs (hne := hkn) (k := ?_); clear hs; intro a hs
          repeat (first | (refine sxv hs hw ?_; clear hs; intro a hs) | refine sxc hs ?_ | (refine sxa hs hw ?_; clear hs hw; intro a b W hw hs) | (refine sxs hs hw ?_; clear hs hw; intro W hs hw))
          exact ⟨hs, hw⟩
        case k_2 =>
          clear hs hw
          intro a W hs hw
          rw [hJ] at hs
          replace hs : Slots a 145 [(16, .int .i64 (J : Int)), (3, .int .i64 spoil), (11, .slice (some ⟨g, 0, none⟩) cs.length cap), (15, .int .i64 (K : Int))] := hs.of ⟨rfl, rfl, rfl, rfl, trivial⟩
          have hw : Has 0 w W (Sx.Own 36 5 (.slice kad krs.length kcap) krs.length kxs :: Cells g cur 25 :: Fz H1 :: (cs.eraseIdx K).map Cp.r) :=
            (hw.perm (List.Perm.cons _ (List.Perm.cons _ (perm_pull Cp.r hck)))).perm ((List.Perm.cons _ (List.Perm.swap _ _ _)).trans (List.Perm.swap _ _ _))
          obtain ⟨gk, curk, rfl, hcurk, hclk, hkck, hcmk, hw⟩ := hw.open_own (by omega)
          have hok1 := (hok _ (List.mem_of_getElem? hck)).1
          obtain ⟨k0, hk0⟩ := (hok _ (List.mem_of_getElem? hck)).2
          obtain ⟨ro, hri⟩ : ∃ o, krs[J]? = some o := ⟨krs[J], List.getElem?_eq_getElem hJl⟩
          obtain ⟨c0, ⟨ov0, rfl, hov⟩, hcut⟩ := hok1.mem RowIn.len hri
          have hat : curk[J * 5 + 0]? = some (.int .i64 ro.place) := Ch.at_cur (R := RowIn H1) (l := krs) (a := ro) (j := 0) hcut hcurk rfl
          repeat (first | (refine sxv hs hw ?_; clear hs; intro a hs) | refine sxc hs ?_ | (refine sxa hs hw ?_; clear hs hw; intro a b W hw hs) | (refine sxs hs hw ?_; clear hs hw; intro W hs hw))
          refine st_index_at hs (z := [.slice none 0 0]) (h0 := by omega) (h1 := by omega) (c := ?_); clear hs; intro a hs
          repeat (first | (refine sxv hs hw ?_; clear hs; intro a hs) | refine sxc hs ?_ | (refine sxa hs hw ?_; clear hs hw; intro a b W hw hs) | (refine sxs hs hw ?_; clear hs hw; intro W hs hw))
          refine st_load_one hs (hw := hw) (hi := In.tl In.hd) (hv := by show cur[0 + K * 1]? = _; rw [Nat.zero_add]; exact hatk) (k := ?_); clear hs; intro a hs
          repeat (first | (refine sxv hs hw ?_; clear hs; intro a hs) | refine sxc hs ?_ | (refine sxa hs hw ?_; clear hs hw; intro a b W hw hs) | (refine sxs hs hw ?_; clear hs hw; intro W hs hw))
          refine st_index_at hs (z := zrc) (h0 := by omega) (h1 := by omega) (c := ?_); clear hs; intro a hs
          repeat (first | (refine sxv hs hw ?_; clear hs; intro a hs) | refine sxc hs ?_ | (refine sxa hs hw ?_; clear hs hw; intro a b W hw hs) | (refine sxs hs hw ?_; clear hs hw; intro W hs hw))
          refine st_load_one hs (hw := hw) (hi := In.hd) (hv := by show curk[0 + J * 5 + 0]? = _; rw [show 0 + J * 5 + 0 = J * 5 + 0 by omega]; exact hat) (k := ?_); clear hs; intro a hs
          repeat (first | (refine sxv hs hw ?_; clear hs; intro a hs) | refine sxc hs ?_ | (refine sxa hs hw ?_; clear hs hw; intro a b W hw hs) | (refine sxs hs hw ?_; clear hs hw; intro W hs hw))
          refine st_index_at hs (z := zrc) (h0 := by omega) (h1 := by omega) (c := ?_); clear hs; intro a hs
          repeat (first | (refine sxv hs hw ?_; clear hs; intro a hs) | refine sxc hs ?_ | (refine sxa hs hw ?_; clear hs hw; intro a b W hw hs) | (refine sxs hs hw ?_; clear hs hw; intro W hs hw))
          refine st_store hs (hw := hw) (vs := [.int .i64 (IntKind.i64.wrap (ro.place + spoil.tmod 3))]) (hl := by show Nat.ble (0 + J * 5 + 0 + 1) curk.length = true; rw [hclk]; apply Nat.ble_eq_true_of_le; omega) (k := ?_); clear hs hw; intro W hs hw
          rw [ov_one] at hw
          repeat (first | (refine sxv hs hw ?_; clear hs; intro a hs) | refine sxc hs ?_ | (refine sxa hs hw ?_; clear hs hw; intro a b W hw hs) | (refine sxs hs hw ?_; clear hs hw; intro W hs hw))
          have hw : Has 0 w W (Cells gk (curk.set (J * 5 + 0) (.int .i64 (IntKind.i64.wrap (ro.place + spoil.tmod 3)))) 36 :: Cells g cur 25 :: Fz H1 :: (cs.eraseIdx K).map Cp.r) := by
            have e : 0 + J * 5 + 0 = J * 5 + 0 := by omega
            have this : Has 0 w W (Cells gk (curk.set (0 + J * 5 + 0) (.int .i64 (IntKind.i64.wrap (ro.place + spoil.tmod 3)))) 36 :: Cells g cur 25 :: Fz H1 :: (cs.eraseIdx K).map Cp.r) := hw
            rw [e] at this
            exact this
          have hw := hw.shut_own (k := krs.length) (size := 5) (cap := kcap) (xs := kxs.set (J * 5 + 0) (.int .i64 (IntKind.i64.wrap (ro.place + spoil.tmod 3)))) (by rw [List.take_set, hcurk]) (by rw [List.length_set]; exact hclk) hkck hcmk
          have hz2 := hok1.set_in (R' := RowIn H1) (m := 0) (x := .int .i64 (IntKind.i64.wrap (ro.place + spoil.tmod 3))) (a' := ⟨(IntKind.i64.wrap (ro.place + spoil.tmod 3)), ro.b, ro.err⟩) RowIn.len hri (by decide) (by rintro c ⟨sv, rfl, h⟩; exact ⟨sv, rfl, h⟩)
          obtain ⟨cz, hcz⟩ : ∃ c : Cp, c = ⟨krs.set J ⟨(IntKind.i64.wrap (ro.place + spoil.tmod 3)), ro.b, ro.err⟩, some ⟨gk, 0, none⟩, kcap, kxs.set (J * 5 + 0) (.int .i64 (IntKind.i64.wrap (ro.place + spoil.tmod 3)))⟩ := ⟨_, rfl⟩
          have hzl : (krs.set J ⟨(IntKind.i64.wrap (ro.place + spoil.tmod 3)), ro.b, ro.err⟩).length = krs.length := by rw [List.length_set]
          have hzv : cz.v = .slice (some ⟨gk, 0, none⟩) krs.length kcap := by rw [hcz]; unfold Cp.v; simp only [hzl]
          have hzr : cz.r = Sx.Own 36 5 (.slice (some ⟨gk, 0, none⟩) krs.length kcap) krs.length (kxs.set (J * 5 + 0) (.int .i64 (IntKind.i64.wrap (ro.place + spoil.tmod 3)))) := by unfold Cp.r; rw [hzv, hcz]; simp only [hzl]
          rw [← hzr] at hw
          have hKl := (List.getElem?_eq_some_iff.1 hck).1
          have hck2 : (cs.set K cz)[K]? = some cz := by rw [List.getElem?_set_self hKl]
          have hmv : (cs.set K cz).map Cp.v = cs.map Cp.v := by
            rw [List.map_set, hzv]
            exact set_same (by rw [List.getElem?_map, hck]; rfl)
          have hml : (cs.set K cz).length = cs.length := List.length_set
          have hpp := (perm_pull Cp.r hck2).symm
          rw [erase_set] at hpp
          have hw : Has 0 w W (Cells g cur 25 :: Fz H1 :: (cs.set K cz).map Cp.r) := (hw.perm ((List.Perm.swap _ _ _).trans (List.Perm.cons _ (List.Perm.swap _ _ _)))).perm (List.Perm.cons _ (List.Perm.cons _ hpp))
          have hw := hw.shut_own (k := cs.length) (size := 1) hcur hcl0 hkc hcm
          have hokz : ∀ c ∈ cs.set K cz, c.ok H1 := by
            intro c hc
            rcases mem_set hc with hc | rfl
            · exact (hok c hc).1
            · rw [hcz]; exact hz2
          have hls2 : ∀ {W' : World}, Below W.heap.size W W' → ListsRd W' (.slice (some ⟨g, 0, none⟩) cs.length cap) ((cs.set K cz).map Cp.rs) := fun hbb => (cpsRd' (cs := cs.set K cz) (by rw [hml, hmv]; exact hw) hokz).below hbb
          clear hz2 hpp hzr hzl hat hcut
          repeat (first | (refine sxv hs hw ?_; clear hs; intro a hs) | refine sxc hs ?_ | (refine sxa hs hw ?_; clear hs hw; intro a b W hw hs) | (refine sxs hs hw ?_; clear hs hw; intro W hs hw))
          refine st_call hs (hc := judge_One ((cs.set K cz).map Cp.rs) _ _ (hls2 (Below.refl _ _))) (k := ?_); rintro e0 W1 ⟨rfl, hb⟩; refine ⟨_, rfl, ?_⟩; clear hs; intro a hs; replace hw := hw.below hb
          repeat (first | (refine sxv hs hw ?_; clear hs; intro a hs) | refine sxc hs ?_ | (refine sxa hs hw ?_; clear hs hw; intro a b W hw hs) | (refine sxs hs hw ?_; clear hs hw; intro W hs hw))
          refine st_call hs (hc := law28_one ((cs.set K cz).map Cp.rs) _ _ (hls2 hb)) (k := ?_); rintro e0 W1 ⟨rfl, hb⟩; refine ⟨_, rfl, ?_⟩; clear hs; intro a hs; replace hw := hw.below hb; clear hb
          repeat (first | (refine sxv hs hw ?_; clear hs; intro a hs) | refine sxc hs ?_ | (refine sxa hs hw ?_; clear hs hw; intro a b W hw hs) | (refine sxs hs hw ?_; clear hs hw; intro W hs hw))
          rw [beq_self_eq_true] at hs
          repeat (first | (refine sxv hs hw ?_; clear hs; intro a hs) | refine sxc hs ?_ | (refine sxa hs hw ?_; clear hs hw; intro a b W hw hs) | (refine sxs hs hw ?_; clear hs hw; intro W hs hw))
          exact rt1 hs rfl rfl ⟨rfl, hw.endF (In.tl In.hd) hle1⟩
        all_goals
          intro LD D a W hcl hi hp hs hw
          repeat (first | (refine sxv hs hw ?_; clear hs; intro a hs) | refine sxc hs ?_ | (refine sxa hs hw ?_; clear hs hw; intro a b W hw hs) | (refine sxs hs hw ?_; clear hs hw; intro W hs hw))
          exact ⟨hs, hw⟩
    all_goals
      intro u LD D a W hcl hi hp hs hw
      repeat (first | (refine sxv hs hw ?_; clear hs; intro a hs) | refine sxc hs ?_ | (refine sxa hs hw ?_; clear hs hw; intro a b W hw hs) | (refine sxs hs hw ?_; clear hs hw; intro W hs hw))
      exact Or.inl ⟨hs, hw⟩
end Go.Proofs.YtcfaicomnngegaaDoor.Sw

/-
  A slice of slices of rows among the arguments.
-/
set_option linter.unusedVariables false
set_option maxRecDepth 10000
namespace Go.Proofs.YtcfaicomnngegaaDoor
open Go.ChangeShapes Go.WideShapes Go.ChangeAt Go.RowKit Go.Lib Go.Sx Go.Proofs Go.Deep
open Sw Go.Joins

section
variable {H : Type} {enc : TypeId × Value → H} {w : World} {spare : Nat → Bool} {held : Bool}
theorem open_list_cells {fuel : Nat} {cs : List Value} {x : DataW H × List MemPlace} (h : DataW.trod enc Tryd.prog w 0 spare held fuel 25 cs = some x) : ∃ l, ListRd w l cs ∧ ∀ r ∈ l, RowWf r := by
  obtain ⟨sv, l, e, h1, h2⟩ := open_list Tryd.underlying25 (by kernel_rfl : _ = 5) (by decide) open_row_cells h
  exact ⟨l, ⟨sv, e, h2⟩, h1⟩
theorem open_lists {r : Reach} {b0 : Nat} {v : Value} {d : DataW H} {p : List MemPlace} (hv : Value.okWide Tryd.prog w r b0 27 v) (h : DataW.Trod enc Tryd.prog w 0 spare held 27 v d p) : ∃ l, (∀ x ∈ l, ∀ r ∈ x, RowWf r) ∧ ListsRd w v l := by
  obtain ⟨b, len, cap, rfl⟩ := okWide_slice Tryd.underlying27 hv
  obtain ⟨fuel, hf⟩ := h
  obtain ⟨sv, l, e, h1, h2⟩ := open_list (Rr := ListRd w) (Wf := fun x : List RowD => ∀ r ∈ x, RowWf r) Tryd.underlying27 (by kernel_rfl : _ = 1) (by decide) open_list_cells hf
  simp [Value.cells] at e
  subst e
  exact ⟨l, h1, h2⟩
end
end Go.Proofs.YtcfaicomnngegaaDoor
