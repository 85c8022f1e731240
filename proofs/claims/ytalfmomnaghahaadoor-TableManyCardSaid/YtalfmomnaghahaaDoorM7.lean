/-
  Texts of the proof, one behind the other (part 7).
-/
import Derived.Test.YtalfmomnaghahaaDoorM6
import Derived.DataShut
import Derived.Test.YtalfmomnaghahaaDoorChecked
import Derived.WalkSpells
import Derived.Lib.Hide
/-
  Streams: New, Next, one, Take, Rows, Fold.
-/
set_option linter.unusedVariables false
set_option maxRecDepth 10000
namespace Go.Proofs.YtalfmomnaghahaaDoor.Sw
open Go.RowKit Go.Sx

-- pieces

structure StreamD where
  f : FoldD
  l : List RowD

section

variable {G p pf : Nat} {w W : World} {R : List Res} {s : StreamD} {H H' : Fh} {v : Value} {xs : List Value}

end

/-- A row is taken: is it new? what came of it. -/
def one (s : StreamD) (r : RowD) : StreamD × Bool × Int :=
  if r.place > (s.l.length : Int) + 1 then (s, false, 2)
  else if r.place < (s.l.length : Int) + 1 then
    if r.place < 1 ∨ ¬ (∃ x, s.l[(r.place - 1).toNat]? = some x ∧ sameR r x = true) then (s, false, 1) else (s, false, 0)
  else if (next s.f r.b).2.2 = true ∧ (next s.f r.b).2.1.err = r.err then (⟨(next s.f r.b).1, s.l ++ [r]⟩, true, 0) else (s, false, 1)

end Go.Proofs.YtalfmomnaghahaaDoor.Sw

/-
  Streams: Take, Rows.
-/
set_option linter.unusedVariables false
set_option maxRecDepth 10000
namespace Go.Proofs.YtalfmomnaghahaaDoor.Sw
open Go.RowKit Go.Sx

-- pieces

/-- A slice of rows that is frozen. -/
def RowsH (H : Fh) (v : Value) (rows : List RowD) : Prop := ∃ xs, RdH H 5 v rows.length xs ∧ Ch (RowIn H) rows xs

theorem RowsH.le {H H' : Fh} {v : Value} {rows : List RowD} (h : H.le H') (r : RowsH H v rows) : RowsH H' v rows := by
  obtain ⟨xs, h1, h2⟩ := r
  exact ⟨xs, h1.le h, h2.mono (RowIn.le h)⟩

structure RowOk (r : RowD) : Prop where
  place : i64 r.place
  err : i64 r.err
  b : BatOk r.b

/-- Rows are taken, one behind the other, to the first that may not. -/
def takeN (s : StreamD) (n : Nat) : List RowD → StreamD × Nat × Int
  | [] => (s, n, 0)
  | r :: rs => if (one s r).2.2 = 0 then takeN (one s r).1 (if (one s r).2.1 = true then n + 1 else n) rs else ((one s r).1, n, (one s r).2.2)

theorem one_len (s : StreamD) (r : RowD) : (one s r).1.l.length ≤ s.l.length + 1 := by
  unfold one
  repeat (first | split | simp)

end Go.Proofs.YtalfmomnaghahaaDoor.Sw

/-
  The reference's rows compared: EqRow, EqRows.
-/
set_option linter.unusedVariables false
set_option maxRecDepth 10000
namespace Go.Sx
open Go.RowKit

section

variable {P : Program} {Q : Exit → Act → World → Prop} {C : Ending → World → Prop} {a : Act} {n G : Nat} {L : List (Nat × Value)} {w W : World} {R : List Res} {t t' : Tmp} {T T' E E' : TypeId} {b o b' o' : Nat} {cs cs' z z' : List Value} {fn : Func}

theorem rk3 [u : Ty P T true z] [u' : Ty P T' true z'] {r : Tmp} {v : Value} (hs : Slots a n L) (hr : fn.results = #[.cell t T, .cell t' T', .tmp r]) (hv : lk L t = some (.pointer (some ⟨b, o, none⟩))) (hv' : lk L t' = some (.pointer (some ⟨b', o', none⟩))) (hw : Has G w W R) (hi : In (Cells b cs E) R) (hi' : In (Cells b' cs' E') R) (hl : Nat.ble (o + z.length) cs.length = true) (hl' : Nat.ble (o' + z'.length) cs'.length = true) (hv2 : lk L r = some v) (h : C (.returned (.tuple #[.agg ⟨cut cs o z.length⟩, .agg ⟨cut cs' o' z'.length⟩, v])) W) : bodyPost P fn C .ret a W := by
  have h1 := run_load_agg u (hw.block hi).1 (Nat.le_of_ble_eq_true hl)
  have h1' := run_load_agg u' (hw.block hi').1 (Nat.le_of_ble_eq_true hl')
  refine rt hs ?_ h
  have h2 := at_tmp hs hv
  have h2' := at_tmp hs hv'
  have h3 := at_tmp hs hv2
  simp only [Instr.loadAt, Instr.sureAddr, Sem.run_bind, Sem.run_pure, Result.andThen_ok] at h1 h1'
  simp only [results, hr, List.mapM_toArray, List.mapM_cons, List.mapM_nil]
  simp [h2, h2', h3, asAddr, h1, h1']

end

theorem ch_at {α : Type} {Rr : α → List Value → Prop} {W : World} {sad : Option Addr} {scap n k : Nat} {l : List α} {xs : List Value} {i : Nat} {o : α} (hk : ∀ a c, Rr a c → c.length = k) (r : Rd W k (.slice sad n scap) n xs) (hc : Ch Rr l xs) (hn : l.length = n) (h : l[i]? = some o) :
    ∃ g off c, sad = some ⟨g, off, none⟩ ∧ g < W.heap.size ∧ Rr o c ∧ ∀ j u, c[j]? = some u → W.cell? ⟨g, off + i * k + j, none⟩ = some u := by
  have hi : i < l.length := (List.getElem?_eq_some_iff.1 h).1
  obtain ⟨c, h1, h2, h3⟩ := hc.get hk h
  obtain ⟨_, ad, cap, e, h4, h5, h6⟩ := r
  injection e with e1 e2 e3
  subst e1
  rcases h6 with h6 | ⟨b, off, rfl, hlt, hcell⟩
  · omega
  · refine ⟨b, off, c, rfl, hlt, h1, fun j u hu => ?_⟩
    rw [Nat.add_assoc]
    refine hcell _ _ ?_
    rw [← h3, cut_eq, List.getElem?_take] at hu
    split at hu
    · rw [List.getElem?_drop] at hu; exact hu
    · cases hu

end Go.Sx
namespace Go.Proofs.YtalfmomnaghahaaDoor.Sw
open Go.RowKit Go.Sx

-- pieces

def eqRow (a b : RowD) : Bool := (a.place == b.place) && ((a.err == b.err) && eqBatch a.b.c a.b.q a.b.l b.b.c b.b.q b.b.l)

theorem eqRow_iff {a b : RowD} : eqRow a b = true ↔ a = b := by
  obtain ⟨p, ⟨c, q, l⟩, e⟩ := a
  obtain ⟨p', ⟨c', q', l'⟩, e'⟩ := b
  simp only [eqRow, Bool.and_eq_true, beq_iff_eq, eqBatch_iff, RowD.mk.injEq, BatchD.mk.injEq]
  constructor
  · rintro ⟨h1, h2, h3⟩; exact ⟨h1, h3, h2⟩
  · rintro ⟨h1, h3, h2⟩; exact ⟨h1, h2, h3⟩

theorem eqL_iff {l l' : List OpD} : eqL l l' = true ↔ l = l' := by
  unfold eqL
  rw [Bool.and_eq_true, beq_iff_eq]
  constructor
  · rintro ⟨h1, h2⟩; exact (eqOps_iff h1).1 h2
  · rintro rfl; exact ⟨rfl, (eqOps_iff rfl).2 rfl⟩

theorem sameR_iff {a b : RowD} : sameR a b = true ↔ a = b := by
  obtain ⟨p, ⟨c, q, l⟩, e⟩ := a
  obtain ⟨p', ⟨c', q', l'⟩, e'⟩ := b
  simp only [sameR, Bool.and_eq_true, beq_iff_eq, eqL_iff, RowD.mk.injEq, BatchD.mk.injEq]
  constructor
  · rintro ⟨h1, h2, h3, h4, h5⟩; exact ⟨h1, ⟨h3, h4, h5⟩, h2⟩
  · rintro ⟨h1, ⟨h3, h4, h5⟩, h2⟩; exact ⟨h1, h2, h3, h4, h5⟩

def RowRd (W : World) (r : RowD) (cs : List Value) : Prop := ∃ sv, cs = rowCells r sv ∧ Rd W 9 sv r.b.l.length (r.b.l.flatMap opCells)

theorem RowRd.len {W : World} : ∀ (b : RowD) (c : List Value), RowRd W b c → c.length = 5 := by rintro b c ⟨sv, rfl, _⟩; rfl

theorem rowRd {G : Nat} {w0 W : World} {L : List Res} {H : Fh} (h : Has G w0 W L) (i : In (Fz H) L) {rows : List RowD} {xs : List Value} (hc : Ch (RowIn H) rows xs) : Ch (RowRd W) rows xs :=
  hc.mono fun r c ⟨sv, h1, h2⟩ => ⟨sv, h1, h.rdH i h2⟩

def eqRows (l m : List RowD) : Bool := (l.length == m.length) && (l.zip m).all fun p => eqRow p.1 p.2

theorem eqRows_iff {l m : List RowD} : eqRows l m = true ↔ l = m := by
  unfold eqRows
  rw [Bool.and_eq_true, beq_iff_eq]
  constructor
  · rintro ⟨h1, h2⟩
    apply List.ext_getElem h1
    intro i h3 h4
    rw [List.all_eq_true] at h2
    exact eqRow_iff.1 (h2 (l[i], m[i]) (List.mem_of_getElem? (i := i) (by rw [List.getElem?_zip_eq_some]; exact ⟨List.getElem?_eq_getElem h3, List.getElem?_eq_getElem h4⟩)))
  · rintro rfl
    refine ⟨rfl, ?_⟩
    rw [List.all_eq_true]
    intro p hp
    obtain ⟨i, hi⟩ := List.getElem?_of_mem hp
    rw [List.getElem?_zip_eq_some] at hi
    exact eqRow_iff.2 (Option.some.inj (hi.1.symm.trans hi.2))

theorem eqRows_snoc {l l' : List RowD} {i : Nat} {o o' : RowD} (h : l[i]? = some o) (h' : l'[i]? = some o') (e : l.take i = l'.take i) (ho : eqRow o o' = true) : l.take (i + 1) = l'.take (i + 1) := by
  rw [List.take_add_one, List.take_add_one, h, h', e, eqRow_iff.1 ho]

theorem eqRows_no {l l' : List RowD} {i : Nat} {o o' : RowD} (h : l[i]? = some o) (h' : l'[i]? = some o') (e : eqRow o o' = false) : eqRows l l' = false := by
  cases hq : eqRows l l' with
  | false => rfl
  | true =>
    have := eqRows_iff.1 hq
    subst this
    rw [h] at h'
    cases h'
    rw [eqRow_iff.2 rfl] at e
    cases e

end Go.Proofs.YtalfmomnaghahaaDoor.Sw

/-
  The walk of the reference's mayOps.
-/
set_option linter.unusedVariables false
set_option maxRecDepth 10000
namespace Go.Proofs.YtalfmomnaghahaaDoor.Sw
open Go.RowKit Go.Sx

def mayAll (l : List OpD) : Bool := !(decide ((l.length : Int) < 1)) && !(decide ((l.length : Int) > 8)) && l.all mayD

set_option maxHeartbeats 4000000 in
theorem ref_mayOps (l : List OpD) (sv : Value) (w : World) (ho : ∀ o ∈ l, OpOk o) (r : Rd w 9 sv l.length (l.flatMap opCells)) :
    Calls Tryd.prog 43 ⟨[sv]⟩ w fun e w' => e = .returned (.bool (mayAll l)) ∧ Below w.heap.size w w' := by
  have hw := Has.start (G := 0) (w := w) (Nat.zero_le _)
  obtain ⟨sad, scap, rfl⟩ : ∃ ad cap, sv = .slice ad l.length cap := by obtain ⟨_, ad, cap, e, _⟩ := r; exact ⟨ad, cap, e⟩
  have hlen : l.length ≤ 9223372036854775807 := r.len
  refine enter Tryd.func43 Tryd.ntmps43 rfl rfl fun a hs => ?_
  repeat (first | (refine sxv hs hw ?_; clear hs; intro a hs) | refine sxc hs ?_ | (refine sxa hs hw ?_; clear hs hw; intro a b W hw hs) | (refine sxs hs hw ?_; clear hs hw; intro W hs hw))
  cases h4 : decide ((l.length : Int) < 1) with
  | true =>
    rw [h4] at hs
    repeat (first | (refine sxv hs hw ?_; clear hs; intro a hs) | refine sxc hs ?_ | (refine sxa hs hw ?_; clear hs hw; intro a b W hw hs) | (refine sxs hs hw ?_; clear hs hw; intro W hs hw))
    exact rt1 hs rfl rfl ⟨by simp [mayAll, h4], hw.end (by repeat (first | exact In.hd | apply In.tl))⟩
  | false =>
  rw [h4] at hs
  repeat (first | (refine sxv hs hw ?_; clear hs; intro a hs) | refine sxc hs ?_ | (refine sxa hs hw ?_; clear hs hw; intro a b W hw hs) | (refine sxs hs hw ?_; clear hs hw; intro W hs hw))
  cases h5 : decide ((l.length : Int) > 8) with
  | true =>
    rw [h5] at hs
    repeat (first | (refine sxv hs hw ?_; clear hs; intro a hs) | refine sxc hs ?_ | (refine sxa hs hw ?_; clear hs hw; intro a b W hw hs) | (refine sxs hs hw ?_; clear hs hw; intro W hs hw))
    exact rt1 hs rfl rfl ⟨by simp only [mayAll, h4, h5]; rfl, hw.end (by repeat (first | exact In.hd | apply In.tl))⟩
  | false =>
  rw [h5] at hs
  repeat (first | (refine sxv hs hw ?_; clear hs; intro a hs) | refine sxc hs ?_ | (refine sxa hs hw ?_; clear hs hw; intro a b W hw hs) | (refine sxs hs hw ?_; clear hs hw; intro W hs hw))
  have hmb : mayAll l = l.all mayD := by unfold mayAll; rw [h4, h5]; simp
  rw [hmb]
  clear hmb h4 h5
  refine st_loop (σ := Nat) (fun i => [(0, .slice sad l.length scap), (3, .int .i64 (i : Int))]) (fun _ => Old w 0 :: []) (fun i => i ≤ l.length ∧ (l.take i).all mayD = true) (fun i => l.length - i) 0 ⟨Nat.zero_le _, rfl⟩ hs ⟨rfl, rfl, trivial⟩ hw ?_
  clear hs hw
  rintro i a W ⟨hi, ha⟩ hs hw
  repeat (first | (refine sxv hs hw ?_; clear hs; intro a hs) | refine sxc hs ?_ | (refine sxa hs hw ?_; clear hs hw; intro a b W hw hs) | (refine sxs hs hw ?_; clear hs hw; intro W hs hw))
  refine cd_split hs (kt := fun hcc => ?_) (kf := fun hcc => ?_)
  · have hi' : i < l.length := by simpa using hcc
    obtain ⟨o, hoi⟩ : ∃ o, l[i]? = some o := ⟨l[i], List.getElem?_eq_getElem hi'⟩
    have hok := ho o (List.mem_of_getElem? hoi)
    have hnext : (l.take (i + 1)).all mayD = mayD o := by
      rw [List.take_add_one, hoi, List.all_append, ha]; simp
    have hall : mayD o = false → l.all mayD = false := fun h => by
      rw [List.all_eq_false]
      exact ⟨o, List.mem_of_getElem? hoi, by rw [h]; simp⟩
    repeat (first | (refine sxv hs hw ?_; clear hs; intro a hs) | refine sxc hs ?_ | (refine sxa hs hw ?_; clear hs hw; intro a b W hw hs) | (refine sxs hs hw ?_; clear hs hw; intro W hs hw))
    refine st_index_op hs (r := hw.rd (by repeat (first | exact In.hd | apply In.tl)) hw.ext.size r) (ho := hoi) (c := ?_); clear hs; intro a p off hpc hs
    refine st_load_ats (z := opCells ⟨0, ⟨#[]⟩, 0, 0, ⟨#[]⟩, 0, 0, ⟨#[]⟩, 0⟩) hs (hc := hpc) (hl := rfl) (c := ?_); clear hs; intro a hs
    obtain ⟨kind, key, vk, vn, vs, ok, on, os, n⟩ := o
    simp only [opCells] at hs
    clear hpc
    have hkey := hok.key
    have hvs := hok.vs
    have hos := hok.os
    simp only at hkey hvs hos
    repeat (first | (refine sxv hs hw ?_; clear hs; intro a hs) | refine sxc hs ?_ | (refine sxa hs hw ?_; clear hs hw; intro a b W hw hs) | (refine sxs hs hw ?_; clear hs hw; intro W hs hw))
    refine st_call hs (hc := ref_MayOp kind key vk vn vs ok on os n _ hkey hvs hos) (k := ?_); rintro e0 W1 ⟨rfl, hb⟩; refine ⟨_, rfl, ?_⟩; clear hs; intro a hs; replace hw := hw.below hb; clear hb
    rw [show mayOp kind key vk vn vs ok on os n = mayD ⟨kind, key, vk, vn, vs, ok, on, os, n⟩ from rfl] at hs
    cases hm : mayD ⟨kind, key, vk, vn, vs, ok, on, os, n⟩ with
    | false =>
      rw [hm] at hs
      repeat (first | (refine sxv hs hw ?_; clear hs; intro a hs) | refine sxc hs ?_ | (refine sxa hs hw ?_; clear hs hw; intro a b W hw hs) | (refine sxs hs hw ?_; clear hs hw; intro W hs hw))
      exact rt1 hs rfl rfl ⟨by rw [hall hm], hw.end (by repeat (first | exact In.hd | apply In.tl))⟩
    | true =>
      rw [hm] at hs hnext
      repeat (first | (refine sxv hs hw ?_; clear hs; intro a hs) | refine sxc hs ?_ | (refine sxa hs hw ?_; clear hs hw; intro a b W hw hs) | (refine sxs hs hw ?_; clear hs hw; intro W hs hw))
      exact st_again (i + 1) hs hw ⟨by omega, hnext⟩ (by show l.length - (i + 1) < l.length - i; omega) ⟨rfl, int_eq (by show IntKind.i64.wrap ((i : Int) + 1) = ((i + 1 : Nat) : Int); rw [IntWalk.i64_in _ (by omega)]; omega), trivial⟩
  · have hi' : i = l.length := by have h9 := of_decide_eq_false hcc; omega
    subst hi'
    rw [List.take_length] at ha
    rw [ha]
    repeat (first | (refine sxv hs hw ?_; clear hs; intro a hs) | refine sxc hs ?_ | (refine sxa hs hw ?_; clear hs hw; intro a b W hw hs) | (refine sxs hs hw ?_; clear hs hw; intro W hs hw))
    exact rt1 hs rfl rfl ⟨rfl, hw.end (by repeat (first | exact In.hd | apply In.tl))⟩
end Go.Proofs.YtalfmomnaghahaaDoor.Sw

/-
  The walk of the reference's bytesOf: a batch's bytes.
-/
set_option linter.unusedVariables false
set_option maxRecDepth 10000
namespace Go.Proofs.YtalfmomnaghahaaDoor.Sw
open Go.RowKit Go.Sx

set_option maxHeartbeats 8000000 in
theorem ref_bytesOf (c q : Int) (l : List OpD) (sv : Value) (w : World) (hc : i64 c) (hq : i64 q) (hl : l.length ≤ 100) (ho : ∀ o ∈ l, OpOk o) (r : Rd w 9 sv l.length (l.flatMap opCells)) :
    Calls Tryd.prog 26 ⟨[.agg ⟨[.int .i64 c, .int .i64 q, sv]⟩]⟩ w fun e w' => ∃ ad cap, e = .returned (.slice ad (textB c q l).length cap) ∧ Has 0 w w' (OwnB 5 (.slice ad (textB c q l).length cap) (textB c q l) :: Old w 0 :: []) := by
  have hw := Has.start (G := 0) (w := w) (Nat.zero_le _)
  obtain ⟨sad, scap, rfl⟩ : ∃ ad cap, sv = .slice ad l.length cap := by obtain ⟨_, ad, cap, e, _⟩ := r; exact ⟨ad, cap, e⟩
  have hh := headB_le c q l.length
  unfold headB at hh
  simp only [List.length_append] at hh
  refine enter Tryd.func26 Tryd.ntmps26 rfl rfl fun a hs => ?_
  repeat (first | (refine sxv hs hw ?_; clear hs; intro a hs) | refine sxc hs ?_ | (refine sxa hs hw ?_; clear hs hw; intro a b W hw hs) | (refine sxs hs hw ?_; clear hs hw; intro W hs hw))
  obtain ⟨b1, q1⟩ := nm1 hw; subst q1
  have hw : Has 0 w _ (Cells b1 [.int .i64 c, .int .i64 q, .slice sad l.length scap] 25 :: Old w 0 :: []) := hw
  refine st_call hs (hc := ref_Put w _ c _ hc.1 hc.2 hw) (k := ?_); rintro e0 W1 ⟨ad, cap, rfl, hw1⟩; refine ⟨_, rfl, ?_⟩; clear hs hw; intro a hs; have hw := hw1; clear hw1
  repeat (first | (refine sxv hs hw ?_; clear hs; intro a hs) | refine sxc hs ?_ | (refine sxa hs hw ?_; clear hs hw; intro a b W hw hs) | (refine sxs hs hw ?_; clear hs hw; intro W hs hw))
  refine st_call hs (hc := ref_Put w _ q _ hq.1 hq.2 hw) (k := ?_); rintro e0 W1 ⟨ad, cap, rfl, hw1⟩; refine ⟨_, rfl, ?_⟩; clear hs hw; intro a hs; have hw := hw1; clear hw1
  repeat (first | (refine sxv hs hw ?_; clear hs; intro a hs) | refine sxc hs ?_ | (refine sxa hs hw ?_; clear hs hw; intro a b W hw hs) | (refine sxs hs hw ?_; clear hs hw; intro W hs hw))
  have hw := hw.swap2
  refine st_append_b hs hw (l := Ph.putI c) (m := Ph.putI q) (hr := src_rd (hw.rd_own (In.tl In.hd)) (bys_one _)) (hb := by first | omega | (simp only [List.length_append]; omega)) (c := ?_); clear hs hw; intro a ad2 cap2 W hs hw
  have hw := hw.drop2
  repeat (first | (refine sxv hs hw ?_; clear hs; intro a hs) | refine sxc hs ?_ | (refine sxa hs hw ?_; clear hs hw; intro a b W hw hs) | (refine sxs hs hw ?_; clear hs hw; intro W hs hw))
  refine st_call hs (hc := ref_Put w _ (l.length : Int) _ (by omega) (by omega) hw) (k := ?_); rintro e0 W1 ⟨ad, cap, rfl, hw1⟩; refine ⟨_, rfl, ?_⟩; clear hs hw; intro a hs; have hw := hw1; clear hw1
  repeat (first | (refine sxv hs hw ?_; clear hs; intro a hs) | refine sxc hs ?_ | (refine sxa hs hw ?_; clear hs hw; intro a b W hw hs) | (refine sxs hs hw ?_; clear hs hw; intro W hs hw))
  have hw := hw.swap2
  refine st_append_b hs hw (l := Ph.putI c ++ Ph.putI q) (m := Ph.putI l.length) (hr := src_rd (hw.rd_own (In.tl In.hd)) (bys_one _)) (hb := by first | omega | (simp only [List.length_append]; omega)) (c := ?_); clear hs hw; intro a ad2 cap2 W hs hw
  have hw := hw.drop2
  repeat (first | (refine sxv hs hw ?_; clear hs; intro a hs) | refine sxc hs ?_ | (refine sxa hs hw ?_; clear hs hw; intro a b W hw hs) | (refine sxs hs hw ?_; clear hs hw; intro W hs hw))
  refine st_loop (σ := Value × Nat) (fun s => [(1, .pointer (some ⟨b1, 0, none⟩)), (3, s.1), (4, .int .i64 (s.2 : Int))]) (fun s => Sx.OwnB 5 s.1 (headB c q l.length ++ (l.take s.2).flatMap opB) :: Cells b1 [.int .i64 c, .int .i64 q, .slice sad l.length scap] 25 :: Old w 0 :: []) (fun s => s.2 ≤ l.length) (fun s => l.length - s.2) (.slice ad2 (Ph.putI c ++ Ph.putI q ++ Ph.putI l.length).length cap2, 0) (Nat.zero_le _) hs ⟨rfl, rfl, rfl, trivial⟩ (by rw [show (headB c q l.length ++ (l.take 0).flatMap opB) = Ph.putI c ++ Ph.putI q ++ Ph.putI l.length from by simp [headB]]; exact hw) ?_
  clear hs hw hh
  rintro ⟨v, i⟩ a W hi hs hw
  simp only at hi hs hw
  repeat (first | (refine sxv hs hw ?_; clear hs; intro a hs) | refine sxc hs ?_ | (refine sxa hs hw ?_; clear hs hw; intro a b W hw hs) | (refine sxs hs hw ?_; clear hs hw; intro W hs hw))
  refine cd_split hs (kt := fun hcc => ?_) (kf := fun hcc => ?_)
  · have hi' : i < l.length := by simpa using hcc
    obtain ⟨o, hoi⟩ : ∃ o, l[i]? = some o := ⟨l[i], List.getElem?_eq_getElem hi'⟩
    have hok := ho o (List.mem_of_getElem? hoi)
    have hacc : (headB c q l.length ++ (l.take i).flatMap opB).length ≤ 320000030 := by
      have h1 := headB_le c q l.length
      have h2 := ops_le (l := l.take i) fun x hx => ho x (List.mem_of_mem_take hx)
      rw [List.length_take] at h2
      rw [List.length_append]; omega
    have hnext : headB c q l.length ++ (l.take (i + 1)).flatMap opB = headB c q l.length ++ (l.take i).flatMap opB ++ opB o := by
      rw [List.take_add_one, hoi, List.flatMap_append, List.append_assoc]; simp
    generalize headB c q l.length ++ (l.take i).flatMap opB = acc at *
    have hp1 := Ph.putI_length_le o.kind
    have hp2 := putT_le o.key
    have hp3 := putR_le o.vk o.vn o.vs
    have hp4 := putR_le o.ok o.on o.os
    have hp5 := Ph.putI_length_le o.n
    obtain ⟨hk, hvk, hvn, hok', hon, hn, hkey, hvs, hos⟩ := hok
    repeat (first | (refine sxv hs hw ?_; clear hs; intro a hs) | refine sxc hs ?_ | (refine sxa hs hw ?_; clear hs hw; intro a b W hw hs) | (refine sxs hs hw ?_; clear hs hw; intro W hs hw))
    refine st_index_op hs (r := hw.rd (by repeat (first | exact In.hd | apply In.tl)) hw.ext.size r) (ho := hoi) (c := ?_); clear hs; intro a p off hpc hs
    refine st_load_ats (z := opCells ⟨0, ⟨#[]⟩, 0, 0, ⟨#[]⟩, 0, 0, ⟨#[]⟩, 0⟩) hs (hc := hpc) (hl := rfl) (c := ?_); clear hs; intro a hs
    obtain ⟨kind, key, vk, vn, vs, ok, on, os, n⟩ := o
    simp only at hk hvk hvn hok' hon hn hkey hvs hos hp1 hp2 hp3 hp4 hp5
    simp only [opCells] at hs
    clear hpc
    repeat (first | (refine sxv hs hw ?_; clear hs; intro a hs) | refine sxc hs ?_ | (refine sxa hs hw ?_; clear hs hw; intro a b W hw hs) | (refine sxs hs hw ?_; clear hs hw; intro W hs hw))
    obtain ⟨b4, q4⟩ := nm1 hw; subst q4
    have hw : Has 0 w _ (Cells b4 [.int .i64 kind, .string key, .int .i64 vk, .int .i64 vn, .string vs, .int .i64 ok, .int .i64 on, .string os, .int .i64 n] 41 :: Sx.OwnB 5 v acc :: Cells b1 [.int .i64 c, .int .i64 q, .slice sad l.length scap] 25 :: Old w 0 :: []) := hw
    have hw := hw.swap2
    obtain ⟨vad, vcap, rfl⟩ := hw.own_slice
    refine st_call hs (hc := ref_Put w _ kind _ hk.1 hk.2 hw) (k := ?_); rintro e0 W1 ⟨ad, cap, rfl, hw1⟩; refine ⟨_, rfl, ?_⟩; clear hs hw; intro a hs; have hw := hw1; clear hw1
    repeat (first | (refine sxv hs hw ?_; clear hs; intro a hs) | refine sxc hs ?_ | (refine sxa hs hw ?_; clear hs hw; intro a b W hw hs) | (refine sxs hs hw ?_; clear hs hw; intro W hs hw))
    have hw := hw.swap2
    refine st_append_b hs hw (l := acc) (m := Ph.putI kind) (hr := src_rd (hw.rd_own (In.tl In.hd)) (bys_one _)) (hb := by first | omega | (simp only [List.length_append]; omega)) (c := ?_); clear hs hw; intro a ad2 cap2 W hs hw
    have hw := hw.drop2
    repeat (first | (refine sxv hs hw ?_; clear hs; intro a hs) | refine sxc hs ?_ | (refine sxa hs hw ?_; clear hs hw; intro a b W hw hs) | (refine sxs hs hw ?_; clear hs hw; intro W hs hw))
    refine st_call hs (hc := ref_PutText w _ key _ (by omega) hw) (k := ?_); rintro e0 W1 ⟨ad, cap, rfl, hw1⟩; refine ⟨_, rfl, ?_⟩; clear hs hw; intro a hs; have hw := hw1; clear hw1
    repeat (first | (refine sxv hs hw ?_; clear hs; intro a hs) | refine sxc hs ?_ | (refine sxa hs hw ?_; clear hs hw; intro a b W hw hs) | (refine sxs hs hw ?_; clear hs hw; intro W hs hw))
    have hw := hw.swap2
    refine st_append_b hs hw (l := acc ++ Ph.putI kind) (m := Ph.putT key.data.toList) (hr := src_rd (hw.rd_own (In.tl In.hd)) (bys_one _)) (hb := by first | omega | (simp only [List.length_append]; omega)) (c := ?_); clear hs hw; intro a ad2 cap2 W hs hw
    have hw := hw.drop2
    repeat (first | (refine sxv hs hw ?_; clear hs; intro a hs) | refine sxc hs ?_ | (refine sxa hs hw ?_; clear hs hw; intro a b W hw hs) | (refine sxs hs hw ?_; clear hs hw; intro W hs hw))
    have hlen2 : (acc ++ Ph.putI kind ++ Ph.putT key.data.toList).length ≤ 322000060 := by simp only [List.length_append]; omega
    generalize hA : acc ++ Ph.putI kind ++ Ph.putT key.data.toList = acc2 at *
    by_cases k1 : kind = 1
    · subst k1
      repeat (first | (refine sxv hs hw ?_; clear hs; intro a hs) | refine sxc hs ?_ | (refine sxa hs hw ?_; clear hs hw; intro a b W hw hs) | (refine sxs hs hw ?_; clear hs hw; intro W hs hw))
      refine st_call hs (hc := ref_PutRaw w _ vk vn vs _ hvk.1 hvk.2 hvn.1 hvn.2 (by omega) hw) (k := ?_); rintro e0 W1 ⟨ad, cap, rfl, hw1⟩; refine ⟨_, rfl, ?_⟩; clear hs hw; intro a hs; have hw := hw1; clear hw1
      repeat (first | (refine sxv hs hw ?_; clear hs; intro a hs) | refine sxc hs ?_ | (refine sxa hs hw ?_; clear hs hw; intro a b W hw hs) | (refine sxs hs hw ?_; clear hs hw; intro W hs hw))
      have hw := hw.swap2
      refine st_append_b hs hw (l := acc2) (m := putR vk vn vs) (hr := src_rd (hw.rd_own (In.tl In.hd)) (bys_one _)) (hb := by first | omega | (simp only [List.length_append]; omega)) (c := ?_); clear hs hw; intro a ad2 cap2 W hs hw
      have hw := hw.drop2
      repeat (first | (refine sxv hs hw ?_; clear hs; intro a hs) | refine sxc hs ?_ | (refine sxa hs hw ?_; clear hs hw; intro a b W hw hs) | (refine sxs hs hw ?_; clear hs hw; intro W hs hw))
      have hw := hw.drop2
      repeat (first | (refine sxv hs hw ?_; clear hs; intro a hs) | refine sxc hs ?_ | (refine sxa hs hw ?_; clear hs hw; intro a b W hw hs) | (refine sxs hs hw ?_; clear hs hw; intro W hs hw))
      rw [show acc2 ++ putR vk vn vs = acc ++ opB ⟨1, key, vk, vn, vs, ok, on, os, n⟩ from by rw [← hA]; simp [opB], ← hnext] at hs hw
      refine st_again (_, i + 1) hs hw (by show i + 1 ≤ l.length; omega) (by show l.length - (i + 1) < l.length - i; omega) ⟨rfl, rfl, int_eq (by show IntKind.i64.wrap ((i : Int) + 1) = ((i + 1 : Nat) : Int); rw [IntWalk.i64_in _ (by omega)]; omega), trivial⟩
    have e1 : (kind == 1) = false := by simpa using k1
    rw [e1] at hs
    repeat (first | (refine sxv hs hw ?_; clear hs; intro a hs) | refine sxc hs ?_ | (refine sxa hs hw ?_; clear hs hw; intro a b W hw hs) | (refine sxs hs hw ?_; clear hs hw; intro W hs hw))
    by_cases k3 : kind = 3
    · subst k3
      repeat (first | (refine sxv hs hw ?_; clear hs; intro a hs) | refine sxc hs ?_ | (refine sxa hs hw ?_; clear hs hw; intro a b W hw hs) | (refine sxs hs hw ?_; clear hs hw; intro W hs hw))
      have hw := hw.free.free
      have hw := hw.perm ((List.Perm.cons _ (List.Perm.swap _ _ _)).trans ((List.Perm.swap _ _ _)))
      refine rg_drawU (σ := Option Addr × Nat) (V := fun u => [(.slice ad2 acc2.length cap2), .pointer (some ⟨b4, 0 + 2, none⟩), .agg ⟨[.int .i64 vk, .int .i64 vn, .string vs]⟩, (.slice (u 3).1 (putR vk vn vs).length (u 3).2), (.slice (u 4).1 (acc2 ++ putR vk vn vs).length (u 4).2), .pointer (some ⟨b4, 0 + 5, none⟩), .agg ⟨[.int .i64 ok, .int .i64 on, .string os]⟩, (.slice (u 7).1 (putR ok on os).length (u 7).2), (.slice (u 8).1 (acc2 ++ putR vk vn vs ++ putR ok on os).length (u 8).2), (.slice (u 9).1 (acc2 ++ putR vk vn vs ++ putR ok on os).length (u 9).2)])
        (Rs := fun u D => (if D 9 then Sx.OwnB 5 (.slice (u 9).1 (acc2 ++ putR vk vn vs ++ putR ok on os).length (u 9).2) (acc2 ++ putR vk vn vs ++ putR ok on os) else if D 8 then Sx.OwnB 5 (.slice (u 8).1 (acc2 ++ putR vk vn vs ++ putR ok on os).length (u 8).2) (acc2 ++ putR vk vn vs ++ putR ok on os) else if D 4 then Sx.OwnB 5 (.slice (u 4).1 (acc2 ++ putR vk vn vs).length (u 4).2) (acc2 ++ putR vk vn vs) else Sx.OwnB 5 (.slice ad2 acc2.length cap2) (acc2)) :: (if D 3 then Sx.OwnB 5 (.slice (u 3).1 (putR vk vn vs).length (u 3).2) (putR vk vn vs) else Free) :: (if D 7 then Sx.OwnB 5 (.slice (u 7).1 (putR ok on os).length (u 7).2) (putR ok on os) else Free) :: Cells b4 [.int .i64 3, .string key, .int .i64 vk, .int .i64 vn, .string vs, .int .i64 ok, .int .i64 on, .string os, .int .i64 n] 41 :: Cells b1 [.int .i64 c, .int .i64 q, .slice sad l.length scap] 25 :: Old w 0 :: []) (fun _ => (none, 0)) hs hw (hVu := ?vu_c) (ho := ⟨?_, ?_, ?_, ?c3_c, ?c4_c, ?_, ?_, ?c7_c, ?c8_c, ?c9_c, trivial⟩) (k := ?k_c)
      case vu_c =>
        intro u u' j h
        rcases j with _ | _ | _ | _ | _ | _ | _ | _ | _ | _ | j
        · rfl
        · rfl
        · rfl
        · simp [h]
        · simp [h]
        · rfl
        · rfl
        · simp [h]
        · simp [h]
        · simp [h]
        · rfl
      case c3_c =>
        intro u LD D a W hcl hi hp hs hw
        have h4 := Go.Sx.not_done hcl hi 4 (by kernel_rfl)
        have h8 := Go.Sx.not_done hcl h4 8 (by kernel_rfl)
        have h9 := Go.Sx.not_done hcl h8 9 (by kernel_rfl)
        simp only [hi, h4, h8, h9, Bool.false_eq_true, if_false] at hw
        refine st_call hs (hc := ref_PutRaw w _ vk vn vs _ hvk.1 hvk.2 hvn.1 hvn.2 (by omega) hw) (k := ?_); rintro e0 W1 ⟨ad, cap, rfl, hw1⟩; refine ⟨_, rfl, ?_⟩; clear hs hw; intro a hs; have hw := hw1; clear hw1
        repeat (first | (refine sxv hs hw ?_; clear hs; intro a hs) | refine sxc hs ?_ | (refine sxa hs hw ?_; clear hs hw; intro a b W hw hs) | (refine sxs hs hw ?_; clear hs hw; intro W hs hw))
        refine Or.inr ⟨(ad, cap), hs, ?_⟩
        show Has 0 w _ ((if (Nat.beq 9 3 || D 9) = true then _ else if (Nat.beq 8 3 || D 8) = true then _ else if (Nat.beq 4 3 || D 4) = true then _ else _) :: _)
        rw [h9, h8, h4]
        exact hw.fill (Upd.tl Upd.hd)
      case c4_c =>
        intro u LD D a W hcl hi hp hs hw
        have h3 := Go.Sx.done hp 3 (by kernel_rfl)
        have h8 := Go.Sx.not_done hcl hi 8 (by kernel_rfl)
        have h9 := Go.Sx.not_done hcl h8 9 (by kernel_rfl)
        simp only [hi, h3, h8, h9, Bool.false_eq_true, if_false, if_true] at hw
        refine st_append_b hs hw (l := acc2) (m := putR vk vn vs) (hr := src_rd (hw.rd_own (In.tl In.hd)) (bys_one _)) (hb := by omega) (c := ?_); clear hs hw; intro a ad cap W hs hw
        repeat (first | (refine sxv hs hw ?_; clear hs; intro a hs) | refine sxc hs ?_ | (refine sxa hs hw ?_; clear hs hw; intro a b W hw hs) | (refine sxs hs hw ?_; clear hs hw; intro W hs hw))
        refine Or.inr ⟨(ad, cap), hs, ?_⟩
        show Has 0 w _ ((if (Nat.beq 9 4 || D 9) = true then _ else if (Nat.beq 8 4 || D 8) = true then _ else _) :: (if (Nat.beq 3 4 || D 3) = true then _ else _) :: _)
        rw [h9, h8, h3]
        exact hw
      case c7_c =>
        intro u LD D a W hcl hi hp hs hw
        have h8 := Go.Sx.not_done hcl hi 8 (by kernel_rfl)
        have h9 := Go.Sx.not_done hcl h8 9 (by kernel_rfl)
        simp only [hi, h8, h9, Bool.false_eq_true, if_false] at hw
        refine st_call hs (hc := ref_PutRaw w _ ok on os _ hok'.1 hok'.2 hon.1 hon.2 (by omega) hw) (k := ?_); rintro e0 W1 ⟨ad, cap, rfl, hw1⟩; refine ⟨_, rfl, ?_⟩; clear hs hw; intro a hs; have hw := hw1; clear hw1
        repeat (first | (refine sxv hs hw ?_; clear hs; intro a hs) | refine sxc hs ?_ | (refine sxa hs hw ?_; clear hs hw; intro a b W hw hs) | (refine sxs hs hw ?_; clear hs hw; intro W hs hw))
        refine Or.inr ⟨(ad, cap), hs, ?_⟩
        show Has 0 w _ ((if (Nat.beq 9 7 || D 9) = true then _ else if (Nat.beq 8 7 || D 8) = true then _ else _) :: _)
        rw [h9, h8]
        exact hw.fill (Upd.tl (Upd.tl Upd.hd))
      case c8_c =>
        intro u LD D a W hcl hi hp hs hw
        have h4 := Go.Sx.done hp 4 (by kernel_rfl)
        have h7 := Go.Sx.done hp 7 (by kernel_rfl)
        have h9 := Go.Sx.not_done hcl hi 9 (by kernel_rfl)
        simp only [hi, h4, h7, h9, Bool.false_eq_true, if_false, if_true] at hw
        refine st_append_b hs hw (l := acc2 ++ putR vk vn vs) (m := putR ok on os) (hr := src_rd (hw.rd_own (In.tl (In.tl In.hd))) (bys_one _)) (hb := by first | omega | (simp only [List.length_append]; omega)) (c := ?_); clear hs hw; intro a ad cap W hs hw
        repeat (first | (refine sxv hs hw ?_; clear hs; intro a hs) | refine sxc hs ?_ | (refine sxa hs hw ?_; clear hs hw; intro a b W hw hs) | (refine sxs hs hw ?_; clear hs hw; intro W hs hw))
        refine Or.inr ⟨(ad, cap), hs, ?_⟩
        show Has 0 w _ ((if (Nat.beq 9 8 || D 9) = true then _ else _) :: _ :: (if (Nat.beq 7 8 || D 7) = true then _ else _) :: _)
        rw [h9, h7]
        exact hw
      case c9_c =>
        intro u LD D a W hcl hi hp hs hw
        have h8 := Go.Sx.done hp 8 (by kernel_rfl)
        simp only [hi, h8, Bool.false_eq_true, if_false, if_true] at hw
        repeat (first | (refine sxv hs hw ?_; clear hs; intro a hs) | refine sxc hs ?_ | (refine sxa hs hw ?_; clear hs hw; intro a b W hw hs) | (refine sxs hs hw ?_; clear hs hw; intro W hs hw))
        exact Or.inr ⟨u 8, hs, hw⟩
      case k_c =>
        clear hs hw
        intro u a W hs hw
        replace hw : Has 0 w W (Sx.OwnB 5 (.slice (u 9).1 (acc2 ++ putR vk vn vs ++ putR ok on os).length (u 9).2) (acc2 ++ putR vk vn vs ++ putR ok on os) :: Sx.OwnB 5 (.slice (u 3).1 (putR vk vn vs).length (u 3).2) (putR vk vn vs) :: Sx.OwnB 5 (.slice (u 7).1 (putR ok on os).length (u 7).2) (putR ok on os) :: Cells b4 [.int .i64 3, .string key, .int .i64 vk, .int .i64 vn, .string vs, .int .i64 ok, .int .i64 on, .string os, .int .i64 n] 41 :: Cells b1 [.int .i64 c, .int .i64 q, .slice sad l.length scap] 25 :: Old w 0 :: []) := hw
        replace hw := hw.drop2.drop2
        replace hs : Slots a 70 [(1, .pointer (some ⟨b1, 0, none⟩)), (3, (.slice (u 9).1 (acc2 ++ putR vk vn vs ++ putR ok on os).length (u 9).2)), (4, .int .i64 (i : Int))] := hs.of ⟨rfl, rfl, rfl, trivial⟩
        generalize (u 9).1 = ad1 at *
        generalize (u 9).2 = cap1 at *
        clear u
        have hw := hw.drop2
        repeat (first | (refine sxv hs hw ?_; clear hs; intro a hs) | refine sxc hs ?_ | (refine sxa hs hw ?_; clear hs hw; intro a b W hw hs) | (refine sxs hs hw ?_; clear hs hw; intro W hs hw))
        rw [show acc2 ++ putR vk vn vs ++ putR ok on os = acc ++ opB ⟨3, key, vk, vn, vs, ok, on, os, n⟩ from by rw [← hA]; simp [opB], ← hnext] at hs hw
        refine st_again (_, i + 1) hs hw (by show i + 1 ≤ l.length; omega) (by show l.length - (i + 1) < l.length - i; omega) ⟨rfl, rfl, int_eq (by show IntKind.i64.wrap ((i : Int) + 1) = ((i + 1 : Nat) : Int); rw [IntWalk.i64_in _ (by omega)]; omega), trivial⟩
      all_goals
        intro u LD D a W hcl hi hp hs hw
        repeat (first | (refine sxv hs hw ?_; clear hs; intro a hs) | refine sxc hs ?_ | (refine sxa hs hw ?_; clear hs hw; intro a b W hw hs) | (refine sxs hs hw ?_; clear hs hw; intro W hs hw))
        exact Or.inl ⟨hs, hw⟩
    have e3 : (kind == 3) = false := by simpa using k3
    rw [e3] at hs
    repeat (first | (refine sxv hs hw ?_; clear hs; intro a hs) | refine sxc hs ?_ | (refine sxa hs hw ?_; clear hs hw; intro a b W hw hs) | (refine sxs hs hw ?_; clear hs hw; intro W hs hw))
    by_cases k4 : kind = 4
    · subst k4
      repeat (first | (refine sxv hs hw ?_; clear hs; intro a hs) | refine sxc hs ?_ | (refine sxa hs hw ?_; clear hs hw; intro a b W hw hs) | (refine sxs hs hw ?_; clear hs hw; intro W hs hw))
      refine st_call hs (hc := ref_Put w _ n _ hn.1 hn.2 hw) (k := ?_); rintro e0 W1 ⟨ad, cap, rfl, hw1⟩; refine ⟨_, rfl, ?_⟩; clear hs hw; intro a hs; have hw := hw1; clear hw1
      repeat (first | (refine sxv hs hw ?_; clear hs; intro a hs) | refine sxc hs ?_ | (refine sxa hs hw ?_; clear hs hw; intro a b W hw hs) | (refine sxs hs hw ?_; clear hs hw; intro W hs hw))
      have hw := hw.swap2
      refine st_append_b hs hw (l := acc2) (m := Ph.putI n) (hr := src_rd (hw.rd_own (In.tl In.hd)) (bys_one _)) (hb := by first | omega | (simp only [List.length_append]; omega)) (c := ?_); clear hs hw; intro a ad2 cap2 W hs hw
      have hw := hw.drop2
      repeat (first | (refine sxv hs hw ?_; clear hs; intro a hs) | refine sxc hs ?_ | (refine sxa hs hw ?_; clear hs hw; intro a b W hw hs) | (refine sxs hs hw ?_; clear hs hw; intro W hs hw))
      have hw := hw.drop2
      repeat (first | (refine sxv hs hw ?_; clear hs; intro a hs) | refine sxc hs ?_ | (refine sxa hs hw ?_; clear hs hw; intro a b W hw hs) | (refine sxs hs hw ?_; clear hs hw; intro W hs hw))
      rw [show acc2 ++ Ph.putI n = acc ++ opB ⟨4, key, vk, vn, vs, ok, on, os, n⟩ from by rw [← hA]; simp [opB], ← hnext] at hs hw
      refine st_again (_, i + 1) hs hw (by show i + 1 ≤ l.length; omega) (by show l.length - (i + 1) < l.length - i; omega) ⟨rfl, rfl, int_eq (by show IntKind.i64.wrap ((i : Int) + 1) = ((i + 1 : Nat) : Int); rw [IntWalk.i64_in _ (by omega)]; omega), trivial⟩
    have e4 : (kind == 4) = false := by simpa using k4
    rw [e4] at hs
    repeat (first | (refine sxv hs hw ?_; clear hs; intro a hs) | refine sxc hs ?_ | (refine sxa hs hw ?_; clear hs hw; intro a b W hw hs) | (refine sxs hs hw ?_; clear hs hw; intro W hs hw))
    have hw := hw.drop2
    repeat (first | (refine sxv hs hw ?_; clear hs; intro a hs) | refine sxc hs ?_ | (refine sxa hs hw ?_; clear hs hw; intro a b W hw hs) | (refine sxs hs hw ?_; clear hs hw; intro W hs hw))
    rw [show acc2 = acc ++ opB ⟨kind, key, vk, vn, vs, ok, on, os, n⟩ from by rw [← hA]; simp [opB, k3, k1, k4], ← hnext] at hs hw
    refine st_again (_, i + 1) hs hw (by show i + 1 ≤ l.length; omega) (by show l.length - (i + 1) < l.length - i; omega) ⟨rfl, rfl, int_eq (by show IntKind.i64.wrap ((i : Int) + 1) = ((i + 1 : Nat) : Int); rw [IntWalk.i64_in _ (by omega)]; omega), trivial⟩
  · have hi' : i = l.length := by have h9 := of_decide_eq_false hcc; omega
    subst hi'
    repeat (first | (refine sxv hs hw ?_; clear hs; intro a hs) | refine sxc hs ?_ | (refine sxa hs hw ?_; clear hs hw; intro a b W hw hs) | (refine sxs hs hw ?_; clear hs hw; intro W hs hw))
    rw [List.take_length] at hw
    have hw := hw.drop2
    obtain ⟨ad, cap, e⟩ : ∃ ad cap, v = .slice ad (textB c q l).length cap := hw.own_slice
    subst e
    exact rt1 hs rfl rfl ⟨ad, cap, rfl, hw⟩
end Go.Proofs.YtalfmomnaghahaaDoor.Sw

/-
  The walks of the reference's MayBatch and EncodeBatch.
-/
set_option linter.unusedVariables false
set_option maxRecDepth 10000
namespace Go.Proofs.YtalfmomnaghahaaDoor.Sw
open Go.RowKit Go.Sx
-- pieces

set_option maxHeartbeats 8000000 in
theorem ref_MayBatch (c q : Int) (l : List OpD) (sv : Value) (w : World) (hc : i64 c) (hq : i64 q) (ho : ∀ o ∈ l, OpOk o) (r : Rd w 9 sv l.length (l.flatMap opCells)) :
    Calls Tryd.prog 25 ⟨[.agg ⟨[.int .i64 c, .int .i64 q, sv]⟩]⟩ w fun e w' => e = .returned (.bool (mayBatch c q l)) ∧ Below w.heap.size w w' := by
  have hw := Has.start (G := 0) (w := w) (Nat.zero_le _)
  obtain ⟨sad, scap, rfl⟩ : ∃ ad cap, sv = .slice ad l.length cap := by obtain ⟨_, ad, cap, e, _⟩ := r; exact ⟨ad, cap, e⟩
  have hlen : l.length ≤ 9223372036854775807 := r.len
  refine enter Tryd.func25 Tryd.ntmps25 rfl rfl fun a hs => ?_
  repeat (first | (refine sxv hs hw ?_; clear hs; intro a hs) | refine sxc hs ?_ | (refine sxa hs hw ?_; clear hs hw; intro a b W hw hs) | (refine sxs hs hw ?_; clear hs hw; intro W hs hw))
  cases h0 : decide (c < 1) with
  | true =>
    rw [h0] at hs
    repeat (first | (refine sxv hs hw ?_; clear hs; intro a hs) | refine sxc hs ?_ | (refine sxa hs hw ?_; clear hs hw; intro a b W hw hs) | (refine sxs hs hw ?_; clear hs hw; intro W hs hw))
    exact rt1 hs rfl rfl ⟨by simp [mayBatch, h0], hw.end (by repeat (first | exact In.hd | apply In.tl))⟩
  | false =>
  rw [h0] at hs
  repeat (first | (refine sxv hs hw ?_; clear hs; intro a hs) | refine sxc hs ?_ | (refine sxa hs hw ?_; clear hs hw; intro a b W hw hs) | (refine sxs hs hw ?_; clear hs hw; intro W hs hw))
  cases h1 : decide (c > 5) with
  | true =>
    rw [h1] at hs
    repeat (first | (refine sxv hs hw ?_; clear hs; intro a hs) | refine sxc hs ?_ | (refine sxa hs hw ?_; clear hs hw; intro a b W hw hs) | (refine sxs hs hw ?_; clear hs hw; intro W hs hw))
    exact rt1 hs rfl rfl ⟨by simp [mayBatch, h0, h1], hw.end (by repeat (first | exact In.hd | apply In.tl))⟩
  | false =>
  rw [h1] at hs
  repeat (first | (refine sxv hs hw ?_; clear hs; intro a hs) | refine sxc hs ?_ | (refine sxa hs hw ?_; clear hs hw; intro a b W hw hs) | (refine sxs hs hw ?_; clear hs hw; intro W hs hw))
  cases h2 : decide (q < 1) with
  | true =>
    rw [h2] at hs
    repeat (first | (refine sxv hs hw ?_; clear hs; intro a hs) | refine sxc hs ?_ | (refine sxa hs hw ?_; clear hs hw; intro a b W hw hs) | (refine sxs hs hw ?_; clear hs hw; intro W hs hw))
    exact rt1 hs rfl rfl ⟨by simp [mayBatch, h0, h1, h2], hw.end (by repeat (first | exact In.hd | apply In.tl))⟩
  | false =>
  rw [h2] at hs
  repeat (first | (refine sxv hs hw ?_; clear hs; intro a hs) | refine sxc hs ?_ | (refine sxa hs hw ?_; clear hs hw; intro a b W hw hs) | (refine sxs hs hw ?_; clear hs hw; intro W hs hw))
  cases h3 : decide (q > 1099511627776) with
  | true =>
    rw [h3] at hs
    repeat (first | (refine sxv hs hw ?_; clear hs; intro a hs) | refine sxc hs ?_ | (refine sxa hs hw ?_; clear hs hw; intro a b W hw hs) | (refine sxs hs hw ?_; clear hs hw; intro W hs hw))
    exact rt1 hs rfl rfl ⟨by simp [mayBatch, h0, h1, h2, h3], hw.end (by repeat (first | exact In.hd | apply In.tl))⟩
  | false =>
  rw [h3] at hs
  repeat (first | (refine sxv hs hw ?_; clear hs; intro a hs) | refine sxc hs ?_ | (refine sxa hs hw ?_; clear hs hw; intro a b W hw hs) | (refine sxs hs hw ?_; clear hs hw; intro W hs hw))
  have hmb : mayBatch c q l = (mayAll l && decide (((textB c q l).length : Int) ≤ 1200)) := by unfold mayBatch mayAll; rw [h0, h1, h2, h3]; simp
  rw [hmb]
  clear hmb h0 h1 h2 h3
  refine st_call hs (hc := ref_mayOps l _ _ ho (hw.rd (by repeat (first | exact In.hd | apply In.tl)) hw.ext.size r)) (k := ?_); rintro e0 W1 ⟨rfl, hb⟩; refine ⟨_, rfl, ?_⟩; clear hs; intro a hs; replace hw := hw.below hb; clear hb
  cases hm : mayAll l with
  | false =>
    rw [hm] at hs
    repeat (first | (refine sxv hs hw ?_; clear hs; intro a hs) | refine sxc hs ?_ | (refine sxa hs hw ?_; clear hs hw; intro a b W hw hs) | (refine sxs hs hw ?_; clear hs hw; intro W hs hw))
    exact rt1 hs rfl rfl ⟨by simp, hw.end (by repeat (first | exact In.hd | apply In.tl))⟩
  | true =>
    rw [hm] at hs
    have h8 : l.length ≤ 8 := by
      unfold mayAll at hm
      simp only [Bool.and_eq_true, Bool.not_eq_true', decide_eq_false_iff_not] at hm
      omega
    repeat (first | (refine sxv hs hw ?_; clear hs; intro a hs) | refine sxc hs ?_ | (refine sxa hs hw ?_; clear hs hw; intro a b W hw hs) | (refine sxs hs hw ?_; clear hs hw; intro W hs hw))
    refine st_call hs (hc := ref_bytesOf c q l _ _ hc hq (by omega) ho (hw.rd (by repeat (first | exact In.hd | apply In.tl)) hw.ext.size r)) (k := ?_); rintro e0 W1 ⟨ad, cap, rfl, hw1⟩; refine ⟨_, rfl, ?_⟩; clear hs; intro a hs; replace hw := hw.call hw1; clear hw1
    repeat (first | (refine sxv hs hw ?_; clear hs; intro a hs) | refine sxc hs ?_ | (refine sxa hs hw ?_; clear hs hw; intro a b W hw hs) | (refine sxs hs hw ?_; clear hs hw; intro W hs hw))
    exact rt1 hs rfl rfl ⟨by simp, hw.end (by repeat (first | exact In.hd | apply In.tl))⟩

set_option maxHeartbeats 4000000 in
theorem ref_EncodeBatch (c q : Int) (l : List OpD) (sv : Value) (w : World) (hc : i64 c) (hq : i64 q) (ho : ∀ o ∈ l, OpOk o) (r : Rd w 9 sv l.length (l.flatMap opCells)) :
    Calls Tryd.prog 13 ⟨[.agg ⟨[.int .i64 c, .int .i64 q, sv]⟩]⟩ w fun e w' => ∃ ad cap, e = .returned (.slice ad (if mayBatch c q l then textB c q l else []).length cap) ∧ Has 0 w w' (OwnB 5 (.slice ad (if mayBatch c q l then textB c q l else []).length cap) (if mayBatch c q l then textB c q l else []) :: Old w 0 :: []) := by
  have hw := Has.start (G := 0) (w := w) (Nat.zero_le _)
  obtain ⟨sad, scap, rfl⟩ : ∃ ad cap, sv = .slice ad l.length cap := by obtain ⟨_, ad, cap, e, _⟩ := r; exact ⟨ad, cap, e⟩
  have hlen : l.length ≤ 9223372036854775807 := r.len
  refine enter Tryd.func13 Tryd.ntmps13 rfl rfl fun a hs => ?_
  repeat (first | (refine sxv hs hw ?_; clear hs; intro a hs) | refine sxc hs ?_ | (refine sxa hs hw ?_; clear hs hw; intro a b W hw hs) | (refine sxs hs hw ?_; clear hs hw; intro W hs hw))
  refine st_call hs (hc := ref_MayBatch c q l _ _ hc hq ho (hw.rd (by repeat (first | exact In.hd | apply In.tl)) hw.ext.size r)) (k := ?_); rintro e0 W1 ⟨rfl, hb⟩; refine ⟨_, rfl, ?_⟩; clear hs; intro a hs; replace hw := hw.below hb; clear hb
  cases hm : mayBatch c q l with
  | false =>
    rw [hm] at hs
    repeat (first | (refine sxv hs hw ?_; clear hs; intro a hs) | refine sxc hs ?_ | (refine sxa hs hw ?_; clear hs hw; intro a b W hw hs) | (refine sxs hs hw ?_; clear hs hw; intro W hs hw))
    have hw := (hw.nilB 5).drop2
    exact rt1 hs rfl rfl ⟨none, 0, rfl, hw⟩
  | true =>
    rw [hm] at hs
    have h8 : l.length ≤ 8 := by
      unfold mayBatch at hm
      simp only [Bool.and_eq_true, Bool.not_eq_true', decide_eq_false_iff_not] at hm
      omega
    repeat (first | (refine sxv hs hw ?_; clear hs; intro a hs) | refine sxc hs ?_ | (refine sxa hs hw ?_; clear hs hw; intro a b W hw hs) | (refine sxs hs hw ?_; clear hs hw; intro W hs hw))
    refine st_call hs (hc := ref_bytesOf c q l _ _ hc hq (by omega) ho (hw.rd (by repeat (first | exact In.hd | apply In.tl)) hw.ext.size r)) (k := ?_); rintro e0 W1 ⟨ad, cap, rfl, hw1⟩; refine ⟨_, rfl, ?_⟩; clear hs; intro a hs; replace hw := hw.call hw1; clear hw1
    repeat (first | (refine sxv hs hw ?_; clear hs; intro a hs) | refine sxc hs ?_ | (refine sxa hs hw ?_; clear hs hw; intro a b W hw hs) | (refine sxs hs hw ?_; clear hs hw; intro W hs hw))
    have hw := hw.drop2
    exact rt1 hs rfl rfl ⟨ad, cap, rfl, hw⟩

end Go.Proofs.YtalfmomnaghahaaDoor.Sw

/-
  The reference's fold: Next.
-/
set_option linter.unusedVariables false
set_option maxRecDepth 10000
namespace Go.Sx

theorem abs2 {G : Nat} {w W : World} {q : Res} {R : List Res} {b : Nat} {cs : List Value} {T : TypeId} (h : Has G w W (q :: Cells b cs T :: R)) : ∃ z : List Value, z.length = cs.length ∧ Has G w W (q :: Cells b z T :: R) := ⟨cs, rfl, h⟩

theorem ov_left (ls ts vs : List Value) (o : Nat) (h : o + vs.length ≤ ls.length) : ov (ls ++ ts) o vs = ov ls o vs ++ ts := by
  rw [ov_eq _ _ _ (by simp; omega), ov_eq _ _ _ h, List.take_append_of_le_length (by omega), List.drop_append_of_le_length h]
  simp

theorem ov_right (ls ts vs : List Value) (o : Nat) (h : o + vs.length ≤ ts.length) : ov (ls ++ ts) (ls.length + o) vs = ls ++ ov ts o vs := by
  rw [ov_eq _ _ _ (by simp; omega), ov_eq _ _ _ h]
  rw [List.take_append, List.take_of_length_le (by omega), List.drop_append, List.drop_of_length_le (by omega)]
  rw [show ls.length + o - ls.length = o by omega, show ls.length + o + vs.length - ls.length = o + vs.length by omega]
  simp

end Go.Sx
namespace Go.Proofs.YtalfmomnaghahaaDoor.Sw
open Go.RowKit Go.Sx

-- pieces

abbrev rfC (pl : Int) (dv : Value) (ls ts : List Value) : List Value := .int .i64 pl :: dv :: (ls ++ ts)

def NumIn (x : Int × RowD) (c : List Value) : Prop := c = [.int .i64 x.1]

def ToRow (H : Fh) (x : Int × RowD) (c : List Value) : Prop := RowIn H x.2 c

/-- The reference's fold, its cells. -/
def RfIn (H : Fh) (f : FoldD) (cs : List Value) : Prop := ∃ dv ls ts, cs = rfC f.place dv ls ts ∧ DocH H dv f.d ∧ f.told.length = 6 ∧ Ch NumIn f.told ls ∧ Ch (ToRow H) f.told ts

theorem NumIn.len : ∀ (x : Int × RowD) (c : List Value), NumIn x c → c.length = 1 := by rintro x c rfl; rfl

theorem ToRow.len {H : Fh} : ∀ (x : Int × RowD) (c : List Value), ToRow H x c → c.length = 5 := fun x c h => RowIn.len x.2 c h

theorem rf_len {H : Fh} {told : List (Int × RowD)} {ls ts : List Value} (h6 : told.length = 6) (hl : Ch NumIn told ls) (ht : Ch (ToRow H) told ts) : ls.length = 6 ∧ ts.length = 30 := by
  have h1 := hl.length NumIn.len
  have h2 := ht.length ToRow.len
  rw [h6] at h1 h2
  exact ⟨by omega, by omega⟩

theorem RfIn.len {H : Fh} {f : FoldD} {cs : List Value} (h : RfIn H f cs) : cs.length = 38 := by
  obtain ⟨dv, ls, ts, rfl, _, h6, hl, ht⟩ := h
  obtain ⟨h1, h2⟩ := rf_len h6 hl ht
  simp [h1, h2]

theorem RfIn.one {H : Fh} {f : FoldD} {cs : List Value} (h : RfIn H f cs) : cs.all (·.oneCell') = true := by
  obtain ⟨dv, ls, ts, rfl, hd, h6, hl, ht⟩ := h
  obtain ⟨dad, dcap, rfl⟩ := hd.slice
  rw [List.all_eq_true]
  intro v hv
  simp only [rfC, List.mem_cons, List.mem_append] at hv
  rcases hv with rfl | rfl | hv | hv
  · rfl
  · rfl
  · exact hl.ones (fun x c hc v hv => by cases hc; simp only [List.mem_singleton] at hv; subst hv; rfl) v hv
  · exact ht.ones (fun x c hc => RowIn.ones x.2 c hc) v hv

theorem RfIn.le {H H' : Fh} {f : FoldD} {cs : List Value} (hle : H.le H') (h : RfIn H f cs) : RfIn H' f cs := by
  obtain ⟨dv, ls, ts, rfl, hd, h6, hl, ht⟩ := h
  exact ⟨dv, ls, ts, rfl, RdH.le hd hle, h6, hl, ht.mono fun x c hc => RowIn.le hle x.2 c hc⟩

theorem lastOf_at {f : FoldD} {c : Int} (h1 : 1 ≤ c) (h5 : c ≤ 5) {x : Int × RowD} (hx : f.told[c.toNat]? = some x) : lastOf f c = x.1 := by
  unfold lastOf
  rw [if_pos ⟨h1, h5⟩, hx]; rfl

end Go.Proofs.YtalfmomnaghahaaDoor.Sw

/-
  The walk of packhorselaw5.Cut: operations that are not too many and long.
-/
set_option linter.unusedVariables false
set_option maxRecDepth 10000
namespace Go.Proofs.YtalfmomnaghahaaDoor.Sw
open Go.RowKit Go.Sx

theorem law4_CutS (k n : Int) (s : ByteArray) (w : World) (hs0 : s.size ≤ 9223372036854775807) :
    Calls Tryd.prog 56 ⟨[.agg #[.int .i64 k, .int .i64 n, .string s]]⟩ w fun e w' => e = .returned (.agg ⟨[.int .i64 k, .int .i64 n, .string (cutS s 220)]⟩) ∧ Below w.heap.size w w' := by
  have hw := Has.start (G := 0) (w := w) (Nat.zero_le _)
  refine enter Tryd.func56 Tryd.ntmps56 rfl rfl fun a hs => ?_
  repeat (first | (refine sxv hs hw ?_; clear hs; intro a hs) | refine sxc hs ?_ | (refine sxa hs hw ?_; clear hs hw; intro a b W hw hs) | (refine sxs hs hw ?_; clear hs hw; intro W hs hw))
  refine st_call hs (hc := law1_Cut s 220 _ hs0 (by decide)) (k := ?_); rintro e0 W1 ⟨rfl, rfl⟩; refine ⟨_, rfl, ?_⟩; clear hs; intro a hs
  rw [show (220 : Int).toNat = 220 from rfl] at hs
  repeat (first | (refine sxv hs hw ?_; clear hs; intro a hs) | refine sxc hs ?_ | (refine sxa hs hw ?_; clear hs hw; intro a b W hw hs) | (refine sxs hs hw ?_; clear hs hw; intro W hs hw))
  refine rc1 hs rfl rfl hw (by repeat (first | exact In.hd | apply In.tl)) rfl ?_
  exact ⟨rfl, hw.end (by repeat (first | exact In.hd | apply In.tl))⟩

def cutO (o : OpD) : OpD := ⟨o.kind, cutS o.key 90, o.vk, o.vn, cutS o.vs 220, o.ok, o.on, cutS o.os 220, o.n⟩
def cutD (l : List OpD) : List OpD := (l.take 10).map cutO

set_option maxHeartbeats 8000000 in
theorem law5_Cut (l : List OpD) (sv : Value) (w : World) (hz : ∀ o ∈ l, o.key.size ≤ 9223372036854775807 ∧ o.vs.size ≤ 9223372036854775807 ∧ o.os.size ≤ 9223372036854775807) (r : Rd w 9 sv l.length (l.flatMap opCells)) :
    Calls Tryd.prog 48 ⟨[sv]⟩ w fun e w' => ∃ ad cap, e = .returned (.slice ad (cutD l).length cap) ∧ Has 0 w w' (Sx.Own 41 9 (.slice ad (cutD l).length cap) (cutD l).length ((cutD l).flatMap opCells) :: Old w 0 :: []) := by
  have hw := Has.start (G := 0) (w := w) (Nat.zero_le _)
  obtain ⟨sad, scap, rfl⟩ : ∃ ad cap, sv = .slice ad l.length cap := by obtain ⟨_, ad, cap, e, _⟩ := r; exact ⟨ad, cap, e⟩
  have hlen : l.length ≤ 9223372036854775807 := r.len
  refine enter Tryd.func48 Tryd.ntmps48 rfl rfl fun a hs => ?_
  repeat (first | (refine sxv hs hw ?_; clear hs; intro a hs) | refine sxc hs ?_ | (refine sxa hs hw ?_; clear hs hw; intro a b W hw hs) | (refine sxs hs hw ?_; clear hs hw; intro W hs hw))
  have hw : Has 0 w w (Sx.Own 41 9 (.slice none 0 0) (cutD (l.take 0)).length ((cutD (l.take 0)).flatMap opCells) :: Old w 0 :: []) := hw.nilOwn _ _
  refine st_loop (σ := Value × Nat) (fun s => [(0, .slice sad l.length scap), (3, s.1), (4, .int .i64 (s.2 : Int))]) (fun s => Sx.Own 41 9 s.1 (cutD (l.take s.2)).length ((cutD (l.take s.2)).flatMap opCells) :: Old w 0 :: []) (fun s => s.2 ≤ l.length ∧ s.2 ≤ 10) (fun s => l.length - s.2) (.slice none 0 0, 0) ⟨Nat.zero_le _, Nat.zero_le _⟩ hs ⟨rfl, rfl, rfl, trivial⟩ hw ?_
  clear hs hw
  rintro ⟨v, i⟩ a W ⟨hi, hi10⟩ hs hw
  simp only at hi hi10 hs hw
  repeat (first | (refine sxv hs hw ?_; clear hs; intro a hs) | refine sxc hs ?_ | (refine sxa hs hw ?_; clear hs hw; intro a b W hw hs) | (refine sxs hs hw ?_; clear hs hw; intro W hs hw))
  by_cases c1 : i < l.length
  · have e1 : decide ((i : Int) < (l.length : Int)) = true := by simp; omega
    rw [e1] at hs
    repeat (first | (refine sxv hs hw ?_; clear hs; intro a hs) | refine sxc hs ?_ | (refine sxa hs hw ?_; clear hs hw; intro a b W hw hs) | (refine sxs hs hw ?_; clear hs hw; intro W hs hw))
    by_cases c2 : i < 10
    · have e2 : decide ((i : Int) < 10) = true := by simp; omega
      rw [e2] at hs
      obtain ⟨o, hoi⟩ : ∃ o, l[i]? = some o := ⟨l[i], List.getElem?_eq_getElem c1⟩
      have hz' := hz o (List.mem_of_getElem? hoi)
      have hnext : cutD (l.take (i + 1)) = cutD (l.take i) ++ [cutO o] := by
        unfold cutD
        rw [List.take_take, List.take_take, Nat.min_eq_right (by omega : i + 1 ≤ 10), Nat.min_eq_right (by omega : i ≤ 10), List.take_add_one, hoi]
        simp
      repeat (first | (refine sxv hs hw ?_; clear hs; intro a hs) | refine sxc hs ?_ | (refine sxa hs hw ?_; clear hs hw; intro a b W hw hs) | (refine sxs hs hw ?_; clear hs hw; intro W hs hw))
      refine st_index_op hs (r := hw.rd (by repeat (first | exact In.hd | apply In.tl)) hw.ext.size r) (ho := hoi) (c := ?_); clear hs; intro a p off hpc hs
      refine st_load_ats (z := opCells ⟨0, ⟨#[]⟩, 0, 0, ⟨#[]⟩, 0, 0, ⟨#[]⟩, 0⟩) hs (hc := hpc) (hl := rfl) (c := ?_); clear hs; intro a hs
      obtain ⟨kind, key, vk, vn, vs, ok, on, os, n⟩ := o
      simp only at hz'
      simp only [opCells] at hs
      clear hpc
      repeat (first | (refine sxv hs hw ?_; clear hs; intro a hs) | refine sxc hs ?_ | (refine sxa hs hw ?_; clear hs hw; intro a b W hw hs) | (refine sxs hs hw ?_; clear hs hw; intro W hs hw))
      obtain ⟨b4, q4⟩ := nm1 hw; subst q4
      refine rg_draw (V := [.pointer (some ⟨b4, 0 + 1, none⟩), .string key, .string (cutS key 90), .pointer (some ⟨b4, 0 + 2, none⟩), .agg ⟨[.int .i64 vk, .int .i64 vn, .string vs]⟩, .agg ⟨[.int .i64 vk, .int .i64 vn, .string (cutS vs 220)]⟩, .pointer (some ⟨b4, 0 + 5, none⟩), .agg ⟨[.int .i64 ok, .int .i64 on, .string os]⟩, .agg ⟨[.int .i64 ok, .int .i64 on, .string (cutS os 220)]⟩, .pointer (some ⟨b4, 0 + 1, none⟩), .bool true, .pointer (some ⟨b4, 0 + 2, none⟩), .bool true, .pointer (some ⟨b4, 0 + 5, none⟩), .bool true])
        (Rs := fun D => Cells b4 [.int .i64 kind, .string (if D 10 then cutS key 90 else key), .int .i64 vk, .int .i64 vn, .string (if D 12 then cutS vs 220 else vs), .int .i64 ok, .int .i64 on, .string (if D 14 then cutS os 220 else os), .int .i64 n] 41 :: Sx.Own 41 9 v (cutD (l.take i)).length ((cutD (l.take i)).flatMap opCells) :: Old w 0 :: []) hs hw (ho := ⟨?_, ?c1_a, ?c2_a, ?_, ?c4_a, ?c5_a, ?_, ?c7_a, ?c8_a, ?_, ?_, ?_, ?_, ?_, ?_, trivial⟩) (k := ?k_a)
      case c1_a =>
        intro LD D a W hcl hi hp hs hw
        have h2 := Go.Sx.not_done hcl hi 2 (by kernel_rfl)
        have h10 := Go.Sx.not_done hcl h2 10 (by kernel_rfl)
        have hw0 := hw
        simp only [h10, Bool.false_eq_true, if_false] at hw
        repeat (first | (refine sxv hs hw ?_; clear hs; intro a hs) | refine sxc hs ?_ | (refine sxa hs hw ?_; clear hs hw; intro a b W hw hs) | (refine sxs hs hw ?_; clear hs hw; intro W hs hw))
        exact ⟨hs, hw0⟩
      case c4_a =>
        intro LD D a W hcl hi hp hs hw
        have h2 := Go.Sx.not_done hcl hi 5 (by kernel_rfl)
        have h10 := Go.Sx.not_done hcl h2 12 (by kernel_rfl)
        have hw0 := hw
        simp only [h10, Bool.false_eq_true, if_false] at hw
        repeat (first | (refine sxv hs hw ?_; clear hs; intro a hs) | refine sxc hs ?_ | (refine sxa hs hw ?_; clear hs hw; intro a b W hw hs) | (refine sxs hs hw ?_; clear hs hw; intro W hs hw))
        exact ⟨hs, hw0⟩
      case c7_a =>
        intro LD D a W hcl hi hp hs hw
        have h2 := Go.Sx.not_done hcl hi 8 (by kernel_rfl)
        have h10 := Go.Sx.not_done hcl h2 14 (by kernel_rfl)
        have hw0 := hw
        simp only [h10, Bool.false_eq_true, if_false] at hw
        repeat (first | (refine sxv hs hw ?_; clear hs; intro a hs) | refine sxc hs ?_ | (refine sxa hs hw ?_; clear hs hw; intro a b W hw hs) | (refine sxs hs hw ?_; clear hs hw; intro W hs hw))
        exact ⟨hs, hw0⟩
      case c2_a =>
        intro LD D a W hcl hi hp hs hw
        refine st_call hs (hc := law1_Cut key 90 _ hz'.1 (by decide)) (k := ?_); rintro e0 W1 ⟨rfl, rfl⟩; refine ⟨_, rfl, ?_⟩; clear hs; intro a hs
        rw [show (90 : Int).toNat = 90 from rfl] at hs
        repeat (first | (refine sxv hs hw ?_; clear hs; intro a hs) | refine sxc hs ?_ | (refine sxa hs hw ?_; clear hs hw; intro a b W hw hs) | (refine sxs hs hw ?_; clear hs hw; intro W hs hw))
        exact ⟨hs, hw⟩
      case c5_a =>
        intro LD D a W hcl hi hp hs hw
        refine st_call hs (hc := law4_CutS vk vn vs _ hz'.2.1) (k := ?_); rintro e0 W1 ⟨rfl, hb⟩; refine ⟨_, rfl, ?_⟩; clear hs; intro a hs; replace hw := hw.below hb; clear hb
        repeat (first | (refine sxv hs hw ?_; clear hs; intro a hs) | refine sxc hs ?_ | (refine sxa hs hw ?_; clear hs hw; intro a b W hw hs) | (refine sxs hs hw ?_; clear hs hw; intro W hs hw))
        exact ⟨hs, hw⟩
      case c8_a =>
        intro LD D a W hcl hi hp hs hw
        refine st_call hs (hc := law4_CutS ok on os _ hz'.2.2) (k := ?_); rintro e0 W1 ⟨rfl, hb⟩; refine ⟨_, rfl, ?_⟩; clear hs; intro a hs; replace hw := hw.below hb; clear hb
        repeat (first | (refine sxv hs hw ?_; clear hs; intro a hs) | refine sxc hs ?_ | (refine sxa hs hw ?_; clear hs hw; intro a b W hw hs) | (refine sxs hs hw ?_; clear hs hw; intro W hs hw))
        exact ⟨hs, hw⟩
      case k_a =>
        clear hs hw
        intro a W hs hw
        replace hw : Has 0 w W (Cells b4 (opCells (cutO ⟨kind, key, vk, vn, vs, ok, on, os, n⟩)) 41 :: Sx.Own 41 9 v (cutD (l.take i)).length ((cutD (l.take i)).flatMap opCells) :: Old w 0 :: []) := hw
        repeat (first | (refine sxv hs hw ?_; clear hs; intro a hs) | refine sxc hs ?_ | (refine sxa hs hw ?_; clear hs hw; intro a b W hw hs) | (refine sxs hs hw ?_; clear hs hw; intro W hs hw))
        have hk : (cutD (l.take i)).length ≤ 10 := by unfold cutD; simp; omega
        refine st_append_lit hs hw (k := (cutD (l.take i)).length) (h63 := by omega) (hb := by omega) (c := ?_)
        clear hs hw; intro a ad cap W hs hw
        repeat (first | (refine sxv hs hw ?_; clear hs; intro a hs) | refine sxc hs ?_ | (refine sxa hs hw ?_; clear hs hw; intro a b W hw hs) | (refine sxs hs hw ?_; clear hs hw; intro W hs hw))
        replace hw := hw.sub (List.Sublist.cons _ (List.Sublist.cons _ (List.Sublist.refl _)))
        have hL : (cutD (l.take i)).length + 1 = (cutD (l.take (i + 1))).length := by rw [hnext]; simp
        have hw' : Has 0 w W (Sx.Own 41 9 (.slice ad (cutD (l.take (i + 1))).length cap) (cutD (l.take (i + 1))).length ((cutD (l.take (i + 1))).flatMap opCells) :: Old w 0 :: []) := by
          rw [← hL, hnext, List.flatMap_append, List.flatMap_singleton]; exact hw
        rw [hL] at hs
        exact st_again (_, i + 1) hs hw' ⟨by show i + 1 ≤ l.length; omega, by show i + 1 ≤ 10; omega⟩ (by show l.length - (i + 1) < l.length - i; omega) ⟨rfl, rfl, int_eq (by show IntKind.i64.wrap ((i : Int) + 1) = ((i + 1 : Nat) : Int); rw [IntWalk.i64_in _ (by omega)]; omega), trivial⟩
      all_goals
        intro LD D a W hcl hi hp hs hw
        repeat (first | (refine sxv hs hw ?_; clear hs; intro a hs) | refine sxc hs ?_ | (refine sxa hs hw ?_; clear hs hw; intro a b W hw hs) | (refine sxs hs hw ?_; clear hs hw; intro W hs hw))
        exact ⟨hs, hw⟩
    · have e2 : decide ((i : Int) < 10) = false := by simp; omega
      rw [e2] at hs
      repeat (first | (refine sxv hs hw ?_; clear hs; intro a hs) | refine sxc hs ?_ | (refine sxa hs hw ?_; clear hs hw; intro a b W hw hs) | (refine sxs hs hw ?_; clear hs hw; intro W hs hw))
      obtain rfl : i = 10 := by omega
      have hD : cutD (l.take 10) = cutD l := by unfold cutD; rw [List.take_take]; rfl
      rw [hD] at hw
      obtain ⟨ad, cap, rfl⟩ := hw.own_slice
      exact rt1 hs rfl rfl ⟨ad, cap, rfl, hw⟩
  · have e1 : decide ((i : Int) < (l.length : Int)) = false := by simp; omega
    rw [e1] at hs
    repeat (first | (refine sxv hs hw ?_; clear hs; intro a hs) | refine sxc hs ?_ | (refine sxa hs hw ?_; clear hs hw; intro a b W hw hs) | (refine sxs hs hw ?_; clear hs hw; intro W hs hw))
    obtain rfl : i = l.length := by omega
    rw [List.take_length] at hw
    obtain ⟨ad, cap, rfl⟩ := hw.own_slice
    exact rt1 hs rfl rfl ⟨ad, cap, rfl, hw⟩
end Go.Proofs.YtalfmomnaghahaaDoor.Sw

/-
  The walk of packhorselaw5.CutBatch.
-/
set_option linter.unusedVariables false
set_option maxRecDepth 10000
namespace Go.Proofs.YtalfmomnaghahaaDoor.Sw
open Go.RowKit Go.Sx

set_option maxHeartbeats 4000000 in
theorem law5_CutBatch (c q : Int) (l : List OpD) (sv : Value) (w : World) (hz : ∀ o ∈ l, o.key.size ≤ 9223372036854775807 ∧ o.vs.size ≤ 9223372036854775807 ∧ o.os.size ≤ 9223372036854775807) (r : Rd w 9 sv l.length (l.flatMap opCells)) :
    Calls Tryd.prog 33 ⟨[.agg ⟨[.int .i64 c, .int .i64 q, sv]⟩]⟩ w fun e w' => ∃ ad cap, e = .returned (.agg ⟨[.int .i64 c, .int .i64 q, .slice ad (cutD l).length cap]⟩) ∧ Has 0 w w' (Sx.Own 41 9 (.slice ad (cutD l).length cap) (cutD l).length ((cutD l).flatMap opCells) :: Old w 0 :: []) := by
  have hw := Has.start (G := 0) (w := w) (Nat.zero_le _)
  obtain ⟨sad, scap, rfl⟩ : ∃ ad cap, sv = .slice ad l.length cap := by obtain ⟨_, ad, cap, e, _⟩ := r; exact ⟨ad, cap, e⟩
  refine enter Tryd.func33 Tryd.ntmps33 rfl rfl fun a hs => ?_
  repeat (first | (refine sxv hs hw ?_; clear hs; intro a hs) | refine sxc hs ?_ | (refine sxa hs hw ?_; clear hs hw; intro a b W hw hs) | (refine sxs hs hw ?_; clear hs hw; intro W hs hw))
  refine st_call hs (hc := law5_Cut l _ _ hz (hw.rd (by repeat (first | exact In.hd | apply In.tl)) hw.ext.size r)) (k := ?_); rintro e0 W1 ⟨ad, cap, rfl, hw1⟩; refine ⟨_, rfl, ?_⟩; clear hs; intro a hs; replace hw := hw.call hw1; clear hw1
  repeat (first | (refine sxv hs hw ?_; clear hs; intro a hs) | refine sxc hs ?_ | (refine sxa hs hw ?_; clear hs hw; intro a b W hw hs) | (refine sxs hs hw ?_; clear hs hw; intro W hs hw))
  refine rc1 hs rfl rfl hw (In.tl In.hd) rfl ?_
  exact ⟨ad, cap, rfl, hw.drop2.drop2⟩
end Go.Proofs.YtalfmomnaghahaaDoor.Sw

/-
  Operations as they come in.
-/
set_option linter.unusedVariables false
namespace Go.Proofs.YtalfmomnaghahaaDoor.Sw
open Go.RowKit Go.Sx

/-- An operation as it comes in. -/
structure OpWf (o : OpD) : Prop where
  kind : (Lit.int .i64 o.kind).wf = true
  vk : (Lit.int .i64 o.vk).wf = true
  vn : (Lit.int .i64 o.vn).wf = true
  ok : (Lit.int .i64 o.ok).wf = true
  on : (Lit.int .i64 o.on).wf = true
  n : (Lit.int .i64 o.n).wf = true
  key : o.key.size ≤ maxLen
  vs : o.vs.size ≤ maxLen
  os : o.os.size ≤ maxLen
theorem max63 {n : Nat} (h : n ≤ maxLen) : n ≤ 9223372036854775807 := by
  have : (maxLen : Nat) ≤ 9223372036854775807 := by decide
  omega
theorem wf_i64 {n : Int} (h : (Lit.int .i64 n).wf = true) : i64 n := by
  have := (Lit.wf_int_iff .i64 n).1 h
  show -9223372036854775808 ≤ n ∧ n ≤ 9223372036854775807
  simpa [IntKind.min, IntKind.max, IntKind.signed, IntKind.bits] using this
theorem cutO_ok {o : OpD} (h : OpWf o) : OpOk (cutO o) := by
  have h1 := cutS_size o.key 90
  have h2 := cutS_size o.vs 220
  have h3 := cutS_size o.os 220
  exact ⟨wf_i64 h.kind, wf_i64 h.vk, wf_i64 h.vn, wf_i64 h.ok, wf_i64 h.on, wf_i64 h.n, by show (cutS o.key 90).size ≤ _; omega, by show (cutS o.vs 220).size ≤ _; omega, by show (cutS o.os 220).size ≤ _; omega⟩
theorem cutD_ok {l : List OpD} (h : ∀ o ∈ l, OpWf o) : ∀ o ∈ cutD l, OpOk o := by
  intro o ho
  obtain ⟨x, hx, rfl⟩ := List.mem_map.1 ho
  exact cutO_ok (h x (List.mem_of_mem_take hx))
theorem wf_sizes {l : List OpD} (h : ∀ o ∈ l, OpWf o) : ∀ o ∈ l, o.key.size ≤ 9223372036854775807 ∧ o.vs.size ≤ 9223372036854775807 ∧ o.os.size ≤ 9223372036854775807 :=
  fun o ho => ⟨max63 (h o ho).key, max63 (h o ho).vs, max63 (h o ho).os⟩
end Go.Proofs.YtalfmomnaghahaaDoor.Sw

/-
  Batches cut; the reference's All; the rows of batches.
-/
set_option linter.unusedVariables false
set_option maxRecDepth 10000
namespace Go.Sx

theorem ch_atH {α : Type} {Rr : α → List Value → Prop} {H : Fh} {sad : Option Addr} {scap n k : Nat} {l : List α} {xs : List Value} {i : Nat} {o : α} (hk : ∀ a c, Rr a c → c.length = k) (r : RdH H k (.slice sad n scap) n xs) (hc : Ch Rr l xs) (hn : l.length = n) (h : l[i]? = some o) :
    ∃ g off c, sad = some ⟨g, off, none⟩ ∧ Rr o c ∧ ∀ {G : Nat} {w0 W : World} {L : List Res}, In (Fz H) L → Has G w0 W L → ∀ j u, c[j]? = some u → W.cell? ⟨g, off + i * k + j, none⟩ = some u := by
  have hi : i < l.length := (List.getElem?_eq_some_iff.1 h).1
  obtain ⟨c, h1, h2, h3⟩ := hc.get hk h
  obtain ⟨_, ad, cap, e, h4, h5, h6⟩ := r
  injection e with e1 e2 e3
  subst e1
  rcases h6 with h6 | ⟨b, off, cs, T, z, rfl, hb, hcell⟩
  · omega
  · refine ⟨b, off, c, rfl, h1, fun {G w0 W L} hin hw j u hu => ?_⟩
    obtain ⟨F, hF, hfz⟩ := hw.of_in hin
    have hbl := (hfz b _ hb).2
    unfold World.cell?
    rw [hbl]
    rw [← h3, cut_eq, List.getElem?_take] at hu
    split at hu
    · rw [List.getElem?_drop] at hu
      have := hcell _ _ hu
      rw [← Nat.add_assoc] at this
      simpa using this
    · cases hu

end Go.Sx
namespace Go.Proofs.YtalfmomnaghahaaDoor.Sw
open Go.RowKit Go.Sx

-- pieces

structure BatWf (b : BatchD) : Prop where
  c : (Lit.int .i64 b.c).wf = true
  q : (Lit.int .i64 b.q).wf = true
  ops : ∀ o ∈ b.l, OpWf o

def cutB (b : BatchD) : BatchD := ⟨b.c, b.q, cutD b.l⟩

def batsB (l : List BatchD) (n : Nat) : List BatchD := (l.take n).map cutB

theorem cutB_ok {b : BatchD} (h : BatWf b) : BatOk (cutB b) := ⟨wf_i64 h.c, wf_i64 h.q, cutD_ok h.ops⟩

theorem batsB_ok {l : List BatchD} (h : ∀ b ∈ l, BatWf b) (n : Nat) : ∀ b ∈ batsB l n, BatOk b := by
  intro b hb
  obtain ⟨x, hx, rfl⟩ := List.mem_map.1 hb
  exact cutB_ok (h x (List.mem_of_mem_take hx))

/-- A slice of batches that is frozen. -/
def BatsH (H : Fh) (v : Value) (l : List BatchD) : Prop := ∃ xs, RdH H 3 v l.length xs ∧ Ch (BatIn H) l xs

theorem BatsH.le {H H' : Fh} {v : Value} {l : List BatchD} (h : H.le H') (r : BatsH H v l) : BatsH H' v l := by
  obtain ⟨xs, h1, h2⟩ := r
  exact ⟨xs, h1.le h, h2.mono (BatIn.le h)⟩

set_option maxHeartbeats 8000000 in
theorem law7_Batches (w0 W : World) (H : Fh) (l : List BatchD) (v : Value) (n : Nat) (R : List Res) (hn : n ≤ 1000) (hb : ∀ b ∈ l, BatWf b) (hr : BatsH H v l) (hw : Has 0 w0 W (Fz H :: R)) :
    Calls Tryd.prog 16 ⟨[v, .int .i64 (n : Int)]⟩ W fun e W' => ∃ v' H', e = .returned v' ∧ H.le H' ∧ BatsH H' v' (batsB l n) ∧ Has 0 w0 W' (Fz H' :: R) := by
  obtain ⟨xs, hr, hch⟩ := hr
  obtain ⟨sad, scap, rfl⟩ := hr.slice
  have hlen := hr.len
  refine enter Tryd.func16 Tryd.ntmps16 rfl rfl fun a hs => ?_
  repeat (first | (refine sxv hs hw ?_; clear hs; intro a hs) | refine sxc hs ?_ | (refine sxa hs hw ?_; clear hs hw; intro a b W hw hs) | (refine sxs hs hw ?_; clear hs hw; intro W hs hw))
  have hw := hw.nilOwn 25 3
  refine st_loop (σ := Nat × Option Addr × Nat × List Value × Fh) (fun t => [(0, .slice sad l.length scap), (1, .int .i64 (n : Int)), (6, .int .i64 (t.1 : Int)), (5, .slice t.2.1 (batsB l t.1).length t.2.2.1)]) (fun t => Sx.Own 25 3 (.slice t.2.1 (batsB l t.1).length t.2.2.1) (batsB l t.1).length t.2.2.2.1 :: Fz t.2.2.2.2 :: R) (fun t => t.1 ≤ l.length ∧ t.1 ≤ n ∧ H.le t.2.2.2.2 ∧ Ch (BatIn t.2.2.2.2) (batsB l t.1) t.2.2.2.1) (fun t => l.length - t.1) (0, none, 0, [], H) ⟨Nat.zero_le _, Nat.zero_le _, Fh.le.refl _, rfl⟩ hs ⟨rfl, rfl, rfl, rfl, trivial⟩ hw ?_
  clear hs hw
  rintro ⟨j, oad, ocap, ys, H'⟩ a W ⟨hj, hjn, hH', hch2⟩ hs hw
  simp only at hj hjn hH' hch2 hs hw
  have fin : batsB l j = batsB l n → ∀ (a : Act) (W : World), Slots a 27 [(5, .slice oad (batsB l j).length ocap)] → Has 0 w0 W (Sx.Own 25 3 (.slice oad (batsB l j).length ocap) (batsB l j).length ys :: Fz H' :: R) → ∃ H2, H.le H2 ∧ BatsH H2 (.slice oad (batsB l j).length ocap) (batsB l n) ∧ Has 0 w0 W (Fz H2 :: R) := by
    intro he a W hs hw
    obtain ⟨H2, h1, h2, h3⟩ := hw.freeze_own
    refine ⟨H2, hH'.trans h1, ⟨ys, he ▸ h3, he ▸ (hch2.mono (BatIn.le h1))⟩, h2⟩
  repeat (first | (refine sxv hs hw ?_; clear hs; intro a hs) | refine sxc hs ?_ | (refine sxa hs hw ?_; clear hs hw; intro a b W hw hs) | (refine sxs hs hw ?_; clear hs hw; intro W hs hw))
  cases hc1 : decide ((j : Int) < (l.length : Int)) with
  | false =>
    rw [hc1] at hs
    have hj' : j = l.length := by have := of_decide_eq_false hc1; omega
    repeat (first | (refine sxv hs hw ?_; clear hs; intro a hs) | refine sxc hs ?_ | (refine sxa hs hw ?_; clear hs hw; intro a b W hw hs) | (refine sxs hs hw ?_; clear hs hw; intro W hs hw))
    obtain ⟨H2, h1, h2, h3⟩ := fin (by unfold batsB; rw [List.take_of_length_le (by omega), List.take_of_length_le (by omega)]) a W (hs.of ⟨rfl, trivial⟩) hw
    exact rt1 hs rfl rfl ⟨_, H2, rfl, h1, h2, h3⟩
  | true =>
  rw [hc1] at hs
  have hj' : j < l.length := by have := of_decide_eq_true hc1; omega
  repeat (first | (refine sxv hs hw ?_; clear hs; intro a hs) | refine sxc hs ?_ | (refine sxa hs hw ?_; clear hs hw; intro a b W hw hs) | (refine sxs hs hw ?_; clear hs hw; intro W hs hw))
  cases hc2 : decide ((j : Int) < (n : Int)) with
  | false =>
    rw [hc2] at hs
    have hjn' : j = n := by have := of_decide_eq_false hc2; omega
    repeat (first | (refine sxv hs hw ?_; clear hs; intro a hs) | refine sxc hs ?_ | (refine sxa hs hw ?_; clear hs hw; intro a b W hw hs) | (refine sxs hs hw ?_; clear hs hw; intro W hs hw))
    obtain ⟨H2, h1, h2, h3⟩ := fin (by rw [hjn']) a W (hs.of ⟨rfl, trivial⟩) hw
    exact rt1 hs rfl rfl ⟨_, H2, rfl, h1, h2, h3⟩
  | true =>
  rw [hc2] at hs
  have hjn' : j < n := by have := of_decide_eq_true hc2; omega
  clear fin
  obtain ⟨bt, hbi⟩ : ∃ o, l[j]? = some o := ⟨l[j], List.getElem?_eq_getElem hj'⟩
  have hok := hb bt (List.mem_of_getElem? hbi)
  have hnext : batsB l (j + 1) = batsB l j ++ [cutB bt] := by
    unfold batsB
    rw [take_of hbi, List.map_append]; rfl
  have htk : (batsB l j).length ≤ 1000 := by unfold batsB; rw [List.length_map, List.length_take]; omega
  repeat (first | (refine sxv hs hw ?_; clear hs; intro a hs) | refine sxc hs ?_ | (refine sxa hs hw ?_; clear hs hw; intro a b W hw hs) | (refine sxs hs hw ?_; clear hs hw; intro W hs hw))
  refine st_index_ch hs (r := hw.rdH (by repeat (first | exact In.hd | apply In.tl)) (hr.le hH')) (hk := BatIn.len) (ch := hch.mono (BatIn.le hH')) (ho := hbi) (hlen := rfl) (c := ?_); clear hs; intro a g off c hc hcl hpc hlt hs
  obtain ⟨bv, rfl, hbv⟩ := hc
  refine st_load_ats hs (cs := batCells bt bv) (hc := hpc) (hl := by rfl) (c := ?_); clear hs; intro a hs
  clear hpc
  refine st_call hs (hc := law5_CutBatch bt.c bt.q bt.l bv _ (wf_sizes hok.ops) (hw.rdH (by repeat (first | exact In.hd | apply In.tl)) hbv)) (k := ?_); rintro e0 W1 ⟨nad, ncap, rfl, hw1⟩; refine ⟨_, rfl, ?_⟩; clear hs; intro a hs; replace hw := hw.call hw1; clear hw1
  have hw : Has 0 w0 _ (Sx.Own 41 9 (.slice nad (cutD bt.l).length ncap) (cutD bt.l).length ((cutD bt.l).flatMap opCells) :: Fz H' :: Sx.Own 25 3 (.slice oad (batsB l j).length ocap) (batsB l j).length ys :: R) := hw.perm (by repeat (first | exact List.Perm.refl _ | refine perm_pick (by repeat (first | exact Pick.hd | apply Pick.tl)) ?_))
  obtain ⟨H2, hle, hw, hnv⟩ := hw.freeze_own
  repeat (first | (refine sxv hs hw ?_; clear hs; intro a hs) | refine sxc hs ?_ | (refine sxa hs hw ?_; clear hs hw; intro a b W hw hs) | (refine sxs hs hw ?_; clear hs hw; intro W hs hw))
  obtain ⟨bx, qx⟩ := nm1 hw; subst qx
  have hw : Has 0 w0 _ (Sx.Own 25 3 (.slice oad (batsB l j).length ocap) (batsB l j).length ys :: Cells bx (batCells (cutB bt) (.slice nad (cutD bt.l).length ncap)) 25 :: Fz H2 :: R) := hw.perm (by repeat (first | exact List.Perm.refl _ | refine perm_pick (by repeat (first | exact Pick.hd | apply Pick.tl)) ?_))
  refine st_append1 hs (hw := hw) (hi := In.hd) (ch := hch2.mono (BatIn.le hle)) (ha := (⟨_, rfl, hnv⟩ : BatIn H2 (cutB bt) (batCells (cutB bt) (.slice nad (cutD bt.l).length ncap)))) (hl := rfl) (h1 := rfl) (hb := by omega) (h63 := by omega) (k := ?_)
  clear hs hw; intro a ad2 cap2 W hs hw hc2
  rw [← hnext] at hs hw hc2
  repeat (first | (refine sxv hs hw ?_; clear hs; intro a hs) | refine sxc hs ?_ | (refine sxa hs hw ?_; clear hs hw; intro a b W hw hs) | (refine sxs hs hw ?_; clear hs hw; intro W hs hw))
  exact st_again (j + 1, ad2, cap2, ys ++ batCells (cutB bt) (.slice nad (cutD bt.l).length ncap), H2) hs hw.drop2 ⟨hj', hjn', hH'.trans hle, hc2⟩ (by show l.length - (j + 1) < l.length - j; omega) ⟨rfl, rfl, int_eq (by show IntKind.i64.wrap ((j : Int) + 1) = ((j + 1 : Nat) : Int); rw [IntWalk.i64_in _ (by omega)]; omega), rfl, trivial⟩

abbrev zrf : List Value := [.int .i64 0, .slice none 0 0, .int .i64 0, .int .i64 0, .int .i64 0, .int .i64 0, .int .i64 0, .int .i64 0, .int .i64 0, .int .i64 0, .int .i64 0, .slice none 0 0, .int .i64 0, .int .i64 0, .int .i64 0, .int .i64 0, .slice none 0 0, .int .i64 0, .int .i64 0, .int .i64 0, .int .i64 0, .slice none 0 0, .int .i64 0, .int .i64 0, .int .i64 0, .int .i64 0, .slice none 0 0, .int .i64 0, .int .i64 0, .int .i64 0, .int .i64 0, .slice none 0 0, .int .i64 0, .int .i64 0, .int .i64 0, .int .i64 0, .slice none 0 0, .int .i64 0]

theorem rf_empty (H : Fh) : RfIn H emptyF zrf := by
  have z : ToRow H (0, zeroRow) zrc := ⟨_, rfl, ops_nil H⟩
  have y : NumIn (0, zeroRow) [.int .i64 0] := rfl
  refine ⟨.slice none 0 0, List.replicate 6 (.int .i64 0), zrc ++ (zrc ++ (zrc ++ (zrc ++ (zrc ++ (zrc ++ []))))), by with_unfolding_all exact rfl, RdH.nil H 4 0 (by omega), rfl, ?_, ?_⟩
  · exact ⟨_, _, rfl, y, _, _, rfl, y, _, _, rfl, y, _, _, rfl, y, _, _, rfl, y, _, _, rfl, y, rfl⟩
  · exact ⟨_, _, rfl, z, _, _, rfl, z, _, _, rfl, z, _, _, rfl, z, _, _, rfl, z, _, _, rfl, z, rfl⟩

/-- The fold of batches, and the rows of those that came next. -/
def allF (f : FoldD) (rows : List RowD) : List BatchD → FoldD × List RowD
  | [] => (f, rows)
  | b :: l => match (next f b).2.2 with | true => allF (next f b).1 (rows ++ [(next f b).2.1]) l | false => allF f rows l

theorem next_doc {f : FoldD} {b : BatchD} (h : DocOk f.d) (hb : BatOk b) : DocOk (next f b).1.d := by
  unfold next
  cases nextB f b with
  | true => exact applyL_ok h hb.ops
  | false => exact h

theorem next_no {f : FoldD} {b : BatchD} (h : (next f b).2.2 = false) : (next f b).1 = f := by
  unfold next at *
  cases hb : nextB f b with
  | true => rw [hb] at h; cases h
  | false => rfl

end Go.Proofs.YtalfmomnaghahaaDoor.Sw

/-
  The rows of batches, played; what Take makes of them: in plain words.
-/
set_option linter.unusedVariables false
set_option maxRecDepth 10000
namespace Go.Proofs.YtalfmomnaghahaaDoor.Sw
open Go.RowKit Go.Sx

-- pieces

/-- Rows are a fold's, one behind the other. -/
def Play : FoldD → List RowD → FoldD → Prop
  | f, [], f' => f = f'
  | f, r :: rs, f' => (next f r.b).2.2 = true ∧ (next f r.b).2.1 = r ∧ Play (next f r.b).1 rs f'

theorem Play.app : ∀ {f f' f'' : FoldD} {a b : List RowD}, Play f a f' → Play f' b f'' → Play f (a ++ b) f''
  | f, f', f'', [], b, h1, h2 => by
    have h1 : f = f' := h1
    subst h1; exact h2
  | f, f', f'', r :: a, b, ⟨h1, h2, h3⟩, h4 => ⟨h1, h2, h3.app h4⟩

theorem Play.split : ∀ {f f'' : FoldD} {a b : List RowD}, Play f (a ++ b) f'' → ∃ f', Play f a f' ∧ Play f' b f''
  | f, f'', [], b, h => ⟨f, rfl, h⟩
  | f, f'', r :: a, b, ⟨h1, h2, h3⟩ => by
    obtain ⟨f', h4, h5⟩ := Play.split h3
    exact ⟨f', ⟨h1, h2, h4⟩, h5⟩

theorem play_det : ∀ {rows : List RowD} {f g h : FoldD}, Play f rows g → Play f rows h → g = h
  | [], f, g, h, h1, h2 => by
    have h1 : f = g := h1
    have h2 : f = h := h2
    rw [← h1, h2]
  | r :: rows, f, g, h, ⟨_, _, h1⟩, ⟨_, _, h2⟩ => play_det h1 h2

theorem next_ok {f : FoldD} {b : BatchD} (h : (next f b).2.2 = true) : nextB f b = true ∧ next f b = (nextF f b, nextR f b, true) := by
  unfold next at *
  cases hb : nextB f b with
  | true => exact ⟨rfl, rfl⟩
  | false => rw [hb] at h; cases h

theorem next_row {f : FoldD} {b : BatchD} (h : (next f b).2.2 = true) : (next f b).2.1.b = b := by rw [(next_ok h).2]; rfl

theorem allF_play : ∀ (l : List BatchD) (f : FoldD) (rows : List RowD), ∃ more, (allF f rows l).2 = rows ++ more ∧ Play f more (allF f rows l).1 ∧ more.length ≤ l.length
  | [], f, rows => ⟨[], by simp [allF], rfl, Nat.le_refl _⟩
  | b :: l, f, rows => by
    simp only [allF]
    cases h : (next f b).2.2 with
    | false =>
      obtain ⟨more, h1, h2, h3⟩ := allF_play l f rows
      exact ⟨more, h1, h2, Nat.le_succ_of_le h3⟩
    | true =>
      obtain ⟨more, h1, h2, h3⟩ := allF_play l (next f b).1 (rows ++ [(next f b).2.1])
      refine ⟨(next f b).2.1 :: more, by rw [h1]; simp, ⟨?_, ?_, ?_⟩, by simp; omega⟩
      · rw [next_row h]; exact h
      · rw [next_row h]
      · rw [next_row h]; exact h2

theorem play_places : ∀ {rows : List RowD} {f f' : FoldD} {k : Nat}, Play f rows f' → f.place = k → k + rows.length ≤ 1000000 → f'.place = ((k + rows.length : Nat) : Int) ∧ ∀ (i : Nat) (r : RowD), rows[i]? = some r → r.place = ((k + i + 1 : Nat) : Int)
  | [], f, f', k, h, hk, _ => by
    have h : f = f' := h
    subst h
    exact ⟨by rw [hk]; simp, fun i r h => by simp at h⟩
  | r :: rows, f, f', k, ⟨h1, h2, h3⟩, hk, hl => by
    have hn := (next_ok h1).2
    rw [hn] at h2 h3
    simp only [List.length_cons] at hl
    have hw : IntKind.i64.wrap (f.place + 1) = ((k + 1 : Nat) : Int) := by rw [hk, IntWalk.i64_in _ (by omega)]; omega
    obtain ⟨g1, g2⟩ := play_places (k := k + 1) h3 hw (by omega)
    refine ⟨by rw [g1, List.length_cons]; congr 1; omega, fun i x hx => ?_⟩
    cases i with
    | zero =>
      simp only [List.getElem?_cons_zero, Option.some.injEq] at hx
      subst hx
      have h2 : nextR f r.b = r := h2
      rw [← h2]
      show IntKind.i64.wrap (f.place + 1) = _
      rw [hw]
    | succ i =>
      rw [List.getElem?_cons_succ] at hx
      rw [g2 i x hx]; congr 1; omega

theorem one_play {f : FoldD} {l : List RowD} {r : RowD} (h1 : (next f r.b).2.2 = true) (h2 : (next f r.b).2.1 = r) (hp : f.place = l.length) (hl : l.length ≤ 1000000) : one ⟨f, l⟩ r = (⟨(next f r.b).1, l ++ [r]⟩, true, 0) := by
  have hpl : r.place = (l.length : Int) + 1 := by
    have hn := (next_ok h1).2
    rw [hn] at h2
    have h2 : nextR f r.b = r := h2
    have := congrArg RowD.place h2
    rw [← this]
    show IntKind.i64.wrap (f.place + 1) = _
    rw [hp, IntWalk.i64_in _ (by omega)]
  unfold one
  rw [if_neg (by show ¬ r.place > (l.length : Int) + 1; omega), if_neg (by show ¬ r.place < (l.length : Int) + 1; omega), if_pos ⟨h1, by show (next f r.b).2.1.err = r.err; rw [h2]⟩]

/-- A fold's rows are all taken. -/
theorem take_play : ∀ {rows : List RowD} {f f' : FoldD} {l : List RowD} {n : Nat}, Play f rows f' → f.place = l.length → l.length + rows.length ≤ 1000000 → takeN ⟨f, l⟩ n rows = (⟨f', l ++ rows⟩, n + rows.length, 0)
  | [], f, f', l, n, h, hp, hl => by
    have h : f = f' := h
    subst h
    simp [takeN]
  | r :: rows, f, f', l, n, ⟨h1, h2, h3⟩, hp, hl => by
    simp only [List.length_cons] at hl
    have ho := one_play h1 h2 hp (by omega)
    have hp2 : (next f r.b).1.place = ((l ++ [r]).length : Nat) := by
      rw [(next_ok h1).2]
      show IntKind.i64.wrap (f.place + 1) = _
      rw [hp, IntWalk.i64_in _ (by omega)]; simp
    have ih := take_play (n := n + 1) h3 hp2 (by simp; omega)
    simp only [takeN, ho, if_true]
    rw [ih]
    simp
    omega

/-- Rows that stand already are nothing new. -/
theorem take_old : ∀ {rows rest : List RowD} {s : StreamD} {n : Nat}, (∀ r ∈ rows, 1 ≤ r.place ∧ r.place ≤ s.l.length ∧ s.l[(r.place - 1).toNat]? = some r) → takeN s n (rows ++ rest) = takeN s n rest
  | [], rest, s, n, _ => rfl
  | r :: rows, rest, s, n, h => by
    obtain ⟨h1, h2, h3⟩ := h r (by simp)
    have ho : one s r = (s, false, 0) := by
      unfold one
      rw [if_neg (by omega), if_pos (by omega), if_neg]
      rintro (g | g)
      · omega
      · exact g ⟨r, h3, sameR_iff.2 rfl⟩
    simp only [List.cons_append, takeN, ho, if_true]
    exact take_old fun x hx => h x (by simp [hx])

theorem take_app : ∀ {a b : List RowD} {s : StreamD} {n : Nat}, (takeN s n a).2.2 = 0 → takeN s n (a ++ b) = takeN (takeN s n a).1 (takeN s n a).2.1 b
  | [], b, s, n, _ => rfl
  | r :: a, b, s, n, h => by
    simp only [takeN, List.cons_append] at h ⊢
    by_cases hc : (one s r).2.2 = 0
    · rw [if_pos hc] at h
      rw [if_pos hc, if_pos hc]
      exact take_app h
    · rw [if_neg hc] at h
      exact absurd h hc

/-- The rows of batches. -/
def rowsOf (l : List BatchD) : List RowD := (allF emptyF [] (batsB l 40)).2

def foldOf (l : List BatchD) : FoldD := (allF emptyF [] (batsB l 40)).1

theorem batsB_len (l : List BatchD) (n : Nat) : (batsB l n).length ≤ n := by unfold batsB; rw [List.length_map, List.length_take]; omega

theorem rows_play (l : List BatchD) : Play emptyF (rowsOf l) (foldOf l) ∧ (rowsOf l).length ≤ 40 := by
  obtain ⟨more, h1, h2, h3⟩ := allF_play (batsB l 40) emptyF []
  have := batsB_len l 40
  unfold rowsOf foldOf
  rw [h1, List.nil_append]
  exact ⟨h2, by omega⟩

theorem play_mem : ∀ {rows : List RowD} {f f' : FoldD}, Play f rows f' → ∀ r ∈ rows, mayB r.b = true
  | [], _, _, _, r, h => by simp at h
  | x :: rows, f, f', ⟨h1, h2, h3⟩, r, h => by
    rcases List.mem_cons.1 h with rfl | h
    · have := (next_ok h1).1
      unfold nextB at this
      exact (Bool.and_eq_true _ _ |>.mp this).1
    · exact play_mem h3 r h

theorem play_from : ∀ {l : List BatchD} {f : FoldD} {rows : List RowD}, (∀ r ∈ rows, ∃ b, BatOk b ∧ r.b = b) → (∀ b ∈ l, BatOk b) → ∀ r ∈ (allF f rows l).2, BatOk r.b
  | [], f, rows, h, _, r, hr => by obtain ⟨b, h1, h2⟩ := h r hr; rw [h2]; exact h1
  | b :: l, f, rows, h, hb, r, hr => by
    simp only [allF] at hr
    cases hn : (next f b).2.2 with
    | false => rw [hn] at hr; exact play_from h (fun x hx => hb x (by simp [hx])) r hr
    | true =>
      rw [hn] at hr
      refine play_from (fun x hx => ?_) (fun x hx => hb x (by simp [hx])) r hr
      rcases List.mem_append.1 hx with hx | hx
      · exact h x hx
      · rw [List.mem_singleton] at hx
        subst hx
        exact ⟨b, hb b (by simp), next_row hn⟩

theorem play_err : ∀ {rows : List RowD} {f f' : FoldD}, Play f rows f' → ∀ r ∈ rows, ∃ d l, r.err = (applyL d l).1
  | [], _, _, _, r, h => by simp at h
  | x :: rows, f, f', ⟨h1, h2, h3⟩, r, h => by
    rcases List.mem_cons.1 h with rfl | h
    · rw [(next_ok h1).2] at h2
      refine ⟨f.d, r.b.l, ?_⟩
      rw [← (show nextR f r.b = r from h2)]; rfl
    · exact play_err h3 r h

theorem setRL_err (d : Dm) (k : ByteArray) (x : Option DV) : (setRL d k x).1 = 0 ∨ (setRL d k x).1 = 6 := by
  cases x with
  | none => exact .inl rfl
  | some v => unfold setRL; simp only; split <;> simp

theorem doL_err (d : Dm) (o : OpD) : 0 ≤ (doL d o).1 ∧ (doL d o).1 ≤ 8 := by
  have h : ∀ k x, 0 ≤ (setRL d k x).1 ∧ (setRL d k x).1 ≤ 8 := fun k x => by
    rcases setRL_err d k x with h' | h' <;> (rw [h']; exact ⟨by decide, by decide⟩)
  have c : ∀ n : Int, 0 ≤ n → n ≤ 8 → 0 ≤ ((n, d) : Int × Dm).1 ∧ ((n, d) : Int × Dm).1 ≤ 8 := fun n h1 h2 => ⟨h1, h2⟩
  unfold doL
  split
  · split
    · exact h _ _
    · exact c 8 (by decide) (by decide)
  · split
    · split
      · exact c 7 (by decide) (by decide)
      · split
        · exact c 4 (by decide) (by decide)
        · exact h _ _
    · exact h _ _

theorem goL_err : ∀ (l : List OpD) (d : Dm), 0 ≤ (goL l d).1 ∧ (goL l d).1 ≤ 8
  | [], d => ⟨by show (0 : Int) ≤ 0; decide, by show (0 : Int) ≤ 8; decide⟩
  | o :: l, d => by
    unfold goL
    split
    · exact ⟨by show (0 : Int) ≤ 1; decide, by show (1 : Int) ≤ 8; decide⟩
    · split
      · exact goL_err l _
      · exact doL_err d o

theorem applyL_err (d : Dm) (l : List OpD) : 0 ≤ (applyL d l).1 ∧ (applyL d l).1 ≤ 8 := by
  unfold applyL
  split
  · exact ⟨by show (0 : Int) ≤ 1; decide, by show (1 : Int) ≤ 8; decide⟩
  · split
    · exact ⟨by show (0 : Int) ≤ 0; decide, by show (0 : Int) ≤ 8; decide⟩
    · exact goL_err l d

theorem rows_ok {l : List BatchD} (h : ∀ b ∈ l, BatWf b) : ∀ r ∈ rowsOf l, RowOk r := by
  intro r hr
  obtain ⟨hp, hl⟩ := rows_play l
  obtain ⟨d, ol, he⟩ := play_err hp r hr
  have hb := play_from (l := batsB l 40) (f := emptyF) (rows := []) (by simp) (batsB_ok h 40) r hr
  obtain ⟨i, hi⟩ := List.getElem?_of_mem hr
  have hpl := (play_places (k := 0) hp rfl (by omega)).2 i r hi
  have hi' := (List.getElem?_eq_some_iff.1 hi).1
  have := applyL_err d ol
  refine ⟨?_, ?_, hb⟩
  · unfold i64; rw [hpl]; omega
  · unfold i64; rw [he]; omega

theorem rows_8 (l : List BatchD) : ∀ r ∈ rowsOf l, r.b.l.length ≤ 8 := fun r hr => (may_parts (play_mem (rows_play l).1 r hr)).2.2

end Go.Proofs.YtalfmomnaghahaaDoor.Sw

/-
  The walks of num.Put and of the reference's Put.
-/
set_option linter.unusedVariables false
namespace Go.Proofs.YtalfmomnaghahaaDoor
open Go.RowKit

theorem info_byte : (Tryd.prog.info? 5).map (fun i => (i.zero, i.size, i.bytes)) = some (some (.int .u8 0), 1, 1) := by kernel_rfl
theorem ret_int3 {a a' b b' c c' : Int} (h1 : a = a') (h2 : b = b') (h3 : c = c') : Ending.returned (.tuple #[.int .i64 a, .int .i64 b, .int .i64 c]) = .returned (.tuple #[.int .i64 a', .int .i64 b', .int .i64 c']) := by rw [h1, h2, h3]

/-- Bytes that the call owns from block B on. -/
def OwnB (w : World) (B : Nat) (v : Value) (l : List UInt8) : Prop := w.ownsRow B 5 1 v l.length (Lib.byteCells l)
theorem u8w (x : Nat) (h : x < 128) : IntKind.u8.wrap (x : Int) = ((x.toUInt8).toNat : Int) := by
  rw [IntKind.wrap_u8, Ph.u8n x (by omega)]; omega
theorem u8p (x : Nat) (h : x < 128) : (x : Int) = ((x.toUInt8).toNat : Int) := by rw [Ph.u8n x (by omega)]
theorem u8o (x : Nat) : bits .or .u8 (IntKind.u8.wrap (x : Int)) 128 = (((x % 128 + 128).toUInt8).toNat : Int) := by
  have e : IntKind.u8.wrap (x : Int) = ((x % 256 : Nat) : Int) := by rw [IntKind.wrap_u8]; omega
  rw [e, Ph.or128_at _ (by omega), Ph.u8n _ (by omega)]; omega
theorem u8s (x : Nat) : IntKind.u8.wrap ((x : Int) % 128 + 128) = (((x % 128 + 128).toUInt8).toNat : Int) := by
  rw [IntKind.wrap_u8, Ph.u8n _ (by omega)]; omega


set_option maxRecDepth 100000 in
set_option maxHeartbeats 2000000 in
theorem num_Put_pos (B : Nat) (v : Value) (l : List UInt8) (n : Int) (w : World) (h0 : -9223372036854775808 ≤ n) (h1 : n ≤ 9223372036854775807) (hn : 0 ≤ n) (ho : OwnB w B v l) (hl : l.length ≤ 1000000000) (hB : B ≤ w.heap.size) :
    Calls Tryd.prog 30 #[v, .int .i64 n] w fun e w' => ∃ v', e = .returned v' ∧ OwnB w' B v' (l ++ Ph.putI n) ∧ Below B w w' ∧ B ≤ w'.heap.size := by
  obtain ⟨ib, hib, hbz, hbs, hbb⟩ := info_parts info_byte
  have HO : Hid (w.ownsRow B 5 1 v l.length (Lib.byteCells l)) := ho
  have HZ := Lib.hid (Ph.zig_small h0 h1).1
  clear ho
  go_enter Tryd.func30, Tryd.ntmps30
  go_wp2
  go_loopw [0, 5] (fun b u wr => ∃ (acc : List UInt8) (f x : Nat), u = .int .u64 x ∧ Hid (x < 128 ^ f) ∧ 1 ≤ f ∧ f ≤ 10 ∧ acc.length + f ≤ l.length + 10 ∧ Hid (wr.ownsRow B 5 1 b acc.length (Lib.byteCells acc)) ∧ Below B w wr ∧ B ≤ wr.heap.size ∧ Hid (acc ++ Ph.putN f x = l ++ Ph.putI n)) (fun _ u _ => (intOf u).toNat)
  case atStart => exact ⟨l, 10, Ph.zig n, by rw [Ph.zig_pos n hn], HZ.out, by omega, by omega, by omega, HO.out, Below.refl _ _, hB, rfl⟩
  case round =>
    obtain ⟨acc, f, x, rfl, HX, hf1, hf2, hal, HR, hbw, hBw, HE⟩ := hrel
    have hr := HR.out
    by_cases hx : x < 128
    · have hx' : (x : Int) ≤ 127 := by omega
      go_wp2_with (at_builtin; refine wpList_append_own _ rfl (.tmp 23) (.tmp 26) 45 rfl (B) 5 ib (.int .u8 0) 1 1 Tryd.underlying45 hib hbz hbs hbb rfl (by decide) _ acc.length _ rfl (hr.alloc _) ⟨wr.heap.size, 0, none⟩ 1 1 [?xv] rfl rfl ?c1 ?c2 ?c3 ?c4 ?c5 ?_)
      case c1 => exact (cell_one_new _ _ _)
      case c2 => simp [Value.oneCell']
      case c3 => unfold maxLen; omega
      case c4 => omega
      case c5 => simp; omega
      intro b1 w1 hr1 hg1 _
      have hb1 : Below (B) w w1 := (hbw.alloc hBw _).grown hg1 (by simp; omega) (fun g hg => (hr.lt g hg).1)
      have hB1 : B ≤ w1.heap.size := by have := hg1.size; simp at this; omega
      have hr2 := own_snoc (c := x.toUInt8) hr1 (u8p x hx)
      have HF : Hid (acc ++ [x.toUInt8] = l ++ Ph.putI n) := by
        show _ = _
        rw [← HE.out]
        obtain ⟨g, rfl⟩ : ∃ g, f = g + 1 := ⟨f - 1, by omega⟩
        rw [Ph.putN_last g x hx]
      clear hr hr1
      go_wp2
      go_ret
      refine ⟨_, rfl, ?_, hb1, hB1⟩
      unfold OwnB
      rw [← HF.out]
      exact hr2
    · have hx' : (127 : Int) < (x : Int) := by omega
      obtain ⟨g, hfg, hg1', hxg, hpn⟩ := Ph.putN_split f x hx HX.out
      have HPN := Lib.hid hpn
      have HXG := Lib.hid hxg
      clear hpn hxg
      go_wp2_with (at_builtin; refine wpList_append_own _ rfl (.tmp 15) (.tmp 19) 45 rfl (B) 5 ib (.int .u8 0) 1 1 Tryd.underlying45 hib hbz hbs hbb rfl (by decide) _ acc.length _ rfl (hr.alloc _) ⟨wr.heap.size, 0, none⟩ 1 1 [?yv] rfl rfl ?d1 ?d2 ?d3 ?d4 ?d5 ?_)
      case d1 => exact (cell_one_new _ _ _)
      case d2 => simp [Value.oneCell']
      case d3 => unfold maxLen; omega
      case d4 => omega
      case d5 => simp; omega
      intro b1 w1 hr1 hg1 _
      have hb1 : Below (B) w w1 := (hbw.alloc hBw _).grown hg1 (by simp; omega) (fun g hg => (hr.lt g hg).1)
      have hB1 : B ≤ w1.heap.size := by have := hg1.size; simp at this; omega
      have hr2 := own_snoc (c := (x % 128 + 128).toUInt8) hr1 (u8o x)
      have HF : Hid (acc ++ [(x % 128 + 128).toUInt8] ++ Ph.putN g (x / 128) = l ++ Ph.putI n) := by
        show _ = _
        rw [← HE.out, HPN.out]
        simp
      have HR2 := Lib.hid hr2
      clear hr hr1 hr2
      go_wp2
      go_roundw
      case rel => exact ⟨acc ++ [(x % 128 + 128).toUInt8], g, x / 128, by go_num, HXG.out, hg1', by omega, by simp; omega, HR2.out, hb1, hB1, HF.out⟩
      case measure => simp [intOf]; omega


set_option maxRecDepth 100000 in
set_option maxHeartbeats 2000000 in
theorem num_Put_neg (B : Nat) (v : Value) (l : List UInt8) (n : Int) (w : World) (h0 : -9223372036854775808 ≤ n) (h1 : n ≤ 9223372036854775807) (hn : n < 0) (ho : OwnB w B v l) (hl : l.length ≤ 1000000000) (hB : B ≤ w.heap.size) :
    Calls Tryd.prog 30 #[v, .int .i64 n] w fun e w' => ∃ v', e = .returned v' ∧ OwnB w' B v' (l ++ Ph.putI n) ∧ Below B w w' ∧ B ≤ w'.heap.size := by
  obtain ⟨ib, hib, hbz, hbs, hbb⟩ := info_parts info_byte
  have HO : Hid (w.ownsRow B 5 1 v l.length (Lib.byteCells l)) := ho
  have HZ := Lib.hid (Ph.zig_small h0 h1).1
  clear ho
  go_enter Tryd.func30, Tryd.ntmps30
  go_wp2
  go_loopw [0, 5] (fun b u wr => ∃ (acc : List UInt8) (f x : Nat), u = .int .u64 x ∧ Hid (x < 128 ^ f) ∧ 1 ≤ f ∧ f ≤ 10 ∧ acc.length + f ≤ l.length + 10 ∧ Hid (wr.ownsRow B 5 1 b acc.length (Lib.byteCells acc)) ∧ Below B w wr ∧ B ≤ wr.heap.size ∧ Hid (acc ++ Ph.putN f x = l ++ Ph.putI n)) (fun _ u _ => (intOf u).toNat)
  case atStart => exact ⟨l, 10, Ph.zig n, by rw [Ph.zig_neg n h0 hn], HZ.out, by omega, by omega, by omega, HO.out, Below.refl _ _, hB, rfl⟩
  case round =>
    obtain ⟨acc, f, x, rfl, HX, hf1, hf2, hal, HR, hbw, hBw, HE⟩ := hrel
    have hr := HR.out
    by_cases hx : x < 128
    · have hx' : (x : Int) ≤ 127 := by omega
      go_wp2_with (at_builtin; refine wpList_append_own _ rfl (.tmp 23) (.tmp 26) 45 rfl (B) 5 ib (.int .u8 0) 1 1 Tryd.underlying45 hib hbz hbs hbb rfl (by decide) _ acc.length _ rfl (hr.alloc _) ⟨wr.heap.size, 0, none⟩ 1 1 [?xv] rfl rfl ?c1 ?c2 ?c3 ?c4 ?c5 ?_)
      case c1 => exact (cell_one_new _ _ _)
      case c2 => simp [Value.oneCell']
      case c3 => unfold maxLen; omega
      case c4 => omega
      case c5 => simp; omega
      intro b1 w1 hr1 hg1 _
      have hb1 : Below (B) w w1 := (hbw.alloc hBw _).grown hg1 (by simp; omega) (fun g hg => (hr.lt g hg).1)
      have hB1 : B ≤ w1.heap.size := by have := hg1.size; simp at this; omega
      have hr2 := own_snoc (c := x.toUInt8) hr1 (u8p x hx)
      have HF : Hid (acc ++ [x.toUInt8] = l ++ Ph.putI n) := by
        show _ = _
        rw [← HE.out]
        obtain ⟨g, rfl⟩ : ∃ g, f = g + 1 := ⟨f - 1, by omega⟩
        rw [Ph.putN_last g x hx]
      clear hr hr1
      go_wp2
      go_ret
      refine ⟨_, rfl, ?_, hb1, hB1⟩
      unfold OwnB
      rw [← HF.out]
      exact hr2
    · have hx' : (127 : Int) < (x : Int) := by omega
      obtain ⟨g, hfg, hg1', hxg, hpn⟩ := Ph.putN_split f x hx HX.out
      have HPN := Lib.hid hpn
      have HXG := Lib.hid hxg
      clear hpn hxg
      go_wp2_with (at_builtin; refine wpList_append_own _ rfl (.tmp 15) (.tmp 19) 45 rfl (B) 5 ib (.int .u8 0) 1 1 Tryd.underlying45 hib hbz hbs hbb rfl (by decide) _ acc.length _ rfl (hr.alloc _) ⟨wr.heap.size, 0, none⟩ 1 1 [?yv] rfl rfl ?d1 ?d2 ?d3 ?d4 ?d5 ?_)
      case d1 => exact (cell_one_new _ _ _)
      case d2 => simp [Value.oneCell']
      case d3 => unfold maxLen; omega
      case d4 => omega
      case d5 => simp; omega
      intro b1 w1 hr1 hg1 _
      have hb1 : Below (B) w w1 := (hbw.alloc hBw _).grown hg1 (by simp; omega) (fun g hg => (hr.lt g hg).1)
      have hB1 : B ≤ w1.heap.size := by have := hg1.size; simp at this; omega
      have hr2 := own_snoc (c := (x % 128 + 128).toUInt8) hr1 (u8o x)
      have HF : Hid (acc ++ [(x % 128 + 128).toUInt8] ++ Ph.putN g (x / 128) = l ++ Ph.putI n) := by
        show _ = _
        rw [← HE.out, HPN.out]
        simp
      have HR2 := Lib.hid hr2
      clear hr hr1 hr2
      go_wp2
      go_roundw
      case rel => exact ⟨acc ++ [(x % 128 + 128).toUInt8], g, x / 128, by go_num, HXG.out, hg1', by omega, by simp; omega, HR2.out, hb1, hB1, HF.out⟩
      case measure => simp [intOf]; omega


theorem num_Put (B : Nat) (v : Value) (l : List UInt8) (n : Int) (w : World) (h0 : -9223372036854775808 ≤ n) (h1 : n ≤ 9223372036854775807) (ho : OwnB w B v l) (hl : l.length ≤ 1000000000) (hB : B ≤ w.heap.size) :
    Calls Tryd.prog 30 #[v, .int .i64 n] w fun e w' => ∃ v', e = .returned v' ∧ OwnB w' B v' (l ++ Ph.putI n) ∧ Below B w w' ∧ B ≤ w'.heap.size := by
  by_cases hn : n < 0
  · exact num_Put_neg B v l n w h0 h1 hn ho hl hB
  · exact num_Put_pos B v l n w h0 h1 (by omega) ho hl hB

end Go.Proofs.YtalfmomnaghahaaDoor

/-
  The walk of num.Get.
-/
set_option linter.unusedVariables false
namespace Go.Proofs.YtalfmomnaghahaaDoor
open Go.RowKit

theorem get_ret {l : List UInt8} {a b c : Int} (h : Ph.getI l = (a, b.toNat, c)) (hb : 0 ≤ b) : Ending.returned (.tuple #[.int .i64 a, .int .i64 b, .int .i64 c]) = .returned (.tuple #[.int .i64 (Ph.getI l).1, .int .i64 (Ph.getI l).2.1, .int .i64 (Ph.getI l).2.2]) := by
  rw [h]
  exact ret_int3 rfl (by simp; omega) rfl

theorem get_ret2 {l : List UInt8} {a b c a' c' : Int} {b' : Nat} (h : Ph.getI l = (a', b', c')) (h1 : a = a') (h2 : b = b') (h3 : c = c') : Ending.returned (.tuple #[.int .i64 a, .int .i64 b, .int .i64 c]) = .returned (.tuple #[.int .i64 (Ph.getI l).1, .int .i64 (Ph.getI l).2.1, .int .i64 (Ph.getI l).2.2]) := by
  rw [h, h1, h2, h3]
theorem num_Get_nil (c : Nat) (w : World) :
    Calls Tryd.prog 27 #[.slice none 0 c] w fun e w' => e = .returned (.tuple #[.int .i64 (Ph.getI []).1, .int .i64 (Ph.getI []).2.1, .int .i64 (Ph.getI []).2.2]) ∧ w = w' := by
  go_enter Tryd.func27, Tryd.ntmps27
  go_wp2
  go_loop [5, 11] (fun u i => u = .int .u64 0 ∧ i = .int .i64 0) (fun _ i => 0)
  case atStart => exact ⟨rfl, rfl⟩
  case round =>
    obtain ⟨rfl, rfl⟩ := hrel
    go_wp2
    go_ret3
    exact ⟨rfl, rfl⟩

set_option maxRecDepth 100000 in
set_option maxHeartbeats 4000000 in
theorem num_Get_some (b off cap : Nat) (l : List UInt8) (w : World) (hl : l.length ≤ cap) (hm : cap ≤ 9223372036854775807) (hc : ∀ j (h : j < l.length), w.cell? ⟨b, off + j, none⟩ = some (.int .u8 (l[j].toNat : Int))) :
    Calls Tryd.prog 27 #[.slice (some ⟨b, off, none⟩) l.length cap] w fun e w' => e = .returned (.tuple #[.int .i64 (Ph.getI l).1, .int .i64 (Ph.getI l).2.1, .int .i64 (Ph.getI l).2.2]) ∧ w = w' := by
  have HC := Lib.hid hc
  clear hc
  go_enter Tryd.func27, Tryd.ntmps27
  go_wp2
  go_loop [5, 11] (fun u i => ∃ k x : Nat, k ≤ l.length ∧ k ≤ 9 ∧ i = .int .i64 k ∧ u = .int .u64 x ∧ Hid (x < 128 ^ k) ∧ Hid (Ph.getI l = Ph.getN k x (l.drop k))) (fun _ i => l.length - (intOf i).toNat)
  case atStart => exact ⟨0, 0, by omega, by omega, rfl, rfl, by show 0 < 128 ^ 0; decide, rfl⟩
  case round =>
    obtain ⟨k, x, hk, hk9, rfl, rfl, HX, HK⟩ := hrel
    by_cases hlt : k < l.length
    · have hlt' : (k : Int) < (l.length : Int) := by omega
      have hcell := HC.out k hlt
      have HD : Hid (l.drop k = l[k] :: l.drop (k + 1)) := List.drop_eq_getElem_cons hlt
      have hcb := (l[k]).toNat_lt
      generalize l[k] = c at *
      by_cases h9 : k = 9
      · subst h9
        have e9 : (128 : Nat) ^ 9 = 9223372036854775808 := by decide
        by_cases hc1 : 1 < c.toNat
        · have hc1' : (1 : Int) < (c.toNat : Int) := by omega
          have HF : Hid (Ph.getI l = (0, 0, 1)) := by show _ = _; rw [HK.out, HD.out, Ph.getN_big _ _ _ _ rfl hc1]
          clear e9
          go_wp2
          go_ret3
          exact ⟨get_ret HF.out (by omega), rfl⟩
        · have hc1' : (c.toNat : Int) ≤ 1 := by omega
          have hc2' : (c.toNat : Int) ≤ 127 := by omega
          have hor := Ph.or_last x c.toNat HX.out (by omega)
          have hy : x + c.toNat % 128 * 128 ^ 9 < 18446744073709551616 := by have := HX.out; omega
          clear e9
          by_cases hz : c.toNat = 0
          · have hz' : ((c.toNat : Int) == 0) = true := by rw [beq_iff_eq]; omega
            have HF : Hid (Ph.getI l = (0, 0, 1)) := by show _ = _; rw [HK.out, HD.out, Ph.getN_zero _ _ _ _ (by omega) hz]
            have HYY := Lib.hid hy
            clear hz hy
            go_wp2
            go_ret3
            exact ⟨get_ret HF.out (by omega), rfl⟩
          · have hz' : ((c.toNat : Int) == 0) = false := by rw [beq_eq_false_iff_ne]; omega
            have HF : Hid (Ph.getI l = (Ph.unzig (x + c.toNat % 128 * 128 ^ 9), 9 + 1, 0)) := by show _ = _; rw [HK.out, HD.out, Ph.getN_last _ _ _ _ (by omega) (by omega) (by omega)]
            clear hz
            generalize x + c.toNat % 128 * 128 ^ 9 = y at *
            have HYY := Lib.hid hy
            have hod := and_one_u64 (y : Int) (by omega) (by omega)
            have hnt := i64_not (y / 2) (by omega)
            have hdv : (0 : Int) ≤ (y : Int) / 2 := by omega
            have hdv2 : (y : Int) / 2 ≤ 9223372036854775807 := by omega
            clear hy
            by_cases ho : y % 2 = 1
            · have ho' : ((y : Int) % 2 == 1) = true := by rw [beq_iff_eq]; omega
              have HU := Lib.hid (Ph.unzig_odd y ho)
              clear ho
              go_wp2
              go_ret3
              refine ⟨get_ret2 HF.out ?_ rfl rfl, rfl⟩
              have e : (y : Int) / 2 = ((y / 2 : Nat) : Int) := by omega
              show bits BinOp.xor IntKind.i64 (-1) ((y : Int) / 2) = _
              rw [e, i64_not _ (by have := HYY.out; omega), HU.out]
            · have ho' : ((y : Int) % 2 == 1) = false := by rw [beq_eq_false_iff_ne]; omega
              have HU := Lib.hid (Ph.unzig_even y (by omega))
              clear ho
              go_wp2
              go_ret3
              refine ⟨get_ret2 HF.out ?_ rfl rfl, rfl⟩
              show (y : Int) / 2 = _
              rw [HU.out]
              omega
      · have h9' : ((k : Int) == 9) = false := by rw [beq_eq_false_iff_ne]; omega
        have hsm := Ph.sum_small x c.toNat k HX.out (by omega) hcb
        have hor := Ph.or_seven x c.toNat k HX.out hcb hsm.1 (by omega)
        have hy : x + c.toNat % 128 * 128 ^ k < 9223372036854775808 := by
          have h1 := hsm.2
          have h2 : (128 : Nat) ^ (k + 1) ≤ 128 ^ 9 := Nat.pow_le_pow_right (by omega) (by omega)
          have e9 : (128 : Nat) ^ 9 = 9223372036854775808 := by decide
          omega
        have HSM := Lib.hid hsm.2
        clear hsm
        by_cases hc1 : 127 < c.toNat
        · have hc1' : (127 : Int) < (c.toNat : Int) := by omega
          have HF : Hid (Ph.getI l = Ph.getN (k + 1) (x + c.toNat % 128 * 128 ^ k) (l.drop (k + 1))) := by show _ = _; rw [HK.out, HD.out, Ph.getN_more _ _ _ _ h9 (by omega)]
          generalize x + c.toNat % 128 * 128 ^ k = y at *
          have HYY := Lib.hid hy
          clear hy
          go_wp2
          go_round
          case rel => exact ⟨k + 1, y, by omega, by omega, by go_num, rfl, HSM.out, HF.out⟩
          case measure => simp [intOf]; omega
        · have hc1' : (c.toNat : Int) ≤ 127 := by omega
          by_cases hz : 0 < k ∧ c.toNat = 0
          · obtain ⟨hz1, hz2⟩ := hz
            have hk0 : (0 : Int) < (k : Int) := by omega
            have hz' : ((c.toNat : Int) == 0) = true := by rw [beq_iff_eq]; omega
            have HF : Hid (Ph.getI l = (0, 0, 1)) := by show _ = _; rw [HK.out, HD.out, Ph.getN_zero _ _ _ _ hz1 hz2]
            have HYY := Lib.hid hy
            clear hy hz2
            go_wp2
            go_ret3
            exact ⟨get_ret HF.out (by omega), rfl⟩
          · have HF : Hid (Ph.getI l = (Ph.unzig (x + c.toNat % 128 * 128 ^ k), k + 1, 0)) := by show _ = _; rw [HK.out, HD.out, Ph.getN_last _ _ _ _ (by omega) (by omega) hz]
            have HZZ := Lib.hid hz
            clear hz
            generalize x + c.toNat % 128 * 128 ^ k = y at *
            have HYY := Lib.hid hy
            have hod := and_one_u64 (y : Int) (by omega) (by omega)
            have hdv : (0 : Int) ≤ (y : Int) / 2 := by omega
            have hdv2 : (y : Int) / 2 ≤ 9223372036854775807 := by omega
            clear hy
            by_cases hk0 : 0 < k
            all_goals
              by_cases ho : y % 2 = 1
              · have hz' : 0 < k → ((c.toNat : Int) == 0) = false := fun h => by rw [beq_eq_false_iff_ne]; have := HZZ.out; omega
                have hzk : Hid True := trivial
                first | (have hz2 := hz' hk0; clear hz') | clear hz'
                have ho' : ((y : Int) % 2 == 1) = true := by rw [beq_iff_eq]; omega
                have HU := Lib.hid (Ph.unzig_odd y ho)
                clear ho
                go_wp2
                go_ret3
                refine ⟨get_ret2 HF.out ?_ rfl rfl, rfl⟩
                have e : (y : Int) / 2 = ((y / 2 : Nat) : Int) := by omega
                show bits BinOp.xor IntKind.i64 (-1) ((y : Int) / 2) = _
                rw [e, i64_not _ (by have := HYY.out; omega), HU.out]
              · have hz' : 0 < k → ((c.toNat : Int) == 0) = false := fun h => by rw [beq_eq_false_iff_ne]; have := HZZ.out; omega
                have hzk : Hid True := trivial
                first | (have hz2 := hz' hk0; clear hz') | clear hz'
                have ho' : ((y : Int) % 2 == 1) = false := by rw [beq_eq_false_iff_ne]; omega
                have HU := Lib.hid (Ph.unzig_even y (by omega))
                clear ho
                go_wp2
                go_ret3
                refine ⟨get_ret2 HF.out ?_ rfl rfl, rfl⟩
                show (y : Int) / 2 = _
                rw [HU.out]
                omega
    · have hlt' : (l.length : Int) ≤ (k : Int) := by omega
      have HF : Hid (Ph.getI l = (0, 0, 2)) := by show _ = _; rw [HK.out, List.drop_eq_nil_of_le (by omega), Ph.getN_end]
      go_wp2
      go_ret3
      exact ⟨get_ret HF.out (by omega), rfl⟩
end Go.Proofs.YtalfmomnaghahaaDoor
