/-
  Texts of the proof, one behind the other (part 6).
-/
import Derived.Test.YtalfmomnaghahaaDoorM5
/-
  The walk of doc.Apply.
-/
set_option linter.unusedVariables false
set_option maxRecDepth 10000
namespace Go.Proofs.YtalfmomnaghahaaDoor.Sw
open Go.RowKit Go.Sx

/-- Operations done, one behind the other, to the first that may not. -/
def goD : List OpD → Dm → Int × Dm
  | [], d => (0, d)
  | o :: l, d => if mayD o = false then (1, d) else if (doOp d o).1 = 0 then goD l (doOp d o).2 else ((doOp d o).1, d)
/-- All operations, or none. -/
def applyD (d : Dm) (l : List OpD) : Int × Dm :=
  if l.length = 0 ∨ 8 < l.length then (1, d) else if (goD l d).1 = 0 then (0, (goD l d).2) else ((goD l d).1, d)

set_option maxHeartbeats 16000000 in
theorem doc_Apply (w0 W : World) (H : Fh) (p : Nat) (d : Dm) (l : List OpD) (sv : Value) (R : List Res) (ho : ∀ o ∈ l, OpOk o) (r : RdH H 9 sv l.length (l.flatMap opCells)) (i : In (Fz H) R) (hH : (fr w0).le H) (hT : Tabs w0) (hw : Has 0 w0 W (DocAt p d :: R)) :
    Calls Tryd.prog 39 ⟨[.pointer (some ⟨p, 0, none⟩), sv]⟩ W fun e W' => e = .returned (.int .i64 (applyD d l).1) ∧ Has 0 w0 W' (DocAt p (applyD d l).2 :: R) := by
  obtain ⟨sad, scap, rfl⟩ := r.slice
  have hlen := r.len
  refine enter Tryd.func39 Tryd.ntmps39 rfl rfl fun a hs => ?_
  repeat (first | (refine sxv hs hw ?_; clear hs; intro a hs) | refine sxc hs ?_ | (refine sxa hs hw ?_; clear hs hw; intro a b W hw hs) | (refine sxs hs hw ?_; clear hs hw; intro W hs hw) | ((with_reducible first | refine st_ptrSome hs (k := ?_) | refine st_ptrNone hs (k := ?_)); clear hs; intro a hs))
  cases h0 : ((l.length : Int) == 0) with
  | true =>
    rw [h0] at hs
    repeat (first | (refine sxv hs hw ?_; clear hs; intro a hs) | refine sxc hs ?_ | (refine sxa hs hw ?_; clear hs hw; intro a b W hw hs) | (refine sxs hs hw ?_; clear hs hw; intro W hs hw) | ((with_reducible first | refine st_ptrSome hs (k := ?_) | refine st_ptrNone hs (k := ?_)); clear hs; intro a hs))
    have hX : applyD d l = (1, d) := by
      unfold applyD
      rw [if_pos (.inl (by have : (l.length : Int) = 0 := by simpa using h0
                           omega))]
    exact rt1 hs rfl rfl ⟨by rw [hX], by rw [hX]; exact hw⟩
  | false =>
  rw [h0] at hs
  repeat (first | (refine sxv hs hw ?_; clear hs; intro a hs) | refine sxc hs ?_ | (refine sxa hs hw ?_; clear hs hw; intro a b W hw hs) | (refine sxs hs hw ?_; clear hs hw; intro W hs hw) | ((with_reducible first | refine st_ptrSome hs (k := ?_) | refine st_ptrNone hs (k := ?_)); clear hs; intro a hs))
  cases h8 : decide ((l.length : Int) > 8) with
  | true =>
    rw [h8] at hs
    repeat (first | (refine sxv hs hw ?_; clear hs; intro a hs) | refine sxc hs ?_ | (refine sxa hs hw ?_; clear hs hw; intro a b W hw hs) | (refine sxs hs hw ?_; clear hs hw; intro W hs hw) | ((with_reducible first | refine st_ptrSome hs (k := ?_) | refine st_ptrNone hs (k := ?_)); clear hs; intro a hs))
    have hX : applyD d l = (1, d) := by
      unfold applyD
      rw [if_pos (.inr (by have := of_decide_eq_true h8; omega))]
    exact rt1 hs rfl rfl ⟨by rw [hX], by rw [hX]; exact hw⟩
  | false =>
  rw [h8] at hs
  repeat (first | (refine sxv hs hw ?_; clear hs; intro a hs) | refine sxc hs ?_ | (refine sxa hs hw ?_; clear hs hw; intro a b W hw hs) | (refine sxs hs hw ?_; clear hs hw; intro W hs hw) | ((with_reducible first | refine st_ptrSome hs (k := ?_) | refine st_ptrNone hs (k := ?_)); clear hs; intro a hs))
  have hX : applyD d l = (if (goD l d).1 = 0 then (0, (goD l d).2) else ((goD l d).1, d)) := by
    unfold applyD
    rw [if_neg]
    rintro (h | h)
    · rw [h] at h0; simp at h0
    · have := of_decide_eq_false h8; omega
  rw [hX]
  clear hX h0 h8
  refine st_call hs (hc := doc_Copy w0 _ p d _ hw) (k := ?_); rintro e0 W1 ⟨c, rfl, hw1⟩; refine ⟨_, rfl, ?_⟩; clear hs hw; intro a hs; have hw := hw1; clear hw1
  repeat (first | (refine sxv hs hw ?_; clear hs; intro a hs) | refine sxc hs ?_ | (refine sxa hs hw ?_; clear hs hw; intro a b W hw hs) | (refine sxs hs hw ?_; clear hs hw; intro W hs hw) | ((with_reducible first | refine st_ptrSome hs (k := ?_) | refine st_ptrNone hs (k := ?_)); clear hs; intro a hs))
  refine st_loop (σ := Nat × Dm) (fun t => [(0, .pointer (some ⟨p, 0, none⟩)), (5, .pointer (some ⟨c, 0, none⟩)), (23, .slice sad l.length scap), (24, .int .i64 (l.length : Int)), (25, .int .i64 (t.1 : Int))]) (fun t => DocAt c t.2 :: DocAt p d :: R) (fun t => t.1 ≤ l.length ∧ goD (l.drop t.1) t.2 = goD l d) (fun t => l.length - t.1) (0, d) ⟨Nat.zero_le _, rfl⟩ hs ⟨rfl, rfl, rfl, rfl, rfl, trivial⟩ hw ?_
  clear hs hw
  rintro ⟨j, dc⟩ a W ⟨hj, hgo⟩ hs hw
  simp only at hj hgo hs hw
  repeat (first | (refine sxv hs hw ?_; clear hs; intro a hs) | refine sxc hs ?_ | (refine sxa hs hw ?_; clear hs hw; intro a b W hw hs) | (refine sxs hs hw ?_; clear hs hw; intro W hs hw) | ((with_reducible first | refine st_ptrSome hs (k := ?_) | refine st_ptrNone hs (k := ?_)); clear hs; intro a hs))
  refine cd_split hs (kt := fun hcc => ?_) (kf := fun hcc => ?_)
  · have hj' : j < l.length := by have := of_decide_eq_true hcc; omega
    obtain ⟨o, hoi⟩ : ∃ o, l[j]? = some o := ⟨l[j], List.getElem?_eq_getElem hj'⟩
    have hok := ho o (List.mem_of_getElem? hoi)
    have hdrop : l.drop j = o :: l.drop (j + 1) := by
      rw [List.drop_eq_getElem_cons hj']
      congr 1
      rw [List.getElem?_eq_getElem hj'] at hoi
      exact Option.some.inj hoi
    rw [hdrop] at hgo
    simp only [goD] at hgo
    repeat (first | (refine sxv hs hw ?_; clear hs; intro a hs) | refine sxc hs ?_ | (refine sxa hs hw ?_; clear hs hw; intro a b W hw hs) | (refine sxs hs hw ?_; clear hs hw; intro W hs hw) | ((with_reducible first | refine st_ptrSome hs (k := ?_) | refine st_ptrNone hs (k := ?_)); clear hs; intro a hs))
    refine st_index_op hs (r := hw.rdH (by repeat (first | exact i | apply In.tl)) r) (ho := hoi) (c := ?_); clear hs; intro a q off hpc hs
    refine st_load_ats (z := opCells ⟨0, ⟨#[]⟩, 0, 0, ⟨#[]⟩, 0, 0, ⟨#[]⟩, 0⟩) hs (hc := hpc) (hl := rfl) (c := ?_); clear hs; intro a hs
    clear hpc
    have hM := fun W hT => op_May o.kind o.key o.vk o.vn o.vs o.ok o.on o.os o.n W (by have := hok.key; omega) (by have := hok.vs; omega) (by have := hok.os; omega) hT
    have hM : ∀ W, Tabs W → Calls Tryd.prog 51 ⟨[.agg ⟨opCells o⟩]⟩ W fun e w' => e = .returned (.bool (mayD o)) ∧ Below W.heap.size W w' := hM
    repeat (first | (refine sxv hs hw ?_; clear hs; intro a hs) | refine sxc hs ?_ | (refine sxa hs hw ?_; clear hs hw; intro a b W hw hs) | (refine sxs hs hw ?_; clear hs hw; intro W hs hw) | ((with_reducible first | refine st_ptrSome hs (k := ?_) | refine st_ptrNone hs (k := ?_)); clear hs; intro a hs))
    obtain ⟨b7, q7⟩ := nm1 hw; subst q7
    have hw : Has 0 w0 _ (Cells b7 (opCells o) 41 :: DocAt c dc :: DocAt p d :: R) := hw
    refine st_call hs (hc := hM _ (hT.keep (hw.endF (by repeat (first | exact i | apply In.tl)) hH))) (k := ?_); rintro e0 W1 ⟨rfl, hb⟩; refine ⟨_, rfl, ?_⟩; clear hs; intro a hs; replace hw := hw.below hb; clear hb
    repeat (first | (refine sxv hs hw ?_; clear hs; intro a hs) | refine sxc hs ?_ | (refine sxa hs hw ?_; clear hs hw; intro a b W hw hs) | (refine sxs hs hw ?_; clear hs hw; intro W hs hw) | ((with_reducible first | refine st_ptrSome hs (k := ?_) | refine st_ptrNone hs (k := ?_)); clear hs; intro a hs))
    cases hm : mayD o with
    | false =>
      rw [hm] at hs hgo
      rw [if_pos rfl] at hgo
      repeat (first | (refine sxv hs hw ?_; clear hs; intro a hs) | refine sxc hs ?_ | (refine sxa hs hw ?_; clear hs hw; intro a b W hw hs) | (refine sxs hs hw ?_; clear hs hw; intro W hs hw) | ((with_reducible first | refine st_ptrSome hs (k := ?_) | refine st_ptrNone hs (k := ?_)); clear hs; intro a hs))
      rw [← hgo, if_neg (by show ¬ (1 : Int) = 0; decide)]
      exact rt1 hs rfl rfl ⟨rfl, hw.sub (List.Sublist.cons _ (List.Sublist.cons _ (List.Sublist.refl _)))⟩
    | true =>
    rw [hm] at hs hgo
    rw [if_neg (by decide)] at hgo
    repeat (first | (refine sxv hs hw ?_; clear hs; intro a hs) | refine sxc hs ?_ | (refine sxa hs hw ?_; clear hs hw; intro a b W hw hs) | (refine sxs hs hw ?_; clear hs hw; intro W hs hw) | ((with_reducible first | refine st_ptrSome hs (k := ?_) | refine st_ptrNone hs (k := ?_)); clear hs; intro a hs))
    refine st_call hs (hc := doc_do w0 _ H c dc o _ hok (by repeat (first | exact i | apply In.tl)) hH hT hw.swap2) (k := ?_); rintro e0 W1 ⟨rfl, hw1⟩; refine ⟨_, rfl, ?_⟩; clear hs hw; intro a hs; have hw := hw1; clear hw1
    repeat (first | (refine sxv hs hw ?_; clear hs; intro a hs) | refine sxc hs ?_ | (refine sxa hs hw ?_; clear hs hw; intro a b W hw hs) | (refine sxs hs hw ?_; clear hs hw; intro W hs hw) | ((with_reducible first | refine st_ptrSome hs (k := ?_) | refine st_ptrNone hs (k := ?_)); clear hs; intro a hs))
    cases he : ((doOp dc o).1 != 0) with
    | true =>
      rw [he] at hs
      rw [if_neg (by simpa using he)] at hgo
      repeat (first | (refine sxv hs hw ?_; clear hs; intro a hs) | refine sxc hs ?_ | (refine sxa hs hw ?_; clear hs hw; intro a b W hw hs) | (refine sxs hs hw ?_; clear hs hw; intro W hs hw) | ((with_reducible first | refine st_ptrSome hs (k := ?_) | refine st_ptrNone hs (k := ?_)); clear hs; intro a hs))
      rw [← hgo, if_neg (by simpa using he)]
      exact rt1 hs rfl rfl ⟨rfl, hw.sub (List.Sublist.cons _ (List.Sublist.cons _ (List.Sublist.refl _)))⟩
    | false =>
    rw [he] at hs
    rw [if_pos (by simpa using he)] at hgo
    repeat (first | (refine sxv hs hw ?_; clear hs; intro a hs) | refine sxc hs ?_ | (refine sxa hs hw ?_; clear hs hw; intro a b W hw hs) | (refine sxs hs hw ?_; clear hs hw; intro W hs hw) | ((with_reducible first | refine st_ptrSome hs (k := ?_) | refine st_ptrNone hs (k := ?_)); clear hs; intro a hs))
    exact st_again (j + 1, (doOp dc o).2) hs hw.drop2 ⟨by show j + 1 ≤ l.length; omega, hgo⟩ (by show l.length - (j + 1) < l.length - j; omega) ⟨rfl, rfl, rfl, rfl, int_eq (by show IntKind.i64.wrap ((j : Int) + 1) = ((j + 1 : Nat) : Int); rw [IntWalk.i64_in _ (by omega)]; omega), trivial⟩
  · have hj' : j = l.length := by have := of_decide_eq_false hcc; omega
    subst hj'
    rw [List.drop_length] at hgo
    rw [← hgo]
    simp only [goD, if_true]
    obtain ⟨m1, d1, hp1, hk1, hw⟩ := docOpen hw
    have hw : Has 0 w0 _ (DocAt p d :: Cells c [.map (some m1)] 97 :: MapOf m1 (kvOf d1) :: R) := hw.perm (by repeat (first | exact List.Perm.refl _ | refine perm_pick (by repeat (first | exact Pick.hd | apply Pick.tl)) ?_))
    obtain ⟨m2, d2, hp2, hk2, hw⟩ := docOpen hw
    repeat (first | (refine sxv hs hw ?_; clear hs; intro a hs) | refine sxc hs ?_ | (refine sxa hs hw ?_; clear hs hw; intro a b W hw hs) | (refine sxs hs hw ?_; clear hs hw; intro W hs hw) | ((with_reducible first | refine st_ptrSome hs (k := ?_) | refine st_ptrNone hs (k := ?_)); clear hs; intro a hs))
    have hw : Has 0 w0 _ (Cells p [.map (some m1)] 97 :: MapOf m1 (kvOf d1) :: MapOf m2 (kvOf d2) :: Cells c [.map (some m1)] 97 :: R) := hw.perm (by repeat (first | exact List.Perm.refl _ | refine perm_pick (by repeat (first | exact Pick.hd | apply Pick.tl)) ?_))
    have hw := docShut hw hp1 hk1
    exact rt1 hs rfl rfl ⟨rfl, hw.sub (List.Sublist.cons_cons _ (List.Sublist.cons _ (List.Sublist.cons _ (List.Sublist.refl _))))⟩

end Go.Proofs.YtalfmomnaghahaaDoor.Sw

/-
  Values and their raw data: for seats without the laws of values (in a seat with S4A this text is not used).
-/
set_option linter.unusedVariables false
namespace Go.Proofs.YtalfmomnaghahaaDoor.Sw
open Go.RowKit

theorem ofRaw_ok {k n : Int} {s : ByteArray} (h : (ofRaw k n s).2 = 0) : kindOf (ofRaw k n s).1 = k ∧ intIn (ofRaw k n s).1 = n ∧ (textIn (ofRaw k n s).1).toList = s.toList := by
  have hz : ∀ s : ByteArray, s.size = 0 → (⟨#[]⟩ : ByteArray).toList = s.toList := fun s h => by
    have : s = ⟨#[]⟩ := by
      apply ByteArray.ext
      exact Array.eq_empty_of_size_eq_zero h
    rw [this]
  unfold ofRaw at *
  split at h
  · rename_i c; rw [if_pos c]; exact ⟨c.1.symm, c.2.1.symm, hz s c.2.2⟩
  · rename_i c; rw [if_neg c]
    split at h
    · rename_i c2; rw [if_pos c2]; exact ⟨c2.1.symm, rfl, hz s c2.2⟩
    · rename_i c2; rw [if_neg c2]
      split at h
      · rename_i c3; rw [if_pos c3]; exact ⟨c3.1.symm, c3.2.1.symm, rfl⟩
      · cases h
theorem eqV_of {k n k' n' : Int} {s s' : ByteArray} (h : (ofRaw k n s).2 = 0) (h' : (ofRaw k' n' s').2 = 0) : eqV (ofRaw k n s).1 (ofRaw k' n' s').1 = ((k == k') && (n == n') && (s.toList == s'.toList)) := by
  obtain ⟨a, b, c⟩ := ofRaw_ok h
  obtain ⟨a', b', c'⟩ := ofRaw_ok h'
  unfold eqV
  rw [a, b, c, a', b', c']
theorem eqV_refl (x : Option (Int ⊕ ByteArray)) : eqV x x = true := by simp [eqV]
theorem eqV_symm (x y : Option (Int ⊕ ByteArray)) : eqV x y = eqV y x := by
  unfold eqV
  rw [Bool.beq_comm (a := kindOf x), Bool.beq_comm (a := intIn x), Bool.beq_comm (a := (textIn x).toList)]

end Go.Proofs.YtalfmomnaghahaaDoor.Sw

/-
  The plain law of chapter 5: when two batches are one. No program in sight.
-/
set_option linter.unusedVariables false
set_option maxRecDepth 10000
namespace Go.Proofs.YtalfmomnaghahaaDoor.Sw
open Go.RowKit Go.Sx

theorem ba_eq {s t : ByteArray} (h : s.toList = t.toList) : s = t := by
  rw [Go.ByteArray.toList_eq, Go.ByteArray.toList_eq] at h
  apply ByteArray.ext
  exact Array.toList_inj.1 h
theorem ba_mk (s : ByteArray) : (⟨s.data.toList.toArray⟩ : ByteArray) = s := by
  apply ByteArray.ext
  simp
theorem rawEq_iff {k n : Int} {s : ByteArray} {k' n' : Int} {s' : ByteArray} : rawEq k n s k' n' s' = true ↔ k = k' ∧ n = n' ∧ s = s' := by
  unfold rawEq
  simp only [Bool.and_eq_true, beq_iff_eq]
  constructor
  · rintro ⟨⟨h1, h2⟩, h3⟩
    exact ⟨h1, h2, ba_eq h3⟩
  · rintro ⟨rfl, rfl, rfl⟩
    exact ⟨⟨rfl, rfl⟩, rfl⟩

theorem mayBatch_parts {c q : Int} {l : List OpD} (h : mayBatch c q l = true) : (1 ≤ c ∧ c ≤ 5) ∧ (1 ≤ q ∧ q ≤ 1099511627776) ∧ (1 ≤ l.length ∧ l.length ≤ 8) ∧ l.all mayD = true ∧ (textB c q l).length ≤ 1200 := by
  unfold mayBatch at h
  simp only [Bool.and_eq_true, Bool.not_eq_true', decide_eq_false_iff_not, decide_eq_true_eq] at h
  obtain ⟨⟨⟨⟨⟨⟨⟨h1, h2⟩, h3⟩, h4⟩, h5⟩, h6⟩, h7⟩, h8⟩ := h
  exact ⟨by omega, by omega, by omega, h7, by omega⟩
def eqOp (o o' : OpD) : Bool := (o.kind == o'.kind) && (o.key.toList == o'.key.toList) && rawEq o.vk o.vn o.vs o'.vk o'.vn o'.vs && rawEq o.ok o.on o.os o'.ok o'.on o'.os && (o.n == o'.n)
def eqOps (l l' : List OpD) : Bool := (l.zip l').all fun p => eqOp p.1 p.2
def eqBatch (c q : Int) (l : List OpD) (c' q' : Int) (l' : List OpD) : Bool := (c == c') && (q == q') && (l.length == l'.length) && eqOps l l'
theorem eqOp_iff {o o' : OpD} : eqOp o o' = true ↔ o = o' := by
  obtain ⟨kind, key, vk, vn, vs, ok, on, os, n⟩ := o
  obtain ⟨kind', key', vk', vn', vs', ok', on', os', n'⟩ := o'
  unfold eqOp
  simp only [Bool.and_eq_true, beq_iff_eq, rawEq_iff, OpD.mk.injEq]
  constructor
  · rintro ⟨⟨⟨⟨h1, h2⟩, h3, h4, h5⟩, h6, h7, h8⟩, h9⟩
    exact ⟨h1, ba_eq h2, h3, h4, h5, h6, h7, h8, h9⟩
  · rintro ⟨h1, h2, h3, h4, h5, h6, h7, h8, h9⟩
    exact ⟨⟨⟨⟨h1, by rw [h2]⟩, h3, h4, h5⟩, h6, h7, h8⟩, h9⟩
theorem eqOps_iff : ∀ {l l' : List OpD}, l.length = l'.length → (eqOps l l' = true ↔ l = l')
  | [], [], _ => by simp [eqOps]
  | [], _ :: _, h => by simp at h
  | _ :: _, [], h => by simp at h
  | o :: l, o' :: l', h => by
    have ih := eqOps_iff (l := l) (l' := l') (by simpa using h)
    unfold eqOps at *
    rw [List.zip_cons_cons, List.all_cons, Bool.and_eq_true, ih, eqOp_iff, List.cons.injEq]
theorem eqBatch_iff {c q : Int} {l : List OpD} {c' q' : Int} {l' : List OpD} : eqBatch c q l c' q' l' = true ↔ c = c' ∧ q = q' ∧ l = l' := by
  unfold eqBatch
  simp only [Bool.and_eq_true, beq_iff_eq]
  constructor
  · rintro ⟨⟨⟨h1, h2⟩, h3⟩, h4⟩
    exact ⟨h1, h2, (eqOps_iff h3).1 h4⟩
  · rintro ⟨h1, h2, rfl⟩
    exact ⟨⟨⟨h1, h2⟩, rfl⟩, (eqOps_iff rfl).2 rfl⟩
theorem textB_pos (c q : Int) (l : List OpD) : 0 < (textB c q l).length := by
  have h4 : 0 < (Ph.putI c).length := List.length_pos_iff.2 (Ph.putI_ne_nil c)
  unfold textB headB
  simp only [List.length_append]
  omega
end Go.Proofs.YtalfmomnaghahaaDoor.Sw

/-
  Sx: cells that are a list's parts, one behind the other.
-/
set_option linter.unusedVariables false
namespace Go.Sx
open Go.RowKit
def Ch {α : Type} (R : α → List Value → Prop) : List α → List Value → Prop
  | [], cs => cs = []
  | a :: l, cs => ∃ c cs', cs = c ++ cs' ∧ R a c ∧ Ch R l cs'
section
variable {α : Type} {R R' : α → List Value → Prop} {k : Nat}
theorem Ch.length (hk : ∀ a c, R a c → c.length = k) : ∀ {l : List α} {cs : List Value}, Ch R l cs → cs.length = l.length * k
  | [], cs, h => by
    have h : cs = [] := h
    subst h; simp
  | a :: l, _, ⟨c, cs', rfl, h1, h2⟩ => by
    have := Ch.length hk h2
    have := hk a c h1
    rw [List.length_append, List.length_cons, Nat.add_mul]; omega
theorem Ch.app : ∀ {l m : List α} {cs ds : List Value}, Ch R l cs → Ch R m ds → Ch R (l ++ m) (cs ++ ds)
  | [], m, cs, ds, h, h2 => by
    have h : cs = [] := h
    subst h; exact h2
  | a :: l, m, _, ds, ⟨c, cs', rfl, h1, h2⟩, h3 => ⟨c, cs' ++ ds, by simp, h1, Ch.app h2 h3⟩
theorem Ch.unit {a : α} {c : List Value} (h : R a c) : Ch R [a] c := ⟨c, [], by simp, h, rfl⟩
theorem Ch.mono (h : ∀ a c, R a c → R' a c) : ∀ {l : List α} {cs : List Value}, Ch R l cs → Ch R' l cs
  | [], cs, h0 => h0
  | a :: l, _, ⟨c, cs', e, h1, h2⟩ => ⟨c, cs', e, h a c h1, Ch.mono h h2⟩
theorem Ch.split (hk : ∀ a c, R a c → c.length = k) : ∀ {l : List α} {cs : List Value} {i : Nat} {a : α}, Ch R l cs → l[i]? = some a →
    ∃ cs1 c cs2, cs = cs1 ++ (c ++ cs2) ∧ cs1.length = i * k ∧ R a c ∧ Ch R (l.take i) cs1 ∧ Ch R (l.drop (i + 1)) cs2
  | [], _, _, _, _, h => by simp at h
  | b :: l, _, 0, a, ⟨c, cs', rfl, h1, h2⟩, h => by
    simp only [List.getElem?_cons_zero, Option.some.injEq] at h
    subst h
    exact ⟨[], c, cs', rfl, by simp, h1, rfl, h2⟩
  | b :: l, _, i + 1, a, ⟨c, cs', rfl, h1, h2⟩, h => by
    rw [List.getElem?_cons_succ] at h
    obtain ⟨cs1, c', cs2, rfl, h3, h4, h5, h6⟩ := Ch.split hk h2 h
    refine ⟨c ++ cs1, c', cs2, by simp, ?_, h4, ⟨c, cs1, rfl, h1, h5⟩, h6⟩
    have := hk b c h1
    rw [List.length_append, Nat.add_mul]; omega
theorem Ch.get (hk : ∀ a c, R a c → c.length = k) {l : List α} {cs : List Value} {i : Nat} {a : α} (h : Ch R l cs) (hi : l[i]? = some a) : ∃ c, R a c ∧ c.length = k ∧ cut cs (i * k) k = c := by
  obtain ⟨cs1, c, cs2, rfl, h1, h2, _, _⟩ := h.split hk hi
  have := hk a c h2
  refine ⟨c, h2, this, ?_⟩
  rw [cut_eq, List.drop_append, h1, Nat.sub_self, List.drop_of_length_le (by omega), List.nil_append, List.drop_zero, List.take_append_of_le_length (by omega), List.take_of_length_le (by omega)]
theorem Ch.set (hk : ∀ a c, R a c → c.length = k) {l : List α} {cs : List Value} {i : Nat} {a : α} {c : List Value} (h : Ch R l cs) (hi : i < l.length) (ha : R a c) : Ch R (l.set i a) (ov cs (i * k) c) := by
  obtain ⟨cs1, c0, cs2, rfl, h1, h2, h3, h4⟩ := h.split hk (i := i) (a := l[i]) (by simp [hi])
  have e1 := hk _ _ h2
  have e2 := hk _ _ ha
  rw [ov_eq _ _ _ (by simp; omega), List.set_eq_take_append_cons_drop, if_pos hi]
  have e3 : (cs1 ++ (c0 ++ cs2)).take (i * k) = cs1 := by rw [← h1]; simp
  have e4 : (cs1 ++ (c0 ++ cs2)).drop (i * k + c.length) = cs2 := by
    rw [← List.append_assoc, ← h1, e2, ← e1, ← List.length_append, List.drop_left]
  rw [e3, e4, List.append_assoc]
  exact h3.app ⟨c, cs2, rfl, ha, h4⟩
theorem Ch.take (hk : ∀ a c, R a c → c.length = k) : ∀ {l : List α} {cs : List Value} (n : Nat), Ch R l cs → Ch R (l.take n) (cs.take (n * k))
  | [], cs, n, h => by
    have h : cs = [] := h
    subst h
    rw [List.take_nil, List.take_nil]; rfl
  | a :: l, cs, 0, h => by rw [Nat.zero_mul]; rfl
  | a :: l, _, n + 1, ⟨c, cs', rfl, h1, h2⟩ => by
    have := hk a c h1
    refine ⟨c, cs'.take (n * k), ?_, h1, Ch.take hk n h2⟩
    rw [List.take_append, List.take_of_length_le (by rw [Nat.add_mul]; omega), Nat.add_mul]
    congr 2; omega
theorem Ch.drop (hk : ∀ a c, R a c → c.length = k) : ∀ {l : List α} {cs : List Value} (n : Nat), Ch R l cs → Ch R (l.drop n) (cs.drop (n * k))
  | [], cs, n, h => by
    have h : cs = [] := h
    subst h
    rw [List.drop_nil, List.drop_nil]; rfl
  | a :: l, cs, 0, h => by rw [Nat.zero_mul]; exact h
  | a :: l, _, n + 1, ⟨c, cs', rfl, h1, h2⟩ => by
    have := hk a c h1
    have e : (n + 1) * k - c.length = n * k := by rw [Nat.add_mul]; omega
    have e2 : c.drop ((n + 1) * k) = [] := List.drop_of_length_le (by rw [Nat.add_mul]; omega)
    rw [List.drop_succ_cons, List.drop_append, e2, List.nil_append, e]
    exact Ch.drop hk n h2
theorem Ch.ones (h1 : ∀ a c, R a c → ∀ v ∈ c, v.oneCell' = true) : ∀ {l : List α} {cs : List Value}, Ch R l cs → ∀ v ∈ cs, v.oneCell' = true
  | [], cs, h => by
    have h : cs = [] := h
    subst h; simp
  | a :: l, _, ⟨c, cs', rfl, h2, h3⟩ => fun v hv => by
    rcases List.mem_append.1 hv with hv | hv
    · exact h1 a c h2 v hv
    · exact Ch.ones h1 h3 v hv
end
section
variable {P : Program} {ops : Array Oper} {rest : List Oper} {Q : Exit → Act → World → Prop} {a : Act} {n : Nat} {L : List (Nat × Value)} {W : World} {d k : Nat} {T S E : TypeId} {p : String} {e : Array Edge} {x y : Operand} {v : Value} {xs : List Value} {i : Nat} {q : IntKind} {z : List Value} {α : Type} {R : α → List Value → Prop} {l : List α} {u : α}
/-- A part's address; what stands there. -/
theorem st_index_ch {agg : Bool} {sz : Nat} [sl : Sl P S E] [t : Ty P E agg z] (hs : Slots a n L) (r : Rd W sz v k xs) (hk : ∀ a c, R a c → c.length = sz) (ch : Ch R l xs) (ho : l[i]? = some u) (hlen : l.length = k) (hx : ev L x = some v := by with_unfolding_all exact rfl) (hy : ev L y = some (.int q (i : Int)) := by with_unfolding_all exact rfl) (hd : Nat.blt d n = true := by with_unfolding_all exact rfl) (hz : z.length = sz := by with_unfolding_all exact rfl)
    (c : ∀ a' b o c, R u c → c.length = sz → (∀ j u, c[j]? = some u → W.cell? ⟨b, o + j, none⟩ = some u) → b < W.heap.size → Slots a' n ((d, .pointer (some ⟨b, o, none⟩)) :: L) → wpList P ops Q rest a' W) : wpList P ops Q (⟨some d, .indexAddr S x y, T, p, e, none⟩ :: rest) a W := by
  subst hz
  have hi := (List.getElem?_eq_some_iff.1 ho).1
  obtain ⟨cc, h1, h2, h3⟩ := ch.get hk ho
  refine st_indexAddr hs hx hy r (by omega) (by omega) hd fun a' b o h4 h5 h6 => c a' b o cc h1 h2 ?_ h5 h6
  rw [Int.toNat_natCast] at h4
  rw [← h3]
  exact h4
end
section
variable {P : Program} {ops : Array Oper} {rest : List Oper} {Q : Exit → Act → World → Prop} {a : Act} {n G : Nat} {L : List (Nat × Value)} {w W : World} {R : List Res} {d b size bytes m : Nat} {T S S' E : TypeId} {p : String} {e : Array Edge} {x y : Operand} {v : Value} {xs c : List Value} {α : Type} {Rr : α → List Value → Prop} {l : List α} {u : α}
/-- One part more. -/
theorem st_append1 [sl : Sl P S E] [el : El P E size bytes] (hs : Slots a n L) (hw : Has G w W (Own E size v l.length xs :: R)) (hi : In (Cells b c E) R) (ch : Ch Rr l xs) (ha : Rr u c) (hl : Nat.beq c.length (1 * size) = true) (h1 : c.all (·.oneCell') = true) (hb : (l.length + 1) * bytes ≤ 140737488355328) (h63 : l.length + 1 ≤ 9223372036854775807) (hx : ev L x = some v := by with_unfolding_all exact rfl) (hy : ev L y = some (.slice (some ⟨b, 0, none⟩) 1 1) := by with_unfolding_all exact rfl) (hd : Nat.blt d n = true := by with_unfolding_all exact rfl)
    (k : ∀ a' ad cap W', Slots a' n ((d, .slice ad (l ++ [u]).length cap) :: L) → Has G w W' (Own E size (.slice ad (l ++ [u]).length cap) (l ++ [u]).length (xs ++ c) :: R) → Ch Rr (l ++ [u]) (xs ++ c) → wpList P ops Q rest a' W') : wpList P ops Q (⟨some d, .call { callee := .builtin .append, args := #[x, y], argTypes := #[S, S] }, T, p, e, none⟩ :: rest) a W := by
  refine st_append_lit (b := b) (k := l.length) (m := 1) (xs := xs) (news := c) (v := v) (R' := fun v' => Own E size v' (l.length + 1) (xs ++ c) :: R) hs hw hx hy (In.tl hi) (fun v' => Upd.hd) hl h1 h63 hb hd ?_
  intro a' ad cap W' hs' hw'
  have e : l.length + 1 = (l ++ [u]).length := by simp
  rw [e] at hs' hw'
  exact k a' ad cap W' hs' hw' (ch.app (Ch.unit ha))
end
section
variable {G : Nat} {w W : World} {R : List Res} {H : Fh}
/-- What is frozen, with a fact about it. -/
def FzF (H : Fh) (p : Prop) : Res where
  ok F W := p ∧ (Fz H).ok F W
  loc F W W' h k := ⟨k.1, (Fz H).loc F W W' h k.2⟩
theorem Has.fzf {q : Prop} (h : Has G w W (Fz H :: R)) (hq : q) : Has G w W (FzF H q :: R) := by
  obtain ⟨F1, h1, h2, h3⟩ := h.has
  exact ⟨h.ext, h.glob, F1, h1, ⟨hq, h2⟩, h3⟩
theorem Has.unfzf {q : Prop} (h : Has G w W (FzF H q :: R)) : q ∧ Has G w W (Fz H :: R) := by
  obtain ⟨F1, h1, ⟨hq, h2⟩, h3⟩ := h.has
  exact ⟨hq, h.ext, h.glob, F1, h1, h2, h3⟩
end
theorem drop_of {α : Type} {l : List α} {j : Nat} {o : α} (h : l[j]? = some o) : l.drop j = o :: l.drop (j + 1) := by
  have hj := (List.getElem?_eq_some_iff.1 h).1
  rw [List.drop_eq_getElem_cons hj]
  congr 1
  rw [List.getElem?_eq_getElem hj] at h
  exact Option.some.inj h
theorem take_of {α : Type} {l : List α} {j : Nat} {o : α} (h : l[j]? = some o) : l.take (j + 1) = l.take j ++ [o] := by
  rw [List.take_add_one, h]; rfl
end Go.Sx

/-
  Documents as the reference has them: lists in order; the same up to order as the program's.
-/
set_option linter.unusedVariables false
set_option maxRecDepth 10000
namespace Go.Proofs.YtalfmomnaghahaaDoor.Sw
open Go.RowKit Go.Sx

def lessK (a b : ByteArray) : Bool := Ph.lessL a.data.toList b.data.toList
/-- With a key's value, as the reference puts it. -/
def setL : Dm → ByteArray → DV → Dm
  | [], k, v => [(k, v)]
  | p :: d, k, v => match lessK p.1 k with
    | false => (k, v) :: delD (p :: d) k
    | true => match ks k p.1 with
      | true => setL d k v
      | false => p :: setL d k v
theorem delD_cons (p : ByteArray × DV) (d : Dm) (k : ByteArray) : delD (p :: d) k = match ks k p.1 with | true => delD d k | false => p :: delD d k := by
  unfold delD
  rw [List.filter_cons]
  cases ks k p.1 <;> rfl
theorem setL_perm : ∀ (d : Dm) (k : ByteArray) (v : DV), (setL d k v).Perm (setD d k v)
  | [], k, v => List.Perm.refl _
  | p :: d, k, v => by
    have ih := setL_perm d k v
    unfold setD at ih ⊢
    simp only [setL]
    cases lessK p.1 k with
    | false => exact List.Perm.refl _
    | true =>
      simp only
      rw [delD_cons]
      cases ks k p.1 with
      | true => exact ih
      | false => exact (ih.cons p).trans (List.Perm.swap _ _ _)
def setRL (d : Dm) (k : ByteArray) (x : Option DV) : Int × Dm :=
  match x with
  | none => (0, delD d k)
  | some v => if (getK d k).isSome = false ∧ 50 ≤ d.length then (6, d) else (0, setL d k v)
def doL (d : Dm) (o : OpD) : Int × Dm :=
  if o.kind = 3 then (if eqV (getK d o.key) (ofRaw o.ok o.on o.os).1 then setRL d o.key (ofRaw o.vk o.vn o.vs).1 else (8, d))
  else if o.kind = 4 then
    if (kindOf (getK d o.key) != 0 && !isInt (getK d o.key)) = true then (7, d)
    else if (!inB (intIn (getK d o.key)) || !inB (IntKind.i64.wrap (intIn (getK d o.key) + o.n))) = true then (4, d)
    else setRL d o.key (some (.inl (IntKind.i64.wrap (intIn (getK d o.key) + o.n))))
  else setRL d o.key (ofRaw o.vk o.vn o.vs).1
def goL : List OpD → Dm → Int × Dm
  | [], d => (0, d)
  | o :: l, d => if mayD o = false then (1, d) else if (doL d o).1 = 0 then goL l (doL d o).2 else ((doL d o).1, d)
/-- All operations, or none. -/
def applyL (d : Dm) (l : List OpD) : Int × Dm :=
  if l.length = 0 ∨ 8 < l.length then (1, d) else if (goL l d).1 = 0 then (0, (goL l d).2) else ((goL l d).1, d)

def Like (a b : Int × Dm) : Prop := a.1 = b.1 ∧ a.2.Perm b.2 ∧ dKeys b.2
theorem setRL_like {d d' : Dm} (hp : d'.Perm d) (hk : dKeys d) (k : ByteArray) (x : Option DV) : Like (setR d' k x) (setRL d k x) := by
  cases x with
  | none => exact ⟨rfl, delD_perm hp k, delD_keys hk k⟩
  | some v =>
    unfold setR setRL
    simp only
    rw [getK_perm hp ((dKeys_perm hp).2 hk), hp.length_eq]
    by_cases h : (getK d k).isSome = false ∧ 50 ≤ d.length
    · rw [if_pos h, if_pos h]
      exact ⟨rfl, hp, hk⟩
    · rw [if_neg h, if_neg h]
      exact ⟨rfl, (setD_perm hp k v).trans (setL_perm d k v).symm, (dKeys_perm (setL_perm d k v)).2 (setD_keys hk k v)⟩
theorem doL_like {d d' : Dm} (hp : d'.Perm d) (hk : dKeys d) (o : OpD) : Like (doOp d' o) (doL d o) := by
  unfold doOp doL
  rw [getK_perm hp ((dKeys_perm hp).2 hk)]
  split
  · split
    · exact setRL_like hp hk _ _
    · exact ⟨rfl, hp, hk⟩
  · split
    · split
      · exact ⟨rfl, hp, hk⟩
      · split
        · exact ⟨rfl, hp, hk⟩
        · exact setRL_like hp hk _ _
    · exact setRL_like hp hk _ _
theorem goL_like : ∀ (l : List OpD) {d d' : Dm}, d'.Perm d → dKeys d → Like (goD l d') (goL l d)
  | [], d, d', hp, hk => ⟨rfl, hp, hk⟩
  | o :: l, d, d', hp, hk => by
    unfold goD goL
    obtain ⟨h1, h2, h3⟩ := doL_like hp hk o
    by_cases hm : mayD o = false
    · rw [if_pos hm, if_pos hm]
      exact ⟨rfl, hp, hk⟩
    · rw [if_neg hm, if_neg hm, h1]
      by_cases he : (doL d o).1 = 0
      · rw [if_pos he, if_pos he]
        exact goL_like l h2 h3
      · rw [if_neg he, if_neg he]
        exact ⟨rfl, hp, hk⟩
theorem applyL_like {d d' : Dm} (hp : d'.Perm d) (hk : dKeys d) (l : List OpD) : Like (applyD d' l) (applyL d l) := by
  unfold applyD applyL
  obtain ⟨h1, h2, h3⟩ := goL_like l hp hk
  by_cases h : l.length = 0 ∨ 8 < l.length
  · rw [if_pos h, if_pos h]
    exact ⟨rfl, hp, hk⟩
  · rw [if_neg h, if_neg h, h1]
    by_cases he : (goL l d).1 = 0
    · rw [if_pos he, if_pos he]
      exact ⟨rfl, h2, h3⟩
    · rw [if_neg he, if_neg he]
      exact ⟨rfl, hp, hk⟩
theorem docLike {G p : Nat} {w W : World} {R : List Res} {d d' : Dm} (h : Has G w W (DocAt p d :: R)) (hp : d.Perm d') : Has G w W (DocAt p d' :: R) := by
  obtain ⟨m, d2, h1, h2, h3⟩ := docOpen h
  exact docShut h3 (h1.trans hp) ((dKeys_perm hp).1 h2)
theorem docKeys {G p : Nat} {w W : World} {R : List Res} {d : Dm} (h : Has G w W (DocAt p d :: R)) : dKeys d := by
  obtain ⟨m, d2, h1, h2, h3⟩ := docOpen h
  exact h2
theorem doc_ApplyL (w0 W : World) (H : Fh) (p : Nat) (d : Dm) (l : List OpD) (sv : Value) (R : List Res) (ho : ∀ o ∈ l, OpOk o) (r : RdH H 9 sv l.length (l.flatMap opCells)) (i : In (Fz H) R) (hH : (fr w0).le H) (hT : Tabs w0) (hw : Has 0 w0 W (DocAt p d :: R)) :
    Calls Tryd.prog 39 ⟨[.pointer (some ⟨p, 0, none⟩), sv]⟩ W fun e W' => e = .returned (.int .i64 (applyL d l).1) ∧ Has 0 w0 W' (DocAt p (applyL d l).2 :: R) := by
  have hk := docKeys hw
  obtain ⟨h1, h2, h3⟩ := applyL_like (List.Perm.refl d) hk l
  refine (doc_Apply w0 W H p d l sv R ho r i hH hT hw).mono ?_
  rintro e W' ⟨rfl, h⟩
  exact ⟨by rw [h1], docLike h h2⟩

/-! what may be of a document -/
structure PairOk (p : ByteArray × DV) : Prop where
  key : p.1.size ≤ 1000000
  num : ∀ n, p.2 = .inl n → i64 n
  txt : ∀ s, p.2 = .inr s → s.size ≤ 200 ∧ Lib.validD s.data.toList = true
/-- A document that may be. -/
structure DocOk (d : Dm) : Prop where
  keys : dKeys d
  len : d.length ≤ 50
  all : ∀ p ∈ d, PairOk p
theorem DocOk.nil : DocOk [] := ⟨by unfold dKeys; simp, by simp, by simp⟩
theorem delD_len (d : Dm) (k : ByteArray) : (delD d k).length ≤ d.length := List.length_filter_le _ _
theorem delD_less {d : Dm} {k : ByteArray} (h : (getK d k).isSome = true) : (delD d k).length < d.length := by
  have h1 : k ∈ d.map (·.1) := by
    cases hg : getK d k with
    | none => rw [hg] at h; cases h
    | some v => exact Classical.byContradiction fun hn => by rw [getK_none.2 hn] at hg; cases hg
  obtain ⟨p, hp, rfl⟩ := List.mem_map.1 h1
  have h3 := List.length_eq_countP_add_countP (fun q : ByteArray × DV => !ks p.1 q.1) (l := d)
  have h4 : 0 < d.countP (fun q => decide ¬(!ks p.1 q.1) = true) := List.countP_pos_iff.2 ⟨p, hp, by simp [ks_self]⟩
  have h5 : (delD d p.1).length = d.countP (fun q => !ks p.1 q.1) := by unfold delD; rw [List.countP_eq_length_filter]
  omega
theorem setRL_ok {d : Dm} (h : DocOk d) {k : ByteArray} {x : Option DV} (hx : ∀ v, x = some v → PairOk (k, v)) : DocOk (setRL d k x).2 := by
  cases x with
  | none => exact ⟨delD_keys h.keys k, Nat.le_trans (delD_len d k) h.len, fun p hp => h.all p ((List.mem_filter.1 hp).1)⟩
  | some v =>
    unfold setRL
    simp only
    by_cases hc : (getK d k).isSome = false ∧ 50 ≤ d.length
    · rw [if_pos hc]; exact h
    · rw [if_neg hc]
      have hp := setL_perm d k v
      refine ⟨(dKeys_perm hp).2 (setD_keys h.keys k v), ?_, fun p hm => ?_⟩
      · rw [hp.length_eq]
        show (delD d k).length + 1 ≤ 50
        cases hg : (getK d k).isSome with
        | true =>
          have := delD_less hg
          have := h.len
          omega
        | false =>
          have := delD_len d k
          have : ¬ 50 ≤ d.length := fun hh => hc ⟨hg, hh⟩
          omega
      · rcases List.mem_cons.1 (hp.mem_iff.1 hm) with rfl | hm
        · exact hx v rfl
        · exact h.all p ((List.mem_filter.1 hm).1)
theorem ofRaw_pair {k n : Int} {s key : ByteArray} (hk : key.size ≤ 1000000) (hn : i64 n) : ∀ v, (ofRaw k n s).1 = some v → PairOk (key, v) := by
  intro v hv
  unfold ofRaw at hv
  split at hv
  · cases hv
  · split at hv
    · cases hv
      exact ⟨hk, (fun m h => by cases h; exact hn), (fun t h => by cases h)⟩
    · split at hv
      · rename_i c
        cases hv
        exact ⟨hk, (fun m h => by cases h), (fun t h => by cases h; exact ⟨c.2.2.1, c.2.2.2⟩)⟩
      · cases hv
theorem wrap_i64 (n : Int) : i64 (IntKind.i64.wrap n) := by
  unfold i64
  rw [IntKind.wrap_i64]; omega
theorem doL_ok {d : Dm} (h : DocOk d) {o : OpD} (ho : OpOk o) : DocOk (doL d o).2 := by
  unfold doL
  split
  · split
    · exact setRL_ok h (ofRaw_pair ho.key ho.vn)
    · exact h
  · split
    · split
      · exact h
      · split
        · exact h
        · exact setRL_ok h fun v hv => by
            cases hv
            exact ⟨ho.key, (fun n hn => by cases hn; exact wrap_i64 _), (fun s hs => by cases hs)⟩
    · exact setRL_ok h (ofRaw_pair ho.key ho.vn)
theorem goL_ok : ∀ (l : List OpD) {d : Dm}, DocOk d → (∀ o ∈ l, OpOk o) → DocOk (goL l d).2
  | [], d, h, _ => h
  | o :: l, d, h, ho => by
    unfold goL
    split
    · exact h
    · split
      · exact goL_ok l (doL_ok h (ho o (by simp))) fun o' ho' => ho o' (by simp [ho'])
      · exact h
theorem applyL_ok {d : Dm} (h : DocOk d) {l : List OpD} (ho : ∀ o ∈ l, OpOk o) : DocOk (applyL d l).2 := by
  unfold applyL
  split
  · exact h
  · split
    · exact goL_ok l h ho
    · exact h
end Go.Proofs.YtalfmomnaghahaaDoor.Sw

/-
  The walk of the reference's Less.
-/
set_option linter.unusedVariables false
namespace Go.Proofs.YtalfmomnaghahaaDoor
open Go.RowKit

-- pieces

theorem bdrew {B : Nat} {x y : World} (h : Below B x y) (n : Nat) : Below B x (y.drewN n) := h.trans ⟨rfl, rfl, rfl, Nat.le_refl _, fun _ _ => rfl⟩

end Go.Proofs.YtalfmomnaghahaaDoor

/-
  The walks of the reference's documents: Get, far, set.
-/
set_option linter.unusedVariables false
set_option maxRecDepth 10000
namespace Go.Proofs.YtalfmomnaghahaaDoor.Sw
open Go.RowKit Go.Sx

-- pieces

theorem chFlat {α : Type} (f : α → List Value) : ∀ l : List α, Ch (fun a c => c = f a) l (l.flatMap f)
  | [] => rfl
  | a :: l => ⟨f a, l.flatMap f, rfl, rfl, chFlat f l⟩

def rawCells (x : Option DV) : List Value := [.int .i64 (kindOf x), .int .i64 (intIn x), .string (textIn x)]

def pairCells (p : ByteArray × DV) : List Value := .string p.1 :: rawCells (some p.2)

theorem pair_len : ∀ (p : ByteArray × DV) (c : List Value), c = pairCells p → c.length = 4 := by rintro p c rfl; rfl

theorem ks_list (a b : ByteArray) : (a.toList == b.toList) = ks b a := by
  cases h : ks b a with
  | true => rw [ks_iff.1 h]; simp
  | false =>
    cases h2 : (a.toList == b.toList) with
    | false => rfl
    | true => rw [beq_iff_eq] at h2; rw [ks_iff.2 (ba_eq h2).symm] at h; cases h

/-- What is left to be put: is the key in already? -/
def goSet (inb : Bool) (k : ByteArray) (v : DV) (d : Dm) : Dm := match inb with | true => delD d k | false => setL d k v

structure SetS where
  i : Nat
  inb : Bool
  out : Dm
  ad : Option Addr
  cap : Nat

theorem goSet_step (k : ByteArray) (v : DV) (p : ByteArray × DV) (d : Dm) (inb : Bool) : goSet inb k v (p :: d) = (if (!inb && !lessK p.1 k) = true then [(k, v)] else []) ++ ((if ks k p.1 then [] else [p]) ++ goSet (inb || !lessK p.1 k) k v d) := by
  cases inb with
  | true =>
    simp only [goSet, delD_cons]
    cases ks k p.1 <;> simp
  | false =>
    simp only [goSet, setL]
    cases lessK p.1 k with
    | false =>
      simp only [delD_cons]
      cases ks k p.1 <;> simp
    | true => cases ks k p.1 <;> simp

def setX (d : Dm) (k : ByteArray) (x : Option DV) : Dm := match x with | none => delD d k | some v => setL d k v

theorem chPair (d : Dm) : Ch (fun p c => c = pairCells p) d (d.flatMap pairCells) := chFlat pairCells d

theorem chPair_eq : ∀ {d : Dm} {xs : List Value}, Ch (fun p c => c = pairCells p) d xs → xs = d.flatMap pairCells
  | [], xs, h => h
  | p :: d, _, ⟨c, cs', rfl, h1, h2⟩ => by rw [h1, chPair_eq h2]; rfl

theorem raw_one (x : Option DV) : (rawCells x).all (·.oneCell') = true := rfl

theorem zero_kind (x : Option DV) : ((kindOf x : Int) == 0) = x.isNone := by rcases x with _ | n | s <;> rfl

end Go.Proofs.YtalfmomnaghahaaDoor.Sw

/-
  The walk of the reference's MayOp; it answers as op.May.
-/
set_option linter.unusedVariables false
set_option maxRecDepth 10000
namespace Go.Proofs.YtalfmomnaghahaaDoor.Sw
open Go.RowKit Go.Sx

theorem raw_zero_may {k n : Int} {s : ByteArray} (h : rawEq k n s 0 0 ⟨#[]⟩ = true) : ((ofRaw k n s).2 == 0) = true := by
  simp only [rawEq, Bool.and_eq_true, beq_iff_eq] at h
  obtain ⟨⟨rfl, rfl⟩, h3⟩ := h
  have hz : s.size = 0 := by
    have := congrArg List.length h3
    rw [toList_size, toList_size] at this
    exact this
  unfold ofRaw; rw [if_pos ⟨rfl, rfl, hz⟩]; rfl
theorem may_zero {k n : Int} {s : ByteArray} (h : ((ofRaw k n s).2 == 0) = true) : rawEq k n s 0 0 ⟨#[]⟩ = !(k != 0) := by
  by_cases hk : k = 0
  · subst hk
    unfold ofRaw at h
    split at h
    · rename_i c
      have e := empty_eq s c.2.2
      rw [c.2.1]; unfold rawEq; rw [e]; rfl
    · split at h
      · rename_i c; omega
      · split at h
        · rename_i c; omega
        · simp at h
  · have : (k == 0) = false := by simpa using hk
    simp [rawEq, this, hk]

def refMayOp (kind : Int) (key : ByteArray) (vk vn : Int) (vs : ByteArray) (ok on : Int) (os : ByteArray) (n : Int) : Bool :=
  Ph.keyB key.data.toList &&
    (if kind = 1 then (vk != 0) && ((ofRaw vk vn vs).2 == 0) && rawEq ok on os 0 0 ⟨#[]⟩ && (n == 0)
     else if kind = 2 then rawEq vk vn vs 0 0 ⟨#[]⟩ && rawEq ok on os 0 0 ⟨#[]⟩ && (n == 0)
     else if kind = 3 then ((ofRaw vk vn vs).2 == 0) && ((ofRaw ok on os).2 == 0) && ((vk != 0) || (ok != 0)) && (n == 0)
     else if kind = 4 then rawEq vk vn vs 0 0 ⟨#[]⟩ && rawEq ok on os 0 0 ⟨#[]⟩ && decide (n ≥ -1099511627776) && decide (n ≤ 1099511627776)
     else false)
theorem mayOp_eq (kind : Int) (key : ByteArray) (vk vn : Int) (vs : ByteArray) (ok on : Int) (os : ByteArray) (n : Int) : refMayOp kind key vk vn vs ok on os n = mayOp kind key vk vn vs ok on os n := by
  have a1 := @raw_zero_may vk vn vs
  have a2 := @may_zero vk vn vs
  have b1 := @raw_zero_may ok on os
  have b2 := @may_zero ok on os
  unfold refMayOp mayOp
  generalize rawEq vk vn vs 0 0 ⟨#[]⟩ = zv at *
  generalize rawEq ok on os 0 0 ⟨#[]⟩ = zo at *
  generalize ((ofRaw vk vn vs).2 == 0) = mv at *
  generalize ((ofRaw ok on os).2 == 0) = mo at *
  generalize (vk != 0) = kv at *
  generalize (ok != 0) = ko at *
  generalize Ph.keyB key.data.toList = kb at *
  generalize (n == 0) = n0 at *
  generalize decide (n ≥ -1099511627776) = n1 at *
  generalize decide (n ≤ 1099511627776) = n2 at *
  by_cases k1 : kind = 1
  · simp only [if_pos k1]
    revert a1 a2 b1 b2; revert zv zo mv mo kv ko kb n0; decide
  by_cases k2 : kind = 2
  · simp only [if_neg k1, if_pos k2]
    revert a1 a2 b1 b2; revert zv zo mv mo kv ko kb n0; decide
  by_cases k3 : kind = 3
  · simp only [if_neg k1, if_neg k2, if_pos k3]
    revert a1 a2 b1 b2; revert zv zo mv mo kv ko kb n0; decide
  by_cases k4 : kind = 4
  · simp only [if_neg k1, if_neg k2, if_neg k3, if_pos k4]
    clear n0
    generalize (n1 && n2) = q
    cases zv <;> cases zo <;> cases mv <;> cases mo <;> cases kb <;> cases n1 <;> cases n2 <;> simp_all
  simp only [if_neg k1, if_neg k2, if_neg k3, if_neg k4]
  simp

theorem ref_EqS (k n : Int) (s : ByteArray) (k' n' : Int) (s' : ByteArray) (w : World) :
    Calls Tryd.prog 68 ⟨[.agg #[.int .i64 k, .int .i64 n, .string s], .agg #[.int .i64 k', .int .i64 n', .string s']]⟩ w fun e w' => e = .returned (.bool (rawEq k n s k' n' s')) ∧ Below w.heap.size w w' := by
  have hw := Has.start (G := 0) (w := w) (Nat.zero_le _)
  refine enter Tryd.func68 Tryd.ntmps68 rfl rfl fun a hs => ?_
  repeat (first | (refine sxv hs hw ?_; clear hs; intro a hs) | refine sxc hs ?_ | (refine sxa hs hw ?_; clear hs hw; intro a b W hw hs) | (refine sxs hs hw ?_; clear hs hw; intro W hs hw))
  cases h1 : (k == k') with
  | false =>
    rw [h1] at hs
    repeat (first | (refine sxv hs hw ?_; clear hs; intro a hs) | refine sxc hs ?_ | (refine sxa hs hw ?_; clear hs hw; intro a b W hw hs) | (refine sxs hs hw ?_; clear hs hw; intro W hs hw))
    exact rt1 hs rfl rfl ⟨by simp [rawEq, h1], hw.end (by repeat (first | exact In.hd | apply In.tl))⟩
  | true =>
    rw [h1] at hs
    repeat (first | (refine sxv hs hw ?_; clear hs; intro a hs) | refine sxc hs ?_ | (refine sxa hs hw ?_; clear hs hw; intro a b W hw hs) | (refine sxs hs hw ?_; clear hs hw; intro W hs hw))
    cases h2 : (n == n') with
    | false =>
      rw [h2] at hs
      repeat (first | (refine sxv hs hw ?_; clear hs; intro a hs) | refine sxc hs ?_ | (refine sxa hs hw ?_; clear hs hw; intro a b W hw hs) | (refine sxs hs hw ?_; clear hs hw; intro W hs hw))
      exact rt1 hs rfl rfl ⟨by simp [rawEq, h2], hw.end (by repeat (first | exact In.hd | apply In.tl))⟩
    | true =>
      rw [h2] at hs
      repeat (first | (refine sxv hs hw ?_; clear hs; intro a hs) | refine sxc hs ?_ | (refine sxa hs hw ?_; clear hs hw; intro a b W hw hs) | (refine sxs hs hw ?_; clear hs hw; intro W hs hw))
      exact rt1 hs rfl rfl ⟨by simp [rawEq, h1, h2], hw.end (by repeat (first | exact In.hd | apply In.tl))⟩

set_option maxHeartbeats 8000000 in
theorem ref_MayOp0 (kind : Int) (key : ByteArray) (vk vn : Int) (vs : ByteArray) (ok on : Int) (os : ByteArray) (n : Int) (w : World) (hs0 : key.size ≤ 1000000) (hs1 : vs.size ≤ 1000000) (hs2 : os.size ≤ 1000000) :
    Calls Tryd.prog 54 ⟨[.agg #[.int .i64 kind, .string key, .int .i64 vk, .int .i64 vn, .string vs, .int .i64 ok, .int .i64 on, .string os, .int .i64 n]]⟩ w fun e w' => e = .returned (.bool (refMayOp kind key vk vn vs ok on os n)) ∧ Below w.heap.size w w' := by
  have hw := Has.start (G := 0) (w := w) (Nat.zero_le _)
  refine enter Tryd.func54 Tryd.ntmps54 rfl rfl fun a hs => ?_
  repeat (first | (refine sxv hs hw ?_; clear hs; intro a hs) | refine sxc hs ?_ | (refine sxa hs hw ?_; clear hs hw; intro a b W hw hs) | (refine sxs hs hw ?_; clear hs hw; intro W hs hw))
  refine st_call hs (hc := ref_Key key _ hs0) (k := ?_); rintro e0 W1 ⟨rfl, hb⟩; refine ⟨_, rfl, ?_⟩; clear hs; intro a hs; replace hw := hw.below hb; clear hb
  cases h1 : (Ph.keyB key.data.toList) with
  | false =>
    rw [h1] at hs
    repeat (first | (refine sxv hs hw ?_; clear hs; intro a hs) | refine sxc hs ?_ | (refine sxa hs hw ?_; clear hs hw; intro a b W hw hs) | (refine sxs hs hw ?_; clear hs hw; intro W hs hw))
    exact rt1 hs rfl rfl ⟨by simp [refMayOp, h1], hw.end (by repeat (first | exact In.hd | apply In.tl))⟩
  | true =>
    rw [h1] at hs
    repeat (first | (refine sxv hs hw ?_; clear hs; intro a hs) | refine sxc hs ?_ | (refine sxa hs hw ?_; clear hs hw; intro a b W hw hs) | (refine sxs hs hw ?_; clear hs hw; intro W hs hw))
    obtain ⟨b1, q1⟩ := nm1 hw; subst q1
    have hw : Has 0 w _ [Cells b1 [.int .i64 kind, .string key, .int .i64 vk, .int .i64 vn, .string vs, .int .i64 ok, .int .i64 on, .string os, .int .i64 n] 41, Old w 0] := hw
    refine rg_draw (V := [.pointer (some ⟨b1, 0 + 2, none⟩), .pointer (some ⟨b1, 0 + 2 + 0, none⟩), .int .i64 vk, .pointer (some ⟨b1, 0 + 5, none⟩), .pointer (some ⟨b1, 0 + 5 + 0, none⟩), .int .i64 ok, .int .i64 vk, .int .i64 ok])
      (Rs := fun _ => [Cells b1 [.int .i64 kind, .string key, .int .i64 vk, .int .i64 vn, .string vs, .int .i64 ok, .int .i64 on, .string os, .int .i64 n] 41, Old w 0]) hs hw (ho := ⟨?_, ?_, ?_, ?_, ?_, ?_, ?_, ?_, trivial⟩) (k := ?k_a)
    case k_a =>
      clear hs hw
      intro a W hs hw
      repeat (first | (refine sxv hs hw ?_; clear hs; intro a hs) | refine sxc hs ?_ | (refine sxa hs hw ?_; clear hs hw; intro a b W hw hs) | (refine sxs hs hw ?_; clear hs hw; intro W hs hw))
      by_cases k1 : kind = 1
      · subst k1
        repeat (first | (refine sxv hs hw ?_; clear hs; intro a hs) | refine sxc hs ?_ | (refine sxa hs hw ?_; clear hs hw; intro a b W hw hs) | (refine sxs hs hw ?_; clear hs hw; intro W hs hw))
        cases h6 : (vk != 0) with
        | false =>
          rw [h6] at hs
          repeat (first | (refine sxv hs hw ?_; clear hs; intro a hs) | refine sxc hs ?_ | (refine sxa hs hw ?_; clear hs hw; intro a b W hw hs) | (refine sxs hs hw ?_; clear hs hw; intro W hs hw))
          exact rt1 hs rfl rfl ⟨by simp [refMayOp, h1, h6], hw.end (by repeat (first | exact In.hd | apply In.tl))⟩
        | true =>
          rw [h6] at hs
          repeat (first | (refine sxv hs hw ?_; clear hs; intro a hs) | refine sxc hs ?_ | (refine sxa hs hw ?_; clear hs hw; intro a b W hw hs) | (refine sxs hs hw ?_; clear hs hw; intro W hs hw))
          refine st_call hs (hc := ref_May vk vn vs _ hs1) (k := ?_); rintro e0 W1 ⟨rfl, hb⟩; refine ⟨_, rfl, ?_⟩; clear hs; intro a hs; replace hw := hw.below hb; clear hb
          cases h2 : ((ofRaw vk vn vs).2 == 0) with
          | false =>
            rw [h2] at hs
            repeat (first | (refine sxv hs hw ?_; clear hs; intro a hs) | refine sxc hs ?_ | (refine sxa hs hw ?_; clear hs hw; intro a b W hw hs) | (refine sxs hs hw ?_; clear hs hw; intro W hs hw))
            exact rt1 hs rfl rfl ⟨by simp [refMayOp, h1, h6, h2], hw.end (by repeat (first | exact In.hd | apply In.tl))⟩
          | true =>
            rw [h2] at hs
            repeat (first | (refine sxv hs hw ?_; clear hs; intro a hs) | refine sxc hs ?_ | (refine sxa hs hw ?_; clear hs hw; intro a b W hw hs) | (refine sxs hs hw ?_; clear hs hw; intro W hs hw))
            refine st_call hs (hc := ref_EqS ok on os 0 0 ⟨#[]⟩ _) (k := ?_); rintro e0 W1 ⟨rfl, hb⟩; refine ⟨_, rfl, ?_⟩; clear hs; intro a hs; replace hw := hw.below hb; clear hb
            cases h5 : (rawEq ok on os 0 0 ⟨#[]⟩) with
            | false =>
              rw [h5] at hs
              repeat (first | (refine sxv hs hw ?_; clear hs; intro a hs) | refine sxc hs ?_ | (refine sxa hs hw ?_; clear hs hw; intro a b W hw hs) | (refine sxs hs hw ?_; clear hs hw; intro W hs hw))
              exact rt1 hs rfl rfl ⟨by simp [refMayOp, h1, h6, h2, h5], hw.end (by repeat (first | exact In.hd | apply In.tl))⟩
            | true =>
              rw [h5] at hs
              repeat (first | (refine sxv hs hw ?_; clear hs; intro a hs) | refine sxc hs ?_ | (refine sxa hs hw ?_; clear hs hw; intro a b W hw hs) | (refine sxs hs hw ?_; clear hs hw; intro W hs hw))
              exact rt1 hs rfl rfl ⟨by simp [refMayOp, h1, h6, h2, h5], hw.end (by repeat (first | exact In.hd | apply In.tl))⟩
      have e1 : (kind == 1) = false := by simpa using k1
      rw [e1] at hs
      repeat (first | (refine sxv hs hw ?_; clear hs; intro a hs) | refine sxc hs ?_ | (refine sxa hs hw ?_; clear hs hw; intro a b W hw hs) | (refine sxs hs hw ?_; clear hs hw; intro W hs hw))
      by_cases k2 : kind = 2
      · subst k2
        repeat (first | (refine sxv hs hw ?_; clear hs; intro a hs) | refine sxc hs ?_ | (refine sxa hs hw ?_; clear hs hw; intro a b W hw hs) | (refine sxs hs hw ?_; clear hs hw; intro W hs hw))
        repeat (first | (refine sxv hs hw ?_; clear hs; intro a hs) | refine sxc hs ?_ | (refine sxa hs hw ?_; clear hs hw; intro a b W hw hs) | (refine sxs hs hw ?_; clear hs hw; intro W hs hw))
        refine st_call hs (hc := ref_EqS vk vn vs 0 0 ⟨#[]⟩ _) (k := ?_); rintro e0 W1 ⟨rfl, hb⟩; refine ⟨_, rfl, ?_⟩; clear hs; intro a hs; replace hw := hw.below hb; clear hb
        cases h4 : (rawEq vk vn vs 0 0 ⟨#[]⟩) with
        | false =>
          rw [h4] at hs
          repeat (first | (refine sxv hs hw ?_; clear hs; intro a hs) | refine sxc hs ?_ | (refine sxa hs hw ?_; clear hs hw; intro a b W hw hs) | (refine sxs hs hw ?_; clear hs hw; intro W hs hw))
          exact rt1 hs rfl rfl ⟨by simp [refMayOp, h1, h4], hw.end (by repeat (first | exact In.hd | apply In.tl))⟩
        | true =>
          rw [h4] at hs
          repeat (first | (refine sxv hs hw ?_; clear hs; intro a hs) | refine sxc hs ?_ | (refine sxa hs hw ?_; clear hs hw; intro a b W hw hs) | (refine sxs hs hw ?_; clear hs hw; intro W hs hw))
          refine st_call hs (hc := ref_EqS ok on os 0 0 ⟨#[]⟩ _) (k := ?_); rintro e0 W1 ⟨rfl, hb⟩; refine ⟨_, rfl, ?_⟩; clear hs; intro a hs; replace hw := hw.below hb; clear hb
          cases h5 : (rawEq ok on os 0 0 ⟨#[]⟩) with
          | false =>
            rw [h5] at hs
            repeat (first | (refine sxv hs hw ?_; clear hs; intro a hs) | refine sxc hs ?_ | (refine sxa hs hw ?_; clear hs hw; intro a b W hw hs) | (refine sxs hs hw ?_; clear hs hw; intro W hs hw))
            exact rt1 hs rfl rfl ⟨by simp [refMayOp, h1, h4, h5], hw.end (by repeat (first | exact In.hd | apply In.tl))⟩
          | true =>
            rw [h5] at hs
            repeat (first | (refine sxv hs hw ?_; clear hs; intro a hs) | refine sxc hs ?_ | (refine sxa hs hw ?_; clear hs hw; intro a b W hw hs) | (refine sxs hs hw ?_; clear hs hw; intro W hs hw))
            exact rt1 hs rfl rfl ⟨by simp [refMayOp, h1, h4, h5], hw.end (by repeat (first | exact In.hd | apply In.tl))⟩
      have e2 : (kind == 2) = false := by simpa using k2
      rw [e2] at hs
      repeat (first | (refine sxv hs hw ?_; clear hs; intro a hs) | refine sxc hs ?_ | (refine sxa hs hw ?_; clear hs hw; intro a b W hw hs) | (refine sxs hs hw ?_; clear hs hw; intro W hs hw))
      by_cases k3 : kind = 3
      · subst k3
        repeat (first | (refine sxv hs hw ?_; clear hs; intro a hs) | refine sxc hs ?_ | (refine sxa hs hw ?_; clear hs hw; intro a b W hw hs) | (refine sxs hs hw ?_; clear hs hw; intro W hs hw))
        repeat (first | (refine sxv hs hw ?_; clear hs; intro a hs) | refine sxc hs ?_ | (refine sxa hs hw ?_; clear hs hw; intro a b W hw hs) | (refine sxs hs hw ?_; clear hs hw; intro W hs hw))
        refine st_call hs (hc := ref_May vk vn vs _ hs1) (k := ?_); rintro e0 W1 ⟨rfl, hb⟩; refine ⟨_, rfl, ?_⟩; clear hs; intro a hs; replace hw := hw.below hb; clear hb
        cases h2 : ((ofRaw vk vn vs).2 == 0) with
        | false =>
          rw [h2] at hs
          repeat (first | (refine sxv hs hw ?_; clear hs; intro a hs) | refine sxc hs ?_ | (refine sxa hs hw ?_; clear hs hw; intro a b W hw hs) | (refine sxs hs hw ?_; clear hs hw; intro W hs hw))
          exact rt1 hs rfl rfl ⟨by simp [refMayOp, h1, h2], hw.end (by repeat (first | exact In.hd | apply In.tl))⟩
        | true =>
          rw [h2] at hs
          repeat (first | (refine sxv hs hw ?_; clear hs; intro a hs) | refine sxc hs ?_ | (refine sxa hs hw ?_; clear hs hw; intro a b W hw hs) | (refine sxs hs hw ?_; clear hs hw; intro W hs hw))
          refine st_call hs (hc := ref_May ok on os _ hs2) (k := ?_); rintro e0 W1 ⟨rfl, hb⟩; refine ⟨_, rfl, ?_⟩; clear hs; intro a hs; replace hw := hw.below hb; clear hb
          cases h3 : ((ofRaw ok on os).2 == 0) with
          | false =>
            rw [h3] at hs
            repeat (first | (refine sxv hs hw ?_; clear hs; intro a hs) | refine sxc hs ?_ | (refine sxa hs hw ?_; clear hs hw; intro a b W hw hs) | (refine sxs hs hw ?_; clear hs hw; intro W hs hw))
            exact rt1 hs rfl rfl ⟨by simp [refMayOp, h1, h2, h3], hw.end (by repeat (first | exact In.hd | apply In.tl))⟩
          | true =>
            rw [h3] at hs
            repeat (first | (refine sxv hs hw ?_; clear hs; intro a hs) | refine sxc hs ?_ | (refine sxa hs hw ?_; clear hs hw; intro a b W hw hs) | (refine sxs hs hw ?_; clear hs hw; intro W hs hw))
            cases h6 : (vk != 0) with
            | false =>
              rw [h6] at hs
              repeat (first | (refine sxv hs hw ?_; clear hs; intro a hs) | refine sxc hs ?_ | (refine sxa hs hw ?_; clear hs hw; intro a b W hw hs) | (refine sxs hs hw ?_; clear hs hw; intro W hs hw))
              cases h7 : (ok != 0) with
              | false =>
                rw [h7] at hs
                repeat (first | (refine sxv hs hw ?_; clear hs; intro a hs) | refine sxc hs ?_ | (refine sxa hs hw ?_; clear hs hw; intro a b W hw hs) | (refine sxs hs hw ?_; clear hs hw; intro W hs hw))
                exact rt1 hs rfl rfl ⟨by simp [refMayOp, h1, h2, h3, h6, h7], hw.end (by repeat (first | exact In.hd | apply In.tl))⟩
              | true =>
                rw [h7] at hs
                repeat (first | (refine sxv hs hw ?_; clear hs; intro a hs) | refine sxc hs ?_ | (refine sxa hs hw ?_; clear hs hw; intro a b W hw hs) | (refine sxs hs hw ?_; clear hs hw; intro W hs hw))
                exact rt1 hs rfl rfl ⟨by simp [refMayOp, h1, h2, h3, h6, h7], hw.end (by repeat (first | exact In.hd | apply In.tl))⟩
            | true =>
              rw [h6] at hs
              repeat (first | (refine sxv hs hw ?_; clear hs; intro a hs) | refine sxc hs ?_ | (refine sxa hs hw ?_; clear hs hw; intro a b W hw hs) | (refine sxs hs hw ?_; clear hs hw; intro W hs hw))
              exact rt1 hs rfl rfl ⟨by simp [refMayOp, h1, h2, h3, h6], hw.end (by repeat (first | exact In.hd | apply In.tl))⟩
      have e3 : (kind == 3) = false := by simpa using k3
      rw [e3] at hs
      repeat (first | (refine sxv hs hw ?_; clear hs; intro a hs) | refine sxc hs ?_ | (refine sxa hs hw ?_; clear hs hw; intro a b W hw hs) | (refine sxs hs hw ?_; clear hs hw; intro W hs hw))
      by_cases k4 : kind = 4
      · subst k4
        repeat (first | (refine sxv hs hw ?_; clear hs; intro a hs) | refine sxc hs ?_ | (refine sxa hs hw ?_; clear hs hw; intro a b W hw hs) | (refine sxs hs hw ?_; clear hs hw; intro W hs hw))
        repeat (first | (refine sxv hs hw ?_; clear hs; intro a hs) | refine sxc hs ?_ | (refine sxa hs hw ?_; clear hs hw; intro a b W hw hs) | (refine sxs hs hw ?_; clear hs hw; intro W hs hw))
        refine st_call hs (hc := ref_EqS vk vn vs 0 0 ⟨#[]⟩ _) (k := ?_); rintro e0 W1 ⟨rfl, hb⟩; refine ⟨_, rfl, ?_⟩; clear hs; intro a hs; replace hw := hw.below hb; clear hb
        cases h4 : (rawEq vk vn vs 0 0 ⟨#[]⟩) with
        | false =>
          rw [h4] at hs
          repeat (first | (refine sxv hs hw ?_; clear hs; intro a hs) | refine sxc hs ?_ | (refine sxa hs hw ?_; clear hs hw; intro a b W hw hs) | (refine sxs hs hw ?_; clear hs hw; intro W hs hw))
          exact rt1 hs rfl rfl ⟨by simp [refMayOp, h1, h4], hw.end (by repeat (first | exact In.hd | apply In.tl))⟩
        | true =>
          rw [h4] at hs
          repeat (first | (refine sxv hs hw ?_; clear hs; intro a hs) | refine sxc hs ?_ | (refine sxa hs hw ?_; clear hs hw; intro a b W hw hs) | (refine sxs hs hw ?_; clear hs hw; intro W hs hw))
          refine st_call hs (hc := ref_EqS ok on os 0 0 ⟨#[]⟩ _) (k := ?_); rintro e0 W1 ⟨rfl, hb⟩; refine ⟨_, rfl, ?_⟩; clear hs; intro a hs; replace hw := hw.below hb; clear hb
          cases h5 : (rawEq ok on os 0 0 ⟨#[]⟩) with
          | false =>
            rw [h5] at hs
            repeat (first | (refine sxv hs hw ?_; clear hs; intro a hs) | refine sxc hs ?_ | (refine sxa hs hw ?_; clear hs hw; intro a b W hw hs) | (refine sxs hs hw ?_; clear hs hw; intro W hs hw))
            exact rt1 hs rfl rfl ⟨by simp [refMayOp, h1, h4, h5], hw.end (by repeat (first | exact In.hd | apply In.tl))⟩
          | true =>
            rw [h5] at hs
            repeat (first | (refine sxv hs hw ?_; clear hs; intro a hs) | refine sxc hs ?_ | (refine sxa hs hw ?_; clear hs hw; intro a b W hw hs) | (refine sxs hs hw ?_; clear hs hw; intro W hs hw))
            cases h6 : (decide (n ≥ -1099511627776)) with
            | false =>
              rw [h6] at hs
              repeat (first | (refine sxv hs hw ?_; clear hs; intro a hs) | refine sxc hs ?_ | (refine sxa hs hw ?_; clear hs hw; intro a b W hw hs) | (refine sxs hs hw ?_; clear hs hw; intro W hs hw))
              exact rt1 hs rfl rfl ⟨by simp [refMayOp, h1, h4, h5, h6], hw.end (by repeat (first | exact In.hd | apply In.tl))⟩
            | true =>
              rw [h6] at hs
              repeat (first | (refine sxv hs hw ?_; clear hs; intro a hs) | refine sxc hs ?_ | (refine sxa hs hw ?_; clear hs hw; intro a b W hw hs) | (refine sxs hs hw ?_; clear hs hw; intro W hs hw))
              exact rt1 hs rfl rfl ⟨by simp [refMayOp, h1, h4, h5, h6], hw.end (by repeat (first | exact In.hd | apply In.tl))⟩
      have e4 : (kind == 4) = false := by simpa using k4
      rw [e4] at hs
      repeat (first | (refine sxv hs hw ?_; clear hs; intro a hs) | refine sxc hs ?_ | (refine sxa hs hw ?_; clear hs hw; intro a b W hw hs) | (refine sxs hs hw ?_; clear hs hw; intro W hs hw))
      repeat (first | (refine sxv hs hw ?_; clear hs; intro a hs) | refine sxc hs ?_ | (refine sxa hs hw ?_; clear hs hw; intro a b W hw hs) | (refine sxs hs hw ?_; clear hs hw; intro W hs hw))
      exact rt1 hs rfl rfl ⟨by simp [refMayOp, h1, k1, k2, k3, k4], hw.end (by repeat (first | exact In.hd | apply In.tl))⟩
    all_goals
      intro LD D a W hcl hi hp hs hw
      repeat (first | (refine sxv hs hw ?_; clear hs; intro a hs) | refine sxc hs ?_ | (refine sxa hs hw ?_; clear hs hw; intro a b W hw hs) | (refine sxs hs hw ?_; clear hs hw; intro W hs hw))
      exact ⟨hs, hw⟩

theorem ref_MayOp (kind : Int) (key : ByteArray) (vk vn : Int) (vs : ByteArray) (ok on : Int) (os : ByteArray) (n : Int) (w : World) (hs0 : key.size ≤ 1000000) (hs1 : vs.size ≤ 1000000) (hs2 : os.size ≤ 1000000) :
    Calls Tryd.prog 54 ⟨[.agg #[.int .i64 kind, .string key, .int .i64 vk, .int .i64 vn, .string vs, .int .i64 ok, .int .i64 on, .string os, .int .i64 n]]⟩ w fun e w' => e = .returned (.bool (mayOp kind key vk vn vs ok on os n)) ∧ Below w.heap.size w w' := by
  rw [← mayOp_eq]
  exact ref_MayOp0 kind key vk vn vs ok on os n w hs0 hs1 hs2
end Go.Proofs.YtalfmomnaghahaaDoor.Sw

/-
  The walk of the reference's EqBatch; of bytes.Equal.
-/
set_option linter.unusedVariables false
set_option maxRecDepth 10000
namespace Go.Proofs.YtalfmomnaghahaaDoor.Sw
open Go.RowKit Go.Sx
-- pieces

set_option maxHeartbeats 4000000 in
theorem bytes_Equal (l m : List UInt8) (v u : Value) (w : World) (r : RdB w v l) (r' : RdB w u m) :
    Calls Tryd.prog 29 ⟨[v, u]⟩ w fun e w' => e = .returned (.bool (l == m)) ∧ Below w.heap.size w w' := by
  have hw := Has.start (G := 0) (w := w) (Nat.zero_le _)
  refine enter Tryd.func29 Tryd.ntmps29 rfl rfl fun a hs => ?_
  repeat (first | (refine sxv hs hw ?_; clear hs; intro a hs) | refine sxc hs ?_ | (refine sxa hs hw ?_; clear hs hw; intro a b W hw hs) | (refine sxs hs hw ?_; clear hs hw; intro W hs hw))
  refine st_string_b (hs := hs) (r := r) (k := ?_); clear hs; intro a hs
  repeat (first | (refine sxv hs hw ?_; clear hs; intro a hs) | refine sxc hs ?_ | (refine sxa hs hw ?_; clear hs hw; intro a b W hw hs) | (refine sxs hs hw ?_; clear hs hw; intro W hs hw))
  refine st_string_b (hs := hs) (r := r') (k := ?_); clear hs; intro a hs
  repeat (first | (refine sxv hs hw ?_; clear hs; intro a hs) | refine sxc hs ?_ | (refine sxa hs hw ?_; clear hs hw; intro a b W hw hs) | (refine sxs hs hw ?_; clear hs hw; intro W hs hw))
  have e : ((⟨l.toArray⟩ : ByteArray).toList == (⟨m.toArray⟩ : ByteArray).toList) = (l == m) := by
    rw [Go.ByteArray.toList_eq, Go.ByteArray.toList_eq]
  rw [e] at hs
  exact rt1 hs rfl rfl ⟨rfl, hw.end (by repeat (first | exact In.hd | apply In.tl))⟩

theorem op_at {W : World} {sad : Option Addr} {scap : Nat} {l : List OpD} {i : Nat} {o : OpD} (r : Rd W 9 (.slice sad l.length scap) l.length (l.flatMap opCells)) (h : l[i]? = some o) :
    ∃ g off, sad = some ⟨g, off, none⟩ ∧ g < W.heap.size ∧ ∀ j u, (opCells o)[j]? = some u → W.cell? ⟨g, off + i * 9 + j, none⟩ = some u := by
  have hi : i < l.length := (List.getElem?_eq_some_iff.1 h).1
  obtain ⟨h1, ad, cap, e, h3, h4, h5⟩ := r
  injection e with e1 e2 e3
  subst e1
  rcases h5 with h5 | ⟨b, off, rfl, hlt, hc⟩
  · omega
  · refine ⟨b, off, rfl, hlt, fun j u hu => ?_⟩
    rw [Nat.add_assoc]
    refine hc _ _ ?_
    have e := (congrArg (fun t => t[j]?) (cut_ops l i o h)).trans hu
    simp only [List.getElem?_take] at e
    split at e
    · rw [List.getElem?_drop] at e; exact e
    · cases e

theorem eqOps_snoc {l l' : List OpD} {i : Nat} {o o' : OpD} (h : l[i]? = some o) (h' : l'[i]? = some o') (e : eqOps (l.take i) (l'.take i) = true) : eqOps (l.take (i + 1)) (l'.take (i + 1)) = eqOp o o' := by
  unfold eqOps at *
  have h1 := (List.getElem?_eq_some_iff.1 h).1
  have h2 := (List.getElem?_eq_some_iff.1 h').1
  rw [List.take_add_one, List.take_add_one, h, h', List.zip_append (by simp; omega), List.all_append, e]
  simp
theorem eqOps_no {l l' : List OpD} {i : Nat} {o o' : OpD} (h : l[i]? = some o) (h' : l'[i]? = some o') (e : eqOp o o' = false) : eqOps l l' = false := by
  unfold eqOps
  rw [List.all_eq_false]
  exact ⟨(o, o'), List.mem_of_getElem? (i := i) (by rw [List.getElem?_zip_eq_some]; exact ⟨h, h'⟩), by rw [e]; simp⟩

end Go.Proofs.YtalfmomnaghahaaDoor.Sw

/-
  The walk of the reference's Apply.
-/
set_option linter.unusedVariables false
set_option maxRecDepth 10000
namespace Go.Proofs.YtalfmomnaghahaaDoor.Sw
open Go.RowKit Go.Sx

-- pieces

abbrev OpsH (H : Fh) (sv : Value) (l : List OpD) : Prop := RdH H 9 sv l.length (l.flatMap opCells)

abbrev DocH (H : Fh) (dv : Value) (d : Dm) : Prop := RdH H 4 dv d.length (d.flatMap pairCells)

theorem raw_of {k n : Int} {s : ByteArray} (h : (ofRaw k n s).2 = 0) : [Value.int .i64 k, .int .i64 n, .string s] = rawCells (ofRaw k n s).1 := by
  obtain ⟨h1, h2, h3⟩ := ofRaw_ok h
  unfold rawCells
  rw [h1, h2, ba_eq h3]

theorem may_val {o : OpD} (h : mayD o = true) : (ofRaw o.vk o.vn o.vs).2 = 0 ∧ (ofRaw o.ok o.on o.os).2 = 0 := by
  unfold mayD mayOp at h
  simp only [Bool.and_eq_true, beq_iff_eq] at h
  exact ⟨h.1.1.2, h.1.2⟩

theorem eqV_raw {x : Option DV} {k n : Int} {s : ByteArray} (h : (ofRaw k n s).2 = 0) : rawEq (kindOf x) (intIn x) (textIn x) k n s = eqV x (ofRaw k n s).1 := by
  obtain ⟨h1, h2, h3⟩ := ofRaw_ok h
  unfold rawEq eqV
  rw [h1, h2, h3]

theorem kind_ne_int (x : Option DV) : (x.isSome && (kindOf x != 1)) = (kindOf x != 0 && !isInt x) := by rcases x with _ | n | s <;> rfl

theorem intIn_i64 {d : Dm} (h : DocOk d) (k : ByteArray) : i64 (intIn (getK d k)) := by
  cases hg : getK d k with
  | none => exact ⟨by decide, by decide⟩
  | some v =>
    have := h.all _ ((getK_mem h.keys).1 hg)
    rcases v with n | s
    · exact this.num n rfl
    · show i64 0
      exact ⟨by decide, by decide⟩

end Go.Proofs.YtalfmomnaghahaaDoor.Sw

/-
  slices.Clone and slices.Equal of operations; rows; the folds: New, Last, Place, Copy.
-/
set_option linter.unusedVariables false
set_option maxRecDepth 10000
namespace Go.Proofs.YtalfmomnaghahaaDoor.Sw
open Go.RowKit Go.Sx

-- pieces

instance arTold : Ar Tryd.prog 66 6 64 := ⟨by kernel_rfl⟩
theorem ops_one (l : List OpD) : ∀ u ∈ l.flatMap opCells, u.oneCell' = true := by
  intro u hu
  obtain ⟨o, _, ho⟩ := List.mem_flatMap.1 hu
  simp only [opCells, List.mem_cons, List.not_mem_nil, or_false] at ho
  rcases ho with rfl | rfl | rfl | rfl | rfl | rfl | rfl | rfl | rfl <;> rfl

set_option maxHeartbeats 4000000 in
theorem clone_ops (w0 W : World) (H : Fh) (l : List OpD) (sv : Value) (R : List Res) (hl : l.length ≤ 1000) (r : RdH H 9 sv l.length (l.flatMap opCells)) (hw : Has 0 w0 W (Fz H :: R)) :
    Calls Tryd.prog 40 ⟨[sv]⟩ W fun e W' => ∃ sv' H', e = .returned sv' ∧ H.le H' ∧ RdH H' 9 sv' l.length (l.flatMap opCells) ∧ Has 0 w0 W' (Fz H' :: R) := by
  obtain ⟨sad, scap, rfl⟩ := r.slice
  refine enter Tryd.func40 Tryd.ntmps40 rfl rfl fun a hs => ?_
  repeat (first | (refine sxv hs hw ?_; clear hs; intro a hs) | refine sxc hs ?_ | (refine sxa hs hw ?_; clear hs hw; intro a b W hw hs) | (refine sxs hs hw ?_; clear hs hw; intro W hs hw))
  refine st_eqnil hs (c := ?_); clear hs; intro a hs
  cases sad with
  | none =>
    repeat (first | (refine sxv hs hw ?_; clear hs; intro a hs) | refine sxc hs ?_ | (refine sxa hs hw ?_; clear hs hw; intro a b W hw hs) | (refine sxs hs hw ?_; clear hs hw; intro W hs hw))
    have h0 : l = [] := by
      obtain ⟨_, ad, cap, e, _, _, h | ⟨b, o, cs, T, z, h, _⟩⟩ := r
      · exact List.eq_nil_of_length_eq_zero h
      · injection e with e1 _ _
        rw [← e1] at h; cases h
    subst h0
    exact rt1 hs rfl rfl ⟨_, H, rfl, Fh.le.refl _, RdH.nil H 9 0 (by omega), hw⟩
  | some A =>
    rw [show (some A).isNone = false from rfl] at hs
    repeat (first | (refine sxv hs hw ?_; clear hs; intro a hs) | refine sxc hs ?_ | (refine sxa hs hw ?_; clear hs hw; intro a b W hw hs) | (refine sxs hs hw ?_; clear hs hw; intro W hs hw))
    refine st_buildSlice0 hs hw (c := ?_); clear hs hw; intro a ad W hw hs
    repeat (first | (refine sxv hs hw ?_; clear hs; intro a hs) | refine sxc hs ?_ | (refine sxa hs hw ?_; clear hs hw; intro a b W hw hs) | (refine sxs hs hw ?_; clear hs hw; intro W hs hw))
    refine st_append hs (hw := hw) (k := 0) (m := l.length) (xs := []) (news := l.flatMap opCells) (hsrc := src_rd (hw.rdH (In.tl In.hd) r) (ops_one l)) (h63 := by omega) (hb := by omega) (c := ?_)
    clear hs hw; intro a ad2 cap2 W hs hw
    repeat (first | (refine sxv hs hw ?_; clear hs; intro a hs) | refine sxc hs ?_ | (refine sxa hs hw ?_; clear hs hw; intro a b W hw hs) | (refine sxs hs hw ?_; clear hs hw; intro W hs hw))
    rw [List.nil_append, Nat.zero_add] at hw
    rw [Nat.zero_add] at hs
    obtain ⟨H', h1, h2, h3⟩ := hw.freeze_own
    exact rt1 hs rfl rfl ⟨_, H', rfl, h1, h3, h2⟩

/-- A batch, a row as data. -/
structure BatchD where
  c : Int
  q : Int
  l : List OpD
structure RowD where
  place : Int
  b : BatchD
  err : Int
def batCells (b : BatchD) (sv : Value) : List Value := [.int .i64 b.c, .int .i64 b.q, sv]
def rowCells (r : RowD) (sv : Value) : List Value := [.int .i64 r.place, .int .i64 r.b.c, .int .i64 r.b.q, sv, .int .i64 r.err]
def BatIn (H : Fh) (b : BatchD) (cs : List Value) : Prop := ∃ sv, cs = batCells b sv ∧ OpsH H sv b.l
def RowIn (H : Fh) (r : RowD) (cs : List Value) : Prop := ∃ sv, cs = rowCells r sv ∧ OpsH H sv r.b.l
def TolIn (H : Fh) (x : Int × RowD) (cs : List Value) : Prop := ∃ sv, cs = .int .i64 x.1 :: rowCells x.2 sv ∧ OpsH H sv x.2.b.l
structure BatOk (b : BatchD) : Prop where
  c : i64 b.c
  q : i64 b.q
  ops : ∀ o ∈ b.l, OpOk o
def mayB (b : BatchD) : Bool := mayBatch b.c b.q b.l
def zeroRow : RowD := ⟨0, ⟨0, 0, []⟩, 0⟩
abbrev zrc : List Value := [.int .i64 0, .int .i64 0, .int .i64 0, .slice none 0 0, .int .i64 0]
theorem BatIn.len {H : Fh} : ∀ (b : BatchD) (c : List Value), BatIn H b c → c.length = 3 := by rintro b c ⟨sv, rfl, _⟩; rfl
theorem RowIn.len {H : Fh} : ∀ (b : RowD) (c : List Value), RowIn H b c → c.length = 5 := by rintro b c ⟨sv, rfl, _⟩; rfl
theorem TolIn.len {H : Fh} : ∀ (b : Int × RowD) (c : List Value), TolIn H b c → c.length = 6 := by rintro b c ⟨sv, rfl, _⟩; rfl
theorem BatIn.le {H H' : Fh} (h : H.le H') : ∀ (b : BatchD) (c : List Value), BatIn H b c → BatIn H' b c := by rintro b c ⟨sv, rfl, h1⟩; exact ⟨sv, rfl, h1.le h⟩
theorem RowIn.le {H H' : Fh} (h : H.le H') : ∀ (b : RowD) (c : List Value), RowIn H b c → RowIn H' b c := by rintro b c ⟨sv, rfl, h1⟩; exact ⟨sv, rfl, h1.le h⟩
theorem TolIn.le {H H' : Fh} (h : H.le H') : ∀ (b : Int × RowD) (c : List Value), TolIn H b c → TolIn H' b c := by rintro b c ⟨sv, rfl, h1⟩; exact ⟨sv, rfl, h1.le h⟩
theorem BatIn.ones {H : Fh} : ∀ (b : BatchD) (c : List Value), BatIn H b c → ∀ v ∈ c, v.oneCell' = true := by
  rintro b c ⟨sv, rfl, h⟩ v hv
  obtain ⟨ad, cap, rfl⟩ := h.slice
  simp only [batCells, List.mem_cons, List.not_mem_nil, or_false] at hv
  rcases hv with rfl | rfl | rfl <;> rfl
theorem RowIn.ones {H : Fh} : ∀ (b : RowD) (c : List Value), RowIn H b c → ∀ v ∈ c, v.oneCell' = true := by
  rintro b c ⟨sv, rfl, h⟩ v hv
  obtain ⟨ad, cap, rfl⟩ := h.slice
  simp only [rowCells, List.mem_cons, List.not_mem_nil, or_false] at hv
  rcases hv with rfl | rfl | rfl | rfl | rfl <;> rfl
theorem TolIn.ones {H : Fh} : ∀ (b : Int × RowD) (c : List Value), TolIn H b c → ∀ v ∈ c, v.oneCell' = true := by
  rintro b c ⟨sv, rfl, h⟩ v hv
  rcases List.mem_cons.1 hv with rfl | hv
  · rfl
  · exact RowIn.ones b.2 _ ⟨sv, rfl, h⟩ v hv
theorem ops_nil (H : Fh) : OpsH H (.slice none 0 0) [] := RdH.nil H 9 0 (by omega)

/-- A fold as data: how many batches; the document; each client's last number and row. -/
structure FoldD where
  place : Int
  d : Dm
  told : List (Int × RowD)
def foldCells (pl : Int) (pd : Nat) (xs : List Value) : List Value := .int .i64 pl :: .pointer (some ⟨pd, 0, none⟩) :: xs
def ToldOk (H : Fh) (told : List (Int × RowD)) (xs : List Value) : Prop := told.length = 6 ∧ Ch (TolIn H) told xs
def FoldAt (H : Fh) (p : Nat) (f : FoldD) : Res := Ex fun x : Nat × List Value => Cells p (foldCells f.place x.1 x.2) 68 :: DocAt x.1 f.d :: Fact (ToldOk H f.told x.2) :: []
section
variable {G p pd : Nat} {w W : World} {R : List Res} {f : FoldD} {H H' : Fh} {xs : List Value}
theorem foldShut (h : Has G w W (Cells p (foldCells f.place pd xs) 68 :: DocAt pd f.d :: R)) (ht : ToldOk H f.told xs) : Has G w W (FoldAt H p f :: R) :=
  Has.shut (pd, xs) ((h.fact ht).perm ((List.Perm.swap _ _ _).trans (List.Perm.cons _ (List.Perm.swap _ _ _))))
theorem foldOpen (h : Has G w W (FoldAt H p f :: R)) : ∃ pd xs, ToldOk H f.told xs ∧ Has G w W (Cells p (foldCells f.place pd xs) 68 :: DocAt pd f.d :: R) := by
  obtain ⟨⟨pd, xs⟩, h⟩ := Has.open h
  have h : Has G w W (Cells p (foldCells f.place pd xs) 68 :: DocAt pd f.d :: Fact (ToldOk H f.told xs) :: R) := h
  exact ⟨pd, xs, h.told (In.tl (In.tl In.hd)), h.sub (List.Sublist.cons_cons _ (List.Sublist.cons_cons _ (List.Sublist.cons _ (List.Sublist.refl _))))⟩
theorem foldLe (h : Has G w W (FoldAt H p f :: R)) (hl : H.le H') : Has G w W (FoldAt H' p f :: R) := by
  obtain ⟨pd, xs, ⟨h1, h2⟩, h3⟩ := foldOpen h
  exact foldShut h3 ⟨h1, h2.mono (TolIn.le hl)⟩
end
theorem told_len {H : Fh} {told : List (Int × RowD)} {xs : List Value} (h : ToldOk H told xs) : xs.length = 36 := by
  have := h.2.length TolIn.len
  rw [h.1] at this
  omega
theorem told_get {H : Fh} {told : List (Int × RowD)} {xs : List Value} (h : ToldOk H told xs) {c : Nat} {x : Int × RowD} (hx : told[c]? = some x) : ∃ sv, OpsH H sv x.2.b.l ∧ cut xs (c * 6) 6 = .int .i64 x.1 :: rowCells x.2 sv := by
  obtain ⟨cs, ⟨sv, rfl, h1⟩, h2, h3⟩ := h.2.get TolIn.len hx
  exact ⟨sv, h1, h3⟩
theorem told_set {H : Fh} {told : List (Int × RowD)} {xs : List Value} (h : ToldOk H told xs) {c : Nat} (hc : c < 6) {x : Int × RowD} {sv : Value} (hx : OpsH H sv x.2.b.l) : ToldOk H (told.set c x) (ov xs (c * 6) (.int .i64 x.1 :: rowCells x.2 sv)) :=
  ⟨by rw [List.length_set]; exact h.1, h.2.set TolIn.len (by rw [h.1]; exact hc) ⟨sv, rfl, hx⟩⟩
theorem fold_len {H : Fh} {told : List (Int × RowD)} {xs : List Value} (pl : Int) (pd : Nat) (h : ToldOk H told xs) : (foldCells pl pd xs).length = 38 := by
  have := told_len h
  simp [foldCells, this]
theorem fold_one {H : Fh} {told : List (Int × RowD)} {xs : List Value} (pl : Int) (pd : Nat) (h : ToldOk H told xs) : (foldCells pl pd xs).all (·.oneCell') = true := by
  rw [List.all_eq_true]
  intro v hv
  simp only [foldCells, List.mem_cons] at hv
  rcases hv with rfl | rfl | hv
  · rfl
  · rfl
  · exact h.2.ones TolIn.ones v hv
abbrev ztold : List Value := [.int .i64 0, .int .i64 0, .int .i64 0, .int .i64 0, .slice none 0 0, .int .i64 0]
theorem told_zero (H : Fh) : ToldOk H (List.replicate 6 (0, zeroRow)) (ztold ++ (ztold ++ (ztold ++ (ztold ++ (ztold ++ (ztold ++ [])))))) := by
  have z : TolIn H (0, zeroRow) ztold := ⟨_, rfl, ops_nil H⟩
  exact ⟨rfl, _, _, rfl, z, _, _, rfl, z, _, _, rfl, z, _, _, rfl, z, _, _, rfl, z, _, _, rfl, z, rfl⟩
def emptyF : FoldD := ⟨0, [], List.replicate 6 (0, zeroRow)⟩
theorem cut_all (cs : List Value) (n : Nat) (h : cs.length = n) : cut cs 0 n = cs := by
  rw [cut_eq, List.drop_zero, List.take_of_length_le (by omega)]
theorem ov_all (cs vs : List Value) (h : vs.length = cs.length) : ov cs 0 vs = vs := by
  rw [ov_eq _ _ _ (by omega), List.take_zero, List.nil_append, Nat.zero_add, h, List.drop_length, List.append_nil]

set_option maxHeartbeats 4000000 in
theorem fold_New (w0 W : World) (H : Fh) (R : List Res) (hw : Has 0 w0 W R) :
    Calls Tryd.prog 22 ⟨[]⟩ W fun e W' => ∃ p, e = .returned (.pointer (some ⟨p, 0, none⟩)) ∧ Has 0 w0 W' (FoldAt H p emptyF :: R) := by
  refine enter Tryd.func22 Tryd.ntmps22 rfl rfl fun a hs => ?_
  repeat (first | (refine sxv hs hw ?_; clear hs; intro a hs) | refine sxc hs ?_ | (refine sxa hs hw ?_; clear hs hw; intro a b W hw hs) | (refine sxs hs hw ?_; clear hs hw; intro W hs hw))
  refine st_call hs (hc := doc_New w0 _ _ hw) (k := ?_); rintro e0 W1 ⟨c, rfl, hw1⟩; refine ⟨_, rfl, ?_⟩; clear hs hw; intro a hs; have hw := hw1; clear hw1
  repeat (first | (refine sxv hs hw ?_; clear hs; intro a hs) | refine sxc hs ?_ | (refine sxa hs hw ?_; clear hs hw; intro a b W hw hs) | (refine sxs hs hw ?_; clear hs hw; intro W hs hw))
  refine rt1 hs rfl rfl ⟨_, rfl, ?_⟩
  exact foldShut (H := H) (f := emptyF) (pd := c) (xs := ztold ++ (ztold ++ (ztold ++ (ztold ++ (ztold ++ (ztold ++ [])))))) (by with_unfolding_all exact hw) (told_zero H)
def lastOf (f : FoldD) (c : Int) : Int := if 1 ≤ c ∧ c ≤ 5 then ((f.told[c.toNat]?).map (·.1)).getD 0 else 0

set_option maxHeartbeats 4000000 in
theorem fold_may (c : Int) (W : World) : Calls Tryd.prog 24 ⟨[.int .i64 c]⟩ W fun e W' => e = .returned (.bool (decide (1 ≤ c ∧ c ≤ 5))) ∧ Below W.heap.size W W' := by
  have hw := Has.start (G := 0) (w := W) (Nat.zero_le _)
  refine enter Tryd.func24 Tryd.ntmps24 rfl rfl fun a hs => ?_
  repeat (first | (refine sxv hs hw ?_; clear hs; intro a hs) | refine sxc hs ?_ | (refine sxa hs hw ?_; clear hs hw; intro a b W hw hs) | (refine sxs hs hw ?_; clear hs hw; intro W hs hw))
  cases h : decide (c ≥ 1) with
  | true =>
    rw [h] at hs
    repeat (first | (refine sxv hs hw ?_; clear hs; intro a hs) | refine sxc hs ?_ | (refine sxa hs hw ?_; clear hs hw; intro a b W hw hs) | (refine sxs hs hw ?_; clear hs hw; intro W hs hw))
    have : decide (c ≤ 5) = decide (1 ≤ c ∧ c ≤ 5) := by
      have := of_decide_eq_true h
      by_cases h5 : c ≤ 5
      · rw [decide_eq_true h5, decide_eq_true ⟨this, h5⟩]
      · rw [decide_eq_false h5, decide_eq_false fun h => h5 h.2]
    exact rt1 hs rfl rfl ⟨by rw [← this]; rfl, hw.end (by repeat (first | exact In.hd | apply In.tl))⟩
  | false =>
    rw [h] at hs
    repeat (first | (refine sxv hs hw ?_; clear hs; intro a hs) | refine sxc hs ?_ | (refine sxa hs hw ?_; clear hs hw; intro a b W hw hs) | (refine sxs hs hw ?_; clear hs hw; intro W hs hw))
    have : decide (1 ≤ c ∧ c ≤ 5) = false := decide_eq_false fun h' => (of_decide_eq_false h) h'.1
    exact rt1 hs rfl rfl ⟨by rw [this]; rfl, hw.end (by repeat (first | exact In.hd | apply In.tl))⟩

set_option maxHeartbeats 4000000 in
theorem fold_Last (w0 W : World) (H : Fh) (p : Nat) (f : FoldD) (c : Int) (R : List Res) (hw : Has 0 w0 W (FoldAt H p f :: R)) :
    Calls Tryd.prog 12 ⟨[.pointer (some ⟨p, 0, none⟩), .int .i64 c]⟩ W fun e W' => e = .returned (.int .i64 (lastOf f c)) ∧ Has 0 w0 W' (FoldAt H p f :: R) := by
  refine enter Tryd.func12 Tryd.ntmps12 rfl rfl fun a hs => ?_
  repeat (first | (refine sxv hs hw ?_; clear hs; intro a hs) | refine sxc hs ?_ | (refine sxa hs hw ?_; clear hs hw; intro a b W hw hs) | (refine sxs hs hw ?_; clear hs hw; intro W hs hw) | ((with_reducible first | refine st_ptrSome hs (k := ?_) | refine st_ptrNone hs (k := ?_)); clear hs; intro a hs))
  refine st_call hs (hc := fold_may c _) (k := ?_); rintro e0 W1 ⟨rfl, hb⟩; refine ⟨_, rfl, ?_⟩; clear hs; intro a hs; replace hw := hw.below hb; clear hb
  repeat (first | (refine sxv hs hw ?_; clear hs; intro a hs) | refine sxc hs ?_ | (refine sxa hs hw ?_; clear hs hw; intro a b W hw hs) | (refine sxs hs hw ?_; clear hs hw; intro W hs hw) | ((with_reducible first | refine st_ptrSome hs (k := ?_) | refine st_ptrNone hs (k := ?_)); clear hs; intro a hs))
  cases h : decide (1 ≤ c ∧ c ≤ 5) with
  | false =>
    rw [h] at hs
    repeat (first | (refine sxv hs hw ?_; clear hs; intro a hs) | refine sxc hs ?_ | (refine sxa hs hw ?_; clear hs hw; intro a b W hw hs) | (refine sxs hs hw ?_; clear hs hw; intro W hs hw) | ((with_reducible first | refine st_ptrSome hs (k := ?_) | refine st_ptrNone hs (k := ?_)); clear hs; intro a hs))
    have hX : lastOf f c = 0 := by unfold lastOf; rw [if_neg (of_decide_eq_false h)]
    exact rt1 hs rfl rfl ⟨by rw [hX], hw⟩
  | true =>
    rw [h] at hs
    have h15 := of_decide_eq_true h
    obtain ⟨pd, xs, ht, hw⟩ := foldOpen hw
    repeat (first | (refine sxv hs hw ?_; clear hs; intro a hs) | refine sxc hs ?_ | (refine sxa hs hw ?_; clear hs hw; intro a b W hw hs) | (refine sxs hs hw ?_; clear hs hw; intro W hs hw) | ((with_reducible first | refine st_ptrSome hs (k := ?_) | refine st_ptrNone hs (k := ?_)); clear hs; intro a hs))
    refine st_index_arr hs (h0 := by omega) (h1 := by omega) (c := ?_); clear hs; intro a hs
    repeat (first | (refine sxv hs hw ?_; clear hs; intro a hs) | refine sxc hs ?_ | (refine sxa hs hw ?_; clear hs hw; intro a b W hw hs) | (refine sxs hs hw ?_; clear hs hw; intro W hs hw) | ((with_reducible first | refine st_ptrSome hs (k := ?_) | refine st_ptrNone hs (k := ?_)); clear hs; intro a hs))
    obtain ⟨x, hx⟩ : ∃ x, f.told[c.toNat]? = some x := ⟨f.told[c.toNat]'(by rw [ht.1]; omega), List.getElem?_eq_getElem _⟩
    have hX : lastOf f c = x.1 := by
      unfold lastOf
      rw [if_pos h15, hx]
      rfl
    refine st_load_one hs (hw := hw) (hi := In.hd) (v := .int .i64 x.1) (hv := ?_) (k := ?_)
    · show (foldCells f.place pd xs)[0 + 2 + c.toNat * 6 + 0]? = _
      rw [show 0 + 2 + c.toNat * 6 + 0 = c.toNat * 6 + 1 + 1 by omega]
      obtain ⟨sv, _, h6⟩ := told_get ht hx
      have := congrArg (fun t => t[0]?) h6
      simp only [cut_eq, List.getElem?_take, List.getElem?_drop] at this
      simpa [foldCells] using this
    · clear hs; intro a hs
      repeat (first | (refine sxv hs hw ?_; clear hs; intro a hs) | refine sxc hs ?_ | (refine sxa hs hw ?_; clear hs hw; intro a b W hw hs) | (refine sxs hs hw ?_; clear hs hw; intro W hs hw) | ((with_reducible first | refine st_ptrSome hs (k := ?_) | refine st_ptrNone hs (k := ?_)); clear hs; intro a hs))
      exact rt1 hs rfl rfl ⟨by rw [hX], foldShut hw ht⟩

set_option maxHeartbeats 4000000 in
theorem fold_Place (w0 W : World) (H : Fh) (p : Nat) (f : FoldD) (R : List Res) (hw : Has 0 w0 W (FoldAt H p f :: R)) :
    Calls Tryd.prog 34 ⟨[.pointer (some ⟨p, 0, none⟩)]⟩ W fun e W' => e = .returned (.int .i64 f.place) ∧ Has 0 w0 W' (FoldAt H p f :: R) := by
  refine enter Tryd.func34 Tryd.ntmps34 rfl rfl fun a hs => ?_
  obtain ⟨pd, xs, ht, hw⟩ := foldOpen hw
  repeat (first | (refine sxv hs hw ?_; clear hs; intro a hs) | refine sxc hs ?_ | (refine sxa hs hw ?_; clear hs hw; intro a b W hw hs) | (refine sxs hs hw ?_; clear hs hw; intro W hs hw) | ((with_reducible first | refine st_ptrSome hs (k := ?_) | refine st_ptrNone hs (k := ?_)); clear hs; intro a hs))
  exact rt1 hs rfl rfl ⟨rfl, foldShut hw ht⟩

set_option maxHeartbeats 4000000 in
theorem fold_Copy (w0 W : World) (H : Fh) (p : Nat) (f : FoldD) (R : List Res) (hw : Has 0 w0 W (FoldAt H p f :: R)) :
    Calls Tryd.prog 23 ⟨[.pointer (some ⟨p, 0, none⟩)]⟩ W fun e W' => ∃ q, e = .returned (.pointer (some ⟨q, 0, none⟩)) ∧ Has 0 w0 W' (FoldAt H q f :: FoldAt H p f :: R) := by
  refine enter Tryd.func23 Tryd.ntmps23 rfl rfl fun a hs => ?_
  obtain ⟨pd, xs, ht, hw⟩ := foldOpen hw
  have hl := fold_len f.place pd ht
  repeat (first | (refine sxv hs hw ?_; clear hs; intro a hs) | refine sxc hs ?_ | (refine sxa hs hw ?_; clear hs hw; intro a b W hw hs) | (refine sxs hs hw ?_; clear hs hw; intro W hs hw) | ((with_reducible first | refine st_ptrSome hs (k := ?_) | refine st_ptrNone hs (k := ?_)); clear hs; intro a hs))
  refine st_load_agg hs (hw := hw) (hi := In.hd) (hl := by rw [hl]; rfl) (k := ?_); clear hs; intro a hs
  replace hs : Slots a 15 [(8, .agg ⟨foldCells f.place pd xs⟩), (0, .pointer (some ⟨p, 0, none⟩))] := hs.of ⟨congrArg (fun x => some (Value.agg ⟨x⟩)) (cut_all _ 38 hl), rfl, trivial⟩
  repeat (first | (refine sxv hs hw ?_; clear hs; intro a hs) | refine sxc hs ?_ | (refine sxa hs hw ?_; clear hs hw; intro a b W hw hs) | (refine sxs hs hw ?_; clear hs hw; intro W hs hw) | ((with_reducible first | refine st_ptrSome hs (k := ?_) | refine st_ptrNone hs (k := ?_)); clear hs; intro a hs))
  obtain ⟨q, q1⟩ := nm1 hw; subst q1
  refine st_store hs (vs := foldCells f.place pd xs) (hw := hw) (hz := by rw [hl]; rfl) (h1 := fold_one _ _ ht) (hl := by rw [hl]; rfl) (k := ?_); clear hs hw; intro W hs hw
  rw [ov_all _ _ (by rw [hl]; rfl)] at hw
  repeat (first | (refine sxv hs hw ?_; clear hs; intro a hs) | refine sxc hs ?_ | (refine sxa hs hw ?_; clear hs hw; intro a b W hw hs) | (refine sxs hs hw ?_; clear hs hw; intro W hs hw) | ((with_reducible first | refine st_ptrSome hs (k := ?_) | refine st_ptrNone hs (k := ?_)); clear hs; intro a hs))
  have hw : Has 0 w0 W (DocAt pd f.d :: Cells q (foldCells f.place pd xs) 68 :: Cells p (foldCells f.place pd xs) 68 :: R) := hw.perm (by repeat (first | exact List.Perm.refl _ | refine perm_pick (by repeat (first | exact Pick.hd | apply Pick.tl)) ?_))
  refine st_call hs (hc := doc_Copy w0 _ pd f.d _ hw) (k := ?_); rintro e0 W1 ⟨c, rfl, hw1⟩; refine ⟨_, rfl, ?_⟩; clear hs hw; intro a hs; have hw := hw1; clear hw1
  have hw : Has 0 w0 _ (Cells q (foldCells f.place pd xs) 68 :: DocAt c f.d :: Cells p (foldCells f.place pd xs) 68 :: DocAt pd f.d :: R) := hw.perm (by repeat (first | exact List.Perm.refl _ | refine perm_pick (by repeat (first | exact Pick.hd | apply Pick.tl)) ?_))
  repeat (first | (refine sxv hs hw ?_; clear hs; intro a hs) | refine sxc hs ?_ | (refine sxa hs hw ?_; clear hs hw; intro a b W hw hs) | (refine sxs hs hw ?_; clear hs hw; intro W hs hw) | ((with_reducible first | refine st_ptrSome hs (k := ?_) | refine st_ptrNone hs (k := ?_)); clear hs; intro a hs))
  rw [ov_one] at hw
  have hw : Has 0 w0 _ (Cells q (foldCells f.place c xs) 68 :: DocAt c f.d :: Cells p (foldCells f.place pd xs) 68 :: DocAt pd f.d :: R) := hw
  have hw := foldShut hw ht
  have hw : Has 0 w0 _ (Cells p (foldCells f.place pd xs) 68 :: DocAt pd f.d :: FoldAt H q f :: R) := hw.perm (by repeat (first | exact List.Perm.refl _ | refine perm_pick (by repeat (first | exact Pick.hd | apply Pick.tl)) ?_))
  have hw := (foldShut hw ht).swap2
  exact rt1 hs rfl rfl ⟨q, rfl, hw⟩

set_option maxHeartbeats 4000000 in
theorem fold_own (w0 W : World) (H : Fh) (r : RowD) (sv : Value) (R : List Res) (hl : r.b.l.length ≤ 1000) (hr : OpsH H sv r.b.l) (hw : Has 0 w0 W (Fz H :: R)) :
    Calls Tryd.prog 38 ⟨[.agg ⟨rowCells r sv⟩]⟩ W fun e W' => ∃ sv' H', e = .returned (.agg ⟨rowCells r sv'⟩) ∧ H.le H' ∧ OpsH H' sv' r.b.l ∧ Has 0 w0 W' (Fz H' :: R) := by
  obtain ⟨sad, scap, rfl⟩ := hr.slice
  refine enter Tryd.func38 Tryd.ntmps38 rfl rfl fun a hs => ?_
  repeat (first | (refine sxv hs hw ?_; clear hs; intro a hs) | refine sxc hs ?_ | (refine sxa hs hw ?_; clear hs hw; intro a b W hw hs) | (refine sxs hs hw ?_; clear hs hw; intro W hs hw))
  obtain ⟨b2, q2⟩ := nm1 hw; subst q2
  obtain ⟨b1, q1⟩ := nm2 hw; subst q1
  have hw : Has 0 w0 _ (Fz H :: Cells b2 [.int .i64 0, .int .i64 0, .int .i64 0, .slice none 0 0, .int .i64 0] 28 :: Cells b1 (rowCells r (.slice sad r.b.l.length scap)) 28 :: R) := hw.perm (by repeat (first | exact List.Perm.refl _ | refine perm_pick (by repeat (first | exact Pick.hd | apply Pick.tl)) ?_))
  refine st_call hs (hc := clone_ops w0 _ H r.b.l _ _ hl hr hw) (k := ?_); rintro e0 W1 ⟨sv', H', rfl, h1, h2, hw1⟩; refine ⟨_, rfl, ?_⟩; clear hs hw; intro a hs; have hw := hw1; clear hw1
  obtain ⟨tad, tcap, rfl⟩ := h2.slice
  repeat (first | (refine sxv hs hw ?_; clear hs; intro a hs) | refine sxc hs ?_ | (refine sxa hs hw ?_; clear hs hw; intro a b W hw hs) | (refine sxs hs hw ?_; clear hs hw; intro W hs hw))
  refine rc1 hs rfl rfl hw (In.tl In.hd) rfl ?_
  exact ⟨_, H', rfl, h1, h2, hw.drop2.drop2⟩

end Go.Proofs.YtalfmomnaghahaaDoor.Sw

/-
  The walk of fold.Next.
-/
set_option linter.unusedVariables false
set_option maxRecDepth 10000
namespace Go.Proofs.YtalfmomnaghahaaDoor.Sw
open Go.RowKit Go.Sx

def nextB (f : FoldD) (bt : BatchD) : Bool := mayB bt && (bt.q == IntKind.i64.wrap (lastOf f bt.c + 1))
/-- The row of a batch that comes next. -/
def nextR (f : FoldD) (bt : BatchD) : RowD := ⟨IntKind.i64.wrap (f.place + 1), bt, (applyL f.d bt.l).1⟩
/-- The fold behind a batch that comes next. -/
def nextF (f : FoldD) (bt : BatchD) : FoldD := ⟨IntKind.i64.wrap (f.place + 1), (applyL f.d bt.l).2, f.told.set bt.c.toNat (bt.q, nextR f bt)⟩
/-- The fold behind a batch, and its row. -/
def next (f : FoldD) (bt : BatchD) : FoldD × RowD × Bool := match nextB f bt with | true => (nextF f bt, nextR f bt, true) | false => (f, zeroRow, false)
theorem may_parts {bt : BatchD} (h : mayB bt = true) : (1 ≤ bt.c ∧ bt.c ≤ 5) ∧ (1 ≤ bt.q ∧ bt.q ≤ 1099511627776) ∧ bt.l.length ≤ 8 := by
  obtain ⟨h1, h2, h3, _⟩ := mayBatch_parts h
  exact ⟨h1, h2, h3.2⟩

set_option maxHeartbeats 16000000 in
theorem fold_Next (w0 W : World) (H : Fh) (p : Nat) (f : FoldD) (bt : BatchD) (sv : Value) (R : List Res) (hb : BatOk bt) (hr : OpsH H sv bt.l) (hH : (fr w0).le H) (hT : Tabs w0) (hw : Has 0 w0 W (FoldAt H p f :: Fz H :: R)) :
    Calls Tryd.prog 20 ⟨[.pointer (some ⟨p, 0, none⟩), .agg ⟨batCells bt sv⟩]⟩ W fun e W' => ∃ sv' H', e = .returned (.tuple ⟨[.agg ⟨rowCells (next f bt).2.1 sv'⟩, .bool (next f bt).2.2]⟩) ∧ H.le H' ∧ OpsH H' sv' (next f bt).2.1.b.l ∧ Has 0 w0 W' (FoldAt H' p (next f bt).1 :: Fz H' :: R) := by
  obtain ⟨sad, scap, rfl⟩ := hr.slice
  refine enter Tryd.func20 Tryd.ntmps20 rfl rfl fun a hs => ?_
  repeat (first | (refine sxv hs hw ?_; clear hs; intro a hs) | refine sxc hs ?_ | (refine sxa hs hw ?_; clear hs hw; intro a b W hw hs) | (refine sxs hs hw ?_; clear hs hw; intro W hs hw))
  obtain ⟨b4, q4⟩ := nm1 hw; subst q4
  obtain ⟨b3, q3⟩ := nm2 hw; subst q3
  have hw : Has 0 w0 _ (FoldAt H p f :: Cells b4 zrc 28 :: Cells b3 (batCells bt (.slice sad bt.l.length scap)) 25 :: Fz H :: R) := hw.perm (by repeat (first | exact List.Perm.refl _ | refine perm_pick (by repeat (first | exact Pick.hd | apply Pick.tl)) ?_))
  cases hm : mayB bt with
  | false =>
    have hN : next f bt = (f, zeroRow, false) := by unfold next nextB; rw [hm]; rfl
    rw [hN]
    refine rg_draw (V := [.pointer (some ⟨p, 0, none⟩), .bool false, .bool false, .agg ⟨batCells bt (.slice sad bt.l.length scap)⟩, .bool false, .bool true, .bool true, .bool true, undef, undef, undef, undef, undef, undef, undef, undef, .bool true])
      (Rs := fun D => FoldAt H p f :: Cells b4 zrc 28 :: Cells b3 (batCells bt (.slice sad bt.l.length scap)) 25 :: Fz H :: R) hs hw (ho := ⟨?_, ?_, ?_, ?_, ?c4_1, ?_, ?_, ?_, ?_, ?_, ?_, ?_, ?_, ?_, ?_, ?_, ?_, trivial⟩) (k := ?k_1)
    case c4_1 =>
      intro LD D a W hcl hi hp hs hw
      repeat (first | (refine sxv hs hw ?_; clear hs; intro a hs) | refine sxc hs ?_ | (refine sxa hs hw ?_; clear hs hw; intro a b W hw hs) | (refine sxs hs hw ?_; clear hs hw; intro W hs hw))
      refine st_call hs (hc := op_MayBatch bt.c bt.q bt.l _ _ hb.c hb.q hb.ops (hw.rdH (by repeat (first | exact In.hd | apply In.tl)) hr) (hT.keep (hw.endF (by repeat (first | exact In.hd | apply In.tl)) hH))) (k := ?_); rintro e0 W1 ⟨rfl, hb⟩; refine ⟨_, rfl, ?_⟩; clear hs; intro a hs; replace hw := hw.below hb; clear hb
      rw [show mayBatch bt.c bt.q bt.l = mayB bt from rfl, hm] at hs
      repeat (first | (refine sxv hs hw ?_; clear hs; intro a hs) | refine sxc hs ?_ | (refine sxa hs hw ?_; clear hs hw; intro a b W hw hs) | (refine sxs hs hw ?_; clear hs hw; intro W hs hw))
      exact ⟨hs, hw⟩
    case k_1 =>
      clear hs hw
      intro a W hs hw
      repeat (first | (refine sxv hs hw ?_; clear hs; intro a hs) | refine sxc hs ?_ | (refine sxa hs hw ?_; clear hs hw; intro a b W hw hs) | (refine sxs hs hw ?_; clear hs hw; intro W hs hw))
      refine rc2 hs rfl rfl hw (In.tl In.hd) rfl rfl ?_
      exact ⟨.slice none 0 0, H, rfl, Fh.le.refl _, ops_nil H, hw.sub (List.Sublist.cons_cons _ (List.Sublist.cons _ (List.Sublist.cons _ (List.Sublist.refl _))))⟩
    all_goals
      intro LD D a W hcl hi hp hs hw
      repeat (first | (refine sxv hs hw ?_; clear hs; intro a hs) | refine sxc hs ?_ | (refine sxa hs hw ?_; clear hs hw; intro a b W hw hs) | (refine sxs hs hw ?_; clear hs hw; intro W hs hw) | ((with_reducible first | refine st_ptrSome hs (k := ?_) | refine st_ptrNone hs (k := ?_)); clear hs; intro a hs))
      exact ⟨hs, hw⟩
  | true =>
  obtain ⟨⟨hc1, hc5⟩, ⟨hq1, hq2⟩, hl8⟩ := may_parts hm
  refine rg_draw (V := [.pointer (some ⟨p, 0, none⟩), .bool false, .bool false, .agg ⟨batCells bt (.slice sad bt.l.length scap)⟩, .bool true, .bool false, .bool false, .bool false, .pointer (some ⟨b3, 0 + 1, none⟩), .int .i64 bt.q, .pointer (some ⟨p, 0, none⟩), .pointer (some ⟨b3, 0 + 0, none⟩), .int .i64 bt.c, .int .i64 (lastOf f bt.c), .int .i64 (IntKind.i64.wrap (lastOf f bt.c + 1)), .bool (bt.q != IntKind.i64.wrap (lastOf f bt.c + 1)), .bool (bt.q != IntKind.i64.wrap (lastOf f bt.c + 1))])
    (Rs := fun D => FoldAt H p f :: Cells b4 zrc 28 :: Cells b3 (batCells bt (.slice sad bt.l.length scap)) 25 :: Fz H :: R) hs hw (ho := ⟨?_, ?_, ?_, ?_, ?c4_2, ?_, ?_, ?_, ?_, ?_, ?_, ?_, ?_, ?c13_2, ?_, ?_, ?_, trivial⟩) (k := ?k_2)
  case c4_2 =>
    intro LD D a W hcl hi hp hs hw
    repeat (first | (refine sxv hs hw ?_; clear hs; intro a hs) | refine sxc hs ?_ | (refine sxa hs hw ?_; clear hs hw; intro a b W hw hs) | (refine sxs hs hw ?_; clear hs hw; intro W hs hw))
    refine st_call hs (hc := op_MayBatch bt.c bt.q bt.l _ _ hb.c hb.q hb.ops (hw.rdH (by repeat (first | exact In.hd | apply In.tl)) hr) (hT.keep (hw.endF (by repeat (first | exact In.hd | apply In.tl)) hH))) (k := ?_); rintro e0 W1 ⟨rfl, hb⟩; refine ⟨_, rfl, ?_⟩; clear hs; intro a hs; replace hw := hw.below hb; clear hb
    rw [show mayBatch bt.c bt.q bt.l = mayB bt from rfl, hm] at hs
    repeat (first | (refine sxv hs hw ?_; clear hs; intro a hs) | refine sxc hs ?_ | (refine sxa hs hw ?_; clear hs hw; intro a b W hw hs) | (refine sxs hs hw ?_; clear hs hw; intro W hs hw))
    exact ⟨hs, hw⟩
  case c13_2 =>
    intro LD D a W hcl hi hp hs hw
    repeat (first | (refine sxv hs hw ?_; clear hs; intro a hs) | refine sxc hs ?_ | (refine sxa hs hw ?_; clear hs hw; intro a b W hw hs) | (refine sxs hs hw ?_; clear hs hw; intro W hs hw))
    refine st_call hs (hc := fold_Last w0 _ H p f bt.c _ hw) (k := ?_); rintro e0 W1 ⟨rfl, hw1⟩; refine ⟨_, rfl, ?_⟩; clear hs hw; intro a hs; have hw := hw1; clear hw1
    repeat (first | (refine sxv hs hw ?_; clear hs; intro a hs) | refine sxc hs ?_ | (refine sxa hs hw ?_; clear hs hw; intro a b W hw hs) | (refine sxs hs hw ?_; clear hs hw; intro W hs hw))
    exact ⟨hs, hw⟩
  case k_2 =>
    clear hs hw
    intro a W hs hw
    replace hw : Has 0 w0 W (FoldAt H p f :: Cells b4 zrc 28 :: Cells b3 (batCells bt (.slice sad bt.l.length scap)) 25 :: Fz H :: R) := hw
    replace hs : Slots a 58 [(0, .pointer (some ⟨p, 0, none⟩)), (3, .pointer (some ⟨b3, 0, none⟩)), (4, .pointer (some ⟨b4, 0, none⟩)), (5, .bool false), (23, .bool (bt.q != IntKind.i64.wrap (lastOf f bt.c + 1)))] := hs.of ⟨rfl, rfl, rfl, rfl, rfl, trivial⟩
    repeat (first | (refine sxv hs hw ?_; clear hs; intro a hs) | refine sxc hs ?_ | (refine sxa hs hw ?_; clear hs hw; intro a b W hw hs) | (refine sxs hs hw ?_; clear hs hw; intro W hs hw))
    cases hq : (bt.q != IntKind.i64.wrap (lastOf f bt.c + 1)) with
    | true =>
      have hN : next f bt = (f, zeroRow, false) := by
        unfold next nextB
        have : (bt.q == IntKind.i64.wrap (lastOf f bt.c + 1)) = false := by simpa using hq
        rw [hm, this]; rfl
      rw [hN]
      rw [hq] at hs
      repeat (first | (refine sxv hs hw ?_; clear hs; intro a hs) | refine sxc hs ?_ | (refine sxa hs hw ?_; clear hs hw; intro a b W hw hs) | (refine sxs hs hw ?_; clear hs hw; intro W hs hw))
      refine rc2 hs rfl rfl hw (In.tl In.hd) rfl rfl ?_
      exact ⟨.slice none 0 0, H, rfl, Fh.le.refl _, ops_nil H, hw.sub (List.Sublist.cons_cons _ (List.Sublist.cons _ (List.Sublist.cons _ (List.Sublist.refl _))))⟩
    | false =>
    have hN : next f bt = (nextF f bt, nextR f bt, true) := by
      unfold next nextB
      have : (bt.q == IntKind.i64.wrap (lastOf f bt.c + 1)) = true := by simpa using hq
      rw [hm, this]; rfl
    rw [hN]
    rw [hq] at hs
    obtain ⟨pd, xs, ht, hw⟩ := foldOpen hw
    repeat (first | (refine sxv hs hw ?_; clear hs; intro a hs) | refine sxc hs ?_ | (refine sxa hs hw ?_; clear hs hw; intro a b W hw hs) | (refine sxs hs hw ?_; clear hs hw; intro W hs hw))
    have hw : Has 0 w0 W (Cells p (foldCells (IntKind.i64.wrap (f.place + 1)) pd xs) 68 :: DocAt pd f.d :: Fz H :: Free :: Cells b4 zrc 28 :: Cells b3 (batCells bt (.slice sad bt.l.length scap)) 25 :: R) := hw.free.perm (by repeat (first | exact List.Perm.refl _ | refine perm_pick (by repeat (first | exact Pick.hd | apply Pick.tl)) ?_))
    refine rg_drawU (σ := Value × Fh × Nat) (V := fun u => [.pointer (some ⟨p, 0, none⟩), .pointer (some ⟨p, 0, none⟩), .pointer (some ⟨p, 0 + 0, none⟩), .int .i64 (IntKind.i64.wrap (f.place + 1)), .agg ⟨batCells bt (.slice sad bt.l.length scap)⟩, .pointer (some ⟨p, 0, none⟩), .pointer (some ⟨p, 0, none⟩), .pointer (some ⟨p, 0 + 1, none⟩), .pointer (some ⟨pd, 0, none⟩), .pointer (some ⟨b3, 0 + 2, none⟩), .slice sad bt.l.length scap, .int .i64 (applyL f.d bt.l).1, .agg ⟨rowCells (nextR f bt) (.slice sad bt.l.length scap)⟩, .agg ⟨rowCells (nextR f bt) (u 13).1⟩, .pointer (some ⟨(u 14).2.2, 0, none⟩), .bool true])
      (Rs := fun u D => Cells p (foldCells (IntKind.i64.wrap (f.place + 1)) pd xs) 68 :: (if D 11 then DocAt pd (applyL f.d bt.l).2 else DocAt pd f.d) :: (if D 13 then FzF (u 13).2.1 (H.le (u 13).2.1 ∧ OpsH (u 13).2.1 (u 13).1 bt.l) else Fz H) :: (if D 14 then Cells (u 14).2.2 (if D 15 then rowCells (nextR f bt) (u 13).1 else zrc) 28 else Free) :: Cells b4 zrc 28 :: Cells b3 (batCells bt (.slice sad bt.l.length scap)) 25 :: R) (fun _ => (.nilIface, H, 0)) hs hw (hVu := ?vu_3) (ho := ⟨?_, ?_, ?_, ?_, ?_, ?_, ?_, ?_, ?_, ?_, ?_, ?c11_3, ?_, ?c13_3, ?c14_3, ?c15_3, trivial⟩) (k := ?k_3)
    case vu_3 =>
      intro u u' j h
      rcases j with _ | _ | _ | _ | _ | _ | _ | _ | _ | _ | _ | _ | _ | _ | _ | j
      all_goals first | rfl | simp [h]
    case c11_3 =>
      intro u LD D a W hcl hi hp hs hw
      have h12 := Go.Sx.not_done hcl hi 12 (by kernel_rfl)
      have h13 := Go.Sx.not_done hcl h12 13 (by kernel_rfl)
      simp only [hi, h13, Bool.false_eq_true, if_false] at hw
      repeat (first | (refine sxv hs hw ?_; clear hs; intro a hs) | refine sxc hs ?_ | (refine sxa hs hw ?_; clear hs hw; intro a b W hw hs) | (refine sxs hs hw ?_; clear hs hw; intro W hs hw))
      have hw : Has 0 w0 W (DocAt pd f.d :: Cells p (foldCells (IntKind.i64.wrap (f.place + 1)) pd xs) 68 :: Fz H :: (if D 14 then Cells (u 14).2.2 (if D 15 then rowCells (nextR f bt) (u 13).1 else zrc) 28 else Free) :: Cells b4 zrc 28 :: Cells b3 (batCells bt (.slice sad bt.l.length scap)) 25 :: R) := hw.perm (by repeat (first | exact List.Perm.refl _ | refine perm_pick (by repeat (first | exact Pick.hd | apply Pick.tl)) ?_))
      refine st_call hs (hc := doc_ApplyL w0 _ H pd f.d bt.l _ _ hb.ops hr (by repeat (first | exact In.hd | apply In.tl)) hH hT hw) (k := ?_); rintro e0 W1 ⟨rfl, hw1⟩; refine ⟨_, rfl, ?_⟩; clear hs hw; intro a hs; have hw := hw1; clear hw1
      repeat (first | (refine sxv hs hw ?_; clear hs; intro a hs) | refine sxc hs ?_ | (refine sxa hs hw ?_; clear hs hw; intro a b W hw hs) | (refine sxs hs hw ?_; clear hs hw; intro W hs hw))
      refine Or.inl ⟨hs, ?_⟩
      show Has 0 w0 _ (Cells p (foldCells (IntKind.i64.wrap (f.place + 1)) pd xs) 68 :: DocAt pd (applyL f.d bt.l).2 :: (if (Nat.beq 13 11 || D 13) = true then _ else _) :: (if D 14 then Cells (u 14).2.2 (if D 15 then rowCells (nextR f bt) (u 13).1 else zrc) 28 else Free) :: Cells b4 zrc 28 :: Cells b3 (batCells bt (.slice sad bt.l.length scap)) 25 :: R)
      rw [h13]
      exact hw.swap2
    case c13_3 =>
      intro u LD D a W hcl hi hp hs hw
      have h15 := Go.Sx.not_done hcl hi 15 (by kernel_rfl)
      simp only [hi, h15, Bool.false_eq_true, if_false] at hw
      repeat (first | (refine sxv hs hw ?_; clear hs; intro a hs) | refine sxc hs ?_ | (refine sxa hs hw ?_; clear hs hw; intro a b W hw hs) | (refine sxs hs hw ?_; clear hs hw; intro W hs hw))
      have hw : Has 0 w0 W (Fz H :: Cells p (foldCells (IntKind.i64.wrap (f.place + 1)) pd xs) 68 :: (if D 11 then DocAt pd (applyL f.d bt.l).2 else DocAt pd f.d) :: (if D 14 then Cells (u 14).2.2 zrc 28 else Free) :: Cells b4 zrc 28 :: Cells b3 (batCells bt (.slice sad bt.l.length scap)) 25 :: R) := hw.perm (by repeat (first | exact List.Perm.refl _ | refine perm_pick (by repeat (first | exact Pick.hd | apply Pick.tl)) ?_))
      refine st_call hs (hc := fold_own w0 _ H (nextR f bt) _ _ (show (nextR f bt).b.l.length ≤ 1000 from Nat.le_trans hl8 (by decide)) hr hw) (k := ?_); rintro e0 W1 ⟨sv', H', rfl, h1, h2, hw1⟩; refine ⟨_, rfl, ?_⟩; clear hs hw; intro a hs; have hw := hw1; clear hw1
      repeat (first | (refine sxv hs hw ?_; clear hs; intro a hs) | refine sxc hs ?_ | (refine sxa hs hw ?_; clear hs hw; intro a b W hw hs) | (refine sxs hs hw ?_; clear hs hw; intro W hs hw))
      refine Or.inr ⟨(sv', H', 0), hs, ?_⟩
      have hw := hw.fzf (q := H.le H' ∧ OpsH H' sv' bt.l) ⟨h1, h2⟩
      show Has 0 w0 _ (Cells p (foldCells (IntKind.i64.wrap (f.place + 1)) pd xs) 68 :: (if D 11 then DocAt pd (applyL f.d bt.l).2 else DocAt pd f.d) :: FzF H' (H.le H' ∧ OpsH H' sv' bt.l) :: (if D 14 then Cells (u 14).2.2 (if (Nat.beq 15 13 || D 15) = true then _ else _) 28 else Free) :: Cells b4 zrc 28 :: Cells b3 (batCells bt (.slice sad bt.l.length scap)) 25 :: R)
      rw [h15]
      exact hw.perm (by repeat (first | exact List.Perm.refl _ | refine perm_pick (by repeat (first | exact Pick.hd | apply Pick.tl)) ?_))
    case c14_3 =>
      intro u LD D a W hcl hi hp hs hw
      have h15 := Go.Sx.not_done hcl hi 15 (by kernel_rfl)
      simp only [hi, Bool.false_eq_true, if_false] at hw
      repeat (first | (refine sxv hs hw ?_; clear hs; intro a hs) | refine sxc hs ?_ | (refine sxa hs hw ?_; clear hs hw; intro a b W hw hs) | (refine sxs hs hw ?_; clear hs hw; intro W hs hw))
      refine Or.inr ⟨(.nilIface, H, _), hs, ?_⟩
      show Has 0 w0 _ (Cells p (foldCells (IntKind.i64.wrap (f.place + 1)) pd xs) 68 :: (if D 11 then DocAt pd (applyL f.d bt.l).2 else DocAt pd f.d) :: (if D 13 then FzF (u 13).2.1 (H.le (u 13).2.1 ∧ OpsH (u 13).2.1 (u 13).1 bt.l) else Fz H) :: Cells _ (if (Nat.beq 15 14 || D 15) = true then _ else _) 28 :: Cells b4 zrc 28 :: Cells b3 (batCells bt (.slice sad bt.l.length scap)) 25 :: R)
      rw [h15]
      exact hw.fill (Upd.tl (Upd.tl (Upd.tl Upd.hd)))
    case c15_3 =>
      intro u LD D a W hcl hi hp hs hw
      have h13 := Go.Sx.done hp 13 (by kernel_rfl)
      have h14 := Go.Sx.done hp 14 (by kernel_rfl)
      simp only [hi, h13, h14, Bool.false_eq_true, if_false, if_true] at hw
      have hv : OpsH (u 13).2.1 (u 13).1 bt.l := by
        have hw2 := hw.perm (B := FzF (u 13).2.1 (H.le (u 13).2.1 ∧ OpsH (u 13).2.1 (u 13).1 bt.l) :: Cells p (foldCells (IntKind.i64.wrap (f.place + 1)) pd xs) 68 :: (if D 11 then DocAt pd (applyL f.d bt.l).2 else DocAt pd f.d) :: Cells (u 14).2.2 zrc 28 :: Cells b4 zrc 28 :: Cells b3 (batCells bt (.slice sad bt.l.length scap)) 25 :: R) (by repeat (first | exact List.Perm.refl _ | refine perm_pick (by repeat (first | exact Pick.hd | apply Pick.tl)) ?_))
        exact hw2.unfzf.1.2
      obtain ⟨tad, tcap, e13⟩ := hv.slice
      refine st_store hs (hw := hw) (vs := rowCells (nextR f bt) (u 13).1) (h1 := by rw [e13]; rfl) (k := ?_); clear hs hw; intro W hs hw
      repeat (first | (refine sxv hs hw ?_; clear hs; intro a hs) | refine sxc hs ?_ | (refine sxa hs hw ?_; clear hs hw; intro a b W hw hs) | (refine sxs hs hw ?_; clear hs hw; intro W hs hw))
      refine Or.inl ⟨hs, ?_⟩
      show Has 0 w0 _ (Cells p (foldCells (IntKind.i64.wrap (f.place + 1)) pd xs) 68 :: (if D 11 then DocAt pd (applyL f.d bt.l).2 else DocAt pd f.d) :: (if (Nat.beq 13 15 || D 13) = true then _ else _) :: (if (Nat.beq 14 15 || D 14) = true then _ else _) :: Cells b4 zrc 28 :: Cells b3 (batCells bt (.slice sad bt.l.length scap)) 25 :: R)
      rw [h13, h14]
      exact hw
    case k_3 =>
      clear hs hw
      intro u a W hs hw
      replace hw : Has 0 w0 W (Cells p (foldCells (IntKind.i64.wrap (f.place + 1)) pd xs) 68 :: DocAt pd (applyL f.d bt.l).2 :: FzF (u 13).2.1 (H.le (u 13).2.1 ∧ OpsH (u 13).2.1 (u 13).1 bt.l) :: Cells (u 14).2.2 (rowCells (nextR f bt) (u 13).1) 28 :: Cells b4 zrc 28 :: Cells b3 (batCells bt (.slice sad bt.l.length scap)) 25 :: R) := hw
      replace hs : Slots a 58 [(0, .pointer (some ⟨p, 0, none⟩)), (3, .pointer (some ⟨b3, 0, none⟩)), (4, .pointer (some ⟨b4, 0, none⟩)), (5, .bool false), (6, .pointer (some ⟨(u 14).2.2, 0, none⟩))] := hs.of ⟨rfl, rfl, rfl, rfl, rfl, trivial⟩
      generalize (u 14).2.2 = b6 at *
      generalize (u 13).2.1 = H1 at *
      generalize (u 13).1 = v1 at *
      clear u
      have hw : Has 0 w0 W (FzF H1 (H.le H1 ∧ OpsH H1 v1 bt.l) :: Cells p (foldCells (IntKind.i64.wrap (f.place + 1)) pd xs) 68 :: DocAt pd (applyL f.d bt.l).2 :: Cells b6 (rowCells (nextR f bt) v1) 28 :: Cells b4 zrc 28 :: Cells b3 (batCells bt (.slice sad bt.l.length scap)) 25 :: R) := hw.perm (by repeat (first | exact List.Perm.refl _ | refine perm_pick (by repeat (first | exact Pick.hd | apply Pick.tl)) ?_))
      obtain ⟨⟨hle1, hv1⟩, hw⟩ := hw.unfzf
      obtain ⟨vad, vcap, rfl⟩ := hv1.slice
      have ht1 : ToldOk H1 f.told xs := ⟨ht.1, ht.2.mono (TolIn.le hle1)⟩
      have hlen := fold_len (IntKind.i64.wrap (f.place + 1)) pd ht
      have hset := told_set ht1 (c := bt.c.toNat) (by omega) (x := (bt.q, nextR f bt)) (sv := .slice vad bt.l.length vcap) hv1
      repeat (first | (refine sxv hs hw ?_; clear hs; intro a hs) | refine sxc hs ?_ | (refine sxa hs hw ?_; clear hs hw; intro a b W hw hs) | (refine sxs hs hw ?_; clear hs hw; intro W hs hw))
      have hw : Has 0 w0 W (Cells p (foldCells (IntKind.i64.wrap (f.place + 1)) pd xs) 68 :: Fz H1 :: DocAt pd (applyL f.d bt.l).2 :: Cells b6 (rowCells (nextR f bt) (.slice vad bt.l.length vcap)) 28 :: Cells b4 zrc 28 :: Cells b3 (batCells bt (.slice sad bt.l.length scap)) 25 :: R) := hw.perm (by repeat (first | exact List.Perm.refl _ | refine perm_pick (by repeat (first | exact Pick.hd | apply Pick.tl)) ?_))
      refine rg_draw (V := [.pointer (some ⟨p, 0, none⟩), .pointer (some ⟨b3, 0 + 0, none⟩), .int .i64 bt.c, .pointer (some ⟨b3, 0 + 1, none⟩), .int .i64 bt.q, .agg ⟨rowCells (nextR f bt) (.slice vad bt.l.length vcap)⟩, .agg ⟨.int .i64 bt.q :: rowCells (nextR f bt) (.slice vad bt.l.length vcap)⟩, .pointer (some ⟨p, 0, none⟩), .pointer (some ⟨p, 0 + 2, none⟩), .pointer (some ⟨p, 0 + 2 + bt.c.toNat * 6, none⟩), .bool true])
        (Rs := fun D => (if D 10 then Cells p (foldCells (IntKind.i64.wrap (f.place + 1)) pd (ov xs (bt.c.toNat * 6) (.int .i64 bt.q :: rowCells (nextR f bt) (.slice vad bt.l.length vcap)))) 68 else Cells p (foldCells (IntKind.i64.wrap (f.place + 1)) pd xs) 68) :: Fz H1 :: DocAt pd (applyL f.d bt.l).2 :: Cells b6 (rowCells (nextR f bt) (.slice vad bt.l.length vcap)) 28 :: Cells b4 zrc 28 :: Cells b3 (batCells bt (.slice sad bt.l.length scap)) 25 :: R) hs hw (ho := ⟨?_, ?_, ?_, ?_, ?_, ?_, ?_, ?_, ?_, ?c9_4, ?c10_4, trivial⟩) (k := ?k_4)
      case c9_4 =>
        intro LD D a W hcl hi hp hs hw
        refine st_index_arr hs (h0 := by omega) (h1 := by omega) (c := ?_); clear hs; intro a hs
        repeat (first | (refine sxv hs hw ?_; clear hs; intro a hs) | refine sxc hs ?_ | (refine sxa hs hw ?_; clear hs hw; intro a b W hw hs) | (refine sxs hs hw ?_; clear hs hw; intro W hs hw))
        exact ⟨hs, hw⟩
      case c10_4 =>
        intro LD D a W hcl hi hp hs hw
        simp only [hi, Bool.false_eq_true, if_false] at hw
        refine st_store hs (hw := hw) (vs := .int .i64 bt.q :: rowCells (nextR f bt) (.slice vad bt.l.length vcap)) (hl := by rw [hlen, Nat.ble_eq]; show 0 + 2 + bt.c.toNat * 6 + 6 ≤ 38; omega) (k := ?_); clear hs hw; intro W hs hw
        repeat (first | (refine sxv hs hw ?_; clear hs; intro a hs) | refine sxc hs ?_ | (refine sxa hs hw ?_; clear hs hw; intro a b W hw hs) | (refine sxs hs hw ?_; clear hs hw; intro W hs hw))
        refine ⟨hs, ?_⟩
        have e : ov (foldCells (IntKind.i64.wrap (f.place + 1)) pd xs) (0 + 2 + bt.c.toNat * 6) (.int .i64 bt.q :: rowCells (nextR f bt) (.slice vad bt.l.length vcap)) = foldCells (IntKind.i64.wrap (f.place + 1)) pd (ov xs (bt.c.toNat * 6) (.int .i64 bt.q :: rowCells (nextR f bt) (.slice vad bt.l.length vcap))) := by
          rw [show 0 + 2 + bt.c.toNat * 6 = bt.c.toNat * 6 + 1 + 1 by omega]
          rfl
        rw [e] at hw
        exact hw
      case k_4 =>
        clear hs hw
        intro a W hs hw
        replace hw : Has 0 w0 W (Cells p (foldCells (IntKind.i64.wrap (f.place + 1)) pd (ov xs (bt.c.toNat * 6) (.int .i64 bt.q :: rowCells (nextR f bt) (.slice vad bt.l.length vcap)))) 68 :: Fz H1 :: DocAt pd (applyL f.d bt.l).2 :: Cells b6 (rowCells (nextR f bt) (.slice vad bt.l.length vcap)) 28 :: Cells b4 zrc 28 :: Cells b3 (batCells bt (.slice sad bt.l.length scap)) 25 :: R) := hw
        replace hs : Slots a 58 [(0, .pointer (some ⟨p, 0, none⟩)), (4, .pointer (some ⟨b4, 0, none⟩)), (5, .bool false), (6, .pointer (some ⟨b6, 0, none⟩))] := hs.of ⟨rfl, rfl, rfl, rfl, trivial⟩
        have hw : Has 0 w0 W (Cells p (foldCells (IntKind.i64.wrap (f.place + 1)) pd (ov xs (bt.c.toNat * 6) (.int .i64 bt.q :: rowCells (nextR f bt) (.slice vad bt.l.length vcap)))) 68 :: DocAt pd (applyL f.d bt.l).2 :: Fz H1 :: Cells b6 (rowCells (nextR f bt) (.slice vad bt.l.length vcap)) 28 :: Cells b4 zrc 28 :: Cells b3 (batCells bt (.slice sad bt.l.length scap)) 25 :: R) := hw.perm (by repeat (first | exact List.Perm.refl _ | refine perm_pick (by repeat (first | exact Pick.hd | apply Pick.tl)) ?_))
        have hw := foldShut (f := nextF f bt) hw hset
        repeat (first | (refine sxv hs hw ?_; clear hs; intro a hs) | refine sxc hs ?_ | (refine sxa hs hw ?_; clear hs hw; intro a b W hw hs) | (refine sxs hs hw ?_; clear hs hw; intro W hs hw))
        have hw : Has 0 w0 W (Fz H1 :: FoldAt H1 p (nextF f bt) :: Cells b6 (rowCells (nextR f bt) (.slice vad bt.l.length vcap)) 28 :: Cells b4 zrc 28 :: Cells b3 (batCells bt (.slice sad bt.l.length scap)) 25 :: R) := hw.swap2
        refine st_call hs (hc := fold_own w0 _ H1 (nextR f bt) _ _ (show (nextR f bt).b.l.length ≤ 1000 from Nat.le_trans hl8 (by decide)) hv1 hw) (k := ?_); rintro e0 W1 ⟨sv', H2, rfl, h1, h2, hw1⟩; refine ⟨_, rfl, ?_⟩; clear hs hw; intro a hs; have hw := hw1; clear hw1
        obtain ⟨uad, ucap, rfl⟩ := h2.slice
        repeat (first | (refine sxv hs hw ?_; clear hs; intro a hs) | refine sxc hs ?_ | (refine sxa hs hw ?_; clear hs hw; intro a b W hw hs) | (refine sxs hs hw ?_; clear hs hw; intro W hs hw))
        have hw : Has 0 w0 _ (Cells b4 (rowCells (nextR f bt) (.slice uad bt.l.length ucap)) 28 :: FoldAt H1 p (nextF f bt) :: Fz H2 :: Cells b6 (rowCells (nextR f bt) (.slice vad bt.l.length vcap)) 28 :: Cells b3 (batCells bt (.slice sad bt.l.length scap)) 25 :: R) := hw.perm (by repeat (first | exact List.Perm.refl _ | refine perm_pick (by repeat (first | exact Pick.hd | apply Pick.tl)) ?_))
        refine rc2 hs rfl rfl hw In.hd rfl rfl ?_
        have hw := foldLe (hw.sub (List.Sublist.cons _ (List.Sublist.refl _))) h1
        exact ⟨_, H2, rfl, hle1.trans h1, h2, hw.sub (List.Sublist.cons_cons _ (List.Sublist.cons_cons _ (List.Sublist.cons _ (List.Sublist.cons _ (List.Sublist.refl _)))))⟩
      all_goals
        intro LD D a W hcl hi hp hs hw
        repeat (first | (refine sxv hs hw ?_; clear hs; intro a hs) | refine sxc hs ?_ | (refine sxa hs hw ?_; clear hs hw; intro a b W hw hs) | (refine sxs hs hw ?_; clear hs hw; intro W hs hw))
        exact ⟨hs, hw⟩
    all_goals
      intro u LD D a W hcl hi hp hs hw
      repeat (first | (refine sxv hs hw ?_; clear hs; intro a hs) | refine sxc hs ?_ | (refine sxa hs hw ?_; clear hs hw; intro a b W hw hs) | (refine sxs hs hw ?_; clear hs hw; intro W hs hw))
      exact Or.inl ⟨hs, hw⟩
  all_goals
    intro LD D a W hcl hi hp hs hw
    repeat (first | (refine sxv hs hw ?_; clear hs; intro a hs) | refine sxc hs ?_ | (refine sxa hs hw ?_; clear hs hw; intro a b W hw hs) | (refine sxs hs hw ?_; clear hs hw; intro W hs hw) | ((with_reducible first | refine st_ptrSome hs (k := ?_) | refine st_ptrNone hs (k := ?_)); clear hs; intro a hs))
    exact ⟨hs, hw⟩
end Go.Proofs.YtalfmomnaghahaaDoor.Sw

/-
  Operations compared: slices.Equal; stream.Same.
-/
set_option linter.unusedVariables false
set_option maxRecDepth 10000
namespace Go.Sx
open Go.RowKit

theorem run_eqFields_agg {P : Program} {d : Nat} {xs ys : List Value} {f : Field} {fs : List Field} {W : World} {b : Bool} {z cx cy : List Value} (u : Ty P f.type true z) (hn : (f.name != "_") = true) (hx : cut xs f.offset z.length = cx) (hy : cut ys f.offset z.length = cy) (he : (Op.equalIn d f.type (.agg ⟨cx⟩) (.agg ⟨cy⟩)).run P W = .ok b W) :
    (Op.eqFields d ⟨xs⟩ ⟨ys⟩ (f :: fs)).run P W = if b then (Op.eqFields d ⟨xs⟩ ⟨ys⟩ fs).run P W else .ok false W := by
  have hn' : f.name ≠ "_" := by simpa using hn
  subst hx hy
  rw [cut_eq, cut_eq] at he
  simp only [Op.eqFields, if_pos hn', Sem.run_bind, part, u.isAgg, Result.andThen_ok, if_true, u.sizeOf, Sem.run_pure]
  simp only [List.extract_toArray, List.extract_eq_take_drop]
  rw [show f.offset + z.length - f.offset = z.length by omega, he]
  cases b <;> simp

theorem run_eq3d {P : Program} (d : Nat) {T TI TN TS : TypeId} {zi zn zs : List Value} [IntTy P TI .i64] [IntTy P TN .i64] [StrTy P TS] [ui : Ty P TI false zi] [un : Ty P TN false zn] [us : Ty P TS false zs] (ht : P.underlying T = some (.struct (P.fieldsOf T))) (hp : P.stoodInHeld T = false)
    (hF : (P.fieldsOf T).toList.map (fun f => (f.name != "_", f.offset, f.type)) = [(true, 0, TI), (true, 1, TN), (true, 2, TS)]) (k n : Int) (s : ByteArray) (k' n' : Int) (s' : ByteArray) (W : World) :
    (Op.equalIn (d + 2) T (.agg ⟨[.int .i64 k, .int .i64 n, .string s]⟩) (.agg ⟨[.int .i64 k', .int .i64 n', .string s']⟩)).run P W = .ok ((k == k') && (n == n') && (s.toList == s'.toList)) W := by
  rw [run_equalIn_agg W (d + 1) T _ _ ht hp]
  obtain ⟨f0, r0, e0, m0, hr0⟩ := List.map_eq_cons_iff.1 hF
  obtain ⟨f1, r1, e1, m1, hr1⟩ := List.map_eq_cons_iff.1 hr0
  obtain ⟨f2, r2, e2, m2, hr2⟩ := List.map_eq_cons_iff.1 hr1
  have hr3 := List.map_eq_nil_iff.1 hr2
  subst hr3 e2 e1
  rw [e0]
  simp only [Prod.mk.injEq] at m0 m1 m2
  obtain ⟨a0, b0, c0⟩ := m0
  obtain ⟨a1, b1, c1⟩ := m1
  obtain ⟨a2, b2, c2⟩ := m2
  rw [run_eqFields_cons (x := .int .i64 k) (y := .int .i64 k') (b := k == k') (z := zi) (by rw [c0]; exact ui) a0 (by rw [b0]; rfl) (by rw [b0]; rfl) (by rw [c0]; exact run_equalIn_int W d TI .i64 .i64 k k' (IntTy.out))]
  rw [run_eqFields_cons (x := .int .i64 n) (y := .int .i64 n') (b := n == n') (z := zn) (by rw [c1]; exact un) a1 (by rw [b1]; rfl) (by rw [b1]; rfl) (by rw [c1]; exact run_equalIn_int W d TN .i64 .i64 n n' (IntTy.out))]
  rw [run_eqFields_cons (x := .string s) (y := .string s') (b := s.toList == s'.toList) (z := zs) (by rw [c2]; exact us) a2 (by rw [b2]; rfl) (by rw [b2]; rfl) (by rw [c2]; exact run_equalIn_string W d TS s s' (StrTy.out))]
  simp only [Op.eqFields, Sem.run_pure]
  cases k == k' <;> cases n == n' <;> cases s.toList == s'.toList <;> rfl

end Go.Sx
namespace Go.Proofs.YtalfmomnaghahaaDoor.Sw
open Go.RowKit Go.Sx

-- pieces

theorem run_eqOp (o o' : OpD) (W : World) : (Op.equalIn 10000 41 (.agg ⟨opCells o⟩) (.agg ⟨opCells o'⟩)).run Tryd.prog W = .ok (eqOp o o') W := by
  rw [show (10000 : Nat) = 9999 + 1 from rfl, run_equalIn_agg W 9999 41 _ _ Tryd.underlying41 (by kernel_rfl)]
  have hF : (Program.fieldsOf Tryd.prog 41).toList.map (fun f => (f.name != "_", f.offset, f.type)) = [(true, 0, 3), (true, 1, 9), (true, 2, 39), (true, 5, 39), (true, 8, 2)] := by kernel_rfl
  obtain ⟨f0, r0, e0, m0, hr0⟩ := List.map_eq_cons_iff.1 hF
  obtain ⟨f1, r1, e1, m1, hr1⟩ := List.map_eq_cons_iff.1 hr0
  obtain ⟨f2, r2, e2, m2, hr2⟩ := List.map_eq_cons_iff.1 hr1
  obtain ⟨f3, r3, e3, m3, hr3⟩ := List.map_eq_cons_iff.1 hr2
  obtain ⟨f4, r4, e4, m4, hr4⟩ := List.map_eq_cons_iff.1 hr3
  have hr5 := List.map_eq_nil_iff.1 hr4
  subst hr5 e4 e3 e2 e1
  rw [e0]
  clear hF hr0 hr1 hr2 hr3 hr4 e0
  simp only [Prod.mk.injEq] at m0 m1 m2 m3 m4
  obtain ⟨a0, b0, c0⟩ := m0
  obtain ⟨a1, b1, c1⟩ := m1
  obtain ⟨a2, b2, c2⟩ := m2
  obtain ⟨a3, b3, c3⟩ := m3
  obtain ⟨a4, b4, c4⟩ := m4
  rw [run_eqFields_cons (x := .int .i64 o.kind) (y := .int .i64 o'.kind) (b := o.kind == o'.kind) (z := [.int .i64 0]) (by rw [c0]; infer_instance) a0 (by rw [b0]; rfl) (by rw [b0]; rfl) (by rw [c0]; exact run_equalIn_int W 9998 3 .i64 .i64 _ _ (IntTy.out))]
  rw [run_eqFields_cons (x := .string o.key) (y := .string o'.key) (b := o.key.toList == o'.key.toList) (z := [.string ⟨#[]⟩]) (by rw [c1]; infer_instance) a1 (by rw [b1]; rfl) (by rw [b1]; rfl) (by rw [c1]; exact run_equalIn_string W 9998 9 _ _ (StrTy.out))]
  rw [run_eqFields_agg (cx := [.int .i64 o.vk, .int .i64 o.vn, .string o.vs]) (cy := [.int .i64 o'.vk, .int .i64 o'.vn, .string o'.vs]) (b := rawEq o.vk o.vn o.vs o'.vk o'.vn o'.vs) (z := [.int .i64 0, .int .i64 0, .string ⟨#[]⟩]) (by rw [c2]; infer_instance) a2 (by rw [b2]; rfl) (by rw [b2]; rfl) (by rw [c2]; exact run_eq3d 9997 Tryd.underlying39 (by kernel_rfl) (by kernel_rfl : _ = [(true, 0, 3), (true, 1, 2), (true, 2, 9)]) _ _ _ _ _ _ W)]
  rw [run_eqFields_agg (cx := [.int .i64 o.ok, .int .i64 o.on, .string o.os]) (cy := [.int .i64 o'.ok, .int .i64 o'.on, .string o'.os]) (b := rawEq o.ok o.on o.os o'.ok o'.on o'.os) (z := [.int .i64 0, .int .i64 0, .string ⟨#[]⟩]) (by rw [c3]; infer_instance) a3 (by rw [b3]; rfl) (by rw [b3]; rfl) (by rw [c3]; exact run_eq3d 9997 Tryd.underlying39 (by kernel_rfl) (by kernel_rfl : _ = [(true, 0, 3), (true, 1, 2), (true, 2, 9)]) _ _ _ _ _ _ W)]
  rw [run_eqFields_cons (x := .int .i64 o.n) (y := .int .i64 o'.n) (b := o.n == o'.n) (z := [.int .i64 0]) (by rw [c4]; infer_instance) a4 (by rw [b4]; rfl) (by rw [b4]; rfl) (by rw [c4]; exact run_equalIn_int W 9998 2 .i64 .i64 _ _ (IntTy.out))]
  simp only [Op.eqFields, Sem.run_pure]
  unfold eqOp
  cases o.kind == o'.kind <;> cases o.key.toList == o'.key.toList <;> cases rawEq o.vk o.vn o.vs o'.vk o'.vn o'.vs <;> cases rawEq o.ok o.on o.os o'.ok o'.on o'.os <;> cases o.n == o'.n <;> rfl

section

variable {ops : Array Oper} {rest : List Oper} {Q : Exit → Act → World → Prop} {a : Act} {n : Nat} {L : List (Nat × Value)} {W : World} {d : Nat} {T S' : TypeId} {p : String} {e : Array Edge} {x y : Operand} {o o' : OpD}

theorem st_opNeq (hs : Slots a n L) (hx : ev L x = some (.agg ⟨opCells o⟩) := by with_unfolding_all exact rfl) (hy : ev L y = some (.agg ⟨opCells o'⟩) := by with_unfolding_all exact rfl) (hd : Nat.blt d n = true := by with_unfolding_all exact rfl)
    (c : ∀ a', Slots a' n ((d, .bool (!eqOp o o')) :: L) → wpList Tryd.prog ops Q rest a' W) : wpList Tryd.prog ops Q (⟨some d, .binOp .neq 41 x y S', T, p, e, none⟩ :: rest) a W :=
  st_value hs hd (by simp only [execOp, hs.ev hx, hs.ev hy, Sem.run_bind]; rw [run_eqGuard_agg W .neq 41 x y _ _ (by kernel_rfl)]; simp only [Result.andThen_ok]; rw [run_neq_struct, run_eqOp]; rfl) c

end

def eqL (l l' : List OpD) : Bool := (l.length == l'.length) && eqOps l l'

/-- Two rows: the same? -/
def sameR (a b : RowD) : Bool := (a.place == b.place) && ((a.err == b.err) && ((a.b.c == b.b.c) && ((a.b.q == b.b.q) && eqL a.b.l b.b.l)))

end Go.Proofs.YtalfmomnaghahaaDoor.Sw
