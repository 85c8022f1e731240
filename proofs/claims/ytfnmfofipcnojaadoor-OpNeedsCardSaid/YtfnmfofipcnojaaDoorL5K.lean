/-
  What the walks of chapter 5's laws share: operations as they come in.
-/
import Derived.Test.YtfnmfofipcnojaaDoorS5S
import Derived.Test.YtfnmfofipcnojaaDoorS5L
import Derived.Test.YtfnmfofipcnojaaDoorSshort
import Derived.DataShut
set_option linter.unusedVariables false
namespace Go.Proofs.YtfnmfofipcnojaaDoor.Sw
open Go.RowKit Go.Sx

/-- An operation as it comes in. -/
structure OpWf (o : OpD) : Prop where
  kind : (Lit.int .i64 o.kind).wf = true
  vk : (Lit.int .i64 o.vk).wf = true
  vn : (Lit.int .i64 o.vn).wf = true
  ok : (Lit.int .i64 o.ok).wf = true
  on : (Lit.int .i64 o.on).wf = true
  n : (Lit.int .i64 o.n).wf = true
  key : o.key.size ≤ maxLen
  vs : o.vs.size ≤ maxLen
  os : o.os.size ≤ maxLen
theorem max63 {n : Nat} (h : n ≤ maxLen) : n ≤ 9223372036854775807 := by
  have : (maxLen : Nat) ≤ 9223372036854775807 := by decide
  omega
theorem wf_i64 {n : Int} (h : (Lit.int .i64 n).wf = true) : i64 n := by
  have := (Lit.wf_int_iff .i64 n).1 h
  show -9223372036854775808 ≤ n ∧ n ≤ 9223372036854775807
  simpa [IntKind.min, IntKind.max, IntKind.signed, IntKind.bits] using this
theorem cutO_ok {o : OpD} (h : OpWf o) : OpOk (cutO o) := by
  have h1 := cutS_size o.key 90
  have h2 := cutS_size o.vs 220
  have h3 := cutS_size o.os 220
  exact ⟨wf_i64 h.kind, wf_i64 h.vk, wf_i64 h.vn, wf_i64 h.ok, wf_i64 h.on, wf_i64 h.n, by show (cutS o.key 90).size ≤ _; omega, by show (cutS o.vs 220).size ≤ _; omega, by show (cutS o.os 220).size ≤ _; omega⟩
theorem cutD_ok {l : List OpD} (h : ∀ o ∈ l, OpWf o) : ∀ o ∈ cutD l, OpOk o := by
  intro o ho
  obtain ⟨x, hx, rfl⟩ := List.mem_map.1 ho
  exact cutO_ok (h x (List.mem_of_mem_take hx))
theorem wf_sizes {l : List OpD} (h : ∀ o ∈ l, OpWf o) : ∀ o ∈ l, o.key.size ≤ 9223372036854775807 ∧ o.vs.size ≤ 9223372036854775807 ∧ o.os.size ≤ 9223372036854775807 :=
  fun o ho => ⟨max63 (h o ho).key, max63 (h o ho).vs, max63 (h o ho).os⟩
theorem decR_cases (b : List UInt8) : (∃ c q l, decR b = ((c, q, l), 0) ∧ mayBatch c q l = true ∧ textB c q l = b ∧ decode b = some (c, q, l)) ∨ (decR b = ((0, 0, []), 1) ∧ decode b = none) := by
  cases h : decode b with
  | none => exact .inr ⟨decR_none h, rfl⟩
  | some p =>
    obtain ⟨c, q, l⟩ := p
    have := decode_some h
    exact .inl ⟨c, q, l, by unfold decR; rw [h], this.1, this.2.1, rfl⟩
def encB (c q : Int) (l : List OpD) : List UInt8 := if mayBatch c q l then textB c q l else []
theorem encB_cases (c q : Int) (l : List OpD) : (mayBatch c q l = false ∧ encB c q l = []) ∨ (mayBatch c q l = true ∧ encB c q l = textB c q l ∧ 0 < (textB c q l).length) := by
  unfold encB
  cases h : mayBatch c q l with
  | false => exact .inl ⟨rfl, rfl⟩
  | true => exact .inr ⟨rfl, rfl, textB_pos c q l⟩
theorem textB_le {c q : Int} {l : List OpD} (hl : l.length ≤ 10) (ho : ∀ o ∈ l, OpOk o) : (textB c q l).length ≤ 40000000 := by
  have h1 := headB_le c q l.length
  have h2 := ops_le ho
  unfold textB
  rw [List.length_append]; omega
end Go.Proofs.YtfnmfofipcnojaaDoor.Sw
