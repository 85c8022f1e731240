/-
  Words for memory, used by all walks of this seat: a slice of bytes that the call owns, a slice of bytes that is read, and what becomes of them.
-/
import Derived.WalkKit
import Derived.WalkLawsBesides
import Derived.Laws.IdiomStrings
import Derived.Lib.UnsafeStr
import Derived.Lib.RuneBytes
import Derived.Deep.AppendLies
import Derived.Deep.Draws
set_option linter.unusedVariables false
namespace Go.Proofs.YtfnmfofipcnojaaDoor
open Go.RowKit

section
variable {P : Program} {w w' : World} {base e : Nat} {v : Value} {l : List UInt8}

theorem byteCells_len (l : List UInt8) : (Lib.byteCells l).length = l.length := by simp [Lib.byteCells]
theorem byteCells_app (a b : List UInt8) : Lib.byteCells (a ++ b) = Lib.byteCells a ++ Lib.byteCells b := by simp [Lib.byteCells]
theorem byteCells_get (l : List UInt8) (j : Nat) (h : j < l.length) : (Lib.byteCells l)[j]? = some (.int .u8 l[j].toNat) := by
  simp [Lib.byteCells, h]

/-- 'string(b)' of bytes that the call owns. -/
theorem run_string_own (src dst e : TypeId) (hs : P.underlying src = some (.slice e)) (he : P.underlying e = some (.int .u8)) (hd : P.underlying dst = some .string)
    (h : w.ownsRow base e 1 v l.length (Lib.byteCells l)) : (convert src dst v).run P w = .ok (.string ⟨l.toArray⟩) w := by
  rcases h.2 with ⟨rfl, h0⟩ | ⟨g, cap, cur, rfl, _, hg, hn, hm, hsz, hx⟩
  · have : l = [] := List.length_eq_zero_iff.1 h0
    subst this
    rw [run_convert_bytes_string w src dst e none 0 0 hs he hd]
    simp [Conv.bytesToString]
    rfl
  · refine run_convert_bytes_back w src dst e ⟨g, 0, none⟩ cap l hs he hd fun j hj => ?_
    exact h.cells (g := g) rfl j _ (byteCells_get l j hj)

/-- What the call owns stays while nothing that lies is written. -/
theorem own_below {size n : Nat} {xs : List Value} (h : w.ownsRow base e size v n xs) (hb : Below w.heap.size w w') : w'.ownsRow base e size v n xs := by
  refine ⟨h.1, ?_⟩
  rcases h.2 with hn | ⟨g, cap, cur, rfl, hg, hh, rest⟩
  · exact .inl hn
  · exact .inr ⟨g, cap, cur, rfl, hg, (hb.block g (Array.getElem?_eq_some_iff.1 hh).1).trans hh, rest⟩
/-- The value of a row that the call owns, and its cells. -/
theorem own_slice {size n : Nat} {xs : List Value} (h : w.ownsRow base e size v n xs) : ∃ A c, v = .slice A n c ∧ n ≤ c ∧ c ≤ maxLen ∧ (0 < n → ∃ g, A = some ⟨g, 0, none⟩ ∧ ∀ j, j < n * size → w.cell? ⟨g, j, none⟩ = xs[j]?) := by
  rcases h.2 with ⟨rfl, rfl⟩ | ⟨g, cap, cur, rfl, hg, hh, hnc, hm, hsz, hx⟩
  · exact ⟨none, 0, rfl, by omega, by omega, fun h => by omega⟩
  · exact ⟨_, cap, rfl, hnc, hm, fun _ => ⟨g, rfl, fun j hj => h.cellAt j hj⟩⟩
/-- One byte more. -/
theorem own_snoc {z : Int} {c : UInt8} (h : w.ownsRow base e 1 v (l.length + 1) (Lib.byteCells l ++ [.int .u8 z])) (hz : z = (c.toNat : Int)) : w.ownsRow base e 1 v (l ++ [c]).length (Lib.byteCells (l ++ [c])) := by
  subst hz
  rw [byteCells_app, List.length_append]
  exact h
theorem own_more {xs : List UInt8} {n : Nat} {cs : List Value} (h : w.ownsRow base e 1 v n (Lib.byteCells l ++ cs)) (hn : n = l.length + xs.length) (hc : cs = Lib.byteCells xs) : w.ownsRow base e 1 v (l ++ xs).length (Lib.byteCells (l ++ xs)) := by
  subst hn hc
  rw [byteCells_app, List.length_append]
  exact h
theorem bytes_app (a b : List UInt8) : (⟨a.toArray⟩ : ByteArray) ++ ⟨b.toArray⟩ = ⟨(a ++ b).toArray⟩ := by
  apply ByteArray.ext
  simp
end
end Go.Proofs.YtfnmfofipcnojaaDoor
