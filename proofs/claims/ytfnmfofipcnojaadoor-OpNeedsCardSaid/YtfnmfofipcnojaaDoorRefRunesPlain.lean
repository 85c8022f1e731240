/-
  Plain law: what the reference lists of a text's runes: the runes, where each begins, whether all are true ones.
-/
import Derived.Test.YtfnmfofipcnojaaDoorRefPlain
import Derived.Deep.Draws
set_option linter.unusedVariables false
namespace Ph
open Go Go.Lib

def offsFrom : Nat → List (Nat × Nat) → List Nat
  | _, [] => []
  | a, q :: p => a :: offsFrom (a + q.2) p
def offs (p : List (Nat × Nat)) : List Nat := offsFrom 0 p
theorem offsFrom_snoc : ∀ (p : List (Nat × Nat)) (a : Nat) (q : Nat × Nat), offsFrom a (p ++ [q]) = offsFrom a p ++ [a + wid p]
  | [], a, q => by simp [offsFrom, wid_nil]
  | x :: p, a, q => by
    simp only [List.cons_append, offsFrom, offsFrom_snoc p, wid_cons]
    simp; omega
theorem offs_snoc (p : List (Nat × Nat)) (q : Nat × Nat) : offs (p ++ [q]) = offs p ++ [wid p] := by
  unfold offs; rw [offsFrom_snoc]; simp
theorem offsFrom_len : ∀ (p : List (Nat × Nat)) (a : Nat), (offsFrom a p).length = p.length
  | [], _ => rfl
  | x :: p, a => by simp [offsFrom, offsFrom_len p]
theorem offs_len (p : List (Nat × Nat)) : (offs p).length = p.length := offsFrom_len p 0
theorem offsFrom_get : ∀ (p : List (Nat × Nat)) (a k : Nat), k < p.length → (offsFrom a p)[k]? = some (a + wid (p.take k))
  | [], _, _, h => by simp at h
  | x :: p, a, 0, _ => by simp [offsFrom, wid_nil]
  | x :: p, a, k + 1, h => by
    simp only [offsFrom, List.getElem?_cons_succ, List.take_succ_cons, wid_cons]
    rw [offsFrom_get p (a + x.2) k (by simpa using h)]
    simp; omega
theorem offs_get (p : List (Nat × Nat)) (k : Nat) (h : k < p.length) : (offs p)[k]? = some (wid (p.take k)) := by
  unfold offs; rw [offsFrom_get p 0 k h]; simp

/-- Is each rune but U+FFFD, or one of three bytes? -/
def goodB (p : List (Nat × Nat)) : Bool := p.all fun q => !(q.1 == 65533) || q.2 == 3
theorem goodB_snoc (p : List (Nat × Nat)) (q : Nat × Nat) : goodB (p ++ [q]) = (goodB p && (!(q.1 == 65533) || q.2 == 3)) := by simp [goodB]
theorem good_a {g : Bool} {d : Nat × Nat} (hg : g = true) (h : (d.1 : Int) = 65533) : ((d.2 : Int) == 3) = (g && (!(d.1 == 65533) || d.2 == 3)) := by
  have h1 : d.1 = 65533 := by omega
  have e : ((d.2 : Int) == 3) = (d.2 == 3) := by
    rw [Bool.eq_iff_iff, beq_iff_eq, beq_iff_eq]
    omega
  rw [e]
  simp [hg, h1]
theorem good_b {g : Bool} {d : Nat × Nat} (hg : g = true) (h : ¬ (d.1 : Int) = 65533) : true = (g && (!(d.1 == 65533) || d.2 == 3)) := by
  have h1 : ¬ d.1 = 65533 := by omega
  simp [hg, h1]
theorem good_c {g : Bool} {d : Nat × Nat} (hg : ¬ g = true) : false = (g && (!(d.1 == 65533) || d.2 == 3)) := by
  simp at hg; simp [hg]
theorem err_width (l : List UInt8) (h : (decodeL l).1 = 65533) : (decodeL l).2 = 1 ∨ (decodeL l).2 = 3 := by
  rw [decodeL_N] at h ⊢
  have h1 := (l.getD 1 0).toNat_lt
  rcases decodeN_shape l.length (l.getD 0 0).toNat (l.getD 1 0).toNat (l.getD 2 0).toNat (l.getD 3 0).toNat with ⟨c, e⟩ | ⟨c1, c2, c3, cv, e⟩ | ⟨c1, c2, c3, c4, cv, cs, e⟩ | ⟨c1, c2, c3, c4, c5, cv, cw, e⟩ | e
  all_goals (rw [e] at h ⊢; simp only at h ⊢)
  · omega
  · omega
  · exact .inr trivial
  · omega
  · exact .inl trivial
theorem goodB_rs : ∀ l : List UInt8, goodB (rs l) = validD l :=
  rs_induct rfl (fun l he ih => by
    rw [rs_step l he, validD_step l he, goodB, List.all_cons]
    show (_ && goodB (rs (l.drop (decodeL l).2))) = _
    rw [ih]
    by_cases h : (decodeL l).1 = 65533
    · rcases err_width l h with h2 | h2
      · simp [h, h2]
      · simp [h, h2]
    · simp [h])

theorem decZ_extract (s : ByteArray) (pos : Nat) (h : pos < s.size) : decZ (s.extract pos s.size).data.toList = Utf8.decode s pos := by
  have hs : (s.extract pos s.size).size = s.size - pos := by simp
  rw [(decZ_ne (s := s.extract pos s.size) (by omega)).1, extract_drop, decodeL_drop]

def runeVals (p : List (Nat × Nat)) : List Value := p.map fun q => Value.int .i32 q.1
def intVals (l : List Nat) : List Value := l.map fun (n : Nat) => Value.int .i64 (n : Int)
theorem runeVals_snoc (p : List (Nat × Nat)) (q : Nat × Nat) : runeVals (p ++ [q]) = runeVals p ++ [.int .i32 q.1] := by simp [runeVals]
theorem intVals_snoc (p : List Nat) (q : Nat) : intVals (p ++ [q]) = intVals p ++ [.int .i64 q] := by simp [intVals]
theorem runeVals_get (p : List (Nat × Nat)) (k : Nat) (h : k < p.length) : (runeVals p)[k]? = some (.int .i32 (p[k]'h).1) := by simp [runeVals, h]
theorem intVals_get (p : List Nat) (k : Nat) (x : Nat) (h : p[k]? = some x) : (intVals p)[k]? = some (.int .i64 x) := by simp [intVals, h]
end Ph
