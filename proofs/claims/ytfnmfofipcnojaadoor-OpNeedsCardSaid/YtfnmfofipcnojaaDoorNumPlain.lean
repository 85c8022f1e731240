/-
  Plain law: numbers as bytes ('putI', 'getI'), texts behind their length. No program in sight.
-/
namespace Ph

/-- A number's bytes, seven bits each, the least first. -/
def putN : Nat → Nat → List UInt8
  | 0, _ => []
  | f + 1, u => if u < 128 then [u.toUInt8] else (u % 128 + 128).toUInt8 :: putN f (u / 128)
def putU (u : Nat) : List UInt8 := putN 10 u
/-- Signed as unsigned. -/
def zig (n : Int) : Nat := if 0 ≤ n then (2 * n).toNat else (-2 * n - 1).toNat
def unzig (u : Nat) : Int := if u % 2 = 1 then -((u / 2 : Nat) : Int) - 1 else ((u / 2 : Nat) : Int)
def putI (n : Int) : List UInt8 := putU (zig n)

/-- What bytes begin with: the number, how many bytes, the error. -/
def getN : Nat → Nat → List UInt8 → Int × Nat × Int
  | _, _, [] => (0, 0, 2)
  | i, u, c :: t =>
    if i = 9 ∧ 1 < c.toNat then (0, 0, 1)
    else if 128 ≤ c.toNat then getN (i + 1) (u + c.toNat % 128 * 128 ^ i) t
    else if 0 < i ∧ c.toNat = 0 then (0, 0, 1)
    else (unzig (u + c.toNat % 128 * 128 ^ i), i + 1, 0)
def getI (l : List UInt8) : Int × Nat × Int := getN 0 0 l

def putT (s : List UInt8) : List UInt8 := putI s.length ++ s
def getT (l : List UInt8) : List UInt8 × Nat × Int :=
  let g := getI l
  if g.2.2 ≠ 0 then ([], 0, g.2.2)
  else if g.1 < 0 ∨ 1048576 < g.1 then ([], 0, 1)
  else if (l.length - g.2.1 : Nat) < g.1.toNat then ([], 0, 2)
  else ((l.drop g.2.1).take g.1.toNat, g.2.1 + g.1.toNat, 0)

theorem zig_lt {n : Int} (h0 : -9223372036854775808 ≤ n) (h1 : n ≤ 9223372036854775807) : zig n < 18446744073709551616 := by
  unfold zig; split <;> omega
theorem unzig_zig (n : Int) : unzig (zig n) = n := by
  unfold unzig zig; split <;> split <;> omega

theorem putN_length_le : ∀ f u, (putN f u).length ≤ f
  | 0, _ => by simp [putN]
  | f + 1, u => by
    simp only [putN]
    split
    · simp
    · have := putN_length_le f (u / 128)
      simp; omega
theorem putI_length_le (n : Int) : (putI n).length ≤ 10 := putN_length_le 10 _
theorem putI_ne_nil (n : Int) : putI n ≠ [] := by
  unfold putI putU
  simp only [putN]
  split <;> simp
end Ph
