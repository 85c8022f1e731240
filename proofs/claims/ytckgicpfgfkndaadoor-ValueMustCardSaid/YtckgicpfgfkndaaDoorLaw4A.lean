/-
  The walks of chapter 4's laws.
-/
import Derived.Test.YtckgicpfgfkndaaDoorValueC
set_option linter.unusedVariables false
namespace Go.Proofs.YtckgicpfgfkndaaDoor
open Go.RowKit

theorem ofRaw_cases (k n : Int) (s : ByteArray) :
    ((ofRaw k n s).2 = 0 ∧ k = 1 ∧ (ofRaw k n s).1 = some (.inl n)) ∨ ((ofRaw k n s).2 = 0 ∧ (k == 1) = false ∧ isInt (ofRaw k n s).1 = false ∧ intIn (ofRaw k n s).1 = 0) ∨ ((ofRaw k n s).2 = 1 ∧ isInt (ofRaw k n s).1 = false ∧ intIn (ofRaw k n s).1 = 0) := by
  unfold ofRaw
  split
  · rename_i h
    exact .inr (.inl ⟨rfl, by simp [h.1], rfl, rfl⟩)
  split
  · rename_i h
    exact .inl ⟨rfl, h.1, rfl⟩
  split
  · rename_i h
    exact .inr (.inl ⟨rfl, by simp [h.1], rfl, rfl⟩)
  · exact .inr (.inr ⟨rfl, rfl, rfl⟩)

/-- A raw value lies at a block. -/
def RawAt (W : World) (b : Nat) (k n : Int) (s : ByteArray) : Prop :=
  W.cell? ⟨b, 0, none⟩ = some (.int .i64 k) ∧ W.cell? ⟨b, 1, none⟩ = some (.int .i64 n) ∧ W.cell? ⟨b, 2, none⟩ = some (.string s) ∧ W.frozen? ⟨b, 0, none⟩ = false ∧ W.frozen? ⟨b, 1, none⟩ = false ∧ W.frozen? ⟨b, 2, none⟩ = false ∧ b < W.heap.size
theorem RawAt.new (w : World) (k n : Int) (s : ByteArray) (t : TypeId) : RawAt (w.alloc (.cells #[.int .i64 k, .int .i64 n, .string s] t)) w.heap.size k n s := by
  refine ⟨?_, ?_, ?_, ?_, ?_, ?_, ?_⟩ <;> simp [go_sem]
theorem RawAt.keep {W W' : World} {b : Nat} {k n : Int} {s : ByteArray} (h : RawAt W b k n s) (hb : Below W.heap.size W W') : RawAt W' b k n s := by
  obtain ⟨a1, a2, a3, f1, f2, f3, z⟩ := h
  exact ⟨(hb.cell (p := ⟨b, 0, none⟩) z).trans a1, (hb.cell (p := ⟨b, 1, none⟩) z).trans a2, (hb.cell (p := ⟨b, 2, none⟩) z).trans a3, (hb.frozen (p := ⟨b, 0, none⟩) z).trans f1, (hb.frozen (p := ⟨b, 1, none⟩) z).trans f2, (hb.frozen (p := ⟨b, 2, none⟩) z).trans f3, Nat.lt_of_lt_of_le z hb.size⟩
theorem RawAt.past {W : World} {b : Nat} {k n : Int} {s : ByteArray} (h : RawAt W b k n s) (o : Obj) : RawAt (W.alloc o) b k n s := h.keep ((Below.refl _ _).alloc (Nat.le_refl _) _)

theorem RawAt.set {W : World} {b : Nat} {k n : Int} {s : ByteArray} (h : RawAt W b k n s) (k' n' : Int) (s' : ByteArray) : RawAt (((W.setCell ⟨b, 0, none⟩ (.int .i64 k')).setCell ⟨b, 1, none⟩ (.int .i64 n')).setCell ⟨b, 2, none⟩ (.string s')) b k' n' s' := by
  obtain ⟨a1, a2, a3, f1, f2, f3, z⟩ := h
  refine ⟨?_, ?_, ?_, ?_, ?_, ?_, ?_⟩
  · rw [World.cell?_setCell_other _ _ _ _ (by simp), World.cell?_setCell_other _ _ _ _ (by simp)]
    exact World.cell?_setCell_same _ _ _ a1
  · rw [World.cell?_setCell_other _ _ _ _ (by simp)]
    exact World.cell?_setCell_same _ _ _ (u := .int .i64 n) (by rw [World.cell?_setCell_other _ _ _ _ (by simp)]; exact a2)
  · exact World.cell?_setCell_same _ _ _ (u := .string s) (by rw [World.cell?_setCell_other _ _ _ _ (by simp), World.cell?_setCell_other _ _ _ _ (by simp)]; exact a3)
  · simp [go_sem, f1]
  · simp [go_sem, f2]
  · simp [go_sem, f3]
  · simpa using z

set_option maxRecDepth 100000 in
set_option maxHeartbeats 4000000 in
theorem walk_ValueMust (k n : Int) (s : ByteArray) (w : World) (hk : (Lit.int .i64 k).wf = true) (hn : (Lit.int .i64 n).wf = true) (hs : s.size ≤ 9223372036854775807) (hT : Tabs w) :
    Calls Tryd.prog 4 #[.agg #[.int .i64 k, .int .i64 n, .string s]] w fun e w' => e = .returned (.bool true) ∧ Below w.heap.size w w' := by
  have h1 : ∀ W : World, Calls Tryd.prog 11 #[.agg #[.int .i64 k, .int .i64 n, .string s]] W fun e w' => e = .returned (.agg #[.int .i64 k, .int .i64 n, .string (cutS s 220)]) ∧ Below W.heap.size W w' := fun W => law4_Cut k n s W hs
  have hc := cutS_size s 220
  generalize cutS s 220 = c at *
  have h2 : ∀ W : World, Tabs W → Calls Tryd.prog 12 #[.agg #[.int .i64 k, .int .i64 n, .string c]] W fun e w' => e = .returned (.tuple #[.agg #[vCell (ofRaw k n c).1], .int .i64 (ofRaw k n c).2]) ∧ Below W.heap.size W w' := fun W h => value_Of k n c W (by omega) h
  have h3 : ∀ (x : Option (Int ⊕ ByteArray)) (W : World), Calls Tryd.prog 15 #[.agg #[vCell x]] W fun e w' => e = .returned (.tuple #[.int .i64 (intIn x), .bool (isInt x)]) ∧ Below W.heap.size W w' := fun x W => must_any x W
  have st : ∀ (x : Option (Int ⊕ ByteArray)) (a : Addr) (m : Mode) (W : World), (store a (vCell x) m).run Tryd.prog W = stored Tryd.prog W a (vCell x) m := fun x a m W => run_store _ W a _ m (by rcases x with _ | n | s <;> rfl)
  have hcs := ofRaw_cases k n c
  generalize (ofRaw k n c).1 = x at *
  generalize (ofRaw k n c).2 = e at *
  generalize vCell = V at *
  have H1 := Lib.hid h1
  have H2 := Lib.hid h2
  have H3 := Lib.hid h3
  have HC := Lib.hid hcs
  clear h1 h2 h3 hcs hc hs hk hn
  go_enter Tryd.func4, Tryd.ntmps4
  go_wp2_with fail
  refine (law4_begun _ (hT.keep ((Below.refl _ _).alloc (Nat.le_refl _) _))).mono ?_
  rintro e0 w1 ⟨rfl, hbb⟩
  have R1 := (RawAt.new w k n s 23).keep hbb
  have B1 := bjoin ((Below.refl _ _).alloc (Nat.le_refl _) _) hbb
  clear hbb
  obtain ⟨a1, a2, a3, f1, f2, f3, z1⟩ := R1
  go_wp2_with fail
  refine (H1.out _).mono ?_
  rintro e0 w2 ⟨rfl, hbb⟩
  have R2 := RawAt.keep ⟨a1, a2, a3, f1, f2, f3, z1⟩ hbb
  have B2 := bjoin B1 hbb
  clear a1 a2 a3 f1 f2 f3 z1 hbb B1
  obtain ⟨a1, a2, a3, f1, f2, f3, z2⟩ := R2
  go_wp2_with fail
  have R3 := RawAt.set ⟨a1, a2, a3, f1, f2, f3, z2⟩ k n c
  have B3 := ((B2.setCell (p := ⟨w.heap.size, 0, none⟩) (Nat.le_refl _) (.int .i64 k)).setCell (p := ⟨w.heap.size, 1, none⟩) (Nat.le_refl _) (.int .i64 n)).setCell (p := ⟨w.heap.size, 2, none⟩) (Nat.le_refl _) (.string c)
  generalize ((w2.setCell ⟨w.heap.size, 0, none⟩ (.int .i64 k)).setCell ⟨w.heap.size, 1, none⟩ (.int .i64 n)).setCell ⟨w.heap.size, 2, none⟩ (.string c) = w3 at *
  clear a1 a2 a3 f1 f2 f3 z2 B2
  refine (H2.out _ (hT.keep B3)).mono ?_
  rintro e0 w4 ⟨rfl, hbb⟩
  have R4 := R3.keep hbb
  have B4 := bjoin B3 hbb
  clear R3 B3 hbb
  have sV := st x
  go_wp2_with fail
  refine (H3.out _ _).mono ?_
  rintro e0 w5 ⟨rfl, hbb⟩
  have R5 := (R4.past _).keep hbb
  have B5 := bjoin (B4.alloc B4.size _) hbb
  clear R4 B4 hbb sV
  obtain ⟨a1, a2, a3, f1, f2, f3, z5⟩ := R5
  rcases HC.out with ⟨he, hk, hx⟩ | ⟨he, hk, hx, hn⟩ | ⟨he, hx, hn⟩
  · subst he hk hx
    clear HC H1 H2 H3 st
    simp only [intIn, isInt]
    go_wp2
    go_ret
    exact ⟨rfl, B5⟩
  · subst he
    clear HC H1 H2 H3 st
    rw [hx, hn]
    clear hx hn
    go_wp2
    go_ret
    exact ⟨rfl, B5⟩
  · subst he
    clear HC H1 H2 H3 st
    rw [hx, hn]
    clear hx hn
    go_wp2
    go_ret
    exact ⟨rfl, B5⟩

/-- A value lies at a block. -/
def CellAt (W : World) (b : Nat) (v : Value) : Prop := W.cell? ⟨b, 0, none⟩ = some v ∧ b < W.heap.size
theorem CellAt.keep {W W' : World} {b : Nat} {v : Value} (h : CellAt W b v) (hb : Below W.heap.size W W') : CellAt W' b v :=
  ⟨(hb.cell (p := ⟨b, 0, none⟩) h.2).trans h.1, Nat.lt_of_lt_of_le h.2 hb.size⟩
theorem CellAt.past {W : World} {b : Nat} {v : Value} (h : CellAt W b v) (o : Obj) : CellAt (W.alloc o) b v := h.keep ((Below.refl _ _).alloc (Nat.le_refl _) _)
theorem CellAt.new (W : World) (v : Value) (t : TypeId) : CellAt (W.alloc (.cells #[v] t)) W.heap.size v := ⟨by simp [go_sem], by simp⟩

set_option maxRecDepth 100000 in
set_option maxHeartbeats 4000000 in
theorem walk_ValueInts (n : Int) (w : World) (hn : (Lit.int .i64 n).wf = true) (hT : Tabs w) :
    Calls Tryd.prog 5 #[.int .i64 n] w fun e w' => e = .returned (.bool true) ∧ Below w.heap.size w w' := by
  have h0 : ∀ W : World, Tabs W → Calls Tryd.prog 10 #[] W fun e w' => e = .returned (.bool true) ∧ Below W.heap.size W w' := fun W h => law4_begun W h
  have h1 : ∀ W : World, Calls Tryd.prog 12 #[.agg #[.int .i64 1, .int .i64 n, .string ⟨#[]⟩]] W fun e w' => e = .returned (.tuple #[.agg #[vCell (some (.inl n))], .int .i64 0]) ∧ Below W.heap.size W w' := fun W => of_int n ⟨#[]⟩ (by decide) W (by decide)
  have h2 : ∀ W : World, Tabs W → Calls Tryd.prog 12 #[.agg #[.int .i64 2, .int .i64 0, .string ⟨#[]⟩]] W fun e w' => e = .returned (.tuple #[.agg #[vCell (some (.inr ⟨#[]⟩))], .int .i64 0]) ∧ Below W.heap.size W w' := fun W h => of_text ⟨#[]⟩ (by decide) (by decide) W (by decide) h
  have h3 : ∀ W : World, Calls Tryd.prog 16 #[.agg #[vCell (some (.inl n))]] W fun e w' => e = .returned (.tuple #[.int .i64 n, .bool true]) ∧ Below W.heap.size W w' := fun W => AsInt_any _ W
  have h4 : ∀ W : World, Calls Tryd.prog 15 #[.agg #[vCell (some (.inl n))]] W fun e w' => e = .returned (.tuple #[.int .i64 n, .bool true]) ∧ Below W.heap.size W w' := fun W => must_any _ W
  have h5 : ∀ W : World, Calls Tryd.prog 13 #[.agg #[vCell (some (.inl n))], .agg #[vCell (some (.inl n))]] W fun e w' => e = .returned (.bool true) ∧ Below W.heap.size W w' := fun W => by have := value_Eq (some (.inl n)) (some (.inl n)) W; rwa [show eqV (some (.inl n)) (some (.inl n)) = true from by simp [eqV]] at this
  have h6 : ∀ W : World, Calls Tryd.prog 13 #[.agg #[vCell (some (.inl n))], .agg #[vCell (some (.inr ⟨#[]⟩))]] W fun e w' => e = .returned (.bool false) ∧ Below W.heap.size W w' := fun W => value_Eq (some (.inl n)) (some (.inr ⟨#[]⟩)) W
  have h7 : ∀ W : World, Calls Tryd.prog 17 #[.agg #[vCell (some (.inl n))]] W fun e w' => e = .returned (.agg #[.int .i64 1, .int .i64 n, .string ⟨#[]⟩]) ∧ Below W.heap.size W w' := fun W => Raw_any _ W
  have sP : ∀ (a : Addr) (m : Mode) (W : World), (store a (vCell (some (.inl n))) m).run Tryd.prog W = stored Tryd.prog W a (vCell (some (.inl n))) m := fun a m W => run_store _ W a _ m rfl
  have sT : ∀ (a : Addr) (m : Mode) (W : World), (store a (vCell (some (.inr ⟨#[]⟩))) m).run Tryd.prog W = stored Tryd.prog W a (vCell (some (.inr ⟨#[]⟩))) m := fun a m W => run_store _ W a _ m rfl
  generalize vCell (some (.inl n)) = P at *
  generalize vCell (some (.inr ⟨#[]⟩)) = T at *
  have H0 := Lib.hid h0
  have H1 := Lib.hid h1
  have H2 := Lib.hid h2
  have H3 := Lib.hid h3
  have H4 := Lib.hid h4
  have H5 := Lib.hid h5
  have H6 := Lib.hid h6
  have H7 := Lib.hid h7
  clear h0 h1 h2 h3 h4 h5 h6 h7
  have fN := field_N 1 n ⟨#[]⟩
  go_enter Tryd.func5, Tryd.ntmps5
  go_wp2_with fail
  refine (H0.out _ (hT.keep ((Below.refl _ _)))).mono ?_
  rintro e0 w1 ⟨rfl, hbb⟩
  have B1 := hbb
  clear hbb
  go_wp2_with fail
  refine (H1.out _).mono ?_
  rintro e0 w2 ⟨rfl, hbb⟩
  have B2 := bjoin (B1) hbb
  clear hbb B1
  go_wp2_with fail
  refine (H1.out _).mono ?_
  rintro e0 w3 ⟨rfl, hbb⟩
  have D1 := (CellAt.new w2 P 29).keep hbb
  have B3 := bjoin (B2.alloc B2.size _) hbb
  clear hbb B2
  obtain ⟨c1, z1⟩ := D1
  go_wp2_with fail
  refine (H2.out _ (hT.keep (B3.alloc B3.size _))).mono ?_
  rintro e0 w4 ⟨rfl, hbb⟩
  have D1 := CellAt.keep (CellAt.past ⟨c1, z1⟩ _) hbb
  have D2 := (CellAt.new w3 P 29).keep hbb
  have B4 := bjoin (B3.alloc B3.size _) hbb
  clear hbb c1 z1 B3
  obtain ⟨c1, z1⟩ := D1
  obtain ⟨c2, z2⟩ := D2
  go_wp2_with fail
  refine (H3.out _).mono ?_
  rintro e0 w5 ⟨rfl, hbb⟩
  have D1 := CellAt.keep (CellAt.past ⟨c1, z1⟩ _) hbb
  have D2 := CellAt.keep (CellAt.past ⟨c2, z2⟩ _) hbb
  have D3 := (CellAt.new w4 T 29).keep hbb
  have B5 := bjoin (B4.alloc B4.size _) hbb
  clear hbb c1 z1 c2 z2 B4
  obtain ⟨c1, z1⟩ := D1
  obtain ⟨c2, z2⟩ := D2
  obtain ⟨c3, z3⟩ := D3
  go_wp2_with fail
  refine (H4.out _).mono ?_
  rintro e0 w6 ⟨rfl, hbb⟩
  have D1 := CellAt.keep ⟨c1, z1⟩ hbb
  have D2 := CellAt.keep ⟨c2, z2⟩ hbb
  have D3 := CellAt.keep ⟨c3, z3⟩ hbb
  have B6 := bjoin (B5) hbb
  clear hbb c1 z1 c2 z2 c3 z3 B5
  obtain ⟨c1, z1⟩ := D1
  obtain ⟨c2, z2⟩ := D2
  obtain ⟨c3, z3⟩ := D3
  go_wp2_with fail
  refine (H5.out _).mono ?_
  rintro e0 w7 ⟨rfl, hbb⟩
  have D1 := CellAt.keep ⟨c1, z1⟩ hbb
  have D2 := CellAt.keep ⟨c2, z2⟩ hbb
  have D3 := CellAt.keep ⟨c3, z3⟩ hbb
  have B7 := bjoin (B6) hbb
  clear hbb c1 z1 c2 z2 c3 z3 B6
  obtain ⟨c1, z1⟩ := D1
  obtain ⟨c2, z2⟩ := D2
  obtain ⟨c3, z3⟩ := D3
  go_wp2_with fail
  refine (H6.out _).mono ?_
  rintro e0 w8 ⟨rfl, hbb⟩
  have D1 := CellAt.keep ⟨c1, z1⟩ hbb
  have D2 := CellAt.keep ⟨c2, z2⟩ hbb
  have D3 := CellAt.keep ⟨c3, z3⟩ hbb
  have B8 := bjoin (B7) hbb
  clear hbb c1 z1 c2 z2 c3 z3 B7
  obtain ⟨c1, z1⟩ := D1
  obtain ⟨c2, z2⟩ := D2
  obtain ⟨c3, z3⟩ := D3
  go_wp2_with fail
  refine (H7.out _).mono ?_
  rintro e0 w9 ⟨rfl, hbb⟩
  have D1 := CellAt.keep ⟨c1, z1⟩ hbb
  have D2 := CellAt.keep ⟨c2, z2⟩ hbb
  have D3 := CellAt.keep ⟨c3, z3⟩ hbb
  have B9 := bjoin (B8) hbb
  clear hbb c1 z1 c2 z2 c3 z3 B8
  obtain ⟨c1, z1⟩ := D1
  obtain ⟨c2, z2⟩ := D2
  obtain ⟨c3, z3⟩ := D3
  go_wp2
  go_ret
  exact ⟨rfl, B9⟩

set_option maxRecDepth 100000 in
set_option maxHeartbeats 4000000 in
theorem walk_ValueNone (w : World) (hT : Tabs w) :
    Calls Tryd.prog 6 #[] w fun e w' => e = .returned (.bool true) ∧ Below w.heap.size w w' := by
  have h0 : ∀ W : World, Tabs W → Calls Tryd.prog 10 #[] W fun e w' => e = .returned (.bool true) ∧ Below W.heap.size W w' := fun W h => law4_begun W h
  have h1 : ∀ W : World, Calls Tryd.prog 16 #[.agg #[.nilIface]] W fun e w' => e = .returned (.tuple #[.int .i64 0, .bool false]) ∧ Below W.heap.size W w' := fun W => AsInt_any none W
  have h2 : ∀ W : World, Calls Tryd.prog 15 #[.agg #[.nilIface]] W fun e w' => e = .returned (.tuple #[.int .i64 0, .bool false]) ∧ Below W.heap.size W w' := fun W => must_any none W
  have h3 : ∀ W : World, Calls Tryd.prog 12 #[.agg #[.int .i64 1, .int .i64 0, .string ⟨#[]⟩]] W fun e w' => e = .returned (.tuple #[.agg #[vCell (some (.inl 0))], .int .i64 0]) ∧ Below W.heap.size W w' := fun W => of_int 0 ⟨#[]⟩ (by decide) W (by decide)
  have h4 : ∀ W : World, Calls Tryd.prog 12 #[.agg #[.int .i64 0, .int .i64 0, .string ⟨#[]⟩]] W fun e w' => e = .returned (.tuple #[.agg #[.nilIface], .int .i64 0]) ∧ Below W.heap.size W w' := fun W => of_none ⟨#[]⟩ (by decide) W (by decide)
  have h5 : ∀ W : World, Calls Tryd.prog 18 #[.agg #[.nilIface]] W fun e w' => e = .returned (.int .i64 0) ∧ Below W.heap.size W w' := fun W => Kind_any none W
  have h6 : ∀ W : World, Calls Tryd.prog 17 #[.agg #[.nilIface]] W fun e w' => e = .returned (.agg #[.int .i64 0, .int .i64 0, .string ⟨#[]⟩]) ∧ Below W.heap.size W w' := fun W => Raw_any none W
  have h7 : ∀ W : World, Calls Tryd.prog 13 #[.agg #[.nilIface], .agg #[.nilIface]] W fun e w' => e = .returned (.bool true) ∧ Below W.heap.size W w' := fun W => by have := value_Eq none none W; rwa [show eqV none none = true from by simp [eqV]] at this
  have h8 : ∀ W : World, Calls Tryd.prog 13 #[.agg #[.nilIface], .agg #[vCell (some (.inl 0))]] W fun e w' => e = .returned (.bool false) ∧ Below W.heap.size W w' := fun W => value_Eq none (some (.inl 0)) W
  have h9 : ∀ W : World, Calls Tryd.prog 13 #[.agg #[vCell (some (.inl 0))], .agg #[.nilIface]] W fun e w' => e = .returned (.bool false) ∧ Below W.heap.size W w' := fun W => value_Eq (some (.inl 0)) none W
  have sP : ∀ (a : Addr) (m : Mode) (W : World), (store a (vCell (some (.inl 0))) m).run Tryd.prog W = stored Tryd.prog W a (vCell (some (.inl 0))) m := fun a m W => run_store _ W a _ m rfl
  generalize vCell (some (.inl 0)) = P at *
  have H0 := Lib.hid h0
  have H1 := Lib.hid h1
  have H2 := Lib.hid h2
  have H3 := Lib.hid h3
  have H4 := Lib.hid h4
  have H5 := Lib.hid h5
  have H6 := Lib.hid h6
  have H7 := Lib.hid h7
  have H8 := Lib.hid h8
  have H9 := Lib.hid h9
  clear h0 h1 h2 h3 h4 h5 h6 h7 h8 h9
  have fN := field_K 0 0 ⟨#[]⟩
  go_enter Tryd.func6, Tryd.ntmps6
  go_wp2_with fail
  refine (H1.out _).mono ?_
  rintro e0 w1 ⟨rfl, hbb⟩
  have D1 := (CellAt.new w .nilIface 29).keep hbb
  have B1 := bjoin ((Below.refl _ _).alloc (Nat.le_refl _) _) hbb
  clear hbb
  obtain ⟨c1, z1⟩ := D1
  go_wp2_with fail
  refine (H2.out _).mono ?_
  rintro e0 w2 ⟨rfl, hbb⟩
  have D1 := CellAt.keep ⟨c1, z1⟩ hbb
  have B2 := bjoin (B1) hbb
  clear hbb c1 z1 B1
  obtain ⟨c1, z1⟩ := D1
  go_wp2_with fail
  refine (H3.out _).mono ?_
  rintro e0 w3 ⟨rfl, hbb⟩
  have D1 := CellAt.keep ⟨c1, z1⟩ hbb
  have B3 := bjoin (B2) hbb
  clear hbb c1 z1 B2
  obtain ⟨c1, z1⟩ := D1
  go_wp2_with fail
  refine (H4.out _).mono ?_
  rintro e0 w4 ⟨rfl, hbb⟩
  have D1 := CellAt.keep (CellAt.past ⟨c1, z1⟩ _) hbb
  have D2 := (CellAt.new w3 P 29).keep hbb
  have B4 := bjoin (B3.alloc B3.size _) hbb
  clear hbb c1 z1 B3
  obtain ⟨c1, z1⟩ := D1
  obtain ⟨c2, z2⟩ := D2
  go_wp2_with fail
  refine (H0.out _ (hT.keep (B4.alloc B4.size _))).mono ?_
  rintro e0 w5 ⟨rfl, hbb⟩
  have D1 := CellAt.keep (CellAt.past ⟨c1, z1⟩ _) hbb
  have D2 := CellAt.keep (CellAt.past ⟨c2, z2⟩ _) hbb
  have D3 := (CellAt.new w4 .nilIface 29).keep hbb
  have B5 := bjoin (B4.alloc B4.size _) hbb
  clear hbb c1 z1 c2 z2 B4
  obtain ⟨c1, z1⟩ := D1
  obtain ⟨c2, z2⟩ := D2
  obtain ⟨c3, z3⟩ := D3
  go_wp2_with fail
  refine (H5.out _).mono ?_
  rintro e0 w6 ⟨rfl, hbb⟩
  have D1 := CellAt.keep ⟨c1, z1⟩ hbb
  have D2 := CellAt.keep ⟨c2, z2⟩ hbb
  have D3 := CellAt.keep ⟨c3, z3⟩ hbb
  have B6 := bjoin (B5) hbb
  clear hbb c1 z1 c2 z2 c3 z3 B5
  obtain ⟨c1, z1⟩ := D1
  obtain ⟨c2, z2⟩ := D2
  obtain ⟨c3, z3⟩ := D3
  go_wp2_with fail
  refine (H6.out _).mono ?_
  rintro e0 w7 ⟨rfl, hbb⟩
  have D1 := CellAt.keep ⟨c1, z1⟩ hbb
  have D2 := CellAt.keep ⟨c2, z2⟩ hbb
  have D3 := CellAt.keep ⟨c3, z3⟩ hbb
  have B7 := bjoin (B6) hbb
  clear hbb c1 z1 c2 z2 c3 z3 B6
  obtain ⟨c1, z1⟩ := D1
  obtain ⟨c2, z2⟩ := D2
  obtain ⟨c3, z3⟩ := D3
  go_wp2_with fail
  refine (H7.out _).mono ?_
  rintro e0 w8 ⟨rfl, hbb⟩
  have D1 := CellAt.keep ⟨c1, z1⟩ hbb
  have D2 := CellAt.keep ⟨c2, z2⟩ hbb
  have D3 := CellAt.keep ⟨c3, z3⟩ hbb
  have B8 := bjoin (B7) hbb
  clear hbb c1 z1 c2 z2 c3 z3 B7
  obtain ⟨c1, z1⟩ := D1
  obtain ⟨c2, z2⟩ := D2
  obtain ⟨c3, z3⟩ := D3
  go_wp2_with fail
  refine (H8.out _).mono ?_
  rintro e0 w9 ⟨rfl, hbb⟩
  have D1 := CellAt.keep ⟨c1, z1⟩ hbb
  have D2 := CellAt.keep ⟨c2, z2⟩ hbb
  have D3 := CellAt.keep ⟨c3, z3⟩ hbb
  have B9 := bjoin (B8) hbb
  clear hbb c1 z1 c2 z2 c3 z3 B8
  obtain ⟨c1, z1⟩ := D1
  obtain ⟨c2, z2⟩ := D2
  obtain ⟨c3, z3⟩ := D3
  go_wp2_with fail
  refine (H9.out _).mono ?_
  rintro e0 w10 ⟨rfl, hbb⟩
  have D1 := CellAt.keep ⟨c1, z1⟩ hbb
  have D2 := CellAt.keep ⟨c2, z2⟩ hbb
  have D3 := CellAt.keep ⟨c3, z3⟩ hbb
  have B10 := bjoin (B9) hbb
  clear hbb c1 z1 c2 z2 c3 z3 B9
  obtain ⟨c1, z1⟩ := D1
  obtain ⟨c2, z2⟩ := D2
  obtain ⟨c3, z3⟩ := D3
  go_wp2
  go_ret
  exact ⟨rfl, B10⟩

end Go.Proofs.YtckgicpfgfkndaaDoor
