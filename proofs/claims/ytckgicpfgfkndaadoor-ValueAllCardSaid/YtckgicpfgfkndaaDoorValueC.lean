/-
  The walks of package value: Eq, MustInt, of the reference's Eq; of chapter 4's must, Cut.
-/
import Derived.Test.YtckgicpfgfkndaaDoorValueB
import Derived.Deep.RegionHeld3
import Derived.Deep.DeepCutAuto
import Derived.Recover
set_option linter.unusedVariables false
namespace Go.Proofs.YtckgicpfgfkndaaDoor
open Go.RowKit

theorem eq_raw (k n : Int) (s : ByteArray) (k' n' : Int) (s' : ByteArray) (w : World) :
    (binOp .eql 23 (.agg #[.int .i64 k, .int .i64 n, .string s]) (.agg #[.int .i64 k', .int .i64 n', .string s'])).run Tryd.prog w
      = .ok (.bool ((k == k') && (n == n') && (s.toList == s'.toList))) w := by
  have f1 : Tryd.prog.stoodInHeld 23 = false := by kernel_rfl
  have f2 : Tryd.prog.underlying 23 = some (.struct (Tryd.prog.fieldsOf 23)) := by kernel_rfl
  rw [run_eql_struct, run_equalIn_struct _ _ _ _ _ f2 f1]
  simp only [Program.fieldsOf]
  cases hk : k == k' <;> cases hn : n == n' <;> cases hs : s.toList == s'.toList <;> simp [go_sem, Op.eqFields, part, hk, hn, hs]

theorem Raw_any (x : Option (Int ⊕ ByteArray)) (w : World) :
    Calls Tryd.prog 17 #[.agg #[vCell x]] w fun e w' => e = .returned (.agg #[.int .i64 (kindOf x), .int .i64 (intIn x), .string (textIn x)]) ∧ Below w.heap.size w w' := by
  rcases x with _ | n | s
  · exact Raw_none w
  · exact Raw_int n w
  · exact Raw_text s w
theorem Kind_any (x : Option (Int ⊕ ByteArray)) (w : World) :
    Calls Tryd.prog 18 #[.agg #[vCell x]] w fun e w' => e = .returned (.int .i64 (kindOf x)) ∧ Below w.heap.size w w' := by
  rcases x with _ | n | s
  · exact Kind_none w
  · exact Kind_int n w
  · exact Kind_text s w
theorem AsInt_any (x : Option (Int ⊕ ByteArray)) (w : World) :
    Calls Tryd.prog 16 #[.agg #[vCell x]] w fun e w' => e = .returned (.tuple #[.int .i64 (intIn x), .bool (isInt x)]) ∧ Below w.heap.size w w' := by
  rcases x with _ | n | s
  · exact AsInt_none w
  · exact AsInt_int n w
  · exact AsInt_text s w

/-- two values the same. -/
def eqV (x y : Option (Int ⊕ ByteArray)) : Bool := (kindOf x == kindOf y) && (intIn x == intIn y) && ((textIn x).toList == (textIn y).toList)

set_option maxRecDepth 100000 in
set_option maxHeartbeats 4000000 in
theorem value_Eq (x y : Option (Int ⊕ ByteArray)) (w : World) :
    Calls Tryd.prog 13 #[.agg #[vCell x], .agg #[vCell y]] w fun e w' => e = .returned (.bool (eqV x y)) ∧ Below w.heap.size w w' := by
  have hv := fun (x : Option (Int ⊕ ByteArray)) (W : World) => Raw_any x W
  have he := eq_raw (kindOf x) (intIn x) (textIn x) (kindOf y) (intIn y) (textIn y)
  unfold eqV
  generalize kindOf = KK at *
  generalize intIn = NN at *
  generalize textIn = SS at *
  generalize vCell = V at *
  have HV := Lib.hid hv
  clear hv
  go_enter Tryd.func13, Tryd.ntmps13
  go_wp2_with fail
  have hb0 : Below w.heap.size w ((w.alloc (Obj.cells #[V x] 29)).alloc (Obj.cells #[V y] 29)) := ((Below.refl _ _).alloc (Nat.le_refl _) _).alloc (by simp) _
  have hc1 : ((w.alloc (Obj.cells #[V x] 29)).alloc (Obj.cells #[V y] 29)).cell? ⟨w.heap.size, 0, none⟩ = some (V x) := by simp [go_sem]
  have hc2 : ((w.alloc (Obj.cells #[V x] 29)).alloc (Obj.cells #[V y] 29)).cell? ⟨w.heap.size + 1, 0, none⟩ = some (V y) := by simp [go_sem]
  have hsz : w.heap.size + 1 < ((w.alloc (Obj.cells #[V x] 29)).alloc (Obj.cells #[V y] 29)).heap.size := by simp
  generalize (w.alloc (Obj.cells #[V x] 29)).alloc (Obj.cells #[V y] 29) = w1 at *
  have keepB : ∀ (W W' : World), (W.cell? ⟨w.heap.size, 0, none⟩ = some (V x) ∧ W.cell? ⟨w.heap.size + 1, 0, none⟩ = some (V y) ∧ w.heap.size + 1 < W.heap.size ∧ Below w.heap.size w W) → Below W.heap.size W W' → (W'.cell? ⟨w.heap.size, 0, none⟩ = some (V x) ∧ W'.cell? ⟨w.heap.size + 1, 0, none⟩ = some (V y) ∧ w.heap.size + 1 < W'.heap.size ∧ Below w.heap.size w W') := by
    rintro W W' ⟨a, b, c, d⟩ h
    have := h.size
    exact ⟨(h.cell (by simp; omega)).trans a, (h.cell (by simp; omega)).trans b, by omega, bjoin d h⟩
  have HK := Lib.hid keepB
  clear keepB
  go_region_held3 (fun W => W.cell? ⟨w.heap.size, 0, none⟩ = some (V x) ∧ W.cell? ⟨w.heap.size + 1, 0, none⟩ = some (V y) ∧ w.heap.size + 1 < W.heap.size ∧ Below w.heap.size w W)
    (first | (refine HK.out _ _ ?_ hb9; assumption) | assumption | exact ⟨by assumption, by assumption, by assumption, by assumption⟩ | exact ⟨by assumption, by assumption, by assumption, Below.drew (by assumption)⟩)
    (first | (go_at_call 17; refine (HV.out _ _).mono ?_; rintro e w9 ⟨rfl, hb9⟩))
  rename_i hHeld
  go_wp2
  go_ret
  exact ⟨rfl, hHeld.2.2.2⟩

set_option maxRecDepth 100000 in
set_option maxHeartbeats 4000000 in
theorem ref_Eq (k n : Int) (s : ByteArray) (k' n' : Int) (s' : ByteArray) (w : World) :
    Calls Tryd.prog 14 #[.agg #[.int .i64 k, .int .i64 n, .string s], .agg #[.int .i64 k', .int .i64 n', .string s']] w fun e w' => e = .returned (.bool ((k == k') && (n == n') && (s.toList == s'.toList))) ∧ Below w.heap.size w w' := by
  cases hk : k == k'
  · go_enter Tryd.func14, Tryd.ntmps14
    go_wp2
    go_ret
    exact ⟨by simp, ((Below.refl _ _).alloc (Nat.le_refl _) _).alloc (by simp) _⟩
  cases hn : n == n'
  · go_enter Tryd.func14, Tryd.ntmps14
    go_wp2
    go_ret
    exact ⟨by simp, ((Below.refl _ _).alloc (Nat.le_refl _) _).alloc (by simp) _⟩
  · go_enter Tryd.func14, Tryd.ntmps14
    go_wp2
    go_ret
    exact ⟨by simp, ((Below.refl _ _).alloc (Nat.le_refl _) _).alloc (by simp) _⟩

/-! MustInt: the type assertion that may panic -/
theorem tm2 (n : Int) (w : World) : (Instr.typeAssert (.iface 53 (.int .i64 n)) 27 53 false).run Tryd.prog w = .ok (.int .i64 n) w := by kernel_rfl

theorem must_idle (a b : Addr) (w : World) :
    CallsD Tryd.prog 28 #[.pointer (some a), .pointer (some b)] .returning w fun e u' w' => e = .returned (.tuple #[]) ∧ u' = .returning ∧ w' = w := by
  refine callsD_of_wpS Tryd.func28 rfl fun c₀ cs hu => ?_
  apply wpS_seq
  apply wpS_region
  simp [wpOpsS, go_sem, recoverD, hu, Tryd.ntmps28, Exit.thenS]
  refine wpS_cond (t := false) (by simp [Act.eval, Array.replicate]) ?_
  simp only [Bool.false_eq_true, if_false]
  refine wpS_of_wp (wp_skip ?_)
  cases c₀
  simp_all [bodyPostS, results, Tryd.results28]

set_option maxHeartbeats 1000000 in
theorem must_int (n : Int) (w : World) :
    Calls Tryd.prog 15 #[.agg #[.iface 53 (.int .i64 n)]] w fun e w' => e = .returned (.tuple #[.int .i64 n, .bool true]) ∧ Below w.heap.size w w' := by
  have hmf : ∀ (fn : Fn) (first cap : Array Value) (w : World), (Instr.makeFunc fn first cap).run Tryd.prog w = .ok (.func fn first cap) w := fun _ _ _ _ => rfl
  have t2 := tm2 n
  go_enter_defers Tryd.func15, Tryd.ntmps15
  go_wp2
  refine leaves_cons (f := 28) (args := #[.pointer (some ⟨w.heap.size + 1, 0, none⟩), .pointer (some ⟨w.heap.size + 1 + 1, 0, none⟩)]) (by simp) (by simp [go_sem]) ?_
  refine (must_idle _ _ _).mono ?_
  rintro e u' w'' ⟨rfl, rfl, rfl⟩
  simp [Leaves, settle, results, Tryd.results15, go_sem]
  exact ((((Below.refl _ _).alloc (Nat.le_refl _) _).alloc (by simp) _).alloc (by simp; omega) _).alloc (by simp; omega) _

/-- what the failed assertion leaves behind. -/
noncomputable def failObj (c : Value) : Obj := .cells #[typeHandle Tryd.prog 27, c, typeHandle Tryd.prog 53, .string ⟨#[]⟩] 80
theorem tp1 (w : World) : (Instr.typeAssert .nilIface 27 53 false).run Tryd.prog w = .halt (.panic (.iface Tryd.prog.rt.typeAssertionError (.pointer (some ⟨w.heap.size, 0, none⟩)))) (w.alloc (failObj (.pointer none))) := by kernel_rfl
theorem tp3 (s : ByteArray) (w : World) : (Instr.typeAssert (.iface 55 (.string s)) 27 53 false).run Tryd.prog w = .halt (.panic (.iface Tryd.prog.rt.typeAssertionError (.pointer (some ⟨w.heap.size, 0, none⟩)))) (w.alloc (failObj (typeHandle Tryd.prog 55))) := by kernel_rfl

theorem must_panicking (a b : Addr) (x : Int) (y : Bool) (u : TypeId) (pv : Value) (older : List PanicEntry) (w : World) (hc : w.cell? a = some (.int .i64 x)) (hz : w.frozen? a = false) (hc2 : w.cell? b = some (.bool y)) (hz2 : w.frozen? b = false) (hne : a.block ≠ b.block) :
    CallsD Tryd.prog 28 #[.pointer (some a), .pointer (some b)] (.panicking ({ v := .iface u pv, recovered := false } :: older)) w fun e u' w' => e = .returned (.tuple #[]) ∧ u' = .panicking ({ v := .iface u pv, recovered := true } :: older) ∧ w' = (w.setCell a (.int .i64 0)).setCell b (.bool false) := by
  have hc2' : (w.setCell a (.int .i64 0)).cell? b = some (.bool y) := by rw [World.cell?_setCell_other _ _ _ _ (by intro h; exact hne (by rw [h]))]; exact hc2
  refine callsD_of_wpS Tryd.func28 rfl fun c₀ cs hu => ?_
  apply wpS_seq
  apply wpS_region
  simp [wpOpsS, go_sem, recoverD, hu, Tryd.ntmps28, Exit.thenS]
  refine wpS_cond (t := true) (by simp [Act.eval, Array.replicate]) ?_
  simp only [if_true]
  apply wpS_region
  simp [wpOpsS, go_sem, hc, hz, hz2, hc2', bodyPostS, results, Tryd.results28]

theorem MustInt_none (w : World) :
    Calls Tryd.prog 25 #[.agg #[.nilIface]] w fun e w' => e = .panicked [{ v := .iface Tryd.prog.rt.typeAssertionError (.pointer (some ⟨w.heap.size + 1, 0, none⟩)), recovered := false }] ∧ Below w.heap.size w w' := by
  have t2 := tp1
  generalize failObj (.pointer none) = O at t2
  go_enter Tryd.func25, Tryd.ntmps25
  go_wp2
  simp [bodyPost]
  exact ((Below.refl _ _).alloc (Nat.le_refl _) _).alloc (by simp) _
theorem MustInt_text (s : ByteArray) (w : World) :
    Calls Tryd.prog 25 #[.agg #[.iface 55 (.string s)]] w fun e w' => e = .panicked [{ v := .iface Tryd.prog.rt.typeAssertionError (.pointer (some ⟨w.heap.size + 1, 0, none⟩)), recovered := false }] ∧ Below w.heap.size w w' := by
  have t2 := tp3 s
  generalize failObj (typeHandle _ _) = O at t2
  go_enter Tryd.func25, Tryd.ntmps25
  go_wp2
  simp [bodyPost]
  exact ((Below.refl _ _).alloc (Nat.le_refl _) _).alloc (by simp) _

set_option maxHeartbeats 1000000 in
theorem must_none (w : World) :
    Calls Tryd.prog 15 #[.agg #[.nilIface]] w fun e w' => e = .returned (.tuple #[.int .i64 0, .bool false]) ∧ Below w.heap.size w w' := by
  have hmf : ∀ (fn : Fn) (first cap : Array Value) (w : World), (Instr.makeFunc fn first cap).run Tryd.prog w = .ok (.func fn first cap) w := fun _ _ _ _ => rfl
  go_enter_defers Tryd.func15, Tryd.ntmps15
  go_wp2_with fail
  refine (MustInt_none _).mono ?_
  rintro e w1 ⟨rfl, hb⟩
  have hz := hb.size
  have hc1 : w1.cell? ⟨w.heap.size + 1, 0, none⟩ = some (.int .i64 0) := by rw [hb.cell (p := ⟨w.heap.size + 1, 0, none⟩) (by simp)]; simp [go_sem]
  have hc2 : w1.cell? ⟨w.heap.size + 1 + 1, 0, none⟩ = some (.bool false) := by rw [hb.cell (p := ⟨w.heap.size + 1 + 1, 0, none⟩) (by simp)]; simp [go_sem]
  have hf1 : w1.frozen? ⟨w.heap.size + 1, 0, none⟩ = false := by rw [hb.frozen (p := ⟨w.heap.size + 1, 0, none⟩) (by simp)]; simp [go_sem]
  have hf2 : w1.frozen? ⟨w.heap.size + 1 + 1, 0, none⟩ = false := by rw [hb.frozen (p := ⟨w.heap.size + 1 + 1, 0, none⟩) (by simp)]; simp [go_sem]
  have hb1 : Below w.heap.size w w1 := ((((Below.refl _ _).alloc (Nat.le_refl _) _).alloc (by simp) _).alloc (by simp; omega) _).trans (hb.mono (by simp; omega))
  have hb2 : Below w.heap.size w ((w1.setCell ⟨w.heap.size + 1, 0, none⟩ (.int .i64 0)).setCell ⟨w.heap.size + 1 + 1, 0, none⟩ (.bool false)) := (hb1.setCell (by simp) _).setCell (by simp; omega) _
  have hA : ((w1.setCell ⟨w.heap.size + 1, 0, none⟩ (.int .i64 0)).setCell ⟨w.heap.size + 1 + 1, 0, none⟩ (.bool false)).cell? ⟨w.heap.size + 1, 0, none⟩ = some (.int .i64 0) := by
    rw [World.cell?_setCell_other _ _ _ _ (by simp)]
    exact World.cell?_setCell_same _ _ _ hc1
  have hB : ((w1.setCell ⟨w.heap.size + 1, 0, none⟩ (.int .i64 0)).setCell ⟨w.heap.size + 1 + 1, 0, none⟩ (.bool false)).cell? ⟨w.heap.size + 1 + 1, 0, none⟩ = some (.bool false) := World.cell?_setCell_same _ _ _ (u := .bool false) (by rw [World.cell?_setCell_other _ _ _ _ (by simp)]; exact hc2)
  clear hb
  go_wp2_with fail
  refine leaves_cons (f := 28) (args := #[.pointer (some ⟨w.heap.size + 1, 0, none⟩), .pointer (some ⟨w.heap.size + 1 + 1, 0, none⟩)]) (by simp) (by simp [go_sem]) ?_
  refine (must_panicking ⟨w.heap.size + 1, 0, none⟩ ⟨w.heap.size + 1 + 1, 0, none⟩ 0 false _ _ [] w1 hc1 hf1 hc2 hf2 (by simp)).mono ?_
  rintro e u' w'' ⟨rfl, rfl, rfl⟩
  simp [Leaves, settle, results, Tryd.results15, go_sem, hA, hB]
  exact hb2
set_option maxHeartbeats 1000000 in
theorem must_text (s : ByteArray) (w : World) :
    Calls Tryd.prog 15 #[.agg #[.iface 55 (.string s)]] w fun e w' => e = .returned (.tuple #[.int .i64 0, .bool false]) ∧ Below w.heap.size w w' := by
  have hmf : ∀ (fn : Fn) (first cap : Array Value) (w : World), (Instr.makeFunc fn first cap).run Tryd.prog w = .ok (.func fn first cap) w := fun _ _ _ _ => rfl
  go_enter_defers Tryd.func15, Tryd.ntmps15
  go_wp2_with fail
  refine (MustInt_text s _).mono ?_
  rintro e w1 ⟨rfl, hb⟩
  have hz := hb.size
  have hc1 : w1.cell? ⟨w.heap.size + 1, 0, none⟩ = some (.int .i64 0) := by rw [hb.cell (p := ⟨w.heap.size + 1, 0, none⟩) (by simp)]; simp [go_sem]
  have hc2 : w1.cell? ⟨w.heap.size + 1 + 1, 0, none⟩ = some (.bool false) := by rw [hb.cell (p := ⟨w.heap.size + 1 + 1, 0, none⟩) (by simp)]; simp [go_sem]
  have hf1 : w1.frozen? ⟨w.heap.size + 1, 0, none⟩ = false := by rw [hb.frozen (p := ⟨w.heap.size + 1, 0, none⟩) (by simp)]; simp [go_sem]
  have hf2 : w1.frozen? ⟨w.heap.size + 1 + 1, 0, none⟩ = false := by rw [hb.frozen (p := ⟨w.heap.size + 1 + 1, 0, none⟩) (by simp)]; simp [go_sem]
  have hb1 : Below w.heap.size w w1 := ((((Below.refl _ _).alloc (Nat.le_refl _) _).alloc (by simp) _).alloc (by simp; omega) _).trans (hb.mono (by simp; omega))
  have hb2 : Below w.heap.size w ((w1.setCell ⟨w.heap.size + 1, 0, none⟩ (.int .i64 0)).setCell ⟨w.heap.size + 1 + 1, 0, none⟩ (.bool false)) := (hb1.setCell (by simp) _).setCell (by simp; omega) _
  have hA : ((w1.setCell ⟨w.heap.size + 1, 0, none⟩ (.int .i64 0)).setCell ⟨w.heap.size + 1 + 1, 0, none⟩ (.bool false)).cell? ⟨w.heap.size + 1, 0, none⟩ = some (.int .i64 0) := by
    rw [World.cell?_setCell_other _ _ _ _ (by simp)]
    exact World.cell?_setCell_same _ _ _ hc1
  have hB : ((w1.setCell ⟨w.heap.size + 1, 0, none⟩ (.int .i64 0)).setCell ⟨w.heap.size + 1 + 1, 0, none⟩ (.bool false)).cell? ⟨w.heap.size + 1 + 1, 0, none⟩ = some (.bool false) := World.cell?_setCell_same _ _ _ (u := .bool false) (by rw [World.cell?_setCell_other _ _ _ _ (by simp)]; exact hc2)
  clear hb
  go_wp2_with fail
  refine leaves_cons (f := 28) (args := #[.pointer (some ⟨w.heap.size + 1, 0, none⟩), .pointer (some ⟨w.heap.size + 1 + 1, 0, none⟩)]) (by simp) (by simp [go_sem]) ?_
  refine (must_panicking ⟨w.heap.size + 1, 0, none⟩ ⟨w.heap.size + 1 + 1, 0, none⟩ 0 false _ _ [] w1 hc1 hf1 hc2 hf2 (by simp)).mono ?_
  rintro e u' w'' ⟨rfl, rfl, rfl⟩
  simp [Leaves, settle, results, Tryd.results15, go_sem, hA, hB]
  exact hb2

/-- MUST, of any value. -/
theorem must_any (x : Option (Int ⊕ ByteArray)) (w : World) :
    Calls Tryd.prog 15 #[.agg #[vCell x]] w fun e w' => e = .returned (.tuple #[.int .i64 (intIn x), .bool (isInt x)]) ∧ Below w.heap.size w w' := by
  rcases x with _ | n | s
  · exact must_none w
  · exact must_int n w
  · exact must_text s w

/-- MustInt, of a number. -/
theorem MustInt_int (n : Int) (w : World) :
    Calls Tryd.prog 25 #[.agg #[.iface 53 (.int .i64 n)]] w fun e w' => e = .returned (.int .i64 n) ∧ Below w.heap.size w w' := by
  have t2 := tm2 n
  go_enter Tryd.func25, Tryd.ntmps25
  go_wp2
  go_ret
  exact ⟨rfl, (Below.refl _ _).alloc (Nat.le_refl _) _⟩

/-- law4.Cut. -/
theorem law4_Cut (k n : Int) (s : ByteArray) (w : World) (hs : s.size ≤ 9223372036854775807) :
    Calls Tryd.prog 11 #[.agg #[.int .i64 k, .int .i64 n, .string s]] w fun e w' => e = .returned (.agg #[.int .i64 k, .int .i64 n, .string (cutS s 220)]) ∧ Below w.heap.size w w' := by
  have hL : ∀ W : World, Calls Tryd.prog 26 #[.string s, .int .i64 220] W fun e w' => e = .returned (.string (cutS s 220)) ∧ W = w' := fun W => law1_Cut s 220 W hs (by decide)
  generalize cutS s 220 = c at *
  have HL := Lib.hid hL
  clear hL
  go_enter Tryd.func11, Tryd.ntmps11
  go_wp2_with fail
  refine (HL.out _).mono ?_
  rintro e w1 ⟨rfl, rfl⟩
  go_wp2
  refine bodyPost_ret (v := .agg #[.int .i64 k, .int .i64 n, .string c]) (by simp [results, Tryd.results11, go_sem]) rfl ⟨rfl, ?_⟩
  exact ((Below.refl _ _).alloc (Nat.le_refl _) _).alloc (by simp) _

theorem field_K (k n : Int) (s : ByteArray) (w : World) : (Instr.field 23 (.agg #[.int .i64 k, .int .i64 n, .string s]) 0).run Tryd.prog w = .ok (.int .i64 k) w := by kernel_rfl
theorem field_N (k n : Int) (s : ByteArray) (w : World) : (Instr.field 23 (.agg #[.int .i64 k, .int .i64 n, .string s]) 1).run Tryd.prog w = .ok (.int .i64 n) w := by kernel_rfl
theorem field_S (k n : Int) (s : ByteArray) (w : World) : (Instr.field 23 (.agg #[.int .i64 k, .int .i64 n, .string s]) 2).run Tryd.prog w = .ok (.string s) w := by kernel_rfl

set_option maxRecDepth 100000 in
set_option maxHeartbeats 4000000 in
theorem law4_begun (w : World) (hT : Tabs w) :
    Calls Tryd.prog 10 #[] w fun e w' => e = .returned (.bool true) ∧ Below w.heap.size w w' := by
  have h1 : ∀ W : World, Tabs W → Calls Tryd.prog 12 #[.agg #[.int .i64 1, .int .i64 5, .string ⟨#[]⟩]] W fun e w' => e = .returned (.tuple #[.agg #[vCell (some (.inl 5))], .int .i64 0]) ∧ Below W.heap.size W w' := fun W h => of_int 5 ⟨#[]⟩ (by decide) W (by decide)
  have h2 : ∀ W : World, Tabs W → Calls Tryd.prog 12 #[.agg #[.int .i64 2, .int .i64 0, .string ⟨#[97]⟩]] W fun e w' => e = .returned (.tuple #[.agg #[vCell (some (.inr ⟨#[97]⟩))], .int .i64 0]) ∧ Below W.heap.size W w' := fun W h => of_text ⟨#[97]⟩ (by decide) (by decide) W (by decide) h
  have h3 : ∀ W : World, Calls Tryd.prog 16 #[.agg #[vCell (some (.inl 5))]] W fun e w' => e = .returned (.tuple #[.int .i64 5, .bool true]) ∧ Below W.heap.size W w' := fun W => AsInt_any _ W
  have h4 : ∀ W : World, Calls Tryd.prog 16 #[.agg #[vCell (some (.inr ⟨#[97]⟩))]] W fun e w' => e = .returned (.tuple #[.int .i64 0, .bool false]) ∧ Below W.heap.size W w' := fun W => AsInt_any _ W
  have h5 : ∀ W : World, Calls Tryd.prog 25 #[.agg #[vCell (some (.inl 5))]] W fun e w' => e = .returned (.int .i64 5) ∧ Below W.heap.size W w' := fun W => MustInt_int 5 W
  have h6 : ∀ W : World, Calls Tryd.prog 17 #[.agg #[vCell (some (.inr ⟨#[97]⟩))]] W fun e w' => e = .returned (.agg #[.int .i64 2, .int .i64 0, .string ⟨#[97]⟩]) ∧ Below W.heap.size W w' := fun W => Raw_any _ W
  have h7 : ∀ W : World, Calls Tryd.prog 13 #[.agg #[vCell (some (.inl 5))], .agg #[vCell (some (.inr ⟨#[97]⟩))]] W fun e w' => e = .returned (.bool false) ∧ Below W.heap.size W w' := fun W => value_Eq (some (.inl 5)) (some (.inr ⟨#[97]⟩)) W
  have sP : ∀ (a : Addr) (m : Mode) (W : World), (store a (vCell (some (.inl 5))) m).run Tryd.prog W = stored Tryd.prog W a (vCell (some (.inl 5))) m := fun a m W => run_store _ W a _ m rfl
  have sQ : ∀ (a : Addr) (m : Mode) (W : World), (store a (vCell (some (.inr ⟨#[97]⟩))) m).run Tryd.prog W = stored Tryd.prog W a (vCell (some (.inr ⟨#[97]⟩))) m := fun a m W => run_store _ W a _ m rfl
  generalize vCell (some (.inl 5)) = P at *
  generalize vCell (some (.inr ⟨#[97]⟩)) = Q at *
  have H1 := Lib.hid h1
  have H2 := Lib.hid h2
  have H3 := Lib.hid h3
  have H4 := Lib.hid h4
  have H5 := Lib.hid h5
  have H6 := Lib.hid h6
  have H7 := Lib.hid h7
  clear h1 h2 h3 h4 h5 h6 h7
  go_enter Tryd.func10, Tryd.ntmps10
  go_wp2_with fail
  refine (H1.out _ hT).mono ?_
  rintro e w1 ⟨rfl, hb⟩
  have hT1 := hT.keep hb
  have z1 := hb.size
  go_wp2_with fail
  refine (H2.out _ (hT1.keep ((Below.refl _ _).alloc (Nat.le_refl _) _))).mono ?_
  rintro e w2 ⟨rfl, hbb⟩
  have c2 : w2.cell? ⟨w1.heap.size, 0, none⟩ = some P := by rw [hbb.cell (p := ⟨w1.heap.size, 0, none⟩) (by simp)]; simp [go_sem]
  have z2 : w1.heap.size < w2.heap.size := by have := hbb.size; simp at this; omega
  have B2 := bjoin (hb.alloc z1 _) hbb
  clear hbb hb hT1 z1
  go_wp2_with fail
  refine (H3.out _).mono ?_
  rintro e w3 ⟨rfl, hbb⟩
  have c3 : w3.cell? ⟨w1.heap.size, 0, none⟩ = some P := by rw [hbb.cell (p := ⟨w1.heap.size, 0, none⟩) (by simp; omega), World.cell?_alloc_past _ _ _ (by simpa using z2)]; exact c2
  have d3 : w3.cell? ⟨w2.heap.size, 0, none⟩ = some Q := by rw [hbb.cell (p := ⟨w2.heap.size, 0, none⟩) (by simp)]; simp [go_sem]
  have z3 : w2.heap.size < w3.heap.size := by have := hbb.size; simp at this; omega
  have B3 := bjoin (B2.alloc B2.size _) hbb
  clear hbb B2 c2
  go_wp2_with fail
  refine (H4.out _).mono ?_
  rintro e w4 ⟨rfl, hbb⟩
  replace c3 : w4.cell? ⟨w1.heap.size, 0, none⟩ = some P := (hbb.cell (p := ⟨w1.heap.size, 0, none⟩) (by simp only []; omega)).trans c3
  have c4 := c3
  replace d3 : w4.cell? ⟨w2.heap.size, 0, none⟩ = some Q := (hbb.cell (p := ⟨w2.heap.size, 0, none⟩) (by simp only []; omega)).trans d3
  have d4 := d3
  have z4 : w2.heap.size < w4.heap.size := by have := hbb.size; omega
  have B4 := bjoin B3 hbb
  clear hbb c3 d3 z3 B3
  go_wp2_with fail
  refine (H5.out _).mono ?_
  rintro e w5 ⟨rfl, hbb⟩
  replace c4 : w5.cell? ⟨w1.heap.size, 0, none⟩ = some P := (hbb.cell (p := ⟨w1.heap.size, 0, none⟩) (by simp only []; omega)).trans c4
  have c5 := c4
  replace d4 : w5.cell? ⟨w2.heap.size, 0, none⟩ = some Q := (hbb.cell (p := ⟨w2.heap.size, 0, none⟩) (by simp only []; omega)).trans d4
  have d5 := d4
  have z5 : w2.heap.size < w5.heap.size := by have := hbb.size; omega
  have B5 := bjoin B4 hbb
  clear hbb c4 d4 z4 B4
  go_wp2_with fail
  refine (H6.out _).mono ?_
  rintro e w6 ⟨rfl, hbb⟩
  replace c5 : w6.cell? ⟨w1.heap.size, 0, none⟩ = some P := (hbb.cell (p := ⟨w1.heap.size, 0, none⟩) (by simp only []; omega)).trans c5
  have c6 := c5
  replace d5 : w6.cell? ⟨w2.heap.size, 0, none⟩ = some Q := (hbb.cell (p := ⟨w2.heap.size, 0, none⟩) (by simp only []; omega)).trans d5
  have d6 := d5
  have z6 : w2.heap.size < w6.heap.size := by have := hbb.size; omega
  have B6 := bjoin B5 hbb
  clear hbb c5 d5 z5 B5
  have hfS := field_S 2 0 ⟨#[97]⟩
  have hq : ((ByteArray.mk #[97]).toList == (ByteArray.mk #[97]).toList) = true := by simp
  go_wp2_with fail
  refine (H7.out _).mono ?_
  rintro e w7 ⟨rfl, hbb⟩
  replace c6 : w7.cell? ⟨w1.heap.size, 0, none⟩ = some P := (hbb.cell (p := ⟨w1.heap.size, 0, none⟩) (by simp only []; omega)).trans c6
  have c7 := c6
  replace d6 : w7.cell? ⟨w2.heap.size, 0, none⟩ = some Q := (hbb.cell (p := ⟨w2.heap.size, 0, none⟩) (by simp only []; omega)).trans d6
  have d7 := d6
  have z7 : w2.heap.size < w7.heap.size := by have := hbb.size; omega
  have B7 := bjoin B6 hbb
  clear hbb c6 d6 z6 B6
  go_wp2
  go_ret
  exact ⟨rfl, B7⟩
end Go.Proofs.YtckgicpfgfkndaaDoor
