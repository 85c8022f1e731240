/-
  The walks of package value: Kind, AsInt, Raw.
-/
import Derived.Test.YtckgicpfgfkndaaDoorValueA
set_option linter.unusedVariables false
namespace Go.Proofs.YtckgicpfgfkndaaDoor
open Go.RowKit

def kindOf : Option (Int ⊕ ByteArray) → Int
  | none => 0
  | some (.inl _) => 1
  | some (.inr _) => 2
def intIn : Option (Int ⊕ ByteArray) → Int
  | some (.inl n) => n
  | _ => 0
def isInt : Option (Int ⊕ ByteArray) → Bool
  | some (.inl _) => true
  | _ => false
def textIn : Option (Int ⊕ ByteArray) → ByteArray
  | some (.inr s) => s
  | _ => ⟨#[]⟩

/-! what the program's tables say of the two dynamic types -/
theorem ta1 (w : World) : (Instr.typeAssert .nilIface 27 53 true).run Tryd.prog w = .ok (.tuple #[.int .i64 0, .bool false]) w := by kernel_rfl
theorem ta2 (n : Int) (w : World) : (Instr.typeAssert (.iface 53 (.int .i64 n)) 27 53 true).run Tryd.prog w = .ok (.tuple #[.int .i64 n, .bool true]) w := by kernel_rfl
theorem ta3 (s : ByteArray) (w : World) : (Instr.typeAssert (.iface 55 (.string s)) 27 53 true).run Tryd.prog w = .ok (.tuple #[.int .i64 0, .bool false]) w := by kernel_rfl
theorem tb1 (w : World) : (Instr.typeAssert .nilIface 27 55 true).run Tryd.prog w = .ok (.tuple #[.string ⟨#[]⟩, .bool false]) w := by kernel_rfl
theorem tb2 (n : Int) (w : World) : (Instr.typeAssert (.iface 53 (.int .i64 n)) 27 55 true).run Tryd.prog w = .ok (.tuple #[.string ⟨#[]⟩, .bool false]) w := by kernel_rfl
theorem tb3 (s : ByteArray) (w : World) : (Instr.typeAssert (.iface 55 (.string s)) 27 55 true).run Tryd.prog w = .ok (.tuple #[.string s, .bool true]) w := by kernel_rfl
theorem me1 (n : Int) (w : World) : (method 194 53 (.int .i64 n) "packhorse/value.kind").run Tryd.prog w = .ok (57, .int .i64 n) w := by kernel_rfl
theorem me2 (s : ByteArray) (w : World) : (method 194 55 (.string s) "packhorse/value.kind").run Tryd.prog w = .ok (58, .string s) w := by kernel_rfl

theorem kind_number (n : Int) (w : World) : Calls Tryd.prog 57 #[.int .i64 n] w fun e w' => e = .returned (.int .i64 1) ∧ w = w' := by
  go_enter Tryd.func57, Tryd.ntmps57
  go_wp2
  go_ret
  exact ⟨rfl, rfl⟩
theorem kind_text (s : ByteArray) (w : World) : Calls Tryd.prog 58 #[.string s] w fun e w' => e = .returned (.int .i64 2) ∧ w = w' := by
  go_enter Tryd.func58, Tryd.ntmps58
  go_wp2
  go_ret
  exact ⟨rfl, rfl⟩

set_option maxHeartbeats 1000000 in
theorem Kind_none (w : World) :
    Calls Tryd.prog 18 #[.agg #[.nilIface]] w fun e w' => e = .returned (.int .i64 0) ∧ Below w.heap.size w w' := by
  have t1 := ta1
  have t2 := tb1
  go_enter Tryd.func18, Tryd.ntmps18
  go_wp2_with fail
  go_ret
  exact ⟨rfl, (Below.refl _ _).alloc (Nat.le_refl _) _⟩

set_option maxHeartbeats 1000000 in
theorem AsInt_none (w : World) :
    Calls Tryd.prog 16 #[.agg #[.nilIface]] w fun e w' => e = .returned (.tuple #[.int .i64 0, .bool false]) ∧ Below w.heap.size w w' := by
  have t1 := ta1
  have t2 := tb1
  go_enter Tryd.func16, Tryd.ntmps16
  go_wp2
  go_ret2
  exact ⟨rfl, (Below.refl _ _).alloc (Nat.le_refl _) _⟩

set_option maxHeartbeats 1000000 in
theorem Raw_none (w : World) :
    Calls Tryd.prog 17 #[.agg #[.nilIface]] w fun e w' => e = .returned (.agg #[.int .i64 0, .int .i64 0, .string ⟨#[]⟩]) ∧ Below w.heap.size w w' := by
  have t1 := ta1
  have t2 := tb1
  go_enter Tryd.func17, Tryd.ntmps17
  go_wp2
  refine bodyPost_ret (v := .agg #[.int .i64 0, .int .i64 0, .string ⟨#[]⟩]) (by simp [results, Tryd.results17, go_sem]) rfl ⟨rfl, ?_⟩
  exact ((Below.refl _ _).alloc (Nat.le_refl _) _).alloc (by simp) _

set_option maxHeartbeats 1000000 in
theorem Kind_int (n : Int) (w : World) :
    Calls Tryd.prog 18 #[.agg #[.iface 53 (.int .i64 n)]] w fun e w' => e = .returned (.int .i64 1) ∧ Below w.heap.size w w' := by
  have t1 := ta2 n
  have t2 := tb2 n
  have t3 := me1 n
  go_enter Tryd.func18, Tryd.ntmps18
  go_wp2_with (go_at_call 57; refine (kind_number _ _).mono ?_; rintro e w' ⟨rfl, rfl⟩)
  go_ret
  exact ⟨rfl, (Below.refl _ _).alloc (Nat.le_refl _) _⟩

set_option maxHeartbeats 1000000 in
theorem AsInt_int (n : Int) (w : World) :
    Calls Tryd.prog 16 #[.agg #[.iface 53 (.int .i64 n)]] w fun e w' => e = .returned (.tuple #[.int .i64 n, .bool true]) ∧ Below w.heap.size w w' := by
  have t1 := ta2 n
  have t2 := tb2 n
  have t3 := me1 n
  go_enter Tryd.func16, Tryd.ntmps16
  go_wp2
  go_ret2
  exact ⟨rfl, (Below.refl _ _).alloc (Nat.le_refl _) _⟩

set_option maxHeartbeats 1000000 in
theorem Raw_int (n : Int) (w : World) :
    Calls Tryd.prog 17 #[.agg #[.iface 53 (.int .i64 n)]] w fun e w' => e = .returned (.agg #[.int .i64 1, .int .i64 n, .string ⟨#[]⟩]) ∧ Below w.heap.size w w' := by
  have t1 := ta2 n
  have t2 := tb2 n
  have t3 := me1 n
  go_enter Tryd.func17, Tryd.ntmps17
  go_wp2
  refine bodyPost_ret (v := .agg #[.int .i64 1, .int .i64 n, .string ⟨#[]⟩]) (by simp [results, Tryd.results17, go_sem]) rfl ⟨rfl, ?_⟩
  exact ((Below.refl _ _).alloc (Nat.le_refl _) _).alloc (by simp) _

set_option maxHeartbeats 1000000 in
theorem Kind_text (s : ByteArray) (w : World) :
    Calls Tryd.prog 18 #[.agg #[.iface 55 (.string s)]] w fun e w' => e = .returned (.int .i64 2) ∧ Below w.heap.size w w' := by
  have t1 := ta3 s
  have t2 := tb3 s
  have t3 := me2 s
  go_enter Tryd.func18, Tryd.ntmps18
  go_wp2_with (go_at_call 58; refine (kind_text _ _).mono ?_; rintro e w' ⟨rfl, rfl⟩)
  go_ret
  exact ⟨rfl, (Below.refl _ _).alloc (Nat.le_refl _) _⟩

set_option maxHeartbeats 1000000 in
theorem AsInt_text (s : ByteArray) (w : World) :
    Calls Tryd.prog 16 #[.agg #[.iface 55 (.string s)]] w fun e w' => e = .returned (.tuple #[.int .i64 0, .bool false]) ∧ Below w.heap.size w w' := by
  have t1 := ta3 s
  have t2 := tb3 s
  have t3 := me2 s
  go_enter Tryd.func16, Tryd.ntmps16
  go_wp2
  go_ret2
  exact ⟨rfl, (Below.refl _ _).alloc (Nat.le_refl _) _⟩

set_option maxHeartbeats 1000000 in
theorem Raw_text (s : ByteArray) (w : World) :
    Calls Tryd.prog 17 #[.agg #[.iface 55 (.string s)]] w fun e w' => e = .returned (.agg #[.int .i64 2, .int .i64 0, .string s]) ∧ Below w.heap.size w w' := by
  have t1 := ta3 s
  have t2 := tb3 s
  have t3 := me2 s
  go_enter Tryd.func17, Tryd.ntmps17
  go_wp2
  refine bodyPost_ret (v := .agg #[.int .i64 2, .int .i64 0, .string s]) (by simp [results, Tryd.results17, go_sem]) rfl ⟨rfl, ?_⟩
  exact ((Below.refl _ _).alloc (Nat.le_refl _) _).alloc (by simp) _

end Go.Proofs.YtckgicpfgfkndaaDoor
