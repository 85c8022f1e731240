/-
  Texts of the proof, one behind the other (part 5).
-/
import Derived.Test.YtcfaicomnngegaaDoorM4
import Derived.Deep.RegionHeld3
/-
  Sx, memory that is not written any more; pieces made of pieces.
-/
set_option linter.unusedVariables false
namespace Go.Sx
open Go.RowKit
theorem perm_pick {r : Res} {L L' K : List Res} (p : Pick r L L') (h : L'.Perm K) : L.Perm (r :: K) := by
  induction p generalizing K with
  | hd => exact h.cons r
  | tl p ih => exact ((ih (List.Perm.refl _)).cons _).trans ((List.Perm.swap _ _ _).trans (h.cons r))
/-- What is frozen: each block with what it holds. -/
abbrev Fh := Nat → Option Obj
def Fz (H : Fh) : Res where
  ok F W := ∀ b o, H b = some o → F b ∧ W.heap[b]? = some o
  loc F W W' h k := fun b o hb => ⟨(k b o hb).1, (h b (k b o hb).1).trans (k b o hb).2⟩
/-- More is frozen. -/
def Fh.le (H H' : Fh) : Prop := ∀ b o, H b = some o → H' b = some o
theorem Fh.le.refl (H : Fh) : H.le H := fun _ _ h => h
theorem Fh.le.trans {H H' H'' : Fh} (h : H.le H') (k : H'.le H'') : H.le H'' := fun b o e => k b o (h b o e)
/-- A world's blocks. -/
def fr (w : World) : Fh := fun b => w.heap[b]?
section
variable {G : Nat} {w W W' : World} {L L' R : List Res} {H H' : Fh}
theorem Has.startF (w : World) : Has 0 w w [Fz (fr w)] :=
  ⟨Ext.refl _ _, Nat.zero_le _, fun b => 0 ≤ b ∧ b < w.heap.size, fun _ h => h, fun b o hb => ⟨⟨Nat.zero_le _, (Array.getElem?_eq_some_iff.1 hb).1⟩, hb⟩, trivial⟩
theorem Has.endF (h : Has 0 w W L) (i : In (Fz H) L) (hH : (fr w).le H) : Below w.heap.size w W := by
  obtain ⟨F, _, h2⟩ := h.of_in i
  refine ⟨h.ext.os, h.ext.tape, h.ext.output, h.ext.size, fun b hb => ?_⟩
  obtain ⟨o, ho⟩ : ∃ o, w.heap[b]? = some o := ⟨w.heap[b], Array.getElem?_eq_getElem hb⟩
  rw [ho]
  exact (h2 b o (hH b o ho)).2
/-- Read in what is frozen. -/
def RdH (H : Fh) (size : Nat) (v : Value) (n : Nat) (xs : List Value) : Prop :=
  xs.length = n * size ∧ ∃ ad cap, v = .slice ad n cap ∧ n ≤ cap ∧ cap ≤ 9223372036854775807 ∧ (n = 0 ∨ ∃ b o cs T z, ad = some ⟨b, o, none⟩ ∧ H b = some (.cells cs T z) ∧ ∀ j x, xs[j]? = some x → cs[o + j]? = some x)
theorem RdH.le {size n : Nat} {v : Value} {xs : List Value} (r : RdH H size v n xs) (h : H.le H') : RdH H' size v n xs := by
  obtain ⟨h1, ad, cap, h2, h3, h4, h5⟩ := r
  refine ⟨h1, ad, cap, h2, h3, h4, h5.imp id ?_⟩
  rintro ⟨b, o, cs, T, z, e, hb, hc⟩
  exact ⟨b, o, cs, T, z, e, h _ _ hb, hc⟩
theorem RdH.len {size n : Nat} {v : Value} {xs : List Value} (r : RdH H size v n xs) : n ≤ 9223372036854775807 := by
  obtain ⟨_, _, cap, _, h3, h4, _⟩ := r; omega
theorem RdH.slice {size n : Nat} {v : Value} {xs : List Value} (r : RdH H size v n xs) : ∃ ad cap, v = .slice ad n cap := by
  obtain ⟨_, ad, cap, e, _⟩ := r; exact ⟨ad, cap, e⟩
theorem RdH.nil (H : Fh) (size c : Nat) (hc : c ≤ 9223372036854775807) : RdH H size (.slice none 0 c) 0 [] := ⟨by simp, none, c, rfl, by omega, hc, .inl rfl⟩
theorem RdH.of_rd {size n : Nat} {v : Value} {xs : List Value} (r : Rd W size v n xs) (hH : (fr W).le H) (h0 : 0 < size) : RdH H size v n xs := by
  obtain ⟨h1, ad, cap, h2, h3, h4, h5⟩ := r
  refine ⟨h1, ad, cap, h2, h3, h4, ?_⟩
  rcases h5 with h5 | ⟨b, o, e, hlt, hc⟩
  · exact .inl h5
  · rcases Nat.eq_zero_or_pos n with hn | hn
    · exact .inl hn
    · right
      have hx : 0 < xs.length := by rw [h1]; exact Nat.mul_pos hn h0
      have hc0 := hc 0 xs[0] (by simp [hx])
      unfold World.cell? at hc0
      cases hb : W.heap[b]? with
      | none => simp [hb] at hc0
      | some ob =>
        cases ob with
        | cells cs T z =>
          refine ⟨b, o, cs, T, z, e, hH b _ hb, fun j x hj => ?_⟩
          have := hc j x hj
          unfold World.cell? at this
          simpa [hb] using this
        | _ => simp [hb] at hc0
/-- What is frozen can be read. -/
theorem Has.rdH {w0 : World} {size n : Nat} {v : Value} {xs : List Value} (h : Has G w0 W L) (i : In (Fz H) L) (r : RdH H size v n xs) : Rd W size v n xs := by
  obtain ⟨F, hF, h2⟩ := h.of_in i
  obtain ⟨h1, ad, cap, e2, h3, h4, h5⟩ := r
  refine ⟨h1, ad, cap, e2, h3, h4, h5.imp id ?_⟩
  rintro ⟨b, o, cs, T, z, e, hb, hc⟩
  have hw := h2 b _ hb
  refine ⟨b, o, e, (hF b hw.1).2, fun j x hx => ?_⟩
  unfold World.cell?
  rw [hw.2]
  simpa using hc j x hx
/-- A piece is frozen. -/
theorem Has.freeze {r : Res} {R' : List Res} (h : Has G w W (r :: Fz H :: R)) : ∃ H', H.le H' ∧ Has G w W (Fz H' :: R) ∧ ∃ F, r.ok F W ∧ ∀ b o, F b → W.heap[b]? = some o → H' b = some o := by
  classical
  obtain ⟨F1, h1, h2, F2, h3, h4, h5⟩ := h.has
  refine ⟨fun b => if F1 b then W.heap[b]? else H b, fun b o hb => ?_, ⟨h.ext, h.glob, fun b => F1 b ∨ F2 b, ?_, fun b o hb => ?_, ?_⟩, F1, h2, fun b o hb ho => ?_⟩
  · have := (h3 b (h4 b o hb).1).2
    simp only [if_neg this]
    exact hb
  · rintro b (hb | hb)
    · exact h1 b hb
    · exact (h3 b hb).1
  · by_cases hf : F1 b
    · simp only [if_pos hf] at hb
      exact ⟨.inl hf, hb⟩
    · simp only [if_neg hf] at hb
      exact ⟨.inr (h4 b o hb).1, (h4 b o hb).2⟩
  · refine h5.mono fun b hb => ⟨hb.1.1, ?_⟩
    rintro (h | h)
    · exact hb.1.2 h
    · exact hb.2 h
  · simp only [if_pos hb]; exact ho
/-- A row of one's own is frozen. -/
theorem Has.freeze_own {E : TypeId} {size n : Nat} {v : Value} {xs : List Value} (h : Has G w W (Own E size v n xs :: Fz H :: R)) : ∃ H', H.le H' ∧ Has G w W (Fz H' :: R) ∧ RdH H' size v n xs := by
  obtain ⟨H', h1, h2, F, h3, h4⟩ := h.freeze (R' := [])
  refine ⟨H', h1, h2, ?_⟩
  obtain ⟨hl, ⟨rfl, rfl⟩ | ⟨g, cap, cur, rfl, hF, hg, hnc, hcm, hcs, ht⟩⟩ := h3
  · exact ⟨hl, none, 0, rfl, by omega, by omega, .inl rfl⟩
  · refine ⟨hl, some ⟨g, 0, none⟩, cap, rfl, hnc, by unfold maxLen at hcm; omega, .inr ⟨g, 0, ⟨cur⟩, E, (0, 0), rfl, h4 g _ hF hg, fun j x hx => ?_⟩⟩
    rw [← ht, List.getElem?_take] at hx
    split at hx
    · simpa using hx
    · cases hx
end

/-- A piece made of pieces that hang on what is not told. -/
def Ex {α : Type} (Ls : α → List Res) : Res where
  ok F W := ∃ x, HasIn W (Ls x) F
  loc F W W' h := fun ⟨x, k⟩ => ⟨x, k.loc h⟩
theorem HasIn.append {W : World} : ∀ {A B : List Res} {F F1 : Nat → Prop}, HasIn W A F1 → (∀ b, F1 b → F b) → HasIn W B (fun b => F b ∧ ¬ F1 b) → HasIn W (A ++ B) F
  | [], B, F, F1, _, _, h => h.mono fun b hb => hb.1
  | r :: A, B, F, F1, ⟨F2, h1, h2, h3⟩, hF, h => by
    refine ⟨F2, fun b hb => hF b (h1 b hb), h2, HasIn.append (F1 := fun b => F1 b ∧ ¬ F2 b) h3 (fun b hb => ⟨hF b hb.1, hb.2⟩) ?_⟩
    exact h.mono fun b hb => ⟨⟨hb.1, fun h2 => hb.2 (h1 b h2)⟩, fun h2 => hb.2 h2.1⟩
theorem HasIn.unappend {W : World} : ∀ {A B : List Res} {F : Nat → Prop}, HasIn W (A ++ B) F → ∃ F1, (∀ b, F1 b → F b) ∧ HasIn W A F1 ∧ HasIn W B (fun b => F b ∧ ¬ F1 b)
  | [], B, F, h => ⟨fun _ => False, fun _ h => h.elim, trivial, h.mono fun b hb => ⟨hb, fun h => h⟩⟩
  | r :: A, B, F, ⟨F2, h1, h2, h3⟩ => by
    obtain ⟨F1, g1, g2, g3⟩ := HasIn.unappend h3
    refine ⟨fun b => F2 b ∨ F1 b, ?_, ⟨F2, fun b hb => .inl hb, h2, g2.mono fun b hb => ⟨.inr hb, (g1 b hb).2⟩⟩, g3.mono fun b hb => ⟨hb.1.1, ?_⟩⟩
    · rintro b (hb | hb)
      · exact h1 b hb
      · exact (g1 b hb).1
    · rintro (h | h)
      · exact hb.1.2 h
      · exact hb.2 h
section
variable {α : Type} {Ls : α → List Res} {G : Nat} {w W : World} {R : List Res}
theorem Has.shut (x : α) (h : Has G w W (Ls x ++ R)) : Has G w W (Ex Ls :: R) := by
  obtain ⟨F1, h1, h2, h3⟩ := HasIn.unappend h.has
  exact ⟨h.ext, h.glob, F1, h1, ⟨x, h2⟩, h3⟩
theorem Has.open (h : Has G w W (Ex Ls :: R)) : ∃ x, Has G w W (Ls x ++ R) := by
  obtain ⟨F1, h1, ⟨x, h2⟩, h3⟩ := h.has
  exact ⟨x, h.ext, h.glob, HasIn.append h2 h1 h3⟩
end
section
variable {P : Program} {ops : Array Oper} {rest : List Oper} {Q : Exit → Act → World → Prop} {a : Act} {n G : Nat} {L : List (Nat × Value)} {w W W' : World} {R : List Res} {d : Nat} {T S S' E : TypeId} {p : String} {e : Array Edge} {x : Operand} {ad : Addr}
/-- A pointer against nil. -/
theorem st_ptrSome (hs : Slots a n L) (hx : ev L x = some (.pointer (some ad)) := by with_unfolding_all exact rfl) (ht : P.underlying S = some (.pointer (P.pointee S)) := by kernel_rfl) (hd : Nat.blt d n = true := by with_unfolding_all exact rfl)
    (k : ∀ a', Slots a' n ((d, .bool false) :: L) → wpList P ops Q rest a' W) : wpList P ops Q (⟨some d, .binOp .eql S x (.const (.pointer none)) S', T, p, e, none⟩ :: rest) a W := by
  refine st_value hs hd (W' := W) ?_ k
  have h2 : (binOp .eql S (.pointer (some ad)) (.pointer none)).run P W = .ok (.bool false) W := by
    have := run_eql_pointer_nil (P := P) W S (some ad) ht
    simpa using this
  have h3 : a.eval (.const (.pointer none)) = .pointer none := rfl
  simp only [execOp, hs.ev hx, h3, Sem.run_bind]
  simp [eqGuard, h2]
theorem st_ptrNone (hs : Slots a n L) (hx : ev L x = some (.pointer none) := by with_unfolding_all exact rfl) (ht : P.underlying S = some (.pointer (P.pointee S)) := by kernel_rfl) (hd : Nat.blt d n = true := by with_unfolding_all exact rfl)
    (k : ∀ a', Slots a' n ((d, .bool true) :: L) → wpList P ops Q rest a' W) : wpList P ops Q (⟨some d, .binOp .eql S x (.const (.pointer none)) S', T, p, e, none⟩ :: rest) a W := by
  refine st_value hs hd (W' := W) ?_ k
  have h2 : (binOp .eql S (.pointer none) (.pointer none)).run P W = .ok (.bool true) W := by
    have := run_eql_pointer_nil (P := P) W S none ht
    simpa using this
  have h3 : a.eval (.const (.pointer none)) = .pointer none := rfl
  simp only [execOp, hs.ev hx, h3, Sem.run_bind]
  simp [eqGuard, h2]
end
/-- An array's type. -/
class Ar (P : Program) (S : TypeId) (len : outParam Nat) (E : outParam TypeId) : Prop where
  out : P.underlying S = some (.array len E)
section
variable {P : Program} {ops : Array Oper} {rest : List Oper} {Q : Exit → Act → World → Prop} {a : Act} {n G : Nat} {L : List (Nat × Value)} {w W W' : World} {R : List Res} {d k b o len : Nat} {T S S' E : TypeId} {p : String} {e : Array Edge} {x y : Operand} {z : List Value} {q : IntKind} {j : Int}
/-- An empty literal: a row of one's own. -/
theorem st_buildSlice0 {agg : Bool} [sl : Sl P S E] [t : Ty P E agg z] (hs : Slots a n L) (hw : Has G w W R) (hd : Nat.blt d n = true := by with_unfolding_all exact rfl)
    (c : ∀ a' ad W', Has G w W' (Own E z.length (.slice ad 0 0) 0 [] :: R) → Slots a' n ((d, .slice ad 0 0) :: L) → wpList P ops Q rest a' W') : wpList P ops Q (⟨some d, .buildSlice S 0 #[], T, p, e, none⟩ :: rest) a W := by
  have hr : (Instr.buildSlice S 0 #[]).run P W = .ok (.slice (some ⟨W.heap.size, 0, none⟩) 0 0) (W.alloc (.cells ⟨[]⟩ E)) := by
    have hf : ∀ (f : Nat → Option (Nat × Nat)) (cs : Array Value), Instr.fill f cs [] = some cs := fun f cs => rfl
    have h0 : ∀ g : Nat → Value, (Array.range 0).map g = ⟨[]⟩ := fun g => by simp
    simp only [Instr.buildSlice, Sem.run_bind, run_underlying sl.out, Result.andThen_ok, t.sizeOf, Nat.zero_mul, if_true, hf, h0, newRow]
    rfl
  refine st_value hs hd (v := .slice (some ⟨W.heap.size, 0, none⟩) 0 0) (W' := W.alloc (.cells ⟨[]⟩ E)) ?_ fun a' hs' => c a' _ _ ?_ hs'
  · simp only [execOp, Sem.run_bind, List.map_toArray, List.map_nil]
    rw [hr]
    rfl
  · obtain ⟨F1, h1, ⟨h2, h3⟩, h4⟩ := (hw.new [] E).has
    exact ⟨(hw.new [] E).ext, hw.glob, F1, h1, ⟨by simp, .inr ⟨W.heap.size, 0, [], rfl, h2, h3, Nat.le_refl _, Nat.zero_le _, by simp, by simp⟩⟩, h4⟩
/-- An array's element, its address. -/
theorem st_index_arr {agg : Bool} [ar : Ar P S len E] [t : Ty P E agg z] (hs : Slots a n L) (hx : ev L x = some (.pointer (some ⟨b, o, none⟩)) := by with_unfolding_all exact rfl) (hy : ev L y = some (.int q j) := by with_unfolding_all exact rfl) (h0 : 0 ≤ j) (h1 : j < len) (hd : Nat.blt d n = true := by with_unfolding_all exact rfl)
    (c : ∀ a', Slots a' n ((d, .pointer (some ⟨b, o + j.toNat * z.length, none⟩)) :: L) → wpList P ops Q rest a' W) : wpList P ops Q (⟨some d, .indexAddr S x y, T, p, e, none⟩ :: rest) a W := by
  refine st_value hs hd (W' := W) ?_ c
  simp only [execOp, hs.ev hx, hs.ev hy, Instr.indexAt, asIntOf, Sem.run_bind, Sem.run_pure, Result.andThen_ok, run_underlying ar.out, Instr.sureAddr]
  rw [if_pos ⟨h0, h1⟩]
  simp only [Sem.run_bind, t.sizeOf, Result.andThen_ok, Sem.run_pure, addr_add]
end
end Go.Sx

/-
  The walks of package value: Kind, AsInt, Raw.
-/
set_option linter.unusedVariables false
namespace Go.Proofs.YtcfaicomnngegaaDoor
open Go.RowKit

def kindOf : Option (Int ⊕ ByteArray) → Int
  | none => 0
  | some (.inl _) => 1
  | some (.inr _) => 2
def intIn : Option (Int ⊕ ByteArray) → Int
  | some (.inl n) => n
  | _ => 0
def isInt : Option (Int ⊕ ByteArray) → Bool
  | some (.inl _) => true
  | _ => false
def textIn : Option (Int ⊕ ByteArray) → ByteArray
  | some (.inr s) => s
  | _ => ⟨#[]⟩

/-! what the program's tables say of the two dynamic types -/
theorem ta1 (w : World) : (Instr.typeAssert .nilIface 122 141 true).run Tryd.prog w = .ok (.tuple #[.int .i64 0, .bool false]) w := by kernel_rfl
theorem ta2 (n : Int) (w : World) : (Instr.typeAssert (.iface 141 (.int .i64 n)) 122 141 true).run Tryd.prog w = .ok (.tuple #[.int .i64 n, .bool true]) w := by kernel_rfl
theorem ta3 (s : ByteArray) (w : World) : (Instr.typeAssert (.iface 142 (.string s)) 122 141 true).run Tryd.prog w = .ok (.tuple #[.int .i64 0, .bool false]) w := by kernel_rfl
theorem tb1 (w : World) : (Instr.typeAssert .nilIface 122 142 true).run Tryd.prog w = .ok (.tuple #[.string ⟨#[]⟩, .bool false]) w := by kernel_rfl
theorem tb2 (n : Int) (w : World) : (Instr.typeAssert (.iface 141 (.int .i64 n)) 122 142 true).run Tryd.prog w = .ok (.tuple #[.string ⟨#[]⟩, .bool false]) w := by kernel_rfl
theorem tb3 (s : ByteArray) (w : World) : (Instr.typeAssert (.iface 142 (.string s)) 122 142 true).run Tryd.prog w = .ok (.tuple #[.string s, .bool true]) w := by kernel_rfl
theorem me1 (n : Int) (w : World) : (method 267 141 (.int .i64 n) "packhorse/value.kind").run Tryd.prog w = .ok (107, .int .i64 n) w := by kernel_rfl
theorem me2 (s : ByteArray) (w : World) : (method 267 142 (.string s) "packhorse/value.kind").run Tryd.prog w = .ok (108, .string s) w := by kernel_rfl

theorem kind_number (n : Int) (w : World) : Calls Tryd.prog 107 #[.int .i64 n] w fun e w' => e = .returned (.int .i64 1) ∧ w = w' := by
  go_enter Tryd.func107, Tryd.ntmps107
  go_wp2
  go_ret
  exact ⟨rfl, rfl⟩
theorem kind_text (s : ByteArray) (w : World) : Calls Tryd.prog 108 #[.string s] w fun e w' => e = .returned (.int .i64 2) ∧ w = w' := by
  go_enter Tryd.func108, Tryd.ntmps108
  go_wp2
  go_ret
  exact ⟨rfl, rfl⟩

set_option maxHeartbeats 1000000 in
theorem Kind_none (w : World) :
    Calls Tryd.prog 81 #[.agg #[.nilIface]] w fun e w' => e = .returned (.int .i64 0) ∧ Below w.heap.size w w' := by
  have t1 := ta1
  have t2 := tb1
  go_enter Tryd.func81, Tryd.ntmps81
  go_wp2_with fail
  go_ret
  exact ⟨rfl, (Below.refl _ _).alloc (Nat.le_refl _) _⟩

set_option maxHeartbeats 1000000 in
theorem AsInt_none (w : World) :
    Calls Tryd.prog 80 #[.agg #[.nilIface]] w fun e w' => e = .returned (.tuple #[.int .i64 0, .bool false]) ∧ Below w.heap.size w w' := by
  have t1 := ta1
  have t2 := tb1
  go_enter Tryd.func80, Tryd.ntmps80
  go_wp2
  go_ret2
  exact ⟨rfl, (Below.refl _ _).alloc (Nat.le_refl _) _⟩

set_option maxHeartbeats 1000000 in
theorem Raw_none (w : World) :
    Calls Tryd.prog 85 #[.agg #[.nilIface]] w fun e w' => e = .returned (.agg #[.int .i64 0, .int .i64 0, .string ⟨#[]⟩]) ∧ Below w.heap.size w w' := by
  have t1 := ta1
  have t2 := tb1
  go_enter Tryd.func85, Tryd.ntmps85
  go_wp2
  refine bodyPost_ret (v := .agg #[.int .i64 0, .int .i64 0, .string ⟨#[]⟩]) (by simp [results, Tryd.results85, go_sem]) rfl ⟨rfl, ?_⟩
  exact ((Below.refl _ _).alloc (Nat.le_refl _) _).alloc (by simp) _

set_option maxHeartbeats 1000000 in
theorem Kind_int (n : Int) (w : World) :
    Calls Tryd.prog 81 #[.agg #[.iface 141 (.int .i64 n)]] w fun e w' => e = .returned (.int .i64 1) ∧ Below w.heap.size w w' := by
  have t1 := ta2 n
  have t2 := tb2 n
  have t3 := me1 n
  go_enter Tryd.func81, Tryd.ntmps81
  go_wp2_with (go_at_call 107; refine (kind_number _ _).mono ?_; rintro e w' ⟨rfl, rfl⟩)
  go_ret
  exact ⟨rfl, (Below.refl _ _).alloc (Nat.le_refl _) _⟩

set_option maxHeartbeats 1000000 in
theorem AsInt_int (n : Int) (w : World) :
    Calls Tryd.prog 80 #[.agg #[.iface 141 (.int .i64 n)]] w fun e w' => e = .returned (.tuple #[.int .i64 n, .bool true]) ∧ Below w.heap.size w w' := by
  have t1 := ta2 n
  have t2 := tb2 n
  have t3 := me1 n
  go_enter Tryd.func80, Tryd.ntmps80
  go_wp2
  go_ret2
  exact ⟨rfl, (Below.refl _ _).alloc (Nat.le_refl _) _⟩

set_option maxHeartbeats 1000000 in
theorem Raw_int (n : Int) (w : World) :
    Calls Tryd.prog 85 #[.agg #[.iface 141 (.int .i64 n)]] w fun e w' => e = .returned (.agg #[.int .i64 1, .int .i64 n, .string ⟨#[]⟩]) ∧ Below w.heap.size w w' := by
  have t1 := ta2 n
  have t2 := tb2 n
  have t3 := me1 n
  go_enter Tryd.func85, Tryd.ntmps85
  go_wp2
  refine bodyPost_ret (v := .agg #[.int .i64 1, .int .i64 n, .string ⟨#[]⟩]) (by simp [results, Tryd.results85, go_sem]) rfl ⟨rfl, ?_⟩
  exact ((Below.refl _ _).alloc (Nat.le_refl _) _).alloc (by simp) _

set_option maxHeartbeats 1000000 in
theorem Kind_text (s : ByteArray) (w : World) :
    Calls Tryd.prog 81 #[.agg #[.iface 142 (.string s)]] w fun e w' => e = .returned (.int .i64 2) ∧ Below w.heap.size w w' := by
  have t1 := ta3 s
  have t2 := tb3 s
  have t3 := me2 s
  go_enter Tryd.func81, Tryd.ntmps81
  go_wp2_with (go_at_call 108; refine (kind_text _ _).mono ?_; rintro e w' ⟨rfl, rfl⟩)
  go_ret
  exact ⟨rfl, (Below.refl _ _).alloc (Nat.le_refl _) _⟩

set_option maxHeartbeats 1000000 in
theorem AsInt_text (s : ByteArray) (w : World) :
    Calls Tryd.prog 80 #[.agg #[.iface 142 (.string s)]] w fun e w' => e = .returned (.tuple #[.int .i64 0, .bool false]) ∧ Below w.heap.size w w' := by
  have t1 := ta3 s
  have t2 := tb3 s
  have t3 := me2 s
  go_enter Tryd.func80, Tryd.ntmps80
  go_wp2
  go_ret2
  exact ⟨rfl, (Below.refl _ _).alloc (Nat.le_refl _) _⟩

set_option maxHeartbeats 1000000 in
theorem Raw_text (s : ByteArray) (w : World) :
    Calls Tryd.prog 85 #[.agg #[.iface 142 (.string s)]] w fun e w' => e = .returned (.agg #[.int .i64 2, .int .i64 0, .string s]) ∧ Below w.heap.size w w' := by
  have t1 := ta3 s
  have t2 := tb3 s
  have t3 := me2 s
  go_enter Tryd.func85, Tryd.ntmps85
  go_wp2
  refine bodyPost_ret (v := .agg #[.int .i64 2, .int .i64 0, .string s]) (by simp [results, Tryd.results85, go_sem]) rfl ⟨rfl, ?_⟩
  exact ((Below.refl _ _).alloc (Nat.le_refl _) _).alloc (by simp) _

end Go.Proofs.YtcfaicomnngegaaDoor

/-
  The walks of package value: Raw, Kind, AsInt, Eq (of whatever value).
-/
set_option linter.unusedVariables false
namespace Go.Proofs.YtcfaicomnngegaaDoor
open Go.RowKit

theorem eq_raw (k n : Int) (s : ByteArray) (k' n' : Int) (s' : ByteArray) (w : World) :
    (binOp .eql 54 (.agg #[.int .i64 k, .int .i64 n, .string s]) (.agg #[.int .i64 k', .int .i64 n', .string s'])).run Tryd.prog w
      = .ok (.bool ((k == k') && (n == n') && (s.toList == s'.toList))) w := by
  have f1 : Tryd.prog.stoodInHeld 54 = false := by kernel_rfl
  have f2 : Tryd.prog.underlying 54 = some (.struct (Tryd.prog.fieldsOf 54)) := by kernel_rfl
  rw [run_eql_struct, run_equalIn_struct _ _ _ _ _ f2 f1]
  simp only [Program.fieldsOf]
  cases hk : k == k' <;> cases hn : n == n' <;> cases hs : s.toList == s'.toList <;> simp [go_sem, Op.eqFields, part, hk, hn, hs]

theorem Raw_any (x : Option (Int ⊕ ByteArray)) (w : World) :
    Calls Tryd.prog 85 #[.agg #[vCell x]] w fun e w' => e = .returned (.agg #[.int .i64 (kindOf x), .int .i64 (intIn x), .string (textIn x)]) ∧ Below w.heap.size w w' := by
  rcases x with _ | n | s
  · exact Raw_none w
  · exact Raw_int n w
  · exact Raw_text s w
theorem Kind_any (x : Option (Int ⊕ ByteArray)) (w : World) :
    Calls Tryd.prog 81 #[.agg #[vCell x]] w fun e w' => e = .returned (.int .i64 (kindOf x)) ∧ Below w.heap.size w w' := by
  rcases x with _ | n | s
  · exact Kind_none w
  · exact Kind_int n w
  · exact Kind_text s w
theorem AsInt_any (x : Option (Int ⊕ ByteArray)) (w : World) :
    Calls Tryd.prog 80 #[.agg #[vCell x]] w fun e w' => e = .returned (.tuple #[.int .i64 (intIn x), .bool (isInt x)]) ∧ Below w.heap.size w w' := by
  rcases x with _ | n | s
  · exact AsInt_none w
  · exact AsInt_int n w
  · exact AsInt_text s w

/-- two values the same. -/
def eqV (x y : Option (Int ⊕ ByteArray)) : Bool := (kindOf x == kindOf y) && (intIn x == intIn y) && ((textIn x).toList == (textIn y).toList)

set_option maxRecDepth 100000 in
set_option maxHeartbeats 4000000 in
theorem value_Eq (x y : Option (Int ⊕ ByteArray)) (w : World) :
    Calls Tryd.prog 79 #[.agg #[vCell x], .agg #[vCell y]] w fun e w' => e = .returned (.bool (eqV x y)) ∧ Below w.heap.size w w' := by
  have hv := fun (x : Option (Int ⊕ ByteArray)) (W : World) => Raw_any x W
  have he := eq_raw (kindOf x) (intIn x) (textIn x) (kindOf y) (intIn y) (textIn y)
  unfold eqV
  generalize kindOf = KK at *
  generalize intIn = NN at *
  generalize textIn = SS at *
  generalize vCell = V at *
  have HV := Lib.hid hv
  clear hv
  go_enter Tryd.func79, Tryd.ntmps79
  go_wp2_with fail
  have hb0 : Below w.heap.size w ((w.alloc (Obj.cells #[V x] 124)).alloc (Obj.cells #[V y] 124)) := ((Below.refl _ _).alloc (Nat.le_refl _) _).alloc (by simp) _
  have hc1 : ((w.alloc (Obj.cells #[V x] 124)).alloc (Obj.cells #[V y] 124)).cell? ⟨w.heap.size, 0, none⟩ = some (V x) := by simp [go_sem]
  have hc2 : ((w.alloc (Obj.cells #[V x] 124)).alloc (Obj.cells #[V y] 124)).cell? ⟨w.heap.size + 1, 0, none⟩ = some (V y) := by simp [go_sem]
  have hsz : w.heap.size + 1 < ((w.alloc (Obj.cells #[V x] 124)).alloc (Obj.cells #[V y] 124)).heap.size := by simp
  generalize (w.alloc (Obj.cells #[V x] 124)).alloc (Obj.cells #[V y] 124) = w1 at *
  have keepB : ∀ (W W' : World), (W.cell? ⟨w.heap.size, 0, none⟩ = some (V x) ∧ W.cell? ⟨w.heap.size + 1, 0, none⟩ = some (V y) ∧ w.heap.size + 1 < W.heap.size ∧ Below w.heap.size w W) → Below W.heap.size W W' → (W'.cell? ⟨w.heap.size, 0, none⟩ = some (V x) ∧ W'.cell? ⟨w.heap.size + 1, 0, none⟩ = some (V y) ∧ w.heap.size + 1 < W'.heap.size ∧ Below w.heap.size w W') := by
    rintro W W' ⟨a, b, c, d⟩ h
    have := h.size
    exact ⟨(h.cell (by simp; omega)).trans a, (h.cell (by simp; omega)).trans b, by omega, bjoin d h⟩
  have HK := Lib.hid keepB
  clear keepB
  go_region_held3 (fun W => W.cell? ⟨w.heap.size, 0, none⟩ = some (V x) ∧ W.cell? ⟨w.heap.size + 1, 0, none⟩ = some (V y) ∧ w.heap.size + 1 < W.heap.size ∧ Below w.heap.size w W)
    (first | (refine HK.out _ _ ?_ hb9; assumption) | assumption | exact ⟨by assumption, by assumption, by assumption, by assumption⟩ | exact ⟨by assumption, by assumption, by assumption, Below.drew (by assumption)⟩)
    (first | (go_at_call 85; refine (HV.out _ _).mono ?_; rintro e w9 ⟨rfl, hb9⟩))
  rename_i hHeld
  go_wp2
  go_ret
  exact ⟨rfl, hHeld.2.2.2⟩

end Go.Proofs.YtcfaicomnngegaaDoor

/-
  Documents: the walks of doc.New, has, set.
-/
set_option linter.unusedVariables false
set_option maxRecDepth 10000
namespace Go.Proofs.YtcfaicomnngegaaDoor.Sw
open Go.RowKit Go.Sx

instance mpDoc : Mp Tryd.prog 111 9 124 := ⟨by kernel_rfl, by kernel_rfl⟩
theorem zeroVal (W : World) : (zeroValue 124).run Tryd.prog W = .ok (.agg ⟨[vCell none]⟩) W := by kernel_rfl
abbrev DV := Int ⊕ ByteArray
/-- A document: keys and values. -/
abbrev Dm := List (ByteArray × DV)
def vOf (x : DV) : Value := .agg ⟨[vCell (some x)]⟩
def kvOf (d : Dm) : KV := d.map fun p => (p.1, vOf p.2)
def dKeys (d : Dm) : Prop := (d.map (·.1)).Nodup
def getK : Dm → ByteArray → Option DV
  | [], _ => none
  | p :: d, k => match ks k p.1 with | true => some p.2 | false => getK d k
def delD (d : Dm) (k : ByteArray) : Dm := d.filter fun p => !ks k p.1
def setD (d : Dm) (k : ByteArray) (v : DV) : Dm := (k, v) :: delD d k
theorem dget_kv : ∀ (d : Dm) (k : ByteArray), (dget (kvOf d) k).getD (.agg ⟨[vCell none]⟩) = .agg ⟨[vCell (getK d k)]⟩
  | [], _ => rfl
  | p :: d, k => by
    simp only [kvOf, List.map_cons, dget, getK]
    cases ks k p.1 with
    | true => rfl
    | false => exact dget_kv d k
theorem getK_none : ∀ {d : Dm} {k : ByteArray}, getK d k = none ↔ k ∉ d.map (·.1)
  | [], _ => by simp [getK]
  | p :: d, k => by
    simp only [getK, List.map_cons, List.mem_cons, not_or]
    cases hk : ks k p.1 with
    | true => simp [ks_iff.1 hk]
    | false =>
      have : k ≠ p.1 := fun h => by rw [ks_iff.2 h] at hk; cases hk
      simp only [this, not_false_eq_true, true_and]
      exact getK_none
theorem getK_mem : ∀ {d : Dm} {k : ByteArray} {v : DV}, dKeys d → (getK d k = some v ↔ (k, v) ∈ d)
  | [], _, _, _ => by simp [getK]
  | p :: d, k, v, h => by
    unfold dKeys at h
    rw [List.map_cons, List.nodup_cons] at h
    simp only [getK, List.mem_cons]
    cases hk : ks k p.1 with
    | true =>
      have e := ks_iff.1 hk
      constructor
      · intro h'
        injection h' with h'
        exact .inl (by rw [e, ← h'])
      · rintro (h' | h')
        · rw [← h']
        · exact absurd (List.mem_map_of_mem (f := (·.1)) h') (by rw [e]; exact h.1)
    | false =>
      have : k ≠ p.1 := fun h => by rw [ks_iff.2 h] at hk; cases hk
      simp only
      rw [getK_mem h.2]
      constructor
      · exact .inr
      · rintro (h' | h')
        · exact absurd (by rw [← h']) this
        · exact h'
theorem dKeys_perm {d d' : Dm} (p : d.Perm d') : dKeys d ↔ dKeys d' := (p.map _).nodup_iff
theorem getK_perm {d d' : Dm} (p : d.Perm d') (h : dKeys d) (k : ByteArray) : getK d k = getK d' k := by
  have h' : dKeys d' := (dKeys_perm p).1 h
  cases hd : getK d k with
  | some v => exact ((getK_mem h').2 (p.mem_iff.1 ((getK_mem h).1 hd))).symm
  | none =>
    rw [getK_none] at hd
    exact (getK_none.2 fun hm => hd ((p.map _).mem_iff.2 hm)).symm
theorem delD_keys {d : Dm} (h : dKeys d) (k : ByteArray) : dKeys (delD d k) := h.sublist (List.filter_sublist.map _)
theorem delD_not {d : Dm} {k : ByteArray} : k ∉ (delD d k).map (·.1) := by
  intro h
  obtain ⟨p, hp, rfl⟩ := List.mem_map.1 h
  have := (List.mem_filter.1 hp).2
  rw [ks_self] at this
  cases this
theorem setD_keys {d : Dm} (h : dKeys d) (k : ByteArray) (v : DV) : dKeys (setD d k v) := by
  unfold dKeys setD
  rw [List.map_cons, List.nodup_cons]
  exact ⟨delD_not, delD_keys h k⟩
theorem delD_perm {d d' : Dm} (p : d.Perm d') (k : ByteArray) : (delD d k).Perm (delD d' k) := p.filter _
theorem setD_perm {d d' : Dm} (p : d.Perm d') (k : ByteArray) (v : DV) : (setD d k v).Perm (setD d' k v) := (delD_perm p k).cons _
theorem filter_all {d : Dm} {k : ByteArray} (h : k ∉ d.map (·.1)) : (d.filter fun p => !ks k p.1) = d := by
  rw [List.filter_eq_self]
  intro p hp
  cases hk : ks k p.1 with
  | false => rfl
  | true => exact absurd (List.mem_map_of_mem (f := (·.1)) hp) (by rw [← ks_iff.1 hk]; exact h)
theorem ddel_kv : ∀ {d : Dm} (k : ByteArray), dKeys d → ddel (kvOf d) k = kvOf (delD d k)
  | [], _, _ => rfl
  | p :: d, k, h => by
    unfold dKeys at h
    rw [List.map_cons, List.nodup_cons] at h
    simp only [kvOf, List.map_cons, ddel, delD, List.filter_cons]
    cases hk : ks k p.1 with
    | true =>
      simp only [Bool.not_true, Bool.false_eq_true, if_false]
      rw [filter_all (by rw [ks_iff.1 hk]; exact h.1)]
    | false =>
      simp only [Bool.not_false, if_true, List.map_cons]
      have := ddel_kv (d := d) k h.2
      unfold kvOf delD at this
      rw [this]
theorem dset_kv : ∀ {d : Dm} (k : ByteArray) (v : DV), dKeys d → ∃ d', dset (kvOf d) k (vOf v) = kvOf d' ∧ d'.Perm (setD d k v)
  | [], k, v, _ => ⟨[(k, v)], rfl, List.Perm.refl _⟩
  | p :: d, k, v, h => by
    unfold dKeys at h
    rw [List.map_cons, List.nodup_cons] at h
    simp only [kvOf, List.map_cons, dset, setD, delD, List.filter_cons]
    cases hk : ks k p.1 with
    | true =>
      refine ⟨(k, v) :: d, rfl, ?_⟩
      simp only [Bool.not_true, Bool.false_eq_true, if_false]
      rw [filter_all (by rw [ks_iff.1 hk]; exact h.1)]
    | false =>
      obtain ⟨d', h1, h2⟩ := dset_kv (d := d) k v h.2
      refine ⟨p :: d', ?_, ?_⟩
      · show (p.1, vOf p.2) :: dset (kvOf d) k (vOf v) = _
        rw [h1]; rfl
      · simp only [Bool.not_false, if_true]
        exact (h2.cons p).trans (List.Perm.swap _ _ _)

/-- A document behind a pointer. -/
def DocAt (p : Nat) (d : Dm) : Res := Ex fun x : Nat × Dm => Cells p [.map (some x.1)] 113 :: MapOf x.1 (kvOf x.2) :: Fact (x.2.Perm d ∧ dKeys d) :: []
section
variable {G p m : Nat} {w W : World} {R : List Res} {d d' : Dm}
theorem docShut (h : Has G w W (Cells p [.map (some m)] 113 :: MapOf m (kvOf d') :: R)) (hp : d'.Perm d) (hk : dKeys d) : Has G w W (DocAt p d :: R) :=
  Has.shut (m, d') ((h.fact (p := d'.Perm d ∧ dKeys d) ⟨hp, hk⟩).perm ((List.Perm.swap _ _ _).trans (List.Perm.cons _ (List.Perm.swap _ _ _))))
theorem docOpen (h : Has G w W (DocAt p d :: R)) : ∃ m d', d'.Perm d ∧ dKeys d ∧ Has G w W (Cells p [.map (some m)] 113 :: MapOf m (kvOf d') :: R) := by
  obtain ⟨⟨m, d'⟩, h⟩ := Has.open h
  have h : Has G w W (Cells p [.map (some m)] 113 :: MapOf m (kvOf d') :: Fact (d'.Perm d ∧ dKeys d) :: R) := h
  obtain ⟨h1, h2⟩ := h.told (In.tl (In.tl In.hd))
  exact ⟨m, d', h1, h2, h.sub (List.Sublist.cons_cons _ (List.Sublist.cons_cons _ (List.Sublist.cons _ (List.Sublist.refl _))))⟩
end

set_option maxHeartbeats 4000000 in
theorem doc_New (w0 W : World) (R : List Res) (hw : Has 0 w0 W R) :
    Calls Tryd.prog 48 ⟨[]⟩ W fun e W' => ∃ p, e = .returned (.pointer (some ⟨p, 0, none⟩)) ∧ Has 0 w0 W' (DocAt p [] :: R) := by
  refine enter Tryd.func48 Tryd.ntmps48 rfl rfl fun a hs => ?_
  repeat (first | (refine sxv hs hw ?_; clear hs; intro a hs) | refine sxc hs ?_ | (refine sxa hs hw ?_; clear hs hw; intro a b W hw hs) | (refine sxs hs hw ?_; clear hs hw; intro W hs hw))
  refine st_makeMap hs hw (c := ?_); clear hs hw; intro a b W hw hs
  repeat (first | (refine sxv hs hw ?_; clear hs; intro a hs) | refine sxc hs ?_ | (refine sxa hs hw ?_; clear hs hw; intro a b W hw hs) | (refine sxs hs hw ?_; clear hs hw; intro W hs hw))
  refine rt1 hs rfl rfl ⟨_, rfl, ?_⟩
  exact docShut (d' := []) hw (List.Perm.refl _) (by unfold dKeys; simp)

theorem kind_some (x : Option DV) : (kindOf x != 0) = x.isSome := by rcases x with _ | n | s <;> rfl

set_option maxHeartbeats 4000000 in
theorem doc_has (w0 W : World) (p : Nat) (d : Dm) (k : ByteArray) (R : List Res) (hw : Has 0 w0 W (DocAt p d :: R)) :
    Calls Tryd.prog 86 ⟨[.pointer (some ⟨p, 0, none⟩), .string k]⟩ W fun e W' => e = .returned (.bool (getK d k).isSome) ∧ Has 0 w0 W' (DocAt p d :: R) := by
  obtain ⟨m, d', hp, hk, hw⟩ := docOpen hw
  refine enter Tryd.func86 Tryd.ntmps86 rfl rfl fun a hs => ?_
  repeat (first | (refine sxv hs hw ?_; clear hs; intro a hs) | refine sxc hs ?_ | (refine sxa hs hw ?_; clear hs hw; intro a b W hw hs) | (refine sxs hs hw ?_; clear hs hw; intro W hs hw))
  refine st_lookup hs (hw := hw) (hz := zeroVal) (c := ?_); clear hs; intro a hs
  rw [dget_kv, getK_perm hp ((dKeys_perm hp).2 hk)] at hs
  repeat (first | (refine sxv hs hw ?_; clear hs; intro a hs) | refine sxc hs ?_ | (refine sxa hs hw ?_; clear hs hw; intro a b W hw hs) | (refine sxs hs hw ?_; clear hs hw; intro W hs hw))
  refine st_call hs (hc := Kind_any (getK d k) _) (k := ?_); rintro e0 W1 ⟨rfl, hb⟩; refine ⟨_, rfl, ?_⟩; clear hs; intro a hs; replace hw := hw.below hb; clear hb
  repeat (first | (refine sxv hs hw ?_; clear hs; intro a hs) | refine sxc hs ?_ | (refine sxa hs hw ?_; clear hs hw; intro a b W hw hs) | (refine sxs hs hw ?_; clear hs hw; intro W hs hw))
  rw [kind_some] at hs
  exact rt1 hs rfl rfl ⟨rfl, docShut hw hp hk⟩

/-- A key's value: of none it goes; not more than fifty keys. -/
def setR (d : Dm) (k : ByteArray) (x : Option DV) : Int × Dm :=
  match x with
  | none => (0, delD d k)
  | some v => if (getK d k).isSome = false ∧ 50 ≤ d.length then (6, d) else (0, setD d k v)

set_option maxHeartbeats 8000000 in
theorem doc_set (w0 W : World) (p : Nat) (d : Dm) (k : ByteArray) (x : Option DV) (R : List Res) (hw : Has 0 w0 W (DocAt p d :: R)) :
    Calls Tryd.prog 83 ⟨[.pointer (some ⟨p, 0, none⟩), .string k, .agg ⟨[vCell x]⟩]⟩ W fun e W' => e = .returned (.int .i64 (setR d k x).1) ∧ Has 0 w0 W' (DocAt p (setR d k x).2 :: R) := by
  refine enter Tryd.func83 Tryd.ntmps83 rfl rfl fun a hs => ?_
  repeat (first | (refine sxv hs hw ?_; clear hs; intro a hs) | refine sxc hs ?_ | (refine sxa hs hw ?_; clear hs hw; intro a b W hw hs) | (refine sxs hs hw ?_; clear hs hw; intro W hs hw))
  refine st_call hs (hc := Kind_any x _) (k := ?_); rintro e0 W1 ⟨rfl, hb⟩; refine ⟨_, rfl, ?_⟩; clear hs; intro a hs; replace hw := hw.below hb; clear hb
  repeat (first | (refine sxv hs hw ?_; clear hs; intro a hs) | refine sxc hs ?_ | (refine sxa hs hw ?_; clear hs hw; intro a b W hw hs) | (refine sxs hs hw ?_; clear hs hw; intro W hs hw))
  cases x with
  | none =>
    repeat (first | (refine sxv hs hw ?_; clear hs; intro a hs) | refine sxc hs ?_ | (refine sxa hs hw ?_; clear hs hw; intro a b W hw hs) | (refine sxs hs hw ?_; clear hs hw; intro W hs hw))
    have hw := hw.sub (List.Sublist.cons _ (List.Sublist.refl _))
    obtain ⟨m, d', hp, hk, hw⟩ := docOpen hw
    repeat (first | (refine sxv hs hw ?_; clear hs; intro a hs) | refine sxc hs ?_ | (refine sxa hs hw ?_; clear hs hw; intro a b W hw hs) | (refine sxs hs hw ?_; clear hs hw; intro W hs hw))
    refine st_delete hs (hw := hw) (c := ?_); clear hs hw; intro W hs hw
    rw [ddel_kv k ((dKeys_perm hp).2 hk)] at hw
    repeat (first | (refine sxv hs hw ?_; clear hs; intro a hs) | refine sxc hs ?_ | (refine sxa hs hw ?_; clear hs hw; intro a b W hw hs) | (refine sxs hs hw ?_; clear hs hw; intro W hs hw))
    exact rt1 hs rfl rfl ⟨rfl, docShut hw (delD_perm hp k) (delD_keys hk k)⟩
  | some v =>
    rw [show (kindOf (some v) == 0) = false from by rcases v with n | s <;> rfl] at hs
    obtain ⟨b5, q5⟩ := nm1 hw; subst q5
    have hw : Has 0 w0 _ (DocAt p d :: Cells b5 [vCell (some v)] 124 :: R) := hw.swap2
    obtain ⟨m, d2, hp, hk, hw⟩ := docOpen hw
    have hlen : d2.length = d.length := hp.length_eq
    have hlen' : (kvOf d2).length = d2.length := by simp [kvOf]
    obtain ⟨d3, h3, h4⟩ := dset_kv k v ((dKeys_perm hp).2 hk)
    refine cd_false hs (k := ?_)
    refine sq ?_
    refine merge (M := fun a W => ∃ m d2, d2.Perm d ∧ Slots a 35 [(0, .pointer (some ⟨p, 0, none⟩)), (1, .string k), (5, .pointer (some ⟨b5, 0, none⟩)), (22, .bool (!(getK d k).isSome && decide ((d.length : Int) ≥ 50)))] ∧ Has 0 w0 W (Cells p [.map (some m)] 113 :: MapOf m (kvOf d2) :: Cells b5 [vCell (some v)] 124 :: R)) ?_ ?_
    · clear h3 h4
      repeat (first | (refine sxv hs hw ?_; clear hs; intro a hs) | refine sxc hs ?_ | (refine sxa hs hw ?_; clear hs hw; intro a b W hw hs) | (refine sxs hs hw ?_; clear hs hw; intro W hs hw))
      refine st_call hs (hc := doc_has w0 _ p d k _ (docShut hw hp hk)) (k := ?_); rintro e0 W1 ⟨rfl, hw1⟩; refine ⟨_, rfl, ?_⟩; clear hs hw; intro a hs; have hw := hw1; clear hw1
      obtain ⟨m, d2, hp, hk, hw⟩ := docOpen hw
      have hlen : d2.length = d.length := hp.length_eq
      have hlen' : (kvOf d2).length = d2.length := by simp [kvOf]
      repeat (first | (refine sxv hs hw ?_; clear hs; intro a hs) | refine sxc hs ?_ | (refine sxa hs hw ?_; clear hs hw; intro a b W hw hs) | (refine sxs hs hw ?_; clear hs hw; intro W hs hw))
      cases hg : (getK d k).isSome with
      | true =>
        rw [hg] at hs
        repeat (first | (refine sxv hs hw ?_; clear hs; intro a hs) | refine sxc hs ?_ | (refine sxa hs hw ?_; clear hs hw; intro a b W hw hs) | (refine sxs hs hw ?_; clear hs hw; intro W hs hw))
        exact ⟨m, d2, hp, hs.of ⟨rfl, rfl, rfl, rfl, trivial⟩, hw⟩
      | false =>
        rw [hg] at hs
        repeat (first | (refine sxv hs hw ?_; clear hs; intro a hs) | refine sxc hs ?_ | (refine sxa hs hw ?_; clear hs hw; intro a b W hw hs) | (refine sxs hs hw ?_; clear hs hw; intro W hs hw))
        refine st_len_map hs (hw := hw) (c := ?_); clear hs; intro a hs
        rw [hlen', hlen] at hs
        repeat (first | (refine sxv hs hw ?_; clear hs; intro a hs) | refine sxc hs ?_ | (refine sxa hs hw ?_; clear hs hw; intro a b W hw hs) | (refine sxs hs hw ?_; clear hs hw; intro W hs hw))
        exact ⟨m, d2, hp, hs.of ⟨rfl, rfl, rfl, bool_eq (by simp), trivial⟩, hw⟩
    clear hs hw hp hlen hlen' h3 h4
    rintro a W ⟨m, d2, hp, hs, hw⟩
    obtain ⟨d3, h3, h4⟩ := dset_kv k v ((dKeys_perm hp).2 hk)
    cases hc : (!(getK d k).isSome && decide ((d.length : Int) ≥ 50)) with
    | true =>
      rw [hc] at hs
      have hR : setR d k (some v) = (6, d) := by
        simp only [Bool.and_eq_true, Bool.not_eq_true', decide_eq_true_eq] at hc
        unfold setR
        simp only
        rw [if_pos ⟨hc.1, by omega⟩]
      repeat (first | (refine sxv hs hw ?_; clear hs; intro a hs) | refine sxc hs ?_ | (refine sxa hs hw ?_; clear hs hw; intro a b W hw hs) | (refine sxs hs hw ?_; clear hs hw; intro W hs hw))
      have hw := docShut (hw.sub (List.Sublist.cons_cons _ (List.Sublist.cons_cons _ (List.Sublist.cons _ (List.Sublist.refl _))))) hp hk
      exact rt1 hs rfl rfl ⟨by rw [hR], by rw [hR]; exact hw⟩
    | false =>
    rw [hc] at hs
    have hR : setR d k (some v) = (0, setD d k v) := by
      unfold setR
      simp only
      rw [if_neg]
      rintro ⟨h1, h2⟩
      rw [h1] at hc
      simp at hc
      omega
    repeat (first | (refine sxv hs hw ?_; clear hs; intro a hs) | refine sxc hs ?_ | (refine sxa hs hw ?_; clear hs hw; intro a b W hw hs) | (refine sxs hs hw ?_; clear hs hw; intro W hs hw))
    refine rg_draw (V := [.pointer (some ⟨p, 0, none⟩), .pointer (some ⟨p, 0, none⟩), .pointer (some ⟨p, 0 + 0, none⟩), .map (some m), .string k, .agg ⟨[vCell (some v)]⟩, .bool true])
      (Rs := fun D => Cells p [.map (some m)] 113 :: (if D 6 then MapOf m (kvOf d3) else MapOf m (kvOf d2)) :: Cells b5 [vCell (some v)] 124 :: R) hs hw (ho := ⟨?_, ?_, ?_, ?_, ?_, ?_, ?c6_1, trivial⟩) (k := ?k_1)
    case c6_1 =>
      intro LD D a W hcl hi hp hs hw
      simp only [hi, Bool.false_eq_true, if_false] at hw
      refine st_update hs (hw := hw) (v := vOf v) (c := ?_); clear hs hw; intro W hs hw
      rw [h3] at hw
      repeat (first | (refine sxv hs hw ?_; clear hs; intro a hs) | refine sxc hs ?_ | (refine sxa hs hw ?_; clear hs hw; intro a b W hw hs) | (refine sxs hs hw ?_; clear hs hw; intro W hs hw))
      exact ⟨hs, hw⟩
    case k_1 =>
      clear hs hw
      intro a W hs hw
      replace hw : Has 0 w0 W (Cells p [.map (some m)] 113 :: MapOf m (kvOf d3) :: Cells b5 [vCell (some v)] 124 :: R) := hw
      repeat (first | (refine sxv hs hw ?_; clear hs; intro a hs) | refine sxc hs ?_ | (refine sxa hs hw ?_; clear hs hw; intro a b W hw hs) | (refine sxs hs hw ?_; clear hs hw; intro W hs hw))
      have hw := docShut (hw.sub (List.Sublist.cons_cons _ (List.Sublist.cons_cons _ (List.Sublist.cons _ (List.Sublist.refl _))))) (h4.trans (setD_perm hp k v)) (setD_keys hk k v)
      exact rt1 hs rfl rfl ⟨by rw [hR], by rw [hR]; exact hw⟩
    all_goals
      intro LD D a W hcl hi hp hs hw
      repeat (first | (refine sxv hs hw ?_; clear hs; intro a hs) | refine sxc hs ?_ | (refine sxa hs hw ?_; clear hs hw; intro a b W hw hs) | (refine sxs hs hw ?_; clear hs hw; intro W hs hw))
      exact ⟨hs, hw⟩
end Go.Proofs.YtcfaicomnngegaaDoor.Sw

/-
  The walks of doc.in and doc.do.
-/
set_option linter.unusedVariables false
set_option maxRecDepth 10000
namespace Go.Proofs.YtcfaicomnngegaaDoor.Sw
open Go.RowKit Go.Sx

def inB (n : Int) : Bool := decide (n ≥ -4611686018427387904) && decide (n ≤ 4611686018427387904)
set_option maxHeartbeats 4000000 in
theorem doc_in (n : Int) (W : World) : Calls Tryd.prog 82 ⟨[.int .i64 n]⟩ W fun e W' => e = .returned (.bool (inB n)) ∧ Below W.heap.size W W' := by
  have hw := Has.start (G := 0) (w := W) (Nat.zero_le _)
  refine enter Tryd.func82 Tryd.ntmps82 rfl rfl fun a hs => ?_
  repeat (first | (refine sxv hs hw ?_; clear hs; intro a hs) | refine sxc hs ?_ | (refine sxa hs hw ?_; clear hs hw; intro a b W hw hs) | (refine sxs hs hw ?_; clear hs hw; intro W hs hw))
  cases h : decide (n ≥ -4611686018427387904) with
  | true =>
    rw [h] at hs
    repeat (first | (refine sxv hs hw ?_; clear hs; intro a hs) | refine sxc hs ?_ | (refine sxa hs hw ?_; clear hs hw; intro a b W hw hs) | (refine sxs hs hw ?_; clear hs hw; intro W hs hw))
    exact rt1 hs rfl rfl ⟨by simp only [inB, h]; rfl, hw.end (by repeat (first | exact In.hd | apply In.tl))⟩
  | false =>
    rw [h] at hs
    repeat (first | (refine sxv hs hw ?_; clear hs; intro a hs) | refine sxc hs ?_ | (refine sxa hs hw ?_; clear hs hw; intro a b W hw hs) | (refine sxs hs hw ?_; clear hs hw; intro W hs hw))
    exact rt1 hs rfl rfl ⟨by simp only [inB, h]; rfl, hw.end (by repeat (first | exact In.hd | apply In.tl))⟩

/-- An operation that may be, done. -/
def doOp (d : Dm) (o : OpD) : Int × Dm :=
  if o.kind = 3 then (if eqV (getK d o.key) (ofRaw o.ok o.on o.os).1 then setR d o.key (ofRaw o.vk o.vn o.vs).1 else (8, d))
  else if o.kind = 4 then
    if (kindOf (getK d o.key) != 0 && !isInt (getK d o.key)) = true then (7, d)
    else if (!inB (intIn (getK d o.key)) || !inB (IntKind.i64.wrap (intIn (getK d o.key) + o.n))) = true then (4, d)
    else setR d o.key (some (.inl (IntKind.i64.wrap (intIn (getK d o.key) + o.n))))
  else setR d o.key (ofRaw o.vk o.vn o.vs).1

set_option maxHeartbeats 16000000 in
theorem doc_do (w0 W : World) (H : Fh) (p : Nat) (d : Dm) (o : OpD) (R : List Res) (ho : OpOk o) (i : In (Fz H) R) (hH : (fr w0).le H) (hT : Tabs w0) (hw : Has 0 w0 W (DocAt p d :: R)) :
    Calls Tryd.prog 71 ⟨[.pointer (some ⟨p, 0, none⟩), .agg ⟨opCells o⟩]⟩ W fun e W' => e = .returned (.int .i64 (doOp d o).1) ∧ Has 0 w0 W' (DocAt p (doOp d o).2 :: R) := by
  obtain ⟨kind, key, vk, vn, vs, ok, on, os, n⟩ := o
  have hvs := ho.vs
  have hos := ho.os
  simp only at hvs hos
  refine enter Tryd.func71 Tryd.ntmps71 rfl rfl fun a hs => ?_
  repeat (first | (refine sxv hs hw ?_; clear hs; intro a hs) | refine sxc hs ?_ | (refine sxa hs hw ?_; clear hs hw; intro a b W hw hs) | (refine sxs hs hw ?_; clear hs hw; intro W hs hw))
  refine st_call hs (hc := value_Of vk vn vs _ (by omega) (hT.keep (hw.endF (by repeat (first | exact i | apply In.tl)) hH))) (k := ?_); rintro e0 W1 ⟨rfl, hb⟩; refine ⟨_, rfl, ?_⟩; clear hs; intro a hs; replace hw := hw.below hb; clear hb
  repeat (first | (refine sxv hs hw ?_; clear hs; intro a hs) | refine sxc hs ?_ | (refine sxa hs hw ?_; clear hs hw; intro a b W hw hs) | (refine sxs hs hw ?_; clear hs hw; intro W hs hw))
  refine st_store hs (hw := hw) (h1 := one_cellX (ofRaw vk vn vs).1) (k := ?_); clear hs hw; intro W hs hw
  repeat (first | (refine sxv hs hw ?_; clear hs; intro a hs) | refine sxc hs ?_ | (refine sxa hs hw ?_; clear hs hw; intro a b W hw hs) | (refine sxs hs hw ?_; clear hs hw; intro W hs hw))
  obtain ⟨bv, q1⟩ := nm1 hw; subst q1
  obtain ⟨bo, q2⟩ := nm2 hw; subst q2
  obtain ⟨m, d2, hp, hk, hw⟩ := docOpen (hw.perm ((List.Perm.cons _ (List.Perm.swap _ _ _)).trans (List.Perm.swap _ _ _)))
  have hw : Has 0 w0 _ (Free :: Cells p [.map (some m)] 113 :: MapOf m (kvOf d2) :: Cells bv [vCell (ofRaw vk vn vs).1] 124 :: Cells bo [.int .i64 kind, .string key, .int .i64 vk, .int .i64 vn, .string vs, .int .i64 ok, .int .i64 on, .string os, .int .i64 n] 56 :: R) := hw.free
  have hlk := dget_kv d2 key
  rw [getK_perm hp ((dKeys_perm hp).2 hk)] at hlk
  obtain ⟨now, hnow⟩ : ∃ now, getK d key = now := ⟨_, rfl⟩
  rw [hnow] at hlk
  have hX : doOp d ⟨kind, key, vk, vn, vs, ok, on, os, n⟩ = (if kind = 3 then (if eqV now (ofRaw ok on os).1 then setR d key (ofRaw vk vn vs).1 else (8, d))
      else if kind = 4 then
        if (kindOf now != 0 && !isInt now) = true then (7, d)
        else if (!inB (intIn now) || !inB (IntKind.i64.wrap (intIn now + n))) = true then (4, d)
        else setR d key (some (.inl (IntKind.i64.wrap (intIn now + n))))
      else setR d key (ofRaw vk vn vs).1) := by unfold doOp; simp only; rw [hnow]
  rw [hX]
  clear hX
  obtain ⟨X, hXX⟩ : ∃ X, (ofRaw vk vn vs).1 = X := ⟨_, rfl⟩
  rw [hXX] at hs hw ⊢
  refine rg_drawU (σ := Nat) (V := fun u => [.pointer (some ⟨p, 0, none⟩), .pointer (some ⟨p, 0, none⟩), .pointer (some ⟨p, 0 + 0, none⟩), .map (some m), .pointer (some ⟨bo, 0 + 1, none⟩), .string key, .agg ⟨[vCell now]⟩, .pointer (some ⟨u 7, 0, none⟩), .bool true])
    (Rs := fun u D => (if D 7 then Cells (u 7) (if D 8 then [vCell now] else [.nilIface]) 124 else Free) :: Cells p [.map (some m)] 113 :: MapOf m (kvOf d2) :: Cells bv [vCell X] 124 :: Cells bo [.int .i64 kind, .string key, .int .i64 vk, .int .i64 vn, .string vs, .int .i64 ok, .int .i64 on, .string os, .int .i64 n] 56 :: R) (fun _ => 0) hs hw (hVu := ?vu_1) (ho := ⟨?_, ?_, ?_, ?_, ?_, ?_, ?c6_1, ?c7_1, ?c8_1, trivial⟩) (k := ?k_1)
  case vu_1 =>
    intro u u' j h
    rcases j with _ | _ | _ | _ | _ | _ | _ | _ | _ | j
    all_goals first | rfl | simp [h]
  case c6_1 =>
    intro u LD D a W hcl hi hp hs hw
    refine st_lookup hs (hw := hw) (hz := zeroVal) (c := ?_); clear hs; intro a hs
    rw [hlk] at hs
    repeat (first | (refine sxv hs hw ?_; clear hs; intro a hs) | refine sxc hs ?_ | (refine sxa hs hw ?_; clear hs hw; intro a b W hw hs) | (refine sxs hs hw ?_; clear hs hw; intro W hs hw))
    exact Or.inl ⟨hs, hw⟩
  case c7_1 =>
    intro u LD D a W hcl hi hp hs hw
    have h8 := Go.Sx.not_done hcl hi 8 (by kernel_rfl)
    simp only [hi, Bool.false_eq_true, if_false] at hw
    repeat (first | (refine sxv hs hw ?_; clear hs; intro a hs) | refine sxc hs ?_ | (refine sxa hs hw ?_; clear hs hw; intro a b W hw hs) | (refine sxs hs hw ?_; clear hs hw; intro W hs hw))
    refine Or.inr ⟨_, hs, ?_⟩
    show Has 0 w0 _ (Cells _ (if (Nat.beq 8 7 || D 8) = true then _ else _) _ :: _)
    rw [h8]
    exact hw.fill Upd.hd
  case c8_1 =>
    intro u LD D a W hcl hi hp hs hw
    have h7 := Go.Sx.done hp 7 (by kernel_rfl)
    simp only [hi, h7, Bool.false_eq_true, if_false, if_true] at hw
    refine st_store hs (hw := hw) (h1 := one_cellX now) (k := ?_); clear hs hw; intro W hs hw
    repeat (first | (refine sxv hs hw ?_; clear hs; intro a hs) | refine sxc hs ?_ | (refine sxa hs hw ?_; clear hs hw; intro a b W hw hs) | (refine sxs hs hw ?_; clear hs hw; intro W hs hw))
    refine Or.inl ⟨hs, ?_⟩
    show Has 0 w0 _ ((if (Nat.beq 7 8 || D 7) = true then _ else _) :: _)
    rw [h7]
    exact hw
  case k_1 =>
    clear hs hw
    intro u a W hs hw
    replace hw : Has 0 w0 W (Cells (u 7) [vCell now] 124 :: Cells p [.map (some m)] 113 :: MapOf m (kvOf d2) :: Cells bv [vCell X] 124 :: Cells bo [.int .i64 kind, .string key, .int .i64 vk, .int .i64 vn, .string vs, .int .i64 ok, .int .i64 on, .string os, .int .i64 n] 56 :: R) := hw
    replace hs : Slots a 80 [(0, .pointer (some ⟨p, 0, none⟩)), (3, .pointer (some ⟨bo, 0, none⟩)), (5, .pointer (some ⟨bv, 0, none⟩)), (7, .pointer (some ⟨u 7, 0, none⟩))] := hs.of ⟨rfl, rfl, rfl, rfl, trivial⟩
    generalize u 7 = b7 at *
    clear u
    replace hw := docShut (hw.perm ((List.Perm.swap _ _ _).trans (List.Perm.cons _ (List.Perm.swap _ _ _)))) hp hk
    clear hp hlk
    repeat (first | (refine sxv hs hw ?_; clear hs; intro a hs) | refine sxc hs ?_ | (refine sxa hs hw ?_; clear hs hw; intro a b W hw hs) | (refine sxs hs hw ?_; clear hs hw; intro W hs hw))
    by_cases k3 : kind = 3
    · subst k3
      rw [if_pos rfl]
      repeat (first | (refine sxv hs hw ?_; clear hs; intro a hs) | refine sxc hs ?_ | (refine sxa hs hw ?_; clear hs hw; intro a b W hw hs) | (refine sxs hs hw ?_; clear hs hw; intro W hs hw))
      refine st_call hs (hc := value_Of ok on os _ (by omega) (hT.keep (hw.endF (by repeat (first | exact i | apply In.tl)) hH))) (k := ?_); rintro e0 W1 ⟨rfl, hb⟩; refine ⟨_, rfl, ?_⟩; clear hs; intro a hs; replace hw := hw.below hb; clear hb
      repeat (first | (refine sxv hs hw ?_; clear hs; intro a hs) | refine sxc hs ?_ | (refine sxa hs hw ?_; clear hs hw; intro a b W hw hs) | (refine sxs hs hw ?_; clear hs hw; intro W hs hw))
      refine st_store hs (hw := hw) (h1 := one_cellX (ofRaw ok on os).1) (k := ?_); clear hs hw; intro W hs hw
      repeat (first | (refine sxv hs hw ?_; clear hs; intro a hs) | refine sxc hs ?_ | (refine sxa hs hw ?_; clear hs hw; intro a b W hw hs) | (refine sxs hs hw ?_; clear hs hw; intro W hs hw))
      refine st_call hs (hc := value_Eq now (ofRaw ok on os).1 _) (k := ?_); rintro e0 W1 ⟨rfl, hb⟩; refine ⟨_, rfl, ?_⟩; clear hs; intro a hs; replace hw := hw.below hb; clear hb
      repeat (first | (refine sxv hs hw ?_; clear hs; intro a hs) | refine sxc hs ?_ | (refine sxa hs hw ?_; clear hs hw; intro a b W hw hs) | (refine sxs hs hw ?_; clear hs hw; intro W hs hw))
      cases he : eqV now (ofRaw ok on os).1 with
      | false =>
        rw [he] at hs
        repeat (first | (refine sxv hs hw ?_; clear hs; intro a hs) | refine sxc hs ?_ | (refine sxa hs hw ?_; clear hs hw; intro a b W hw hs) | (refine sxs hs hw ?_; clear hs hw; intro W hs hw))
        refine rt1 hs rfl rfl ⟨rfl, ?_⟩
        exact hw.sub (L' := DocAt p d :: R) (List.Sublist.cons _ (List.Sublist.cons_cons _ (List.Sublist.cons _ (List.Sublist.cons _ (List.Sublist.cons _ (List.Sublist.refl _))))))
      | true =>
        rw [he] at hs
        repeat (first | (refine sxv hs hw ?_; clear hs; intro a hs) | refine sxc hs ?_ | (refine sxa hs hw ?_; clear hs hw; intro a b W hw hs) | (refine sxs hs hw ?_; clear hs hw; intro W hs hw))
        refine st_call hs (hc := doc_set w0 _ p d key X _ hw.swap2) (k := ?_); rintro e0 W1 ⟨rfl, hw1⟩; refine ⟨_, rfl, ?_⟩; clear hs hw; intro a hs; have hw := hw1; clear hw1
        repeat (first | (refine sxv hs hw ?_; clear hs; intro a hs) | refine sxc hs ?_ | (refine sxa hs hw ?_; clear hs hw; intro a b W hw hs) | (refine sxs hs hw ?_; clear hs hw; intro W hs hw))
        refine rt1 hs rfl rfl ⟨rfl, ?_⟩
        exact hw.sub (List.Sublist.cons_cons _ (List.Sublist.cons _ (List.Sublist.cons _ (List.Sublist.cons _ (List.Sublist.cons _ (List.Sublist.refl _))))))
    have e3 : (kind == 3) = false := by simpa using k3
    rw [e3] at hs
    rw [if_neg k3]
    repeat (first | (refine sxv hs hw ?_; clear hs; intro a hs) | refine sxc hs ?_ | (refine sxa hs hw ?_; clear hs hw; intro a b W hw hs) | (refine sxs hs hw ?_; clear hs hw; intro W hs hw))
    by_cases k4 : kind = 4
    · subst k4
      rw [if_pos rfl]
      rcases now with _ | g | s
      · have hK := fun W => Kind_any (none : Option DV) W
        have hA := fun W => AsInt_any (none : Option DV) W
        rw [show kindOf (none : Option DV) = 0 from rfl] at hK ⊢
        rw [show intIn (none : Option DV) = 0 from rfl] at hA ⊢
        rw [show isInt (none : Option DV) = false from rfl] at hA ⊢
        rw [if_neg (by decide)]
        repeat (first | (refine sxv hs hw ?_; clear hs; intro a hs) | refine sxc hs ?_ | (refine sxa hs hw ?_; clear hs hw; intro a b W hw hs) | (refine sxs hs hw ?_; clear hs hw; intro W hs hw))
        refine st_call hs (hc := hA _) (k := ?_); rintro e0 W1 ⟨rfl, hb⟩; refine ⟨_, rfl, ?_⟩; clear hs; intro a hs; replace hw := hw.below hb; clear hb
        repeat (first | (refine sxv hs hw ?_; clear hs; intro a hs) | refine sxc hs ?_ | (refine sxa hs hw ?_; clear hs hw; intro a b W hw hs) | (refine sxs hs hw ?_; clear hs hw; intro W hs hw))
        refine st_call hs (hc := hK _) (k := ?_); rintro e0 W1 ⟨rfl, hb⟩; refine ⟨_, rfl, ?_⟩; clear hs; intro a hs; replace hw := hw.below hb; clear hb
        repeat (first | (refine sxv hs hw ?_; clear hs; intro a hs) | refine sxc hs ?_ | (refine sxa hs hw ?_; clear hs hw; intro a b W hw hs) | (refine sxs hs hw ?_; clear hs hw; intro W hs hw))
        refine st_call hs (hc := doc_in 0 _) (k := ?_); rintro e0 W1 ⟨rfl, hb⟩; refine ⟨_, rfl, ?_⟩; clear hs; intro a hs; replace hw := hw.below hb; clear hb
        repeat (first | (refine sxv hs hw ?_; clear hs; intro a hs) | refine sxc hs ?_ | (refine sxa hs hw ?_; clear hs hw; intro a b W hw hs) | (refine sxs hs hw ?_; clear hs hw; intro W hs hw))
        rw [show inB 0 = true from rfl] at hs ⊢
        refine st_call hs (hc := doc_in (IntKind.i64.wrap (0 + n)) _) (k := ?_); rintro e0 W1 ⟨rfl, hb⟩; refine ⟨_, rfl, ?_⟩; clear hs; intro a hs; replace hw := hw.below hb; clear hb
        repeat (first | (refine sxv hs hw ?_; clear hs; intro a hs) | refine sxc hs ?_ | (refine sxa hs hw ?_; clear hs hw; intro a b W hw hs) | (refine sxs hs hw ?_; clear hs hw; intro W hs hw))
        cases g2 : inB (IntKind.i64.wrap (0 + n)) with
        | false =>
          rw [g2] at hs
          repeat (first | (refine sxv hs hw ?_; clear hs; intro a hs) | refine sxc hs ?_ | (refine sxa hs hw ?_; clear hs hw; intro a b W hw hs) | (refine sxs hs hw ?_; clear hs hw; intro W hs hw))
          rw [if_pos (by rfl)]
          exact rt1 hs rfl rfl ⟨rfl, hw.sub (List.Sublist.cons_cons _ (List.Sublist.cons _ (List.Sublist.cons _ (List.Sublist.cons _ (List.Sublist.refl _)))))⟩
        | true =>
        rw [g2] at hs
        repeat (first | (refine sxv hs hw ?_; clear hs; intro a hs) | refine sxc hs ?_ | (refine sxa hs hw ?_; clear hs hw; intro a b W hw hs) | (refine sxs hs hw ?_; clear hs hw; intro W hs hw))
        rw [if_neg (by decide)]
        have hV := fun W hT => value_Of 1 (IntKind.i64.wrap (0 + n)) ⟨#[]⟩ W (by decide) hT
        rw [show ofRaw 1 (IntKind.i64.wrap (0 + n)) ⟨#[]⟩ = (some (.inl (IntKind.i64.wrap (0 + n))), 0) from rfl] at hV
        refine st_call hs (hc := hV _ (hT.keep (hw.endF (by repeat (first | exact i | apply In.tl)) hH))) (k := ?_); rintro e0 W1 ⟨rfl, hb⟩; refine ⟨_, rfl, ?_⟩; clear hs; intro a hs; replace hw := hw.below hb; clear hb
        repeat (first | (refine sxv hs hw ?_; clear hs; intro a hs) | refine sxc hs ?_ | (refine sxa hs hw ?_; clear hs hw; intro a b W hw hs) | (refine sxs hs hw ?_; clear hs hw; intro W hs hw))
        refine st_call hs (hc := doc_set w0 _ p d key (some (.inl (IntKind.i64.wrap (0 + n)))) _ hw) (k := ?_); rintro e0 W1 ⟨rfl, hw1⟩; refine ⟨_, rfl, ?_⟩; clear hs hw; intro a hs; have hw := hw1; clear hw1
        repeat (first | (refine sxv hs hw ?_; clear hs; intro a hs) | refine sxc hs ?_ | (refine sxa hs hw ?_; clear hs hw; intro a b W hw hs) | (refine sxs hs hw ?_; clear hs hw; intro W hs hw))
        refine rt1 hs rfl rfl ⟨rfl, ?_⟩
        exact hw.sub (List.Sublist.cons_cons _ (List.Sublist.cons _ (List.Sublist.cons _ (List.Sublist.cons _ (List.Sublist.refl _)))))
      · have hK := fun W => Kind_any (some (Sum.inl g) : Option DV) W
        have hA := fun W => AsInt_any (some (Sum.inl g) : Option DV) W
        rw [show kindOf (some (Sum.inl g) : Option DV) = 1 from rfl] at hK ⊢
        rw [show intIn (some (Sum.inl g) : Option DV) = g from rfl] at hA ⊢
        rw [show isInt (some (Sum.inl g) : Option DV) = true from rfl] at hA ⊢
        rw [if_neg (by decide)]
        repeat (first | (refine sxv hs hw ?_; clear hs; intro a hs) | refine sxc hs ?_ | (refine sxa hs hw ?_; clear hs hw; intro a b W hw hs) | (refine sxs hs hw ?_; clear hs hw; intro W hs hw))
        refine st_call hs (hc := hA _) (k := ?_); rintro e0 W1 ⟨rfl, hb⟩; refine ⟨_, rfl, ?_⟩; clear hs; intro a hs; replace hw := hw.below hb; clear hb
        repeat (first | (refine sxv hs hw ?_; clear hs; intro a hs) | refine sxc hs ?_ | (refine sxa hs hw ?_; clear hs hw; intro a b W hw hs) | (refine sxs hs hw ?_; clear hs hw; intro W hs hw))
        refine st_call hs (hc := hK _) (k := ?_); rintro e0 W1 ⟨rfl, hb⟩; refine ⟨_, rfl, ?_⟩; clear hs; intro a hs; replace hw := hw.below hb; clear hb
        repeat (first | (refine sxv hs hw ?_; clear hs; intro a hs) | refine sxc hs ?_ | (refine sxa hs hw ?_; clear hs hw; intro a b W hw hs) | (refine sxs hs hw ?_; clear hs hw; intro W hs hw))
        refine st_call hs (hc := doc_in g _) (k := ?_); rintro e0 W1 ⟨rfl, hb⟩; refine ⟨_, rfl, ?_⟩; clear hs; intro a hs; replace hw := hw.below hb; clear hb
        repeat (first | (refine sxv hs hw ?_; clear hs; intro a hs) | refine sxc hs ?_ | (refine sxa hs hw ?_; clear hs hw; intro a b W hw hs) | (refine sxs hs hw ?_; clear hs hw; intro W hs hw))
        cases g1 : inB g with
        | false =>
          rw [g1] at hs
          repeat (first | (refine sxv hs hw ?_; clear hs; intro a hs) | refine sxc hs ?_ | (refine sxa hs hw ?_; clear hs hw; intro a b W hw hs) | (refine sxs hs hw ?_; clear hs hw; intro W hs hw))
          rw [if_pos (by rfl)]
          exact rt1 hs rfl rfl ⟨rfl, hw.sub (List.Sublist.cons_cons _ (List.Sublist.cons _ (List.Sublist.cons _ (List.Sublist.cons _ (List.Sublist.refl _)))))⟩
        | true =>
        rw [g1] at hs
        repeat (first | (refine sxv hs hw ?_; clear hs; intro a hs) | refine sxc hs ?_ | (refine sxa hs hw ?_; clear hs hw; intro a b W hw hs) | (refine sxs hs hw ?_; clear hs hw; intro W hs hw))
        refine st_call hs (hc := doc_in (IntKind.i64.wrap (g + n)) _) (k := ?_); rintro e0 W1 ⟨rfl, hb⟩; refine ⟨_, rfl, ?_⟩; clear hs; intro a hs; replace hw := hw.below hb; clear hb
        repeat (first | (refine sxv hs hw ?_; clear hs; intro a hs) | refine sxc hs ?_ | (refine sxa hs hw ?_; clear hs hw; intro a b W hw hs) | (refine sxs hs hw ?_; clear hs hw; intro W hs hw))
        cases g2 : inB (IntKind.i64.wrap (g + n)) with
        | false =>
          rw [g2] at hs
          repeat (first | (refine sxv hs hw ?_; clear hs; intro a hs) | refine sxc hs ?_ | (refine sxa hs hw ?_; clear hs hw; intro a b W hw hs) | (refine sxs hs hw ?_; clear hs hw; intro W hs hw))
          rw [if_pos (by rfl)]
          exact rt1 hs rfl rfl ⟨rfl, hw.sub (List.Sublist.cons_cons _ (List.Sublist.cons _ (List.Sublist.cons _ (List.Sublist.cons _ (List.Sublist.refl _)))))⟩
        | true =>
        rw [g2] at hs
        repeat (first | (refine sxv hs hw ?_; clear hs; intro a hs) | refine sxc hs ?_ | (refine sxa hs hw ?_; clear hs hw; intro a b W hw hs) | (refine sxs hs hw ?_; clear hs hw; intro W hs hw))
        rw [if_neg (by decide)]
        have hV := fun W hT => value_Of 1 (IntKind.i64.wrap (g + n)) ⟨#[]⟩ W (by decide) hT
        rw [show ofRaw 1 (IntKind.i64.wrap (g + n)) ⟨#[]⟩ = (some (.inl (IntKind.i64.wrap (g + n))), 0) from rfl] at hV
        refine st_call hs (hc := hV _ (hT.keep (hw.endF (by repeat (first | exact i | apply In.tl)) hH))) (k := ?_); rintro e0 W1 ⟨rfl, hb⟩; refine ⟨_, rfl, ?_⟩; clear hs; intro a hs; replace hw := hw.below hb; clear hb
        repeat (first | (refine sxv hs hw ?_; clear hs; intro a hs) | refine sxc hs ?_ | (refine sxa hs hw ?_; clear hs hw; intro a b W hw hs) | (refine sxs hs hw ?_; clear hs hw; intro W hs hw))
        refine st_call hs (hc := doc_set w0 _ p d key (some (.inl (IntKind.i64.wrap (g + n)))) _ hw) (k := ?_); rintro e0 W1 ⟨rfl, hw1⟩; refine ⟨_, rfl, ?_⟩; clear hs hw; intro a hs; have hw := hw1; clear hw1
        repeat (first | (refine sxv hs hw ?_; clear hs; intro a hs) | refine sxc hs ?_ | (refine sxa hs hw ?_; clear hs hw; intro a b W hw hs) | (refine sxs hs hw ?_; clear hs hw; intro W hs hw))
        refine rt1 hs rfl rfl ⟨rfl, ?_⟩
        exact hw.sub (List.Sublist.cons_cons _ (List.Sublist.cons _ (List.Sublist.cons _ (List.Sublist.cons _ (List.Sublist.refl _)))))
      · have hK := fun W => Kind_any (some (Sum.inr s) : Option DV) W
        have hA := fun W => AsInt_any (some (Sum.inr s) : Option DV) W
        rw [show kindOf (some (Sum.inr s) : Option DV) = 2 from rfl] at hK ⊢
        rw [show isInt (some (Sum.inr s) : Option DV) = false from rfl] at hA ⊢
        rw [if_pos (by decide)]
        repeat (first | (refine sxv hs hw ?_; clear hs; intro a hs) | refine sxc hs ?_ | (refine sxa hs hw ?_; clear hs hw; intro a b W hw hs) | (refine sxs hs hw ?_; clear hs hw; intro W hs hw))
        refine st_call hs (hc := hA _) (k := ?_); rintro e0 W1 ⟨rfl, hb⟩; refine ⟨_, rfl, ?_⟩; clear hs; intro a hs; replace hw := hw.below hb; clear hb
        repeat (first | (refine sxv hs hw ?_; clear hs; intro a hs) | refine sxc hs ?_ | (refine sxa hs hw ?_; clear hs hw; intro a b W hw hs) | (refine sxs hs hw ?_; clear hs hw; intro W hs hw))
        refine st_call hs (hc := hK _) (k := ?_); rintro e0 W1 ⟨rfl, hb⟩; refine ⟨_, rfl, ?_⟩; clear hs; intro a hs; replace hw := hw.below hb; clear hb
        repeat (first | (refine sxv hs hw ?_; clear hs; intro a hs) | refine sxc hs ?_ | (refine sxa hs hw ?_; clear hs hw; intro a b W hw hs) | (refine sxs hs hw ?_; clear hs hw; intro W hs hw))
        exact rt1 hs rfl rfl ⟨rfl, hw.sub (List.Sublist.cons_cons _ (List.Sublist.cons _ (List.Sublist.cons _ (List.Sublist.cons _ (List.Sublist.refl _)))))⟩
    have e4 : (kind == 4) = false := by simpa using k4
    rw [e4] at hs
    rw [if_neg k4]
    repeat (first | (refine sxv hs hw ?_; clear hs; intro a hs) | refine sxc hs ?_ | (refine sxa hs hw ?_; clear hs hw; intro a b W hw hs) | (refine sxs hs hw ?_; clear hs hw; intro W hs hw))
    refine st_call hs (hc := doc_set w0 _ p d key X _ hw) (k := ?_); rintro e0 W1 ⟨rfl, hw1⟩; refine ⟨_, rfl, ?_⟩; clear hs hw; intro a hs; have hw := hw1; clear hw1
    repeat (first | (refine sxv hs hw ?_; clear hs; intro a hs) | refine sxc hs ?_ | (refine sxa hs hw ?_; clear hs hw; intro a b W hw hs) | (refine sxs hs hw ?_; clear hs hw; intro W hs hw))
    refine rt1 hs rfl rfl ⟨rfl, ?_⟩
    exact hw.sub (List.Sublist.cons_cons _ (List.Sublist.cons _ (List.Sublist.cons _ (List.Sublist.cons _ (List.Sublist.refl _)))))
  all_goals
    intro u LD D a W hcl hi hp hs hw
    repeat (first | (refine sxv hs hw ?_; clear hs; intro a hs) | refine sxc hs ?_ | (refine sxa hs hw ?_; clear hs hw; intro a b W hw hs) | (refine sxs hs hw ?_; clear hs hw; intro W hs hw))
    exact Or.inl ⟨hs, hw⟩
end Go.Proofs.YtcfaicomnngegaaDoor.Sw

/-
  The walks of maps.Copy and doc.Copy.
-/
set_option linter.unusedVariables false
set_option maxRecDepth 10000
namespace Go.Proofs.YtcfaicomnngegaaDoor.Sw
open Go.RowKit Go.Sx

def unV : Value → DV
  | .agg ⟨[.iface _ (.int _ n)]⟩ => .inl n
  | .agg ⟨[.iface _ (.string s)]⟩ => .inr s
  | _ => .inl 0
theorem unV_vOf (x : DV) : unV (vOf x) = x := by rcases x with n | s <;> rfl
theorem kvOf_perm {d d' : Dm} (h : (kvOf d).Perm (kvOf d')) : d.Perm d' := by
  have := h.map fun p => (p.1, unV p.2)
  unfold kvOf at this
  rw [List.map_map, List.map_map] at this
  have e : ((fun p : ByteArray × Value => (p.1, unV p.2)) ∘ fun p : ByteArray × DV => (p.1, vOf p.2)) = id := by
    funext p
    simp [unV_vOf]
  rw [e] at this
  simpa using this
theorem kvOf_keys (d : Dm) : (kvOf d).map (·.1) = d.map (·.1) := by simp [kvOf]
structure CopS where
  dn : Dm
  left : KV
  cur : Option (ByteArray × Value)

set_option maxHeartbeats 8000000 in
theorem maps_Copy (w0 W : World) (m1 m2 : Nat) (d : Dm) (R : List Res) (hk : dKeys d) (hw : Has 0 w0 W (MapOf m1 [] :: MapOf m2 (kvOf d) :: R)) :
    Calls Tryd.prog 67 ⟨[.map (some m1), .map (some m2)]⟩ W fun e W' => e = .returned (.tuple #[]) ∧ ∃ d', d'.Perm d ∧ Has 0 w0 W' (MapOf m1 (kvOf d') :: MapOf m2 (kvOf d) :: R) := by
  refine enter Tryd.func67 Tryd.ntmps67 rfl rfl fun a hs => ?_
  repeat (first | (refine sxv hs hw ?_; clear hs; intro a hs) | refine sxc hs ?_ | (refine sxa hs hw ?_; clear hs hw; intro a b W hw hs) | (refine sxs hs hw ?_; clear hs hw; intro W hs hw))
  refine st_range hs (hw := hw.swap2) (c := ?_); clear hs hw; intro a it W hw hs
  repeat (first | (refine sxv hs hw ?_; clear hs; intro a hs) | refine sxc hs ?_ | (refine sxa hs hw ?_; clear hs hw; intro a b W hw hs) | (refine sxs hs hw ?_; clear hs hw; intro W hs hw))
  refine st_loop (σ := CopS) (fun t => [(0, .map (some m1)), (7, .pointer (some ⟨it, 0, none⟩))]) (fun t => Ranged m2 it (kvOf d) t.left t.cur :: MapOf m1 (kvOf t.dn) :: R) (fun t => (kvOf t.dn ++ t.left).Perm (kvOf d)) (fun t => t.left.length) ⟨[], kvOf d, none⟩ (List.Perm.refl _) hs ⟨rfl, rfl, trivial⟩ hw ?_
  clear hs hw
  rintro ⟨dn, left, cur⟩ a W hp hs hw
  simp only at hp hs hw
  repeat (first | (refine sxv hs hw ?_; clear hs; intro a hs) | refine sxc hs ?_ | (refine sxa hs hw ?_; clear hs hw; intro a b W hw hs) | (refine sxs hs hw ?_; clear hs hw; intro W hs hw))
  refine st_next hs (hw := hw) (c1 := ?_) (c2 := ?_)
  · clear hs; intro a hl hs
    subst hl
    repeat (first | (refine sxv hs hw ?_; clear hs; intro a hs) | refine sxc hs ?_ | (refine sxa hs hw ?_; clear hs hw; intro a b W hw hs) | (refine sxs hs hw ?_; clear hs hw; intro W hs hw))
    rw [List.append_nil] at hp
    exact rt0n hs rfl ⟨rfl, dn, kvOf_perm hp, hw.unranged.swap2⟩
  · clear hs hw; intro a W p left' hpl hw hs
    have hp2 : (kvOf dn ++ p :: left').Perm (kvOf d) := (List.Perm.append_left _ hpl.symm).trans hp
    obtain ⟨k, x, rfl⟩ : ∃ k x, p = (k, vOf x) := by
      have : p ∈ kvOf d := hp2.mem_iff.1 (by simp)
      obtain ⟨q, _, rfl⟩ := List.mem_map.1 this
      exact ⟨q.1, q.2, rfl⟩
    have hnk : k ∉ (kvOf dn).map (·.1) := by
      have h1 : ((kvOf dn ++ (k, vOf x) :: left').map (·.1)).Nodup := (hp2.map _).nodup_iff.2 (by rw [kvOf_keys]; exact hk)
      rw [List.map_append, List.nodup_append] at h1
      intro h2
      exact h1.2.2 k h2 k (by simp) rfl
    have hnew : dset (kvOf dn) k (vOf x) = kvOf (dn ++ [(k, x)]) := by
      rw [dset_new _ hnk]; simp [kvOf]
    simp only at hs
    repeat (first | (refine sxv hs hw ?_; clear hs; intro a hs) | refine sxc hs ?_ | (refine sxa hs hw ?_; clear hs hw; intro a b W hw hs) | (refine sxs hs hw ?_; clear hs hw; intro W hs hw))
    refine st_entry hs (hw := hw) (c := ?_); clear hs; intro a hs
    simp only at hs
    repeat (first | (refine sxv hs hw ?_; clear hs; intro a hs) | refine sxc hs ?_ | (refine sxa hs hw ?_; clear hs hw; intro a b W hw hs) | (refine sxs hs hw ?_; clear hs hw; intro W hs hw))
    refine st_store hs (hw := hw) (h1 := one_cellX (some x)) (k := ?_); clear hs hw; intro W hs hw
    repeat (first | (refine sxv hs hw ?_; clear hs; intro a hs) | refine sxc hs ?_ | (refine sxa hs hw ?_; clear hs hw; intro a b W hw hs) | (refine sxs hs hw ?_; clear hs hw; intro W hs hw))
    refine st_update hs (hw := hw) (v := vOf x) (c := ?_); clear hs hw; intro W hs hw
    rw [hnew] at hw
    repeat (first | (refine sxv hs hw ?_; clear hs; intro a hs) | refine sxc hs ?_ | (refine sxa hs hw ?_; clear hs hw; intro a b W hw hs) | (refine sxs hs hw ?_; clear hs hw; intro W hs hw))
    refine st_again ⟨dn ++ [(k, x)], left', some (k, vOf x)⟩ hs (hw.sub (List.Sublist.cons _ (List.Sublist.refl _))) ?_ ?_ ⟨rfl, rfl, trivial⟩
    · show (kvOf (dn ++ [(k, x)]) ++ left').Perm _
      have : kvOf (dn ++ [(k, x)]) ++ left' = kvOf dn ++ (k, vOf x) :: left' := by simp [kvOf]
      rw [this]; exact hp2
    · show left'.length < left.length
      rw [hpl.length_eq]; simp

set_option maxHeartbeats 8000000 in
theorem doc_Copy (w0 W : World) (p : Nat) (d : Dm) (R : List Res) (hw : Has 0 w0 W (DocAt p d :: R)) :
    Calls Tryd.prog 61 ⟨[.pointer (some ⟨p, 0, none⟩)]⟩ W fun e W' => ∃ c, e = .returned (.pointer (some ⟨c, 0, none⟩)) ∧ Has 0 w0 W' (DocAt c d :: DocAt p d :: R) := by
  refine enter Tryd.func61 Tryd.ntmps61 rfl rfl fun a hs => ?_
  repeat (first | (refine sxv hs hw ?_; clear hs; intro a hs) | refine sxc hs ?_ | (refine sxa hs hw ?_; clear hs hw; intro a b W hw hs) | (refine sxs hs hw ?_; clear hs hw; intro W hs hw) | ((with_reducible first | refine st_ptrSome hs (k := ?_) | refine st_ptrNone hs (k := ?_)); clear hs; intro a hs))
  refine st_call hs (hc := doc_New w0 _ _ hw) (k := ?_); rintro e0 W1 ⟨c, rfl, hw1⟩; refine ⟨_, rfl, ?_⟩; clear hs hw; intro a hs; have hw := hw1; clear hw1
  repeat (first | (refine sxv hs hw ?_; clear hs; intro a hs) | refine sxc hs ?_ | (refine sxa hs hw ?_; clear hs hw; intro a b W hw hs) | (refine sxs hs hw ?_; clear hs hw; intro W hs hw) | ((with_reducible first | refine st_ptrSome hs (k := ?_) | refine st_ptrNone hs (k := ?_)); clear hs; intro a hs))
  obtain ⟨m1, d1, hp1, -, hw⟩ := docOpen hw
  obtain rfl : d1 = [] := List.Perm.eq_nil hp1
  obtain ⟨m2, d2, hp2, hk2, hw⟩ := docOpen (hw.perm ((List.Perm.cons _ (List.Perm.swap _ _ _)).trans (List.Perm.swap _ _ _)))
  have hw : Has 0 w0 _ (Cells c [.map (some m1)] 113 :: Cells p [.map (some m2)] 113 :: MapOf m1 (kvOf []) :: MapOf m2 (kvOf d2) :: R) := hw.perm (by repeat (first | exact List.Perm.refl _ | refine perm_pick (by repeat (first | exact Pick.hd | apply Pick.tl)) ?_))
  refine rg_draw (V := [.pointer (some ⟨c, 0, none⟩), .pointer (some ⟨c, 0, none⟩), .pointer (some ⟨c, 0 + 0, none⟩), .map (some m1), .pointer (some ⟨p, 0, none⟩), .pointer (some ⟨p, 0, none⟩), .pointer (some ⟨p, 0 + 0, none⟩), .map (some m2), .tuple #[]])
    (Rs := fun D => Cells c [.map (some m1)] 113 :: Cells p [.map (some m2)] 113 :: (if D 8 then Ex (fun d3 : Dm => MapOf m1 (kvOf d3) :: Fact (d3.Perm d2) :: []) else MapOf m1 (kvOf [])) :: MapOf m2 (kvOf d2) :: R) hs hw (ho := ⟨?_, ?_, ?_, ?_, ?_, ?_, ?_, ?_, ?c8_2, trivial⟩) (k := ?k_2)
  case c8_2 =>
    intro LD D a W hcl hi hp hs hw
    simp only [hi, Bool.false_eq_true, if_false] at hw
    have hw : Has 0 w0 W (MapOf m1 [] :: MapOf m2 (kvOf d2) :: Cells c [.map (some m1)] 113 :: Cells p [.map (some m2)] 113 :: R) := hw.perm (by repeat (first | exact List.Perm.refl _ | refine perm_pick (by repeat (first | exact Pick.hd | apply Pick.tl)) ?_))
    refine st_call hs (hc := maps_Copy w0 _ m1 m2 d2 _ ((dKeys_perm hp2).2 hk2) hw) (k := ?_); rintro e0 W1 ⟨rfl, d3, h3, hw1⟩; refine ⟨_, rfl, ?_⟩; clear hs hw; intro a hs; have hw := hw1; clear hw1
    repeat (first | (refine sxv hs hw ?_; clear hs; intro a hs) | refine sxc hs ?_ | (refine sxa hs hw ?_; clear hs hw; intro a b W hw hs) | (refine sxs hs hw ?_; clear hs hw; intro W hs hw))
    refine ⟨hs, ?_⟩
    have hw := Has.shut (Ls := fun d3 : Dm => MapOf m1 (kvOf d3) :: Fact (d3.Perm d2) :: []) d3 (hw.fact h3 |>.perm (List.Perm.swap _ _ _))
    exact hw.perm (by repeat (first | exact List.Perm.refl _ | refine perm_pick (by repeat (first | exact Pick.hd | apply Pick.tl)) ?_))
  case k_2 =>
    clear hs hw
    intro a W hs hw
    replace hw : Has 0 w0 W (Cells c [.map (some m1)] 113 :: Cells p [.map (some m2)] 113 :: Ex (fun d3 : Dm => MapOf m1 (kvOf d3) :: Fact (d3.Perm d2) :: []) :: MapOf m2 (kvOf d2) :: R) := hw
    obtain ⟨d3, hw⟩ := Has.open (hw.perm (List.Perm.trans (List.Perm.cons _ (List.Perm.swap _ _ _)) (List.Perm.swap _ _ _)))
    have hw : Has 0 w0 W (MapOf m1 (kvOf d3) :: Fact (d3.Perm d2) :: Cells c [.map (some m1)] 113 :: Cells p [.map (some m2)] 113 :: MapOf m2 (kvOf d2) :: R) := hw
    have h3 := hw.told (In.tl In.hd)
    repeat (first | (refine sxv hs hw ?_; clear hs; intro a hs) | refine sxc hs ?_ | (refine sxa hs hw ?_; clear hs hw; intro a b W hw hs) | (refine sxs hs hw ?_; clear hs hw; intro W hs hw))
    have hw : Has 0 w0 _ (Cells p [.map (some m2)] 113 :: MapOf m2 (kvOf d2) :: Cells c [.map (some m1)] 113 :: MapOf m1 (kvOf d3) :: R) := hw.drop2.perm (by repeat (first | exact List.Perm.refl _ | refine perm_pick (by repeat (first | exact Pick.hd | apply Pick.tl)) ?_))
    have hw := docShut hw hp2 hk2
    have hw : Has 0 w0 _ (Cells c [.map (some m1)] 113 :: MapOf m1 (kvOf d3) :: DocAt p d :: R) := hw.perm (by repeat (first | exact List.Perm.refl _ | refine perm_pick (by repeat (first | exact Pick.hd | apply Pick.tl)) ?_))
    have hw := docShut hw (h3.trans hp2) hk2
    exact rt1 hs rfl rfl ⟨c, rfl, hw⟩
  all_goals
    intro LD D a W hcl hi hp hs hw
    repeat (first | (refine sxv hs hw ?_; clear hs; intro a hs) | refine sxc hs ?_ | (refine sxa hs hw ?_; clear hs hw; intro a b W hw hs) | (refine sxs hs hw ?_; clear hs hw; intro W hs hw))
    exact ⟨hs, hw⟩
end Go.Proofs.YtcfaicomnngegaaDoor.Sw

/-
  The walks of op.MayBatch and op.Encode, by Sx.
-/
set_option linter.unusedVariables false
set_option maxRecDepth 10000
namespace Go.Proofs.YtcfaicomnngegaaDoor.Sw
open Go.RowKit Go.Sx
-- pieces

def mayD (o : OpD) : Bool := mayOp o.kind o.key o.vk o.vn o.vs o.ok o.on o.os o.n
/-- May a batch be? -/
def mayBatch (c q : Int) (l : List OpD) : Bool :=
  !(decide (c < 1)) && !(decide (c > 5)) && !(decide (q < 1)) && !(decide (q > 1099511627776)) && !(decide ((l.length : Int) < 1)) && !(decide ((l.length : Int) > 8)) && l.all mayD && decide (((textB c q l).length : Int) ≤ 1200)

set_option maxHeartbeats 8000000 in
theorem op_MayBatch (c q : Int) (l : List OpD) (sv : Value) (w : World) (hc : i64 c) (hq : i64 q) (ho : ∀ o ∈ l, OpOk o) (r : Rd w 9 sv l.length (l.flatMap opCells)) (hT : Tabs w) :
    Calls Tryd.prog 62 ⟨[.agg ⟨[.int .i64 c, .int .i64 q, sv]⟩]⟩ w fun e w' => e = .returned (.bool (mayBatch c q l)) ∧ Below w.heap.size w w' := by
  have hw := Has.start (G := 0) (w := w) (Nat.zero_le _)
  obtain ⟨sad, scap, rfl⟩ : ∃ ad cap, sv = .slice ad l.length cap := by obtain ⟨_, ad, cap, e, _⟩ := r; exact ⟨ad, cap, e⟩
  have hlen : l.length ≤ 9223372036854775807 := r.len
  refine enter Tryd.func62 Tryd.ntmps62 rfl rfl fun a hs => ?_
  repeat (first | (refine sxv hs hw ?_; clear hs; intro a hs) | refine sxc hs ?_ | (refine sxa hs hw ?_; clear hs hw; intro a b W hw hs) | (refine sxs hs hw ?_; clear hs hw; intro W hs hw))
  cases h0 : decide (c < 1) with
  | true =>
    rw [h0] at hs
    repeat (first | (refine sxv hs hw ?_; clear hs; intro a hs) | refine sxc hs ?_ | (refine sxa hs hw ?_; clear hs hw; intro a b W hw hs) | (refine sxs hs hw ?_; clear hs hw; intro W hs hw))
    exact rt1 hs rfl rfl ⟨by simp only [mayBatch, h0]; rfl, hw.end (by repeat (first | exact In.hd | apply In.tl))⟩
  | false =>
  rw [h0] at hs
  repeat (first | (refine sxv hs hw ?_; clear hs; intro a hs) | refine sxc hs ?_ | (refine sxa hs hw ?_; clear hs hw; intro a b W hw hs) | (refine sxs hs hw ?_; clear hs hw; intro W hs hw))
  cases h1 : decide (c > 5) with
  | true =>
    rw [h1] at hs
    repeat (first | (refine sxv hs hw ?_; clear hs; intro a hs) | refine sxc hs ?_ | (refine sxa hs hw ?_; clear hs hw; intro a b W hw hs) | (refine sxs hs hw ?_; clear hs hw; intro W hs hw))
    exact rt1 hs rfl rfl ⟨by simp only [mayBatch, h0, h1]; rfl, hw.end (by repeat (first | exact In.hd | apply In.tl))⟩
  | false =>
  rw [h1] at hs
  repeat (first | (refine sxv hs hw ?_; clear hs; intro a hs) | refine sxc hs ?_ | (refine sxa hs hw ?_; clear hs hw; intro a b W hw hs) | (refine sxs hs hw ?_; clear hs hw; intro W hs hw))
  cases h2 : decide (q < 1) with
  | true =>
    rw [h2] at hs
    repeat (first | (refine sxv hs hw ?_; clear hs; intro a hs) | refine sxc hs ?_ | (refine sxa hs hw ?_; clear hs hw; intro a b W hw hs) | (refine sxs hs hw ?_; clear hs hw; intro W hs hw))
    exact rt1 hs rfl rfl ⟨by simp only [mayBatch, h0, h1, h2]; rfl, hw.end (by repeat (first | exact In.hd | apply In.tl))⟩
  | false =>
  rw [h2] at hs
  repeat (first | (refine sxv hs hw ?_; clear hs; intro a hs) | refine sxc hs ?_ | (refine sxa hs hw ?_; clear hs hw; intro a b W hw hs) | (refine sxs hs hw ?_; clear hs hw; intro W hs hw))
  cases h3 : decide (q > 1099511627776) with
  | true =>
    rw [h3] at hs
    repeat (first | (refine sxv hs hw ?_; clear hs; intro a hs) | refine sxc hs ?_ | (refine sxa hs hw ?_; clear hs hw; intro a b W hw hs) | (refine sxs hs hw ?_; clear hs hw; intro W hs hw))
    exact rt1 hs rfl rfl ⟨by simp only [mayBatch, h0, h1, h2, h3]; rfl, hw.end (by repeat (first | exact In.hd | apply In.tl))⟩
  | false =>
  rw [h3] at hs
  repeat (first | (refine sxv hs hw ?_; clear hs; intro a hs) | refine sxc hs ?_ | (refine sxa hs hw ?_; clear hs hw; intro a b W hw hs) | (refine sxs hs hw ?_; clear hs hw; intro W hs hw))
  cases h4 : decide ((l.length : Int) < 1) with
  | true =>
    rw [h4] at hs
    repeat (first | (refine sxv hs hw ?_; clear hs; intro a hs) | refine sxc hs ?_ | (refine sxa hs hw ?_; clear hs hw; intro a b W hw hs) | (refine sxs hs hw ?_; clear hs hw; intro W hs hw))
    exact rt1 hs rfl rfl ⟨by simp only [mayBatch, h0, h1, h2, h3, h4]; rfl, hw.end (by repeat (first | exact In.hd | apply In.tl))⟩
  | false =>
  rw [h4] at hs
  repeat (first | (refine sxv hs hw ?_; clear hs; intro a hs) | refine sxc hs ?_ | (refine sxa hs hw ?_; clear hs hw; intro a b W hw hs) | (refine sxs hs hw ?_; clear hs hw; intro W hs hw))
  cases h5 : decide ((l.length : Int) > 8) with
  | true =>
    rw [h5] at hs
    repeat (first | (refine sxv hs hw ?_; clear hs; intro a hs) | refine sxc hs ?_ | (refine sxa hs hw ?_; clear hs hw; intro a b W hw hs) | (refine sxs hs hw ?_; clear hs hw; intro W hs hw))
    exact rt1 hs rfl rfl ⟨by simp only [mayBatch, h0, h1, h2, h3, h4, h5]; rfl, hw.end (by repeat (first | exact In.hd | apply In.tl))⟩
  | false =>
  rw [h5] at hs
  repeat (first | (refine sxv hs hw ?_; clear hs; intro a hs) | refine sxc hs ?_ | (refine sxa hs hw ?_; clear hs hw; intro a b W hw hs) | (refine sxs hs hw ?_; clear hs hw; intro W hs hw))
  have h8 : l.length ≤ 8 := by simp at h5; omega
  have hmb : mayBatch c q l = (l.all mayD && decide (((textB c q l).length : Int) ≤ 1200)) := by unfold mayBatch; rw [h0, h1, h2, h3, h4, h5]; simp
  rw [hmb]
  clear hmb h0 h1 h2 h3 h4 h5
  obtain ⟨b1, q1⟩ := nm1 hw; subst q1
  have hw : Has 0 w _ (Cells b1 [.int .i64 c, .int .i64 q, .slice sad l.length scap] 33 :: Old w 0 :: []) := hw
  refine st_loop (σ := Nat) (fun i => [(1, .pointer (some ⟨b1, 0, none⟩)), (36, .slice sad l.length scap), (37, .int .i64 (l.length : Int)), (38, .int .i64 (i : Int))]) (fun _ => Cells b1 [.int .i64 c, .int .i64 q, .slice sad l.length scap] 33 :: Old w 0 :: []) (fun i => i ≤ l.length ∧ (l.take i).all mayD = true) (fun i => l.length - i) 0 ⟨Nat.zero_le _, rfl⟩ hs ⟨rfl, rfl, rfl, rfl, trivial⟩ hw ?_
  clear hs hw
  rintro i a W ⟨hi, ha⟩ hs hw
  repeat (first | (refine sxv hs hw ?_; clear hs; intro a hs) | refine sxc hs ?_ | (refine sxa hs hw ?_; clear hs hw; intro a b W hw hs) | (refine sxs hs hw ?_; clear hs hw; intro W hs hw))
  refine cd_split hs (kt := fun hcc => ?_) (kf := fun hcc => ?_)
  · have hi' : i < l.length := by simpa using hcc
    obtain ⟨o, hoi⟩ : ∃ o, l[i]? = some o := ⟨l[i], List.getElem?_eq_getElem hi'⟩
    have hok := ho o (List.mem_of_getElem? hoi)
    have hnext : (l.take (i + 1)).all mayD = mayD o := by
      rw [List.take_add_one, hoi, List.all_append, ha]; simp
    have hall : mayD o = false → l.all mayD = false := fun h => by
      rw [List.all_eq_false]
      exact ⟨o, List.mem_of_getElem? hoi, by rw [h]; simp⟩
    repeat (first | (refine sxv hs hw ?_; clear hs; intro a hs) | refine sxc hs ?_ | (refine sxa hs hw ?_; clear hs hw; intro a b W hw hs) | (refine sxs hs hw ?_; clear hs hw; intro W hs hw))
    refine st_index_op hs (r := hw.rd (by repeat (first | exact In.hd | apply In.tl)) hw.ext.size r) (ho := hoi) (c := ?_); clear hs; intro a p off hpc hs
    refine st_load_ats (z := opCells ⟨0, ⟨#[]⟩, 0, 0, ⟨#[]⟩, 0, 0, ⟨#[]⟩, 0⟩) hs (hc := hpc) (hl := rfl) (c := ?_); clear hs; intro a hs
    obtain ⟨kind, key, vk, vn, vs, ok, on, os, n⟩ := o
    simp only [opCells] at hs
    clear hpc
    have hkey := hok.key
    have hvs := hok.vs
    have hos := hok.os
    simp only at hkey hvs hos
    repeat (first | (refine sxv hs hw ?_; clear hs; intro a hs) | refine sxc hs ?_ | (refine sxa hs hw ?_; clear hs hw; intro a b W hw hs) | (refine sxs hs hw ?_; clear hs hw; intro W hs hw))
    refine st_call hs (hc := op_May kind key vk vn vs ok on os n _ (by omega) (by omega) (by omega) (hT.keep (hw.end (by repeat (first | exact In.hd | apply In.tl))))) (k := ?_); rintro e0 W1 ⟨rfl, hb⟩; refine ⟨_, rfl, ?_⟩; clear hs; intro a hs; replace hw := hw.below hb; clear hb
    rw [show mayOp kind key vk vn vs ok on os n = mayD ⟨kind, key, vk, vn, vs, ok, on, os, n⟩ from rfl] at hs
    cases hm : mayD ⟨kind, key, vk, vn, vs, ok, on, os, n⟩ with
    | false =>
      rw [hm] at hs
      repeat (first | (refine sxv hs hw ?_; clear hs; intro a hs) | refine sxc hs ?_ | (refine sxa hs hw ?_; clear hs hw; intro a b W hw hs) | (refine sxs hs hw ?_; clear hs hw; intro W hs hw))
      exact rt1 hs rfl rfl ⟨by rw [hall hm]; rfl, hw.end (by repeat (first | exact In.hd | apply In.tl))⟩
    | true =>
      rw [hm] at hs hnext
      repeat (first | (refine sxv hs hw ?_; clear hs; intro a hs) | refine sxc hs ?_ | (refine sxa hs hw ?_; clear hs hw; intro a b W hw hs) | (refine sxs hs hw ?_; clear hs hw; intro W hs hw))
      have hw := hw.sub (List.Sublist.cons _ (List.Sublist.refl _))
      exact st_again (i + 1) hs hw ⟨by omega, hnext⟩ (by show l.length - (i + 1) < l.length - i; omega) ⟨rfl, rfl, rfl, int_eq (by show IntKind.i64.wrap ((i : Int) + 1) = ((i + 1 : Nat) : Int); rw [IntWalk.i64_in _ (by omega)]; omega), trivial⟩
  · have hi' : i = l.length := by simp at hcc; omega
    subst hi'
    rw [List.take_length] at ha
    rw [ha]
    repeat (first | (refine sxv hs hw ?_; clear hs; intro a hs) | refine sxc hs ?_ | (refine sxa hs hw ?_; clear hs hw; intro a b W hw hs) | (refine sxs hs hw ?_; clear hs hw; intro W hs hw))
    refine st_call hs (hc := op_text c q l _ _ hc hq (by omega) ho (hw.rd (by repeat (first | exact In.hd | apply In.tl)) hw.ext.size r)) (k := ?_); rintro e0 W1 ⟨ad, cap, rfl, hw1⟩; refine ⟨_, rfl, ?_⟩; clear hs; intro a hs; replace hw := hw.call hw1; clear hw1
    repeat (first | (refine sxv hs hw ?_; clear hs; intro a hs) | refine sxc hs ?_ | (refine sxa hs hw ?_; clear hs hw; intro a b W hw hs) | (refine sxs hs hw ?_; clear hs hw; intro W hs hw))
    exact rt1 hs rfl rfl ⟨by simp, hw.end (by repeat (first | exact In.hd | apply In.tl))⟩

end Go.Proofs.YtcfaicomnngegaaDoor.Sw

/-
  The walk of doc.Apply.
-/
set_option linter.unusedVariables false
set_option maxRecDepth 10000
namespace Go.Proofs.YtcfaicomnngegaaDoor.Sw
open Go.RowKit Go.Sx

/-- Operations done, one behind the other, to the first that may not. -/
def goD : List OpD → Dm → Int × Dm
  | [], d => (0, d)
  | o :: l, d => if mayD o = false then (1, d) else if (doOp d o).1 = 0 then goD l (doOp d o).2 else ((doOp d o).1, d)
/-- All operations, or none. -/
def applyD (d : Dm) (l : List OpD) : Int × Dm :=
  if l.length = 0 ∨ 8 < l.length then (1, d) else if (goD l d).1 = 0 then (0, (goD l d).2) else ((goD l d).1, d)

set_option maxHeartbeats 16000000 in
theorem doc_Apply (w0 W : World) (H : Fh) (p : Nat) (d : Dm) (l : List OpD) (sv : Value) (R : List Res) (ho : ∀ o ∈ l, OpOk o) (r : RdH H 9 sv l.length (l.flatMap opCells)) (i : In (Fz H) R) (hH : (fr w0).le H) (hT : Tabs w0) (hw : Has 0 w0 W (DocAt p d :: R)) :
    Calls Tryd.prog 65 ⟨[.pointer (some ⟨p, 0, none⟩), sv]⟩ W fun e W' => e = .returned (.int .i64 (applyD d l).1) ∧ Has 0 w0 W' (DocAt p (applyD d l).2 :: R) := by
  obtain ⟨sad, scap, rfl⟩ := r.slice
  have hlen := r.len
  refine enter Tryd.func65 Tryd.ntmps65 rfl rfl fun a hs => ?_
  repeat (first | (refine sxv hs hw ?_; clear hs; intro a hs) | refine sxc hs ?_ | (refine sxa hs hw ?_; clear hs hw; intro a b W hw hs) | (refine sxs hs hw ?_; clear hs hw; intro W hs hw) | ((with_reducible first | refine st_ptrSome hs (k := ?_) | refine st_ptrNone hs (k := ?_)); clear hs; intro a hs))
  cases h0 : ((l.length : Int) == 0) with
  | true =>
    rw [h0] at hs
    repeat (first | (refine sxv hs hw ?_; clear hs; intro a hs) | refine sxc hs ?_ | (refine sxa hs hw ?_; clear hs hw; intro a b W hw hs) | (refine sxs hs hw ?_; clear hs hw; intro W hs hw) | ((with_reducible first | refine st_ptrSome hs (k := ?_) | refine st_ptrNone hs (k := ?_)); clear hs; intro a hs))
    have hX : applyD d l = (1, d) := by
      unfold applyD
      rw [if_pos (.inl (by have : (l.length : Int) = 0 := by simpa using h0
                           omega))]
    exact rt1 hs rfl rfl ⟨by rw [hX], by rw [hX]; exact hw⟩
  | false =>
  rw [h0] at hs
  repeat (first | (refine sxv hs hw ?_; clear hs; intro a hs) | refine sxc hs ?_ | (refine sxa hs hw ?_; clear hs hw; intro a b W hw hs) | (refine sxs hs hw ?_; clear hs hw; intro W hs hw) | ((with_reducible first | refine st_ptrSome hs (k := ?_) | refine st_ptrNone hs (k := ?_)); clear hs; intro a hs))
  cases h8 : decide ((l.length : Int) > 8) with
  | true =>
    rw [h8] at hs
    repeat (first | (refine sxv hs hw ?_; clear hs; intro a hs) | refine sxc hs ?_ | (refine sxa hs hw ?_; clear hs hw; intro a b W hw hs) | (refine sxs hs hw ?_; clear hs hw; intro W hs hw) | ((with_reducible first | refine st_ptrSome hs (k := ?_) | refine st_ptrNone hs (k := ?_)); clear hs; intro a hs))
    have hX : applyD d l = (1, d) := by
      unfold applyD
      rw [if_pos (.inr (by have := of_decide_eq_true h8; omega))]
    exact rt1 hs rfl rfl ⟨by rw [hX], by rw [hX]; exact hw⟩
  | false =>
  rw [h8] at hs
  repeat (first | (refine sxv hs hw ?_; clear hs; intro a hs) | refine sxc hs ?_ | (refine sxa hs hw ?_; clear hs hw; intro a b W hw hs) | (refine sxs hs hw ?_; clear hs hw; intro W hs hw) | ((with_reducible first | refine st_ptrSome hs (k := ?_) | refine st_ptrNone hs (k := ?_)); clear hs; intro a hs))
  have hX : applyD d l = (if (goD l d).1 = 0 then (0, (goD l d).2) else ((goD l d).1, d)) := by
    unfold applyD
    rw [if_neg]
    rintro (h | h)
    · rw [h] at h0; simp at h0
    · have := of_decide_eq_false h8; omega
  rw [hX]
  clear hX h0 h8
  refine st_call hs (hc := doc_Copy w0 _ p d _ hw) (k := ?_); rintro e0 W1 ⟨c, rfl, hw1⟩; refine ⟨_, rfl, ?_⟩; clear hs hw; intro a hs; have hw := hw1; clear hw1
  repeat (first | (refine sxv hs hw ?_; clear hs; intro a hs) | refine sxc hs ?_ | (refine sxa hs hw ?_; clear hs hw; intro a b W hw hs) | (refine sxs hs hw ?_; clear hs hw; intro W hs hw) | ((with_reducible first | refine st_ptrSome hs (k := ?_) | refine st_ptrNone hs (k := ?_)); clear hs; intro a hs))
  refine st_loop (σ := Nat × Dm) (fun t => [(0, .pointer (some ⟨p, 0, none⟩)), (5, .pointer (some ⟨c, 0, none⟩)), (23, .slice sad l.length scap), (24, .int .i64 (l.length : Int)), (25, .int .i64 (t.1 : Int))]) (fun t => DocAt c t.2 :: DocAt p d :: R) (fun t => t.1 ≤ l.length ∧ goD (l.drop t.1) t.2 = goD l d) (fun t => l.length - t.1) (0, d) ⟨Nat.zero_le _, rfl⟩ hs ⟨rfl, rfl, rfl, rfl, rfl, trivial⟩ hw ?_
  clear hs hw
  rintro ⟨j, dc⟩ a W ⟨hj, hgo⟩ hs hw
  simp only at hj hgo hs hw
  repeat (first | (refine sxv hs hw ?_; clear hs; intro a hs) | refine sxc hs ?_ | (refine sxa hs hw ?_; clear hs hw; intro a b W hw hs) | (refine sxs hs hw ?_; clear hs hw; intro W hs hw) | ((with_reducible first | refine st_ptrSome hs (k := ?_) | refine st_ptrNone hs (k := ?_)); clear hs; intro a hs))
  refine cd_split hs (kt := fun hcc => ?_) (kf := fun hcc => ?_)
  · have hj' : j < l.length := by have := of_decide_eq_true hcc; omega
    obtain ⟨o, hoi⟩ : ∃ o, l[j]? = some o := ⟨l[j], List.getElem?_eq_getElem hj'⟩
    have hok := ho o (List.mem_of_getElem? hoi)
    have hdrop : l.drop j = o :: l.drop (j + 1) := by
      rw [List.drop_eq_getElem_cons hj']
      congr 1
      rw [List.getElem?_eq_getElem hj'] at hoi
      exact Option.some.inj hoi
    rw [hdrop] at hgo
    simp only [goD] at hgo
    repeat (first | (refine sxv hs hw ?_; clear hs; intro a hs) | refine sxc hs ?_ | (refine sxa hs hw ?_; clear hs hw; intro a b W hw hs) | (refine sxs hs hw ?_; clear hs hw; intro W hs hw) | ((with_reducible first | refine st_ptrSome hs (k := ?_) | refine st_ptrNone hs (k := ?_)); clear hs; intro a hs))
    refine st_index_op hs (r := hw.rdH (by repeat (first | exact i | apply In.tl)) r) (ho := hoi) (c := ?_); clear hs; intro a q off hpc hs
    refine st_load_ats (z := opCells ⟨0, ⟨#[]⟩, 0, 0, ⟨#[]⟩, 0, 0, ⟨#[]⟩, 0⟩) hs (hc := hpc) (hl := rfl) (c := ?_); clear hs; intro a hs
    clear hpc
    have hM := fun W hT => op_May o.kind o.key o.vk o.vn o.vs o.ok o.on o.os o.n W (by have := hok.key; omega) (by have := hok.vs; omega) (by have := hok.os; omega) hT
    have hM : ∀ W, Tabs W → Calls Tryd.prog 68 ⟨[.agg ⟨opCells o⟩]⟩ W fun e w' => e = .returned (.bool (mayD o)) ∧ Below W.heap.size W w' := hM
    repeat (first | (refine sxv hs hw ?_; clear hs; intro a hs) | refine sxc hs ?_ | (refine sxa hs hw ?_; clear hs hw; intro a b W hw hs) | (refine sxs hs hw ?_; clear hs hw; intro W hs hw) | ((with_reducible first | refine st_ptrSome hs (k := ?_) | refine st_ptrNone hs (k := ?_)); clear hs; intro a hs))
    obtain ⟨b7, q7⟩ := nm1 hw; subst q7
    have hw : Has 0 w0 _ (Cells b7 (opCells o) 56 :: DocAt c dc :: DocAt p d :: R) := hw
    refine st_call hs (hc := hM _ (hT.keep (hw.endF (by repeat (first | exact i | apply In.tl)) hH))) (k := ?_); rintro e0 W1 ⟨rfl, hb⟩; refine ⟨_, rfl, ?_⟩; clear hs; intro a hs; replace hw := hw.below hb; clear hb
    repeat (first | (refine sxv hs hw ?_; clear hs; intro a hs) | refine sxc hs ?_ | (refine sxa hs hw ?_; clear hs hw; intro a b W hw hs) | (refine sxs hs hw ?_; clear hs hw; intro W hs hw) | ((with_reducible first | refine st_ptrSome hs (k := ?_) | refine st_ptrNone hs (k := ?_)); clear hs; intro a hs))
    cases hm : mayD o with
    | false =>
      rw [hm] at hs hgo
      rw [if_pos rfl] at hgo
      repeat (first | (refine sxv hs hw ?_; clear hs; intro a hs) | refine sxc hs ?_ | (refine sxa hs hw ?_; clear hs hw; intro a b W hw hs) | (refine sxs hs hw ?_; clear hs hw; intro W hs hw) | ((with_reducible first | refine st_ptrSome hs (k := ?_) | refine st_ptrNone hs (k := ?_)); clear hs; intro a hs))
      rw [← hgo, if_neg (by show ¬ (1 : Int) = 0; decide)]
      exact rt1 hs rfl rfl ⟨rfl, hw.sub (List.Sublist.cons _ (List.Sublist.cons _ (List.Sublist.refl _)))⟩
    | true =>
    rw [hm] at hs hgo
    rw [if_neg (by decide)] at hgo
    repeat (first | (refine sxv hs hw ?_; clear hs; intro a hs) | refine sxc hs ?_ | (refine sxa hs hw ?_; clear hs hw; intro a b W hw hs) | (refine sxs hs hw ?_; clear hs hw; intro W hs hw) | ((with_reducible first | refine st_ptrSome hs (k := ?_) | refine st_ptrNone hs (k := ?_)); clear hs; intro a hs))
    refine st_call hs (hc := doc_do w0 _ H c dc o _ hok (by repeat (first | exact i | apply In.tl)) hH hT hw.swap2) (k := ?_); rintro e0 W1 ⟨rfl, hw1⟩; refine ⟨_, rfl, ?_⟩; clear hs hw; intro a hs; have hw := hw1; clear hw1
    repeat (first | (refine sxv hs hw ?_; clear hs; intro a hs) | refine sxc hs ?_ | (refine sxa hs hw ?_; clear hs hw; intro a b W hw hs) | (refine sxs hs hw ?_; clear hs hw; intro W hs hw) | ((with_reducible first | refine st_ptrSome hs (k := ?_) | refine st_ptrNone hs (k := ?_)); clear hs; intro a hs))
    cases he : ((doOp dc o).1 != 0) with
    | true =>
      rw [he] at hs
      rw [if_neg (by simpa using he)] at hgo
      repeat (first | (refine sxv hs hw ?_; clear hs; intro a hs) | refine sxc hs ?_ | (refine sxa hs hw ?_; clear hs hw; intro a b W hw hs) | (refine sxs hs hw ?_; clear hs hw; intro W hs hw) | ((with_reducible first | refine st_ptrSome hs (k := ?_) | refine st_ptrNone hs (k := ?_)); clear hs; intro a hs))
      rw [← hgo, if_neg (by simpa using he)]
      exact rt1 hs rfl rfl ⟨rfl, hw.sub (List.Sublist.cons _ (List.Sublist.cons _ (List.Sublist.refl _)))⟩
    | false =>
    rw [he] at hs
    rw [if_pos (by simpa using he)] at hgo
    repeat (first | (refine sxv hs hw ?_; clear hs; intro a hs) | refine sxc hs ?_ | (refine sxa hs hw ?_; clear hs hw; intro a b W hw hs) | (refine sxs hs hw ?_; clear hs hw; intro W hs hw) | ((with_reducible first | refine st_ptrSome hs (k := ?_) | refine st_ptrNone hs (k := ?_)); clear hs; intro a hs))
    exact st_again (j + 1, (doOp dc o).2) hs hw.drop2 ⟨by show j + 1 ≤ l.length; omega, hgo⟩ (by show l.length - (j + 1) < l.length - j; omega) ⟨rfl, rfl, rfl, rfl, int_eq (by show IntKind.i64.wrap ((j : Int) + 1) = ((j + 1 : Nat) : Int); rw [IntWalk.i64_in _ (by omega)]; omega), trivial⟩
  · have hj' : j = l.length := by have := of_decide_eq_false hcc; omega
    subst hj'
    rw [List.drop_length] at hgo
    rw [← hgo]
    simp only [goD, if_true]
    obtain ⟨m1, d1, hp1, hk1, hw⟩ := docOpen hw
    have hw : Has 0 w0 _ (DocAt p d :: Cells c [.map (some m1)] 113 :: MapOf m1 (kvOf d1) :: R) := hw.perm (by repeat (first | exact List.Perm.refl _ | refine perm_pick (by repeat (first | exact Pick.hd | apply Pick.tl)) ?_))
    obtain ⟨m2, d2, hp2, hk2, hw⟩ := docOpen hw
    repeat (first | (refine sxv hs hw ?_; clear hs; intro a hs) | refine sxc hs ?_ | (refine sxa hs hw ?_; clear hs hw; intro a b W hw hs) | (refine sxs hs hw ?_; clear hs hw; intro W hs hw) | ((with_reducible first | refine st_ptrSome hs (k := ?_) | refine st_ptrNone hs (k := ?_)); clear hs; intro a hs))
    have hw : Has 0 w0 _ (Cells p [.map (some m1)] 113 :: MapOf m1 (kvOf d1) :: MapOf m2 (kvOf d2) :: Cells c [.map (some m1)] 113 :: R) := hw.perm (by repeat (first | exact List.Perm.refl _ | refine perm_pick (by repeat (first | exact Pick.hd | apply Pick.tl)) ?_))
    have hw := docShut hw hp1 hk1
    exact rt1 hs rfl rfl ⟨rfl, hw.sub (List.Sublist.cons_cons _ (List.Sublist.cons _ (List.Sublist.cons _ (List.Sublist.refl _))))⟩

end Go.Proofs.YtcfaicomnngegaaDoor.Sw

/-
  Values and their raw data: for seats without the laws of values (in a seat with S4A this text is not used).
-/
set_option linter.unusedVariables false
namespace Go.Proofs.YtcfaicomnngegaaDoor.Sw
open Go.RowKit

theorem ofRaw_ok {k n : Int} {s : ByteArray} (h : (ofRaw k n s).2 = 0) : kindOf (ofRaw k n s).1 = k ∧ intIn (ofRaw k n s).1 = n ∧ (textIn (ofRaw k n s).1).toList = s.toList := by
  have hz : ∀ s : ByteArray, s.size = 0 → (⟨#[]⟩ : ByteArray).toList = s.toList := fun s h => by
    have : s = ⟨#[]⟩ := by
      apply ByteArray.ext
      exact Array.eq_empty_of_size_eq_zero h
    rw [this]
  unfold ofRaw at *
  split at h
  · rename_i c; rw [if_pos c]; exact ⟨c.1.symm, c.2.1.symm, hz s c.2.2⟩
  · rename_i c; rw [if_neg c]
    split at h
    · rename_i c2; rw [if_pos c2]; exact ⟨c2.1.symm, rfl, hz s c2.2⟩
    · rename_i c2; rw [if_neg c2]
      split at h
      · rename_i c3; rw [if_pos c3]; exact ⟨c3.1.symm, c3.2.1.symm, rfl⟩
      · cases h
theorem eqV_of {k n k' n' : Int} {s s' : ByteArray} (h : (ofRaw k n s).2 = 0) (h' : (ofRaw k' n' s').2 = 0) : eqV (ofRaw k n s).1 (ofRaw k' n' s').1 = ((k == k') && (n == n') && (s.toList == s'.toList)) := by
  obtain ⟨a, b, c⟩ := ofRaw_ok h
  obtain ⟨a', b', c'⟩ := ofRaw_ok h'
  unfold eqV
  rw [a, b, c, a', b', c']
theorem eqV_refl (x : Option (Int ⊕ ByteArray)) : eqV x x = true := by simp [eqV]
theorem eqV_symm (x y : Option (Int ⊕ ByteArray)) : eqV x y = eqV y x := by
  unfold eqV
  rw [Bool.beq_comm (a := kindOf x), Bool.beq_comm (a := intIn x), Bool.beq_comm (a := (textIn x).toList)]

end Go.Proofs.YtcfaicomnngegaaDoor.Sw

/-
  The plain law of chapter 5: when two batches are one. No program in sight.
-/
set_option linter.unusedVariables false
set_option maxRecDepth 10000
namespace Go.Proofs.YtcfaicomnngegaaDoor.Sw
open Go.RowKit Go.Sx

theorem ba_eq {s t : ByteArray} (h : s.toList = t.toList) : s = t := by
  rw [Go.ByteArray.toList_eq, Go.ByteArray.toList_eq] at h
  apply ByteArray.ext
  exact Array.toList_inj.1 h
theorem ba_mk (s : ByteArray) : (⟨s.data.toList.toArray⟩ : ByteArray) = s := by
  apply ByteArray.ext
  simp
theorem rawEq_iff {k n : Int} {s : ByteArray} {k' n' : Int} {s' : ByteArray} : rawEq k n s k' n' s' = true ↔ k = k' ∧ n = n' ∧ s = s' := by
  unfold rawEq
  simp only [Bool.and_eq_true, beq_iff_eq]
  constructor
  · rintro ⟨⟨h1, h2⟩, h3⟩
    exact ⟨h1, h2, ba_eq h3⟩
  · rintro ⟨rfl, rfl, rfl⟩
    exact ⟨⟨rfl, rfl⟩, rfl⟩

theorem mayBatch_parts {c q : Int} {l : List OpD} (h : mayBatch c q l = true) : (1 ≤ c ∧ c ≤ 5) ∧ (1 ≤ q ∧ q ≤ 1099511627776) ∧ (1 ≤ l.length ∧ l.length ≤ 8) ∧ l.all mayD = true ∧ (textB c q l).length ≤ 1200 := by
  unfold mayBatch at h
  simp only [Bool.and_eq_true, Bool.not_eq_true', decide_eq_false_iff_not, decide_eq_true_eq] at h
  obtain ⟨⟨⟨⟨⟨⟨⟨h1, h2⟩, h3⟩, h4⟩, h5⟩, h6⟩, h7⟩, h8⟩ := h
  exact ⟨by omega, by omega, by omega, h7, by omega⟩
def eqOp (o o' : OpD) : Bool := (o.kind == o'.kind) && (o.key.toList == o'.key.toList) && rawEq o.vk o.vn o.vs o'.vk o'.vn o'.vs && rawEq o.ok o.on o.os o'.ok o'.on o'.os && (o.n == o'.n)
def eqOps (l l' : List OpD) : Bool := (l.zip l').all fun p => eqOp p.1 p.2
def eqBatch (c q : Int) (l : List OpD) (c' q' : Int) (l' : List OpD) : Bool := (c == c') && (q == q') && (l.length == l'.length) && eqOps l l'
theorem eqOp_iff {o o' : OpD} : eqOp o o' = true ↔ o = o' := by
  obtain ⟨kind, key, vk, vn, vs, ok, on, os, n⟩ := o
  obtain ⟨kind', key', vk', vn', vs', ok', on', os', n'⟩ := o'
  unfold eqOp
  simp only [Bool.and_eq_true, beq_iff_eq, rawEq_iff, OpD.mk.injEq]
  constructor
  · rintro ⟨⟨⟨⟨h1, h2⟩, h3, h4, h5⟩, h6, h7, h8⟩, h9⟩
    exact ⟨h1, ba_eq h2, h3, h4, h5, h6, h7, h8, h9⟩
  · rintro ⟨h1, h2, h3, h4, h5, h6, h7, h8, h9⟩
    exact ⟨⟨⟨⟨h1, by rw [h2]⟩, h3, h4, h5⟩, h6, h7, h8⟩, h9⟩
theorem eqOps_iff : ∀ {l l' : List OpD}, l.length = l'.length → (eqOps l l' = true ↔ l = l')
  | [], [], _ => by simp [eqOps]
  | [], _ :: _, h => by simp at h
  | _ :: _, [], h => by simp at h
  | o :: l, o' :: l', h => by
    have ih := eqOps_iff (l := l) (l' := l') (by simpa using h)
    unfold eqOps at *
    rw [List.zip_cons_cons, List.all_cons, Bool.and_eq_true, ih, eqOp_iff, List.cons.injEq]
theorem eqBatch_iff {c q : Int} {l : List OpD} {c' q' : Int} {l' : List OpD} : eqBatch c q l c' q' l' = true ↔ c = c' ∧ q = q' ∧ l = l' := by
  unfold eqBatch
  simp only [Bool.and_eq_true, beq_iff_eq]
  constructor
  · rintro ⟨⟨⟨h1, h2⟩, h3⟩, h4⟩
    exact ⟨h1, h2, (eqOps_iff h3).1 h4⟩
  · rintro ⟨h1, h2, rfl⟩
    exact ⟨⟨⟨h1, h2⟩, rfl⟩, (eqOps_iff rfl).2 rfl⟩
theorem textB_pos (c q : Int) (l : List OpD) : 0 < (textB c q l).length := by
  have h4 : 0 < (Ph.putI c).length := List.length_pos_iff.2 (Ph.putI_ne_nil c)
  unfold textB headB
  simp only [List.length_append]
  omega
end Go.Proofs.YtcfaicomnngegaaDoor.Sw

/-
  Sx: cells that are a list's parts, one behind the other.
-/
set_option linter.unusedVariables false
namespace Go.Sx
open Go.RowKit
def Ch {α : Type} (R : α → List Value → Prop) : List α → List Value → Prop
  | [], cs => cs = []
  | a :: l, cs => ∃ c cs', cs = c ++ cs' ∧ R a c ∧ Ch R l cs'
section
variable {α : Type} {R R' : α → List Value → Prop} {k : Nat}
theorem Ch.length (hk : ∀ a c, R a c → c.length = k) : ∀ {l : List α} {cs : List Value}, Ch R l cs → cs.length = l.length * k
  | [], cs, h => by
    have h : cs = [] := h
    subst h; simp
  | a :: l, _, ⟨c, cs', rfl, h1, h2⟩ => by
    have := Ch.length hk h2
    have := hk a c h1
    rw [List.length_append, List.length_cons, Nat.add_mul]; omega
theorem Ch.app : ∀ {l m : List α} {cs ds : List Value}, Ch R l cs → Ch R m ds → Ch R (l ++ m) (cs ++ ds)
  | [], m, cs, ds, h, h2 => by
    have h : cs = [] := h
    subst h; exact h2
  | a :: l, m, _, ds, ⟨c, cs', rfl, h1, h2⟩, h3 => ⟨c, cs' ++ ds, by simp, h1, Ch.app h2 h3⟩
theorem Ch.unit {a : α} {c : List Value} (h : R a c) : Ch R [a] c := ⟨c, [], by simp, h, rfl⟩
theorem Ch.mono (h : ∀ a c, R a c → R' a c) : ∀ {l : List α} {cs : List Value}, Ch R l cs → Ch R' l cs
  | [], cs, h0 => h0
  | a :: l, _, ⟨c, cs', e, h1, h2⟩ => ⟨c, cs', e, h a c h1, Ch.mono h h2⟩
theorem Ch.split (hk : ∀ a c, R a c → c.length = k) : ∀ {l : List α} {cs : List Value} {i : Nat} {a : α}, Ch R l cs → l[i]? = some a →
    ∃ cs1 c cs2, cs = cs1 ++ (c ++ cs2) ∧ cs1.length = i * k ∧ R a c ∧ Ch R (l.take i) cs1 ∧ Ch R (l.drop (i + 1)) cs2
  | [], _, _, _, _, h => by simp at h
  | b :: l, _, 0, a, ⟨c, cs', rfl, h1, h2⟩, h => by
    simp only [List.getElem?_cons_zero, Option.some.injEq] at h
    subst h
    exact ⟨[], c, cs', rfl, by simp, h1, rfl, h2⟩
  | b :: l, _, i + 1, a, ⟨c, cs', rfl, h1, h2⟩, h => by
    rw [List.getElem?_cons_succ] at h
    obtain ⟨cs1, c', cs2, rfl, h3, h4, h5, h6⟩ := Ch.split hk h2 h
    refine ⟨c ++ cs1, c', cs2, by simp, ?_, h4, ⟨c, cs1, rfl, h1, h5⟩, h6⟩
    have := hk b c h1
    rw [List.length_append, Nat.add_mul]; omega
theorem Ch.get (hk : ∀ a c, R a c → c.length = k) {l : List α} {cs : List Value} {i : Nat} {a : α} (h : Ch R l cs) (hi : l[i]? = some a) : ∃ c, R a c ∧ c.length = k ∧ cut cs (i * k) k = c := by
  obtain ⟨cs1, c, cs2, rfl, h1, h2, _, _⟩ := h.split hk hi
  have := hk a c h2
  refine ⟨c, h2, this, ?_⟩
  rw [cut_eq, List.drop_append, h1, Nat.sub_self, List.drop_of_length_le (by omega), List.nil_append, List.drop_zero, List.take_append_of_le_length (by omega), List.take_of_length_le (by omega)]
theorem Ch.set (hk : ∀ a c, R a c → c.length = k) {l : List α} {cs : List Value} {i : Nat} {a : α} {c : List Value} (h : Ch R l cs) (hi : i < l.length) (ha : R a c) : Ch R (l.set i a) (ov cs (i * k) c) := by
  obtain ⟨cs1, c0, cs2, rfl, h1, h2, h3, h4⟩ := h.split hk (i := i) (a := l[i]) (by simp [hi])
  have e1 := hk _ _ h2
  have e2 := hk _ _ ha
  rw [ov_eq _ _ _ (by simp; omega), List.set_eq_take_append_cons_drop, if_pos hi]
  have e3 : (cs1 ++ (c0 ++ cs2)).take (i * k) = cs1 := by rw [← h1]; simp
  have e4 : (cs1 ++ (c0 ++ cs2)).drop (i * k + c.length) = cs2 := by
    rw [← List.append_assoc, ← h1, e2, ← e1, ← List.length_append, List.drop_left]
  rw [e3, e4, List.append_assoc]
  exact h3.app ⟨c, cs2, rfl, ha, h4⟩
theorem Ch.take (hk : ∀ a c, R a c → c.length = k) : ∀ {l : List α} {cs : List Value} (n : Nat), Ch R l cs → Ch R (l.take n) (cs.take (n * k))
  | [], cs, n, h => by
    have h : cs = [] := h
    subst h
    rw [List.take_nil, List.take_nil]; rfl
  | a :: l, cs, 0, h => by rw [Nat.zero_mul]; rfl
  | a :: l, _, n + 1, ⟨c, cs', rfl, h1, h2⟩ => by
    have := hk a c h1
    refine ⟨c, cs'.take (n * k), ?_, h1, Ch.take hk n h2⟩
    rw [List.take_append, List.take_of_length_le (by rw [Nat.add_mul]; omega), Nat.add_mul]
    congr 2; omega
theorem Ch.drop (hk : ∀ a c, R a c → c.length = k) : ∀ {l : List α} {cs : List Value} (n : Nat), Ch R l cs → Ch R (l.drop n) (cs.drop (n * k))
  | [], cs, n, h => by
    have h : cs = [] := h
    subst h
    rw [List.drop_nil, List.drop_nil]; rfl
  | a :: l, cs, 0, h => by rw [Nat.zero_mul]; exact h
  | a :: l, _, n + 1, ⟨c, cs', rfl, h1, h2⟩ => by
    have := hk a c h1
    have e : (n + 1) * k - c.length = n * k := by rw [Nat.add_mul]; omega
    have e2 : c.drop ((n + 1) * k) = [] := List.drop_of_length_le (by rw [Nat.add_mul]; omega)
    rw [List.drop_succ_cons, List.drop_append, e2, List.nil_append, e]
    exact Ch.drop hk n h2
theorem Ch.ones (h1 : ∀ a c, R a c → ∀ v ∈ c, v.oneCell' = true) : ∀ {l : List α} {cs : List Value}, Ch R l cs → ∀ v ∈ cs, v.oneCell' = true
  | [], cs, h => by
    have h : cs = [] := h
    subst h; simp
  | a :: l, _, ⟨c, cs', rfl, h2, h3⟩ => fun v hv => by
    rcases List.mem_append.1 hv with hv | hv
    · exact h1 a c h2 v hv
    · exact Ch.ones h1 h3 v hv
end
section
variable {P : Program} {ops : Array Oper} {rest : List Oper} {Q : Exit → Act → World → Prop} {a : Act} {n : Nat} {L : List (Nat × Value)} {W : World} {d k : Nat} {T S E : TypeId} {p : String} {e : Array Edge} {x y : Operand} {v : Value} {xs : List Value} {i : Nat} {q : IntKind} {z : List Value} {α : Type} {R : α → List Value → Prop} {l : List α} {u : α}
/-- A part's address; what stands there. -/
theorem st_index_ch {agg : Bool} {sz : Nat} [sl : Sl P S E] [t : Ty P E agg z] (hs : Slots a n L) (r : Rd W sz v k xs) (hk : ∀ a c, R a c → c.length = sz) (ch : Ch R l xs) (ho : l[i]? = some u) (hlen : l.length = k) (hx : ev L x = some v := by with_unfolding_all exact rfl) (hy : ev L y = some (.int q (i : Int)) := by with_unfolding_all exact rfl) (hd : Nat.blt d n = true := by with_unfolding_all exact rfl) (hz : z.length = sz := by with_unfolding_all exact rfl)
    (c : ∀ a' b o c, R u c → c.length = sz → (∀ j u, c[j]? = some u → W.cell? ⟨b, o + j, none⟩ = some u) → b < W.heap.size → Slots a' n ((d, .pointer (some ⟨b, o, none⟩)) :: L) → wpList P ops Q rest a' W) : wpList P ops Q (⟨some d, .indexAddr S x y, T, p, e, none⟩ :: rest) a W := by
  subst hz
  have hi := (List.getElem?_eq_some_iff.1 ho).1
  obtain ⟨cc, h1, h2, h3⟩ := ch.get hk ho
  refine st_indexAddr hs hx hy r (by omega) (by omega) hd fun a' b o h4 h5 h6 => c a' b o cc h1 h2 ?_ h5 h6
  rw [Int.toNat_natCast] at h4
  rw [← h3]
  exact h4
end
section
variable {P : Program} {ops : Array Oper} {rest : List Oper} {Q : Exit → Act → World → Prop} {a : Act} {n G : Nat} {L : List (Nat × Value)} {w W : World} {R : List Res} {d b size bytes m : Nat} {T S S' E : TypeId} {p : String} {e : Array Edge} {x y : Operand} {v : Value} {xs c : List Value} {α : Type} {Rr : α → List Value → Prop} {l : List α} {u : α}
/-- One part more. -/
theorem st_append1 [sl : Sl P S E] [el : El P E size bytes] (hs : Slots a n L) (hw : Has G w W (Own E size v l.length xs :: R)) (hi : In (Cells b c E) R) (ch : Ch Rr l xs) (ha : Rr u c) (hl : Nat.beq c.length (1 * size) = true) (h1 : c.all (·.oneCell') = true) (hb : (l.length + 1) * bytes ≤ 140737488355328) (h63 : l.length + 1 ≤ 9223372036854775807) (hx : ev L x = some v := by with_unfolding_all exact rfl) (hy : ev L y = some (.slice (some ⟨b, 0, none⟩) 1 1) := by with_unfolding_all exact rfl) (hd : Nat.blt d n = true := by with_unfolding_all exact rfl)
    (k : ∀ a' ad cap W', Slots a' n ((d, .slice ad (l ++ [u]).length cap) :: L) → Has G w W' (Own E size (.slice ad (l ++ [u]).length cap) (l ++ [u]).length (xs ++ c) :: R) → Ch Rr (l ++ [u]) (xs ++ c) → wpList P ops Q rest a' W') : wpList P ops Q (⟨some d, .call { callee := .builtin .append, args := #[x, y], argTypes := #[S, S] }, T, p, e, none⟩ :: rest) a W := by
  refine st_append_lit (b := b) (k := l.length) (m := 1) (xs := xs) (news := c) (v := v) (R' := fun v' => Own E size v' (l.length + 1) (xs ++ c) :: R) hs hw hx hy (In.tl hi) (fun v' => Upd.hd) hl h1 h63 hb hd ?_
  intro a' ad cap W' hs' hw'
  have e : l.length + 1 = (l ++ [u]).length := by simp
  rw [e] at hs' hw'
  exact k a' ad cap W' hs' hw' (ch.app (Ch.unit ha))
end
section
variable {G : Nat} {w W : World} {R : List Res} {H : Fh}
/-- What is frozen, with a fact about it. -/
def FzF (H : Fh) (p : Prop) : Res where
  ok F W := p ∧ (Fz H).ok F W
  loc F W W' h k := ⟨k.1, (Fz H).loc F W W' h k.2⟩
theorem Has.fzf {q : Prop} (h : Has G w W (Fz H :: R)) (hq : q) : Has G w W (FzF H q :: R) := by
  obtain ⟨F1, h1, h2, h3⟩ := h.has
  exact ⟨h.ext, h.glob, F1, h1, ⟨hq, h2⟩, h3⟩
theorem Has.unfzf {q : Prop} (h : Has G w W (FzF H q :: R)) : q ∧ Has G w W (Fz H :: R) := by
  obtain ⟨F1, h1, ⟨hq, h2⟩, h3⟩ := h.has
  exact ⟨hq, h.ext, h.glob, F1, h1, h2, h3⟩
end
theorem drop_of {α : Type} {l : List α} {j : Nat} {o : α} (h : l[j]? = some o) : l.drop j = o :: l.drop (j + 1) := by
  have hj := (List.getElem?_eq_some_iff.1 h).1
  rw [List.drop_eq_getElem_cons hj]
  congr 1
  rw [List.getElem?_eq_getElem hj] at h
  exact Option.some.inj h
theorem take_of {α : Type} {l : List α} {j : Nat} {o : α} (h : l[j]? = some o) : l.take (j + 1) = l.take j ++ [o] := by
  rw [List.take_add_one, h]; rfl
end Go.Sx

/-
  Documents as the reference has them: lists in order; the same up to order as the program's.
-/
set_option linter.unusedVariables false
set_option maxRecDepth 10000
namespace Go.Proofs.YtcfaicomnngegaaDoor.Sw
open Go.RowKit Go.Sx

def lessK (a b : ByteArray) : Bool := Ph.lessL a.data.toList b.data.toList
/-- With a key's value, as the reference puts it. -/
def setL : Dm → ByteArray → DV → Dm
  | [], k, v => [(k, v)]
  | p :: d, k, v => match lessK p.1 k with
    | false => (k, v) :: delD (p :: d) k
    | true => match ks k p.1 with
      | true => setL d k v
      | false => p :: setL d k v
theorem delD_cons (p : ByteArray × DV) (d : Dm) (k : ByteArray) : delD (p :: d) k = match ks k p.1 with | true => delD d k | false => p :: delD d k := by
  unfold delD
  rw [List.filter_cons]
  cases ks k p.1 <;> rfl
theorem setL_perm : ∀ (d : Dm) (k : ByteArray) (v : DV), (setL d k v).Perm (setD d k v)
  | [], k, v => List.Perm.refl _
  | p :: d, k, v => by
    have ih := setL_perm d k v
    unfold setD at ih ⊢
    simp only [setL]
    cases lessK p.1 k with
    | false => exact List.Perm.refl _
    | true =>
      simp only
      rw [delD_cons]
      cases ks k p.1 with
      | true => exact ih
      | false => exact (ih.cons p).trans (List.Perm.swap _ _ _)
def setRL (d : Dm) (k : ByteArray) (x : Option DV) : Int × Dm :=
  match x with
  | none => (0, delD d k)
  | some v => if (getK d k).isSome = false ∧ 50 ≤ d.length then (6, d) else (0, setL d k v)
def doL (d : Dm) (o : OpD) : Int × Dm :=
  if o.kind = 3 then (if eqV (getK d o.key) (ofRaw o.ok o.on o.os).1 then setRL d o.key (ofRaw o.vk o.vn o.vs).1 else (8, d))
  else if o.kind = 4 then
    if (kindOf (getK d o.key) != 0 && !isInt (getK d o.key)) = true then (7, d)
    else if (!inB (intIn (getK d o.key)) || !inB (IntKind.i64.wrap (intIn (getK d o.key) + o.n))) = true then (4, d)
    else setRL d o.key (some (.inl (IntKind.i64.wrap (intIn (getK d o.key) + o.n))))
  else setRL d o.key (ofRaw o.vk o.vn o.vs).1
def goL : List OpD → Dm → Int × Dm
  | [], d => (0, d)
  | o :: l, d => if mayD o = false then (1, d) else if (doL d o).1 = 0 then goL l (doL d o).2 else ((doL d o).1, d)
/-- All operations, or none. -/
def applyL (d : Dm) (l : List OpD) : Int × Dm :=
  if l.length = 0 ∨ 8 < l.length then (1, d) else if (goL l d).1 = 0 then (0, (goL l d).2) else ((goL l d).1, d)

def Like (a b : Int × Dm) : Prop := a.1 = b.1 ∧ a.2.Perm b.2 ∧ dKeys b.2
theorem setRL_like {d d' : Dm} (hp : d'.Perm d) (hk : dKeys d) (k : ByteArray) (x : Option DV) : Like (setR d' k x) (setRL d k x) := by
  cases x with
  | none => exact ⟨rfl, delD_perm hp k, delD_keys hk k⟩
  | some v =>
    unfold setR setRL
    simp only
    rw [getK_perm hp ((dKeys_perm hp).2 hk), hp.length_eq]
    by_cases h : (getK d k).isSome = false ∧ 50 ≤ d.length
    · rw [if_pos h, if_pos h]
      exact ⟨rfl, hp, hk⟩
    · rw [if_neg h, if_neg h]
      exact ⟨rfl, (setD_perm hp k v).trans (setL_perm d k v).symm, (dKeys_perm (setL_perm d k v)).2 (setD_keys hk k v)⟩
theorem doL_like {d d' : Dm} (hp : d'.Perm d) (hk : dKeys d) (o : OpD) : Like (doOp d' o) (doL d o) := by
  unfold doOp doL
  rw [getK_perm hp ((dKeys_perm hp).2 hk)]
  split
  · split
    · exact setRL_like hp hk _ _
    · exact ⟨rfl, hp, hk⟩
  · split
    · split
      · exact ⟨rfl, hp, hk⟩
      · split
        · exact ⟨rfl, hp, hk⟩
        · exact setRL_like hp hk _ _
    · exact setRL_like hp hk _ _
theorem goL_like : ∀ (l : List OpD) {d d' : Dm}, d'.Perm d → dKeys d → Like (goD l d') (goL l d)
  | [], d, d', hp, hk => ⟨rfl, hp, hk⟩
  | o :: l, d, d', hp, hk => by
    unfold goD goL
    obtain ⟨h1, h2, h3⟩ := doL_like hp hk o
    by_cases hm : mayD o = false
    · rw [if_pos hm, if_pos hm]
      exact ⟨rfl, hp, hk⟩
    · rw [if_neg hm, if_neg hm, h1]
      by_cases he : (doL d o).1 = 0
      · rw [if_pos he, if_pos he]
        exact goL_like l h2 h3
      · rw [if_neg he, if_neg he]
        exact ⟨rfl, hp, hk⟩
theorem applyL_like {d d' : Dm} (hp : d'.Perm d) (hk : dKeys d) (l : List OpD) : Like (applyD d' l) (applyL d l) := by
  unfold applyD applyL
  obtain ⟨h1, h2, h3⟩ := goL_like l hp hk
  by_cases h : l.length = 0 ∨ 8 < l.length
  · rw [if_pos h, if_pos h]
    exact ⟨rfl, hp, hk⟩
  · rw [if_neg h, if_neg h, h1]
    by_cases he : (goL l d).1 = 0
    · rw [if_pos he, if_pos he]
      exact ⟨rfl, h2, h3⟩
    · rw [if_neg he, if_neg he]
      exact ⟨rfl, hp, hk⟩
theorem docLike {G p : Nat} {w W : World} {R : List Res} {d d' : Dm} (h : Has G w W (DocAt p d :: R)) (hp : d.Perm d') : Has G w W (DocAt p d' :: R) := by
  obtain ⟨m, d2, h1, h2, h3⟩ := docOpen h
  exact docShut h3 (h1.trans hp) ((dKeys_perm hp).1 h2)
theorem docKeys {G p : Nat} {w W : World} {R : List Res} {d : Dm} (h : Has G w W (DocAt p d :: R)) : dKeys d := by
  obtain ⟨m, d2, h1, h2, h3⟩ := docOpen h
  exact h2
theorem doc_ApplyL (w0 W : World) (H : Fh) (p : Nat) (d : Dm) (l : List OpD) (sv : Value) (R : List Res) (ho : ∀ o ∈ l, OpOk o) (r : RdH H 9 sv l.length (l.flatMap opCells)) (i : In (Fz H) R) (hH : (fr w0).le H) (hT : Tabs w0) (hw : Has 0 w0 W (DocAt p d :: R)) :
    Calls Tryd.prog 65 ⟨[.pointer (some ⟨p, 0, none⟩), sv]⟩ W fun e W' => e = .returned (.int .i64 (applyL d l).1) ∧ Has 0 w0 W' (DocAt p (applyL d l).2 :: R) := by
  have hk := docKeys hw
  obtain ⟨h1, h2, h3⟩ := applyL_like (List.Perm.refl d) hk l
  refine (doc_Apply w0 W H p d l sv R ho r i hH hT hw).mono ?_
  rintro e W' ⟨rfl, h⟩
  exact ⟨by rw [h1], docLike h h2⟩

/-! what may be of a document -/
structure PairOk (p : ByteArray × DV) : Prop where
  key : p.1.size ≤ 1000000
  num : ∀ n, p.2 = .inl n → i64 n
  txt : ∀ s, p.2 = .inr s → s.size ≤ 200 ∧ Lib.validD s.data.toList = true
/-- A document that may be. -/
structure DocOk (d : Dm) : Prop where
  keys : dKeys d
  len : d.length ≤ 50
  all : ∀ p ∈ d, PairOk p
theorem DocOk.nil : DocOk [] := ⟨by unfold dKeys; simp, by simp, by simp⟩
theorem delD_len (d : Dm) (k : ByteArray) : (delD d k).length ≤ d.length := List.length_filter_le _ _
theorem delD_less {d : Dm} {k : ByteArray} (h : (getK d k).isSome = true) : (delD d k).length < d.length := by
  have h1 : k ∈ d.map (·.1) := by
    cases hg : getK d k with
    | none => rw [hg] at h; cases h
    | some v => exact Classical.byContradiction fun hn => by rw [getK_none.2 hn] at hg; cases hg
  obtain ⟨p, hp, rfl⟩ := List.mem_map.1 h1
  have h3 := List.length_eq_countP_add_countP (fun q : ByteArray × DV => !ks p.1 q.1) (l := d)
  have h4 : 0 < d.countP (fun q => decide ¬(!ks p.1 q.1) = true) := List.countP_pos_iff.2 ⟨p, hp, by simp [ks_self]⟩
  have h5 : (delD d p.1).length = d.countP (fun q => !ks p.1 q.1) := by unfold delD; rw [List.countP_eq_length_filter]
  omega
theorem setRL_ok {d : Dm} (h : DocOk d) {k : ByteArray} {x : Option DV} (hx : ∀ v, x = some v → PairOk (k, v)) : DocOk (setRL d k x).2 := by
  cases x with
  | none => exact ⟨delD_keys h.keys k, Nat.le_trans (delD_len d k) h.len, fun p hp => h.all p ((List.mem_filter.1 hp).1)⟩
  | some v =>
    unfold setRL
    simp only
    by_cases hc : (getK d k).isSome = false ∧ 50 ≤ d.length
    · rw [if_pos hc]; exact h
    · rw [if_neg hc]
      have hp := setL_perm d k v
      refine ⟨(dKeys_perm hp).2 (setD_keys h.keys k v), ?_, fun p hm => ?_⟩
      · rw [hp.length_eq]
        show (delD d k).length + 1 ≤ 50
        cases hg : (getK d k).isSome with
        | true =>
          have := delD_less hg
          have := h.len
          omega
        | false =>
          have := delD_len d k
          have : ¬ 50 ≤ d.length := fun hh => hc ⟨hg, hh⟩
          omega
      · rcases List.mem_cons.1 (hp.mem_iff.1 hm) with rfl | hm
        · exact hx v rfl
        · exact h.all p ((List.mem_filter.1 hm).1)
theorem ofRaw_pair {k n : Int} {s key : ByteArray} (hk : key.size ≤ 1000000) (hn : i64 n) : ∀ v, (ofRaw k n s).1 = some v → PairOk (key, v) := by
  intro v hv
  unfold ofRaw at hv
  split at hv
  · cases hv
  · split at hv
    · cases hv
      exact ⟨hk, (fun m h => by cases h; exact hn), (fun t h => by cases h)⟩
    · split at hv
      · rename_i c
        cases hv
        exact ⟨hk, (fun m h => by cases h), (fun t h => by cases h; exact ⟨c.2.2.1, c.2.2.2⟩)⟩
      · cases hv
theorem wrap_i64 (n : Int) : i64 (IntKind.i64.wrap n) := by
  unfold i64
  rw [IntKind.wrap_i64]; omega
theorem doL_ok {d : Dm} (h : DocOk d) {o : OpD} (ho : OpOk o) : DocOk (doL d o).2 := by
  unfold doL
  split
  · split
    · exact setRL_ok h (ofRaw_pair ho.key ho.vn)
    · exact h
  · split
    · split
      · exact h
      · split
        · exact h
        · exact setRL_ok h fun v hv => by
            cases hv
            exact ⟨ho.key, (fun n hn => by cases hn; exact wrap_i64 _), (fun s hs => by cases hs)⟩
    · exact setRL_ok h (ofRaw_pair ho.key ho.vn)
theorem goL_ok : ∀ (l : List OpD) {d : Dm}, DocOk d → (∀ o ∈ l, OpOk o) → DocOk (goL l d).2
  | [], d, h, _ => h
  | o :: l, d, h, ho => by
    unfold goL
    split
    · exact h
    · split
      · exact goL_ok l (doL_ok h (ho o (by simp))) fun o' ho' => ho o' (by simp [ho'])
      · exact h
theorem applyL_ok {d : Dm} (h : DocOk d) {l : List OpD} (ho : ∀ o ∈ l, OpOk o) : DocOk (applyL d l).2 := by
  unfold applyL
  split
  · exact h
  · split
    · exact goL_ok l h ho
    · exact h
end Go.Proofs.YtcfaicomnngegaaDoor.Sw

/-
  The walk of the reference's Less.
-/
set_option linter.unusedVariables false
namespace Go.Proofs.YtcfaicomnngegaaDoor
open Go.RowKit

theorem bdrew {B : Nat} {x y : World} (h : Below B x y) (n : Nat) : Below B x (y.drewN n) := h.trans ⟨rfl, rfl, rfl, Nat.le_refl _, fun _ _ => rfl⟩

set_option maxHeartbeats 1000000 in
theorem ref_Less (a b : ByteArray) (w : World) (ha : a.size ≤ 1000000) (hb : b.size ≤ 1000000) :
    Calls Tryd.prog 60 #[.string a, .string b] w fun e w' => e = .returned (.bool (Ph.lessL a.data.toList b.data.toList)) ∧ Below w.heap.size w w' := by
  have hca : (Ph.rs a.data.toList).length ≤ a.size := Ph.count_le a
  have hcb : (Ph.rs b.data.toList).length ≤ b.size := Ph.count_le b
  have HOA := Lib.hid (Ph.rs_small a.data.toList)
  have HOB := Lib.hid (Ph.rs_small b.data.toList)
  have HL := Lib.hid (Ph.lessD_all a.data.toList b.data.toList)
  go_enter Tryd.func60, Tryd.ntmps60
  go_wp2_with fail
  refine (ref_Runes a _ ha).mono ?_
  rintro e w1 ⟨vl, va, rfl, hl, _, hb1⟩
  go_wp2_with fail
  refine (ref_Runes b _ hb).mono ?_
  rintro e w2 ⟨vm, vb, rfl, hm, _, hb2⟩
  have hl2 := own_below hl hb2
  have hb3 : Below w.heap.size w w2 := hb1.trans (hb2.mono hb1.size)
  clear hl hb1 hb2
  obtain ⟨Al, cl, rfl, _, _, fl⟩ := own_slice hl2
  obtain ⟨Am, cm, rfl, _, _, fm⟩ := own_slice hm
  have HLL := Lib.hid hl2
  have HMM := Lib.hid hm
  clear hl2 hm
  generalize hx : Ph.rs a.data.toList = X at *
  generalize hy : Ph.rs b.data.toList = Y at *
  clear hx hy
  go_wp2
  go_loopw [11] (fun i wr => ∃ k : Nat, k ≤ X.length ∧ k ≤ Y.length ∧ i = .int .i64 k ∧ Below w2.heap.size w2 wr ∧ Hid (Ph.lessL a.data.toList b.data.toList = Ph.lessD a.data.toList b.data.toList (X.drop k) (Y.drop k))) (fun i _ => X.length - (intOf i).toNat)
  case atStart => exact ⟨0, by omega, by omega, rfl, Below.refl _ _, by show _ = _; rw [HL.out]; rfl⟩
  case round =>
    obtain ⟨k, hk1, hk2, rfl, hbw, HK⟩ := hrel
    by_cases hlt : k < X.length ∧ k < Y.length
    · obtain ⟨h1, h2⟩ := hlt
      have h1' : (k : Int) < (X.length : Int) := by omega
      have h2' : (k : Int) < (Y.length : Int) := by omega
      obtain ⟨g, rfl, fc⟩ := fl (by omega)
      obtain ⟨g', rfl, fc'⟩ := fm (by omega)
      have hg := (HLL.out.lt g rfl).2
      have hg' := (HMM.out.lt g' rfl).2
      have hc : wr.cell? ⟨g, k, none⟩ = some (.int .i32 (X[k]).1) := by
        rw [hbw.cell (p := ⟨g, k, none⟩) hg, fc k (by omega), Ph.runeVals_get _ k h1]
      have hc' : wr.cell? ⟨g', k, none⟩ = some (.int .i32 (Y[k]).1) := by
        rw [hbw.cell (p := ⟨g', k, none⟩) hg', fc' k (by omega), Ph.runeVals_get _ k h2]
      have HD : Hid (X.drop k = X[k] :: X.drop (k + 1)) := List.drop_eq_getElem_cons h1
      have HD' : Hid (Y.drop k = Y[k] :: Y.drop (k + 1)) := List.drop_eq_getElem_cons h2
      clear fc fc' fl fm
      generalize X[k] = p at *
      generalize Y[k] = q at *
      have g1 : (0 : Int) ≤ (k : Int) := by omega
      by_cases hpq : p.1 = q.1
      · have HN : Hid (Ph.lessL a.data.toList b.data.toList = Ph.lessD a.data.toList b.data.toList (X.drop (k + 1)) (Y.drop (k + 1))) := by
          show _ = _
          rw [HK.out, HD.out, HD'.out, Ph.lessD_eq _ _ _ _ _ _ hpq]
        have hne : ((p.1 : Int) != (q.1 : Int)) = false := by rw [hpq]; simp
        clear hpq
        go_wp2_with fail
        go_quiet (fail)
        go_wp2
        go_roundw
        case rel => exact ⟨k + 1, by omega, by omega, by go_num, bdrew hbw _, HN⟩
        case measure => simp [intOf]; omega
      · have HN : Hid (Ph.lessL a.data.toList b.data.toList = decide (p.1 < q.1)) := by
          show _ = _
          rw [HK.out, HD.out, HD'.out, Ph.lessD_ne _ _ _ _ _ _ hpq]
        have hne : ((p.1 : Int) != (q.1 : Int)) = true := by rw [bne_iff_ne]; omega
        clear hpq
        go_wp2_with fail
        go_quiet (fail)
        go_wp2
        go_quiet (fail)
        go_wp2
        go_ret
        exact ⟨ret_bool HN.out.symm, hb3.trans (bdrew (bdrew (hbw.mono hb3.size) _) _)⟩
    · have H := Lib.hid hlt
      clear hlt
      by_cases e1 : k < X.length
      · have e1' : (k : Int) < (X.length : Int) := by omega
        have e2' : (Y.length : Int) ≤ (k : Int) := by have := H.out; omega
        have HN : Hid (Ph.lessL a.data.toList b.data.toList = false) := by
          show _ = _
          rw [HK.out, Ph.lessD_cn _ _ (by simp; omega) (by simp; omega)]
        have hne : ((X.length : Int) != (Y.length : Int)) = true := by rw [bne_iff_ne]; omega
        have hlt : ¬ X.length < Y.length := by omega
        go_wp2
        go_ret
        exact ⟨ret_bool HN.out.symm, hb3.trans (hbw.mono hb3.size)⟩
      · have e1' : (X.length : Int) ≤ (k : Int) := by omega
        by_cases e2 : k < Y.length
        · have HN : Hid (Ph.lessL a.data.toList b.data.toList = true) := by
            show _ = _
            rw [HK.out, Ph.lessD_nc _ _ (by simp; omega) (by simp; omega)]
          have hne : ((X.length : Int) != (Y.length : Int)) = true := by rw [bne_iff_ne]; omega
          go_wp2
          go_ret
          exact ⟨ret_bool (by rw [HN.out]; exact decide_eq_true (by omega)), hb3.trans (hbw.mono hb3.size)⟩
        · have HN : Hid (Ph.lessL a.data.toList b.data.toList = Op.bytesLess a.toList b.toList) := by
            show _ = _
            rw [HK.out, List.drop_eq_nil_of_le (by omega), List.drop_eq_nil_of_le (by omega), Ph.lessD_nn, Ph.bytesLess_toList]
          have hne : ((X.length : Int) != (Y.length : Int)) = false := by rw [bne_eq_false_iff_eq]; omega
          go_wp2
          go_ret
          exact ⟨ret_bool HN.out.symm, hb3.trans (hbw.mono hb3.size)⟩
end Go.Proofs.YtcfaicomnngegaaDoor

/-
  The walks of the reference's documents: Get, far, set.
-/
set_option linter.unusedVariables false
set_option maxRecDepth 10000
namespace Go.Proofs.YtcfaicomnngegaaDoor.Sw
open Go.RowKit Go.Sx

theorem chFlat {α : Type} (f : α → List Value) : ∀ l : List α, Ch (fun a c => c = f a) l (l.flatMap f)
  | [] => rfl
  | a :: l => ⟨f a, l.flatMap f, rfl, rfl, chFlat f l⟩
def rawCells (x : Option DV) : List Value := [.int .i64 (kindOf x), .int .i64 (intIn x), .string (textIn x)]
def pairCells (p : ByteArray × DV) : List Value := .string p.1 :: rawCells (some p.2)
theorem pair_len : ∀ (p : ByteArray × DV) (c : List Value), c = pairCells p → c.length = 4 := by rintro p c rfl; rfl
theorem ks_list (a b : ByteArray) : (a.toList == b.toList) = ks b a := by
  cases h : ks b a with
  | true => rw [ks_iff.1 h]; simp
  | false =>
    cases h2 : (a.toList == b.toList) with
    | false => rfl
    | true => rw [beq_iff_eq] at h2; rw [ks_iff.2 (ba_eq h2).symm] at h; cases h

set_option maxHeartbeats 4000000 in
theorem ref_Get (d : Dm) (sv : Value) (key : ByteArray) (w : World) (r : Rd w 4 sv d.length (d.flatMap pairCells)) :
    Calls Tryd.prog 45 ⟨[.agg ⟨[sv]⟩, .string key]⟩ w fun e w' => e = .returned (.tuple ⟨[.agg ⟨rawCells (getK d key)⟩, .bool (getK d key).isSome]⟩) ∧ Below w.heap.size w w' := by
  have hw := Has.start (G := 0) (w := w) (Nat.zero_le _)
  obtain ⟨sad, scap, rfl⟩ : ∃ ad cap, sv = .slice ad d.length cap := by obtain ⟨_, ad, cap, e, _⟩ := r; exact ⟨ad, cap, e⟩
  have hlen : d.length ≤ 9223372036854775807 := r.len
  refine enter Tryd.func45 Tryd.ntmps45 rfl rfl fun a hs => ?_
  repeat (first | (refine sxv hs hw ?_; clear hs; intro a hs) | refine sxc hs ?_ | (refine sxa hs hw ?_; clear hs hw; intro a b W hw hs) | (refine sxs hs hw ?_; clear hs hw; intro W hs hw))
  obtain ⟨b4, q4⟩ := nm1 hw; subst q4
  obtain ⟨b2, q2⟩ := nm2 hw; subst q2
  refine st_loop (σ := Nat) (fun i => [(2, .pointer (some ⟨b2, 0, none⟩)), (1, .string key), (4, .pointer (some ⟨b4, 0, none⟩)), (6, .int .i64 (i : Int))]) (fun _ => Cells b4 (rawCells none) 54 :: Cells b2 [.slice sad d.length scap] 41 :: Old w 0 :: []) (fun i => i ≤ d.length ∧ getK (d.drop i) key = getK d key) (fun i => d.length - i) 0 ⟨Nat.zero_le _, rfl⟩ hs ⟨rfl, rfl, rfl, rfl, trivial⟩ hw ?_
  clear hs hw
  rintro i a W ⟨hi, hg⟩ hs hw
  repeat (first | (refine sxv hs hw ?_; clear hs; intro a hs) | refine sxc hs ?_ | (refine sxa hs hw ?_; clear hs hw; intro a b W hw hs) | (refine sxs hs hw ?_; clear hs hw; intro W hs hw))
  refine cd_split hs (kt := fun hcc => ?_) (kf := fun hcc => ?_)
  · have hi' : i < d.length := by simpa using hcc
    obtain ⟨o, hoi⟩ : ∃ o, d[i]? = some o := ⟨d[i], List.getElem?_eq_getElem hi'⟩
    have hdrop : d.drop i = o :: d.drop (i + 1) := by
      rw [List.drop_eq_getElem_cons hi']
      congr 1
      rw [List.getElem?_eq_getElem hi'] at hoi
      exact Option.some.inj hoi
    rw [hdrop] at hg
    simp only [getK] at hg
    repeat (first | (refine sxv hs hw ?_; clear hs; intro a hs) | refine sxc hs ?_ | (refine sxa hs hw ?_; clear hs hw; intro a b W hw hs) | (refine sxs hs hw ?_; clear hs hw; intro W hs hw))
    refine st_index_ch hs (r := hw.rd (by repeat (first | exact In.hd | apply In.tl)) hw.ext.size r) (hk := pair_len) (ch := chFlat pairCells d) (ho := hoi) (hlen := rfl) (c := ?_); clear hs; intro a g off c hc hcl hpc hlt hs
    subst hc
    repeat (first | (refine sxv hs hw ?_; clear hs; intro a hs) | refine sxc hs ?_ | (refine sxa hs hw ?_; clear hs hw; intro a b W hw hs) | (refine sxs hs hw ?_; clear hs hw; intro W hs hw))
    refine st_load_at hs (hc := hpc 0 _ rfl) (c := ?_); clear hs; intro a hs
    repeat (first | (refine sxv hs hw ?_; clear hs; intro a hs) | refine sxc hs ?_ | (refine sxa hs hw ?_; clear hs hw; intro a b W hw hs) | (refine sxs hs hw ?_; clear hs hw; intro W hs hw))
    rw [ks_list] at hs
    cases hk : ks key o.1 with
    | true =>
      rw [hk] at hs hg
      simp only at hg
      repeat (first | (refine sxv hs hw ?_; clear hs; intro a hs) | refine sxc hs ?_ | (refine sxa hs hw ?_; clear hs hw; intro a b W hw hs) | (refine sxs hs hw ?_; clear hs hw; intro W hs hw))
      refine st_index_ch hs (r := hw.rd (by repeat (first | exact In.hd | apply In.tl)) hw.ext.size r) (hk := pair_len) (ch := chFlat pairCells d) (ho := hoi) (hlen := rfl) (c := ?_); clear hs; intro a g2 off2 c hc hcl2 hpc2 hlt2 hs
      subst hc
      repeat (first | (refine sxv hs hw ?_; clear hs; intro a hs) | refine sxc hs ?_ | (refine sxa hs hw ?_; clear hs hw; intro a b W hw hs) | (refine sxs hs hw ?_; clear hs hw; intro W hs hw))
      refine st_load_ats hs (cs := rawCells (some o.2)) (hc := fun j u h => by rw [Nat.add_assoc, Nat.add_comm 1 j]; exact hpc2 (j + 1) u h) (hl := by rfl) (c := ?_); clear hs; intro a hs
      repeat (first | (refine sxv hs hw ?_; clear hs; intro a hs) | refine sxc hs ?_ | (refine sxa hs hw ?_; clear hs hw; intro a b W hw hs) | (refine sxs hs hw ?_; clear hs hw; intro W hs hw))
      refine rc2 hs rfl rfl hw (In.hd) rfl rfl ?_
      rw [← hg]
      exact ⟨rfl, hw.end (by repeat (first | exact In.hd | apply In.tl))⟩
    | false =>
      rw [hk] at hs hg
      simp only at hg
      repeat (first | (refine sxv hs hw ?_; clear hs; intro a hs) | refine sxc hs ?_ | (refine sxa hs hw ?_; clear hs hw; intro a b W hw hs) | (refine sxs hs hw ?_; clear hs hw; intro W hs hw))
      exact st_again (i + 1) hs hw ⟨hi', hg⟩ (by show d.length - (i + 1) < d.length - i; omega) ⟨rfl, rfl, rfl, int_eq (by show IntKind.i64.wrap ((i : Int) + 1) = ((i + 1 : Nat) : Int); rw [IntWalk.i64_in _ (by omega)]; omega), trivial⟩
  · have hi' : i = d.length := by have : ¬ i < d.length := by simpa using hcc
                                  omega
    subst hi'
    rw [List.drop_length] at hg
    repeat (first | (refine sxv hs hw ?_; clear hs; intro a hs) | refine sxc hs ?_ | (refine sxa hs hw ?_; clear hs hw; intro a b W hw hs) | (refine sxs hs hw ?_; clear hs hw; intro W hs hw))
    refine rc2 hs rfl rfl hw (In.hd) rfl rfl ?_
    rw [← hg]
    exact ⟨rfl, hw.end (by repeat (first | exact In.hd | apply In.tl))⟩

theorem ref_far (n : Int) (w : World) : Calls Tryd.prog 46 ⟨[.int .i64 n]⟩ w fun e w' => e = .returned (.bool (!inB n)) ∧ Below w.heap.size w w' := by
  have hw := Has.start (G := 0) (w := w) (Nat.zero_le _)
  refine enter Tryd.func46 Tryd.ntmps46 rfl rfl fun a hs => ?_
  repeat (first | (refine sxv hs hw ?_; clear hs; intro a hs) | refine sxc hs ?_ | (refine sxa hs hw ?_; clear hs hw; intro a b W hw hs) | (refine sxs hs hw ?_; clear hs hw; intro W hs hw))
  cases h : decide (n < -4611686018427387904) with
  | true =>
    rw [h] at hs
    repeat (first | (refine sxv hs hw ?_; clear hs; intro a hs) | refine sxc hs ?_ | (refine sxa hs hw ?_; clear hs hw; intro a b W hw hs) | (refine sxs hs hw ?_; clear hs hw; intro W hs hw))
    have h2 := of_decide_eq_true h
    have h3 : inB n = false := by unfold inB; rw [decide_eq_false (by omega)]; rfl
    exact rt1 hs rfl rfl ⟨by rw [h3]; rfl, hw.end (by repeat (first | exact In.hd | apply In.tl))⟩
  | false =>
    rw [h] at hs
    repeat (first | (refine sxv hs hw ?_; clear hs; intro a hs) | refine sxc hs ?_ | (refine sxa hs hw ?_; clear hs hw; intro a b W hw hs) | (refine sxs hs hw ?_; clear hs hw; intro W hs hw))
    have h2 := of_decide_eq_false h
    have h3 : inB n = !decide (n > 4611686018427387904) := by
      unfold inB
      rw [decide_eq_true (by omega), Bool.true_and]
      by_cases h5 : n ≤ 4611686018427387904
      · rw [decide_eq_true h5, decide_eq_false (by omega)]; rfl
      · rw [decide_eq_false h5, decide_eq_true (by omega)]; rfl
    exact rt1 hs rfl rfl ⟨by rw [h3, Bool.not_not]; rfl, hw.end (by repeat (first | exact In.hd | apply In.tl))⟩

/-- What is left to be put: is the key in already? -/
def goSet (inb : Bool) (k : ByteArray) (v : DV) (d : Dm) : Dm := match inb with | true => delD d k | false => setL d k v
structure SetS where
  i : Nat
  inb : Bool
  out : Dm
  ad : Option Addr
  cap : Nat
theorem goSet_step (k : ByteArray) (v : DV) (p : ByteArray × DV) (d : Dm) (inb : Bool) : goSet inb k v (p :: d) = (if (!inb && !lessK p.1 k) = true then [(k, v)] else []) ++ ((if ks k p.1 then [] else [p]) ++ goSet (inb || !lessK p.1 k) k v d) := by
  cases inb with
  | true =>
    simp only [goSet, delD_cons]
    cases ks k p.1 <;> simp
  | false =>
    simp only [goSet, setL]
    cases lessK p.1 k with
    | false =>
      simp only [delD_cons]
      cases ks k p.1 <;> simp
    | true => cases ks k p.1 <;> simp

def setX (d : Dm) (k : ByteArray) (x : Option DV) : Dm := match x with | none => delD d k | some v => setL d k v
theorem chPair (d : Dm) : Ch (fun p c => c = pairCells p) d (d.flatMap pairCells) := chFlat pairCells d
theorem chPair_eq : ∀ {d : Dm} {xs : List Value}, Ch (fun p c => c = pairCells p) d xs → xs = d.flatMap pairCells
  | [], xs, h => h
  | p :: d, _, ⟨c, cs', rfl, h1, h2⟩ => by rw [h1, chPair_eq h2]; rfl
theorem raw_one (x : Option DV) : (rawCells x).all (·.oneCell') = true := rfl
theorem zero_kind (x : Option DV) : ((kindOf x : Int) == 0) = x.isNone := by rcases x with _ | n | s <;> rfl

set_option maxHeartbeats 8000000 in
theorem ref_set (w0 W : World) (H : Fh) (d : Dm) (sv : Value) (k : ByteArray) (x : Option DV) (R : List Res) (hk : k.size ≤ 1000000) (hd : ∀ p ∈ d, p.1.size ≤ 1000000) (hl : d.length ≤ 1000) (r : RdH H 4 sv d.length (d.flatMap pairCells)) (hw : Has 0 w0 W (Fz H :: R)) :
    Calls Tryd.prog 47 ⟨[.agg ⟨[sv]⟩, .string k, .agg ⟨rawCells x⟩]⟩ W fun e W' => ∃ sv' H', e = .returned (.agg ⟨[sv']⟩) ∧ H.le H' ∧ RdH H' 4 sv' (setX d k x).length ((setX d k x).flatMap pairCells) ∧ Has 0 w0 W' (Fz H' :: R) := by
  obtain ⟨sad, scap, rfl⟩ := r.slice
  obtain ⟨v, hv⟩ : ∃ v, ∀ y, x = some y → y = v := by
    cases x with
    | none => exact ⟨.inl 0, fun y h => by cases h⟩
    | some y => exact ⟨y, fun z h => by cases h; rfl⟩
  have htarget : setX d k x = goSet x.isNone k v d := by
    cases x with
    | none => rfl
    | some y => rw [hv y rfl]; rfl
  refine enter Tryd.func47 Tryd.ntmps47 rfl rfl fun a hs => ?_
  repeat (first | (refine sxv hs hw ?_; clear hs; intro a hs) | refine sxc hs ?_ | (refine sxa hs hw ?_; clear hs hw; intro a b W hw hs) | (refine sxs hs hw ?_; clear hs hw; intro W hs hw))
  rw [zero_kind] at hs
  obtain ⟨b6, q6⟩ := nm1 hw; subst q6
  obtain ⟨b5, q5⟩ := nm2 hw; subst q5
  obtain ⟨b3, q3⟩ := nm3 hw; subst q3
  have hw := hw.nilOwn 109 4
  refine st_loop (σ := SetS) (fun s => [(3, .pointer (some ⟨b3, 0, none⟩)), (5, .pointer (some ⟨b5, 0, none⟩)), (6, .pointer (some ⟨b6, 0, none⟩)), (1, .string k), (7, .slice s.ad s.out.length s.cap), (8, .bool s.inb), (9, .int .i64 (s.i : Int))]) (fun s => Sx.Own 109 4 (.slice s.ad s.out.length s.cap) s.out.length (s.out.flatMap pairCells) :: Cells b6 [.slice none 0 0] 41 :: Cells b5 (rawCells x) 54 :: Cells b3 [.slice sad d.length scap] 41 :: Fz H :: R) (fun s => s.i ≤ d.length ∧ s.out.length ≤ 2 * s.i ∧ (s.inb = false → x = some v) ∧ s.out ++ goSet s.inb k v (d.drop s.i) = setX d k x) (fun s => d.length - s.i) ⟨0, x.isNone, [], none, 0⟩ ⟨Nat.zero_le _, Nat.zero_le _, fun h => by cases x with | none => cases h | some y => rw [hv y rfl], htarget.symm⟩ hs ⟨rfl, rfl, rfl, rfl, rfl, rfl, rfl, trivial⟩ hw ?_
  clear hs hw
  rintro ⟨i, inb, out, ad, cap⟩ a W ⟨hi, ho, hinb, hg⟩ hs hw
  simp only at hi ho hinb hg hs hw
  repeat (first | (refine sxv hs hw ?_; clear hs; intro a hs) | refine sxc hs ?_ | (refine sxa hs hw ?_; clear hs hw; intro a b W hw hs) | (refine sxs hs hw ?_; clear hs hw; intro W hs hw))
  refine cd_split hs (kt := fun hcc => ?_) (kf := fun hcc => ?_)
  · have hi' : i < d.length := by simpa using hcc
    obtain ⟨o, hoi⟩ : ∃ o, d[i]? = some o := ⟨d[i], List.getElem?_eq_getElem hi'⟩
    have hdo := hd o (List.mem_of_getElem? hoi)
    have hdrop : d.drop i = o :: d.drop (i + 1) := by
      rw [List.drop_eq_getElem_cons hi']
      congr 1
      rw [List.getElem?_eq_getElem hi'] at hoi
      exact Option.some.inj hoi
    rw [hdrop, goSet_step] at hg
    refine wp_skip ?_; refine ex_then_n ?_; refine sq ?_; refine wp_block ?_; refine sq ?_
    refine merge (M := fun a W => ∃ inb' out' ad' cap', out'.length ≤ 2 * i + 1 ∧ (inb' = false → x = some v) ∧ out' ++ ((if ks k o.1 then [] else [o]) ++ goSet inb' k v (d.drop (i + 1))) = setX d k x ∧ Slots a 65 [(3, .pointer (some ⟨b3, 0, none⟩)), (5, .pointer (some ⟨b5, 0, none⟩)), (6, .pointer (some ⟨b6, 0, none⟩)), (1, .string k), (7, .slice ad' out'.length cap'), (8, .bool inb'), (9, .int .i64 (i : Int))] ∧ Has 0 w0 W (Sx.Own 109 4 (.slice ad' out'.length cap') out'.length (out'.flatMap pairCells) :: Cells b6 [.slice none 0 0] 41 :: Cells b5 (rawCells x) 54 :: Cells b3 [.slice sad d.length scap] 41 :: Fz H :: R)) ?_ ?_
    · cases inb with
      | true =>
        repeat (first | (refine sxv hs hw ?_; clear hs; intro a hs) | refine sxc hs ?_ | (refine sxa hs hw ?_; clear hs hw; intro a b W hw hs) | (refine sxs hs hw ?_; clear hs hw; intro W hs hw))
        exact ⟨true, out, ad, cap, by omega, (fun h => by cases h), by simpa using hg, hs.of ⟨rfl, rfl, rfl, rfl, rfl, rfl, rfl, trivial⟩, hw⟩
      | false =>
        have hx := hinb rfl
        subst hx
        repeat (first | (refine sxv hs hw ?_; clear hs; intro a hs) | refine sxc hs ?_ | (refine sxa hs hw ?_; clear hs hw; intro a b W hw hs) | (refine sxs hs hw ?_; clear hs hw; intro W hs hw))
        refine st_index_ch hs (r := hw.rdH (by repeat (first | exact In.hd | apply In.tl)) r) (hk := pair_len) (ch := chFlat pairCells d) (ho := hoi) (hlen := rfl) (c := ?_); clear hs; intro a g off c hc hcl hpc hlt hs
        subst hc
        repeat (first | (refine sxv hs hw ?_; clear hs; intro a hs) | refine sxc hs ?_ | (refine sxa hs hw ?_; clear hs hw; intro a b W hw hs) | (refine sxs hs hw ?_; clear hs hw; intro W hs hw))
        refine st_load_at hs (hc := hpc 0 _ rfl) (c := ?_); clear hs; intro a hs
        repeat (first | (refine sxv hs hw ?_; clear hs; intro a hs) | refine sxc hs ?_ | (refine sxa hs hw ?_; clear hs hw; intro a b W hw hs) | (refine sxs hs hw ?_; clear hs hw; intro W hs hw))
        refine st_call hs (hc := ref_Less o.1 k _ hdo hk) (k := ?_); rintro e0 W1 ⟨rfl, hb⟩; refine ⟨_, rfl, ?_⟩; clear hs; intro a hs; replace hw := hw.below hb; clear hb
        rw [show Ph.lessL o.1.data.toList k.data.toList = lessK o.1 k from rfl] at hs
        cases hL : lessK o.1 k with
        | true =>
          rw [hL] at hs hg
          repeat (first | (refine sxv hs hw ?_; clear hs; intro a hs) | refine sxc hs ?_ | (refine sxa hs hw ?_; clear hs hw; intro a b W hw hs) | (refine sxs hs hw ?_; clear hs hw; intro W hs hw))
          exact ⟨false, out, ad, cap, by omega, (fun h => rfl), by simpa using hg, hs.of ⟨rfl, rfl, rfl, rfl, rfl, rfl, rfl, trivial⟩, hw⟩
        | false =>
          rw [hL] at hs hg
          repeat (first | (refine sxv hs hw ?_; clear hs; intro a hs) | refine sxc hs ?_ | (refine sxa hs hw ?_; clear hs hw; intro a b W hw hs) | (refine sxs hs hw ?_; clear hs hw; intro W hs hw))
          refine st_append1 hs (hw := hw.swap2) (hi := In.hd) (ch := chPair out) (ha := (rfl : _ = pairCells (k, v))) (hl := rfl) (h1 := rfl) (hb := by omega) (h63 := by omega) (k := ?_)
          clear hs hw; intro a ad2 cap2 W hs hw hc2
          rw [chPair_eq hc2] at hw
          have hw := hw.drop2
          repeat (first | (refine sxv hs hw ?_; clear hs; intro a hs) | refine sxc hs ?_ | (refine sxa hs hw ?_; clear hs hw; intro a b W hw hs) | (refine sxs hs hw ?_; clear hs hw; intro W hs hw))
          exact ⟨true, out ++ [(k, v)], ad2, cap2, (by simp; omega), (fun h => by cases h), by simpa using hg, hs.of ⟨rfl, rfl, rfl, rfl, rfl, rfl, rfl, trivial⟩, hw⟩
    · clear hs hw hg hinb ho
      rintro a W ⟨inb', out', ad', cap', ho', hinb', hg', hs, hw⟩
      repeat (first | (refine sxv hs hw ?_; clear hs; intro a hs) | refine sxc hs ?_ | (refine sxa hs hw ?_; clear hs hw; intro a b W hw hs) | (refine sxs hs hw ?_; clear hs hw; intro W hs hw))
      refine st_index_ch hs (r := hw.rdH (by repeat (first | exact In.hd | apply In.tl)) r) (hk := pair_len) (ch := chFlat pairCells d) (ho := hoi) (hlen := rfl) (c := ?_); clear hs; intro a g off c hc hcl hpc hlt hs
      subst hc
      repeat (first | (refine sxv hs hw ?_; clear hs; intro a hs) | refine sxc hs ?_ | (refine sxa hs hw ?_; clear hs hw; intro a b W hw hs) | (refine sxs hs hw ?_; clear hs hw; intro W hs hw))
      refine st_load_at hs (hc := hpc 0 _ rfl) (c := ?_); clear hs; intro a hs
      repeat (first | (refine sxv hs hw ?_; clear hs; intro a hs) | refine sxc hs ?_ | (refine sxa hs hw ?_; clear hs hw; intro a b W hw hs) | (refine sxs hs hw ?_; clear hs hw; intro W hs hw))
      rw [ks_list] at hs
      cases hks : ks k o.1 with
      | true =>
        rw [hks] at hs hg'
        repeat (first | (refine sxv hs hw ?_; clear hs; intro a hs) | refine sxc hs ?_ | (refine sxa hs hw ?_; clear hs hw; intro a b W hw hs) | (refine sxs hs hw ?_; clear hs hw; intro W hs hw))
        exact st_again ⟨i + 1, inb', out', ad', cap'⟩ hs hw ⟨hi', by show out'.length ≤ 2 * (i + 1); omega, hinb', by simpa using hg'⟩ (by show d.length - (i + 1) < d.length - i; omega) ⟨rfl, rfl, rfl, rfl, rfl, rfl, int_eq (by show IntKind.i64.wrap ((i : Int) + 1) = ((i + 1 : Nat) : Int); rw [IntWalk.i64_in _ (by omega)]; omega), trivial⟩
      | false =>
        rw [hks] at hs hg'
        repeat (first | (refine sxv hs hw ?_; clear hs; intro a hs) | refine sxc hs ?_ | (refine sxa hs hw ?_; clear hs hw; intro a b W hw hs) | (refine sxs hs hw ?_; clear hs hw; intro W hs hw))
        refine st_index_ch hs (r := hw.rdH (by repeat (first | exact In.hd | apply In.tl)) r) (hk := pair_len) (ch := chFlat pairCells d) (ho := hoi) (hlen := rfl) (c := ?_); clear hs; intro a g2 off2 c hc hcl2 hpc2 hlt2 hs
        subst hc
        refine st_load_ats hs (cs := pairCells o) (hc := hpc2) (hl := by rfl) (c := ?_); clear hs; intro a hs
        repeat (first | (refine sxv hs hw ?_; clear hs; intro a hs) | refine sxc hs ?_ | (refine sxa hs hw ?_; clear hs hw; intro a b W hw hs) | (refine sxs hs hw ?_; clear hs hw; intro W hs hw))
        refine st_append1 hs (hw := hw.swap2) (hi := In.hd) (ch := chPair out') (ha := (rfl : _ = pairCells o)) (hl := rfl) (h1 := rfl) (hb := by omega) (h63 := by omega) (k := ?_)
        clear hs hw; intro a ad2 cap2 W hs hw hc2
        rw [chPair_eq hc2] at hw
        have hw := hw.drop2
        repeat (first | (refine sxv hs hw ?_; clear hs; intro a hs) | refine sxc hs ?_ | (refine sxa hs hw ?_; clear hs hw; intro a b W hw hs) | (refine sxs hs hw ?_; clear hs hw; intro W hs hw))
        exact st_again ⟨i + 1, inb', out' ++ [o], ad2, cap2⟩ hs hw ⟨hi', by show (out' ++ [o]).length ≤ 2 * (i + 1); simp; omega, hinb', by simpa using hg'⟩ (by show d.length - (i + 1) < d.length - i; omega) ⟨rfl, rfl, rfl, rfl, rfl, rfl, int_eq (by show IntKind.i64.wrap ((i : Int) + 1) = ((i + 1 : Nat) : Int); rw [IntWalk.i64_in _ (by omega)]; omega), trivial⟩
  · have hi' : i = d.length := by have : ¬ i < d.length := by simpa using hcc
                                  omega
    subst hi'
    rw [List.drop_length] at hg
    cases inb with
    | true =>
      have hg2 : out = setX d k x := by rw [← hg]; simp [goSet, delD]
      subst hg2
      repeat (first | (refine sxv hs hw ?_; clear hs; intro a hs) | refine sxc hs ?_ | (refine sxa hs hw ?_; clear hs hw; intro a b W hw hs) | (refine sxs hs hw ?_; clear hs hw; intro W hs hw))
      have hw : Has 0 w0 _ (Sx.Own 109 4 (.slice ad (setX d k x).length cap) (setX d k x).length ((setX d k x).flatMap pairCells) :: Fz H :: Cells b6 [.slice ad (setX d k x).length cap] 41 :: Cells b5 (rawCells x) 54 :: Cells b3 [.slice sad d.length scap] 41 :: R) := hw.perm (by repeat (first | exact List.Perm.refl _ | refine perm_pick (by repeat (first | exact Pick.hd | apply Pick.tl)) ?_))
      obtain ⟨H', h1, h2, h3⟩ := hw.freeze_own
      refine rc1 hs rfl rfl h2 (In.tl In.hd) rfl ?_
      exact ⟨_, H', rfl, h1, h3, h2.drop2.drop2.drop2⟩
    | false =>
      have hx := hinb rfl
      subst hx
      have hg2 : out ++ [(k, v)] = setX d k (some v) := hg
      repeat (first | (refine sxv hs hw ?_; clear hs; intro a hs) | refine sxc hs ?_ | (refine sxa hs hw ?_; clear hs hw; intro a b W hw hs) | (refine sxs hs hw ?_; clear hs hw; intro W hs hw))
      refine st_append1 hs (hw := hw.swap2) (hi := In.hd) (ch := chPair out) (ha := (rfl : _ = pairCells (k, v))) (hl := rfl) (h1 := rfl) (hb := by omega) (h63 := by omega) (k := ?_)
      clear hs hw; intro a ad2 cap2 W hs hw hc2
      rw [chPair_eq hc2, hg2] at hw
      rw [hg2] at hs
      have hw := hw.drop2
      repeat (first | (refine sxv hs hw ?_; clear hs; intro a hs) | refine sxc hs ?_ | (refine sxa hs hw ?_; clear hs hw; intro a b W hw hs) | (refine sxs hs hw ?_; clear hs hw; intro W hs hw))
      have hw : Has 0 w0 _ (Sx.Own 109 4 (.slice ad2 (setX d k (some v)).length cap2) (setX d k (some v)).length ((setX d k (some v)).flatMap pairCells) :: Fz H :: Cells b6 [.slice ad2 (setX d k (some v)).length cap2] 41 :: Cells b5 (rawCells (some v)) 54 :: Cells b3 [.slice sad d.length scap] 41 :: R) := hw.perm (by repeat (first | exact List.Perm.refl _ | refine perm_pick (by repeat (first | exact Pick.hd | apply Pick.tl)) ?_))
      obtain ⟨H', h1, h2, h3⟩ := hw.freeze_own
      refine rc1 hs rfl rfl h2 (In.tl In.hd) rfl ?_
      exact ⟨_, H', rfl, h1, h3, h2.drop2.drop2.drop2⟩
end Go.Proofs.YtcfaicomnngegaaDoor.Sw
