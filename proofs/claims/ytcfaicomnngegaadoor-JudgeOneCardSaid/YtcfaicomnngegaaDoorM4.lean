/-
  Texts of the proof, one behind the other (part 4).
-/
import Derived.Test.YtcfaicomnngegaaDoorM3
import Derived.Laws.StructEq
import Derived.Laws.Bits64
import Derived.Laws.Bits64b
import Derived.Laws.BitsLemmas
import Derived.Laws.DeepNot64
import Derived.WalkSmall
import Derived.Test.YtcfaicomnngegaaDoorChecked
import Derived.Lib.Hide
import Derived.DataShut
import Derived.Deep.Slices
import Derived.Maps.RangeRun
/-
  The walks of op.may and op.May, and of the reference's MayOp, by Sx.
-/
set_option linter.unusedVariables false
set_option maxRecDepth 10000
namespace Go.Sx
open Go.RowKit
theorem run_eqFields_cons {P : Program} {d : Nat} {xs ys : List Value} {f : Field} {fs : List Field} {W : World} {x y : Value} {b : Bool} {z : List Value} (u : Ty P f.type false z) (hn : (f.name != "_") = true) (hx : xs[f.offset]? = some x) (hy : ys[f.offset]? = some y) (he : (Op.equalIn d f.type x y).run P W = .ok b W) :
    (Op.eqFields d ⟨xs⟩ ⟨ys⟩ (f :: fs)).run P W = if b then (Op.eqFields d ⟨xs⟩ ⟨ys⟩ fs).run P W else .ok false W := by
  have hn' : f.name ≠ "_" := by simpa using hn
  simp only [Op.eqFields, if_pos hn', Sem.run_bind, part, u.isAgg, Result.andThen_ok, Bool.false_eq_true, if_false]
  simp only [List.getElem?_toArray, hx, hy, Sem.run_pure, Result.andThen_ok, he]
  cases b <;> simp
/-- Fields of a record: named, at their places. -/
theorem run_eq3 {P : Program} {T TI TN TS : TypeId} {zi zn zs : List Value} [IntTy P TI .i64] [IntTy P TN .i64] [StrTy P TS] [ui : Ty P TI false zi] [un : Ty P TN false zn] [us : Ty P TS false zs] (ht : P.underlying T = some (.struct (P.fieldsOf T))) (hp : P.stoodInHeld T = false)
    (hF : (P.fieldsOf T).toList.map (fun f => (f.name != "_", f.offset, f.type)) = [(true, 0, TI), (true, 1, TN), (true, 2, TS)]) (k n : Int) (s : ByteArray) (k' n' : Int) (s' : ByteArray) (W : World) :
    (Op.equalIn 10000 T (.agg ⟨[.int .i64 k, .int .i64 n, .string s]⟩) (.agg ⟨[.int .i64 k', .int .i64 n', .string s']⟩)).run P W = .ok ((k == k') && (n == n') && (s.toList == s'.toList)) W := by
  rw [run_equalIn_agg W 9999 T _ _ ht hp]
  obtain ⟨f0, r0, e0, m0, hr0⟩ := List.map_eq_cons_iff.1 hF
  obtain ⟨f1, r1, e1, m1, hr1⟩ := List.map_eq_cons_iff.1 hr0
  obtain ⟨f2, r2, e2, m2, hr2⟩ := List.map_eq_cons_iff.1 hr1
  have hr3 := List.map_eq_nil_iff.1 hr2
  subst hr3 e2 e1
  rw [e0]
  simp only [Prod.mk.injEq] at m0 m1 m2
  obtain ⟨a0, b0, c0⟩ := m0
  obtain ⟨a1, b1, c1⟩ := m1
  obtain ⟨a2, b2, c2⟩ := m2
  rw [run_eqFields_cons (x := .int .i64 k) (y := .int .i64 k') (b := k == k') (z := zi) (by rw [c0]; exact ui) a0 (by rw [b0]; rfl) (by rw [b0]; rfl) (by rw [c0]; exact run_equalIn_int W 9998 TI .i64 .i64 k k' (IntTy.out))]
  rw [run_eqFields_cons (x := .int .i64 n) (y := .int .i64 n') (b := n == n') (z := zn) (by rw [c1]; exact un) a1 (by rw [b1]; rfl) (by rw [b1]; rfl) (by rw [c1]; exact run_equalIn_int W 9998 TN .i64 .i64 n n' (IntTy.out))]
  rw [run_eqFields_cons (x := .string s) (y := .string s') (b := s.toList == s'.toList) (z := zs) (by rw [c2]; exact us) a2 (by rw [b2]; rfl) (by rw [b2]; rfl) (by rw [c2]; exact run_equalIn_string W 9998 TS s s' (StrTy.out))]
  simp only [Op.eqFields, Sem.run_pure]
  cases k == k' <;> cases n == n' <;> cases s.toList == s'.toList <;> rfl
end Go.Sx
namespace Go.Proofs.YtcfaicomnngegaaDoor.Sw
open Go.RowKit Go.Sx

/-- Two raw values: the same? -/
def rawEq (k n : Int) (s : ByteArray) (k' n' : Int) (s' : ByteArray) : Bool := (k == k') && (n == n') && (s.toList == s'.toList)
theorem run_rawEqIn (k n : Int) (s : ByteArray) (k' n' : Int) (s' : ByteArray) (W : World) :
    (Op.equalIn 10000 54 (.agg ⟨[.int .i64 k, .int .i64 n, .string s]⟩) (.agg ⟨[.int .i64 k', .int .i64 n', .string s']⟩)).run Tryd.prog W = .ok (rawEq k n s k' n' s') W :=
  run_eq3 Tryd.underlying54 (by kernel_rfl) (by kernel_rfl : _ = [(true, 0, 3), (true, 1, 2), (true, 2, 9)]) k n s k' n' s' W
section
variable {ops : Array Oper} {rest : List Oper} {Q : Exit → Act → World → Prop} {a : Act} {n : Nat} {L : List (Nat × Value)} {W : World} {d : Nat} {T S' : TypeId} {p : String} {e : Array Edge} {x y : Operand} {k m k' m' : Int} {s s' : ByteArray}
theorem st_rawEql (hs : Slots a n L) (hx : ev L x = some (.agg ⟨[.int .i64 k, .int .i64 m, .string s]⟩) := by with_unfolding_all exact rfl) (hy : ev L y = some (.agg ⟨[.int .i64 k', .int .i64 m', .string s']⟩) := by with_unfolding_all exact rfl) (hd : Nat.blt d n = true := by with_unfolding_all exact rfl)
    (c : ∀ a', Slots a' n ((d, .bool (rawEq k m s k' m' s')) :: L) → wpList Tryd.prog ops Q rest a' W) : wpList Tryd.prog ops Q (⟨some d, .binOp .eql 54 x y S', T, p, e, none⟩ :: rest) a W :=
  st_value hs hd (by simp only [execOp, hs.ev hx, hs.ev hy, Sem.run_bind]; rw [run_eqGuard_agg W .eql 54 x y _ _ (by kernel_rfl)]; simp only [Result.andThen_ok]; rw [run_eql_struct, run_rawEqIn]; rfl) c
theorem st_rawNeq (hs : Slots a n L) (hx : ev L x = some (.agg ⟨[.int .i64 k, .int .i64 m, .string s]⟩) := by with_unfolding_all exact rfl) (hy : ev L y = some (.agg ⟨[.int .i64 k', .int .i64 m', .string s']⟩) := by with_unfolding_all exact rfl) (hd : Nat.blt d n = true := by with_unfolding_all exact rfl)
    (c : ∀ a', Slots a' n ((d, .bool (!rawEq k m s k' m' s')) :: L) → wpList Tryd.prog ops Q rest a' W) : wpList Tryd.prog ops Q (⟨some d, .binOp .neq 54 x y S', T, p, e, none⟩ :: rest) a W :=
  st_value hs hd (by simp only [execOp, hs.ev hx, hs.ev hy, Sem.run_bind]; rw [run_eqGuard_agg W .neq 54 x y _ _ (by kernel_rfl)]; simp only [Result.andThen_ok]; rw [run_neq_struct, run_rawEqIn]; rfl) c
end

theorem one_cellX (x : Option (Int ⊕ ByteArray)) : [vCell x].all (·.oneCell') = true := by rcases x with _ | n | s <;> rfl

theorem op_may (k n : Int) (s : ByteArray) (w : World) (hs0 : s.size ≤ 9223372036854775807) (hT : Tabs w) :
    Calls Tryd.prog 74 ⟨[.agg #[.int .i64 k, .int .i64 n, .string s]]⟩ w fun e w' => e = .returned (.bool ((ofRaw k n s).2 == 0)) ∧ Below w.heap.size w w' := by
  have hw := Has.start (G := 0) (w := w) (Nat.zero_le _)
  refine enter Tryd.func74 Tryd.ntmps74 rfl rfl fun a hs => ?_
  repeat (first | (refine sxv hs hw ?_; clear hs; intro a hs) | refine sxc hs ?_ | (refine sxa hs hw ?_; clear hs hw; intro a b W hw hs) | (refine sxs hs hw ?_; clear hs hw; intro W hs hw))
  refine st_call hs (hc := value_Of k n s _ hs0 (hT.keep (hw.end (by repeat (first | exact In.hd | apply In.tl))))) (k := ?_); rintro e0 W1 ⟨rfl, hb⟩; refine ⟨_, rfl, ?_⟩; clear hs; intro a hs; replace hw := hw.below hb; clear hb
  repeat (first | (refine sxv hs hw ?_; clear hs; intro a hs) | refine sxc hs ?_ | (refine sxa hs hw ?_; clear hs hw; intro a b W hw hs) | (refine sxs hs hw ?_; clear hs hw; intro W hs hw))
  refine st_store hs (hw := hw) (h1 := one_cellX (ofRaw k n s).1) (k := ?_); clear hs hw; intro W hs hw
  repeat (first | (refine sxv hs hw ?_; clear hs; intro a hs) | refine sxc hs ?_ | (refine sxa hs hw ?_; clear hs hw; intro a b W hw hs) | (refine sxs hs hw ?_; clear hs hw; intro W hs hw))
  exact rt1 hs rfl rfl ⟨rfl, hw.end (by repeat (first | exact In.hd | apply In.tl))⟩
/-- May an operation be? -/
def mayOp (kind : Int) (key : ByteArray) (vk vn : Int) (vs : ByteArray) (ok on : Int) (os : ByteArray) (n : Int) : Bool :=
  Ph.keyB key.data.toList && ((ofRaw vk vn vs).2 == 0) && ((ofRaw ok on os).2 == 0) &&
    (if kind = 1 then !rawEq vk vn vs 0 0 ⟨#[]⟩ && rawEq ok on os 0 0 ⟨#[]⟩ && (n == 0)
     else if kind = 2 then rawEq vk vn vs 0 0 ⟨#[]⟩ && rawEq ok on os 0 0 ⟨#[]⟩ && (n == 0)
     else if kind = 3 then (!rawEq vk vn vs 0 0 ⟨#[]⟩ || !rawEq ok on os 0 0 ⟨#[]⟩) && (n == 0)
     else if kind = 4 then rawEq vk vn vs 0 0 ⟨#[]⟩ && rawEq ok on os 0 0 ⟨#[]⟩ && decide (n ≥ -1099511627776) && decide (n ≤ 1099511627776)
     else false)

set_option maxHeartbeats 8000000 in
theorem op_May (kind : Int) (key : ByteArray) (vk vn : Int) (vs : ByteArray) (ok on : Int) (os : ByteArray) (n : Int) (w : World) (hs0 : key.size ≤ 9223372036854775807) (hs1 : vs.size ≤ 9223372036854775807) (hs2 : os.size ≤ 9223372036854775807) (hT : Tabs w) :
    Calls Tryd.prog 68 ⟨[.agg #[.int .i64 kind, .string key, .int .i64 vk, .int .i64 vn, .string vs, .int .i64 ok, .int .i64 on, .string os, .int .i64 n]]⟩ w fun e w' => e = .returned (.bool (mayOp kind key vk vn vs ok on os n)) ∧ Below w.heap.size w w' := by
  have hw := Has.start (G := 0) (w := w) (Nat.zero_le _)
  refine enter Tryd.func68 Tryd.ntmps68 rfl rfl fun a hs => ?_
  repeat (first | (refine sxv hs hw ?_; clear hs; intro a hs) | refine sxc hs ?_ | (refine sxa hs hw ?_; clear hs hw; intro a b W hw hs) | (refine sxs hs hw ?_; clear hs hw; intro W hs hw))
  refine st_call hs (hc := runes_Key key _ hs0 (hT.keep (hw.end (by repeat (first | exact In.hd | apply In.tl))))) (k := ?_); rintro e0 W1 ⟨rfl, hb⟩; refine ⟨_, rfl, ?_⟩; clear hs; intro a hs; replace hw := hw.below hb; clear hb
  cases h1 : (Ph.keyB key.data.toList) with
  | false =>
    rw [h1] at hs
    repeat (first | (refine sxv hs hw ?_; clear hs; intro a hs) | refine sxc hs ?_ | (refine sxa hs hw ?_; clear hs hw; intro a b W hw hs) | (refine sxs hs hw ?_; clear hs hw; intro W hs hw))
    exact rt1 hs rfl rfl ⟨by simp [mayOp, h1], hw.end (by repeat (first | exact In.hd | apply In.tl))⟩
  | true =>
    rw [h1] at hs
    repeat (first | (refine sxv hs hw ?_; clear hs; intro a hs) | refine sxc hs ?_ | (refine sxa hs hw ?_; clear hs hw; intro a b W hw hs) | (refine sxs hs hw ?_; clear hs hw; intro W hs hw))
    refine st_call hs (hc := op_may vk vn vs _ hs1 (hT.keep (hw.end (by repeat (first | exact In.hd | apply In.tl))))) (k := ?_); rintro e0 W1 ⟨rfl, hb⟩; refine ⟨_, rfl, ?_⟩; clear hs; intro a hs; replace hw := hw.below hb; clear hb
    cases h2 : ((ofRaw vk vn vs).2 == 0) with
    | false =>
      rw [h2] at hs
      repeat (first | (refine sxv hs hw ?_; clear hs; intro a hs) | refine sxc hs ?_ | (refine sxa hs hw ?_; clear hs hw; intro a b W hw hs) | (refine sxs hs hw ?_; clear hs hw; intro W hs hw))
      exact rt1 hs rfl rfl ⟨by simp [mayOp, h1, h2], hw.end (by repeat (first | exact In.hd | apply In.tl))⟩
    | true =>
      rw [h2] at hs
      repeat (first | (refine sxv hs hw ?_; clear hs; intro a hs) | refine sxc hs ?_ | (refine sxa hs hw ?_; clear hs hw; intro a b W hw hs) | (refine sxs hs hw ?_; clear hs hw; intro W hs hw))
      refine st_call hs (hc := op_may ok on os _ hs2 (hT.keep (hw.end (by repeat (first | exact In.hd | apply In.tl))))) (k := ?_); rintro e0 W1 ⟨rfl, hb⟩; refine ⟨_, rfl, ?_⟩; clear hs; intro a hs; replace hw := hw.below hb; clear hb
      cases h3 : ((ofRaw ok on os).2 == 0) with
      | false =>
        rw [h3] at hs
        repeat (first | (refine sxv hs hw ?_; clear hs; intro a hs) | refine sxc hs ?_ | (refine sxa hs hw ?_; clear hs hw; intro a b W hw hs) | (refine sxs hs hw ?_; clear hs hw; intro W hs hw))
        exact rt1 hs rfl rfl ⟨by simp [mayOp, h1, h2, h3], hw.end (by repeat (first | exact In.hd | apply In.tl))⟩
      | true =>
        rw [h3] at hs
        repeat (first | (refine sxv hs hw ?_; clear hs; intro a hs) | refine sxc hs ?_ | (refine sxa hs hw ?_; clear hs hw; intro a b W hw hs) | (refine sxs hs hw ?_; clear hs hw; intro W hs hw))
        by_cases k1 : kind = 1
        · subst k1
          repeat (first | (refine sxv hs hw ?_; clear hs; intro a hs) | refine sxc hs ?_ | (refine sxa hs hw ?_; clear hs hw; intro a b W hw hs) | (refine sxs hs hw ?_; clear hs hw; intro W hs hw))
          repeat (first | (refine sxv hs hw ?_; clear hs; intro a hs) | refine sxc hs ?_ | (refine sxa hs hw ?_; clear hs hw; intro a b W hw hs) | (refine sxs hs hw ?_; clear hs hw; intro W hs hw))
          refine st_rawNeq hs (c := ?_); clear hs; intro a hs
          cases h4 : (rawEq vk vn vs 0 0 ⟨#[]⟩) with
          | false =>
            rw [h4] at hs
            repeat (first | (refine sxv hs hw ?_; clear hs; intro a hs) | refine sxc hs ?_ | (refine sxa hs hw ?_; clear hs hw; intro a b W hw hs) | (refine sxs hs hw ?_; clear hs hw; intro W hs hw))
            refine st_rawEql hs (c := ?_); clear hs; intro a hs
            cases h5 : (rawEq ok on os 0 0 ⟨#[]⟩) with
            | false =>
              rw [h5] at hs
              repeat (first | (refine sxv hs hw ?_; clear hs; intro a hs) | refine sxc hs ?_ | (refine sxa hs hw ?_; clear hs hw; intro a b W hw hs) | (refine sxs hs hw ?_; clear hs hw; intro W hs hw))
              exact rt1 hs rfl rfl ⟨by simp [mayOp, h1, h2, h3, h4, h5], hw.end (by repeat (first | exact In.hd | apply In.tl))⟩
            | true =>
              rw [h5] at hs
              repeat (first | (refine sxv hs hw ?_; clear hs; intro a hs) | refine sxc hs ?_ | (refine sxa hs hw ?_; clear hs hw; intro a b W hw hs) | (refine sxs hs hw ?_; clear hs hw; intro W hs hw))
              exact rt1 hs rfl rfl ⟨by simp [mayOp, h1, h2, h3, h4, h5], hw.end (by repeat (first | exact In.hd | apply In.tl))⟩
          | true =>
            rw [h4] at hs
            repeat (first | (refine sxv hs hw ?_; clear hs; intro a hs) | refine sxc hs ?_ | (refine sxa hs hw ?_; clear hs hw; intro a b W hw hs) | (refine sxs hs hw ?_; clear hs hw; intro W hs hw))
            exact rt1 hs rfl rfl ⟨by simp [mayOp, h1, h2, h3, h4], hw.end (by repeat (first | exact In.hd | apply In.tl))⟩
        have e1 : (kind == 1) = false := by simpa using k1
        rw [e1] at hs
        repeat (first | (refine sxv hs hw ?_; clear hs; intro a hs) | refine sxc hs ?_ | (refine sxa hs hw ?_; clear hs hw; intro a b W hw hs) | (refine sxs hs hw ?_; clear hs hw; intro W hs hw))
        by_cases k2 : kind = 2
        · subst k2
          repeat (first | (refine sxv hs hw ?_; clear hs; intro a hs) | refine sxc hs ?_ | (refine sxa hs hw ?_; clear hs hw; intro a b W hw hs) | (refine sxs hs hw ?_; clear hs hw; intro W hs hw))
          repeat (first | (refine sxv hs hw ?_; clear hs; intro a hs) | refine sxc hs ?_ | (refine sxa hs hw ?_; clear hs hw; intro a b W hw hs) | (refine sxs hs hw ?_; clear hs hw; intro W hs hw))
          refine st_rawEql hs (c := ?_); clear hs; intro a hs
          cases h4 : (rawEq vk vn vs 0 0 ⟨#[]⟩) with
          | false =>
            rw [h4] at hs
            repeat (first | (refine sxv hs hw ?_; clear hs; intro a hs) | refine sxc hs ?_ | (refine sxa hs hw ?_; clear hs hw; intro a b W hw hs) | (refine sxs hs hw ?_; clear hs hw; intro W hs hw))
            exact rt1 hs rfl rfl ⟨by simp [mayOp, h1, h2, h3, h4], hw.end (by repeat (first | exact In.hd | apply In.tl))⟩
          | true =>
            rw [h4] at hs
            repeat (first | (refine sxv hs hw ?_; clear hs; intro a hs) | refine sxc hs ?_ | (refine sxa hs hw ?_; clear hs hw; intro a b W hw hs) | (refine sxs hs hw ?_; clear hs hw; intro W hs hw))
            refine st_rawEql hs (c := ?_); clear hs; intro a hs
            cases h5 : (rawEq ok on os 0 0 ⟨#[]⟩) with
            | false =>
              rw [h5] at hs
              repeat (first | (refine sxv hs hw ?_; clear hs; intro a hs) | refine sxc hs ?_ | (refine sxa hs hw ?_; clear hs hw; intro a b W hw hs) | (refine sxs hs hw ?_; clear hs hw; intro W hs hw))
              exact rt1 hs rfl rfl ⟨by simp [mayOp, h1, h2, h3, h4, h5], hw.end (by repeat (first | exact In.hd | apply In.tl))⟩
            | true =>
              rw [h5] at hs
              repeat (first | (refine sxv hs hw ?_; clear hs; intro a hs) | refine sxc hs ?_ | (refine sxa hs hw ?_; clear hs hw; intro a b W hw hs) | (refine sxs hs hw ?_; clear hs hw; intro W hs hw))
              exact rt1 hs rfl rfl ⟨by simp [mayOp, h1, h2, h3, h4, h5], hw.end (by repeat (first | exact In.hd | apply In.tl))⟩
        have e2 : (kind == 2) = false := by simpa using k2
        rw [e2] at hs
        repeat (first | (refine sxv hs hw ?_; clear hs; intro a hs) | refine sxc hs ?_ | (refine sxa hs hw ?_; clear hs hw; intro a b W hw hs) | (refine sxs hs hw ?_; clear hs hw; intro W hs hw))
        by_cases k3 : kind = 3
        · subst k3
          repeat (first | (refine sxv hs hw ?_; clear hs; intro a hs) | refine sxc hs ?_ | (refine sxa hs hw ?_; clear hs hw; intro a b W hw hs) | (refine sxs hs hw ?_; clear hs hw; intro W hs hw))
          repeat (first | (refine sxv hs hw ?_; clear hs; intro a hs) | refine sxc hs ?_ | (refine sxa hs hw ?_; clear hs hw; intro a b W hw hs) | (refine sxs hs hw ?_; clear hs hw; intro W hs hw))
          refine st_rawNeq hs (c := ?_); clear hs; intro a hs
          cases h4 : (rawEq vk vn vs 0 0 ⟨#[]⟩) with
          | false =>
            rw [h4] at hs
            repeat (first | (refine sxv hs hw ?_; clear hs; intro a hs) | refine sxc hs ?_ | (refine sxa hs hw ?_; clear hs hw; intro a b W hw hs) | (refine sxs hs hw ?_; clear hs hw; intro W hs hw))
            exact rt1 hs rfl rfl ⟨by simp [mayOp, h1, h2, h3, h4], hw.end (by repeat (first | exact In.hd | apply In.tl))⟩
          | true =>
            rw [h4] at hs
            repeat (first | (refine sxv hs hw ?_; clear hs; intro a hs) | refine sxc hs ?_ | (refine sxa hs hw ?_; clear hs hw; intro a b W hw hs) | (refine sxs hs hw ?_; clear hs hw; intro W hs hw))
            refine st_rawNeq hs (c := ?_); clear hs; intro a hs
            cases h5 : (rawEq ok on os 0 0 ⟨#[]⟩) with
            | false =>
              rw [h5] at hs
              repeat (first | (refine sxv hs hw ?_; clear hs; intro a hs) | refine sxc hs ?_ | (refine sxa hs hw ?_; clear hs hw; intro a b W hw hs) | (refine sxs hs hw ?_; clear hs hw; intro W hs hw))
              exact rt1 hs rfl rfl ⟨by simp [mayOp, h1, h2, h3, h4, h5], hw.end (by repeat (first | exact In.hd | apply In.tl))⟩
            | true =>
              rw [h5] at hs
              repeat (first | (refine sxv hs hw ?_; clear hs; intro a hs) | refine sxc hs ?_ | (refine sxa hs hw ?_; clear hs hw; intro a b W hw hs) | (refine sxs hs hw ?_; clear hs hw; intro W hs hw))
              exact rt1 hs rfl rfl ⟨by simp [mayOp, h1, h2, h3, h4, h5], hw.end (by repeat (first | exact In.hd | apply In.tl))⟩
        have e3 : (kind == 3) = false := by simpa using k3
        rw [e3] at hs
        repeat (first | (refine sxv hs hw ?_; clear hs; intro a hs) | refine sxc hs ?_ | (refine sxa hs hw ?_; clear hs hw; intro a b W hw hs) | (refine sxs hs hw ?_; clear hs hw; intro W hs hw))
        by_cases k4 : kind = 4
        · subst k4
          repeat (first | (refine sxv hs hw ?_; clear hs; intro a hs) | refine sxc hs ?_ | (refine sxa hs hw ?_; clear hs hw; intro a b W hw hs) | (refine sxs hs hw ?_; clear hs hw; intro W hs hw))
          repeat (first | (refine sxv hs hw ?_; clear hs; intro a hs) | refine sxc hs ?_ | (refine sxa hs hw ?_; clear hs hw; intro a b W hw hs) | (refine sxs hs hw ?_; clear hs hw; intro W hs hw))
          refine st_rawEql hs (c := ?_); clear hs; intro a hs
          cases h4 : (rawEq vk vn vs 0 0 ⟨#[]⟩) with
          | false =>
            rw [h4] at hs
            repeat (first | (refine sxv hs hw ?_; clear hs; intro a hs) | refine sxc hs ?_ | (refine sxa hs hw ?_; clear hs hw; intro a b W hw hs) | (refine sxs hs hw ?_; clear hs hw; intro W hs hw))
            exact rt1 hs rfl rfl ⟨by simp [mayOp, h1, h2, h3, h4], hw.end (by repeat (first | exact In.hd | apply In.tl))⟩
          | true =>
            rw [h4] at hs
            repeat (first | (refine sxv hs hw ?_; clear hs; intro a hs) | refine sxc hs ?_ | (refine sxa hs hw ?_; clear hs hw; intro a b W hw hs) | (refine sxs hs hw ?_; clear hs hw; intro W hs hw))
            refine st_rawEql hs (c := ?_); clear hs; intro a hs
            cases h5 : (rawEq ok on os 0 0 ⟨#[]⟩) with
            | false =>
              rw [h5] at hs
              repeat (first | (refine sxv hs hw ?_; clear hs; intro a hs) | refine sxc hs ?_ | (refine sxa hs hw ?_; clear hs hw; intro a b W hw hs) | (refine sxs hs hw ?_; clear hs hw; intro W hs hw))
              exact rt1 hs rfl rfl ⟨by simp [mayOp, h1, h2, h3, h4, h5], hw.end (by repeat (first | exact In.hd | apply In.tl))⟩
            | true =>
              rw [h5] at hs
              repeat (first | (refine sxv hs hw ?_; clear hs; intro a hs) | refine sxc hs ?_ | (refine sxa hs hw ?_; clear hs hw; intro a b W hw hs) | (refine sxs hs hw ?_; clear hs hw; intro W hs hw))
              cases h6 : (decide (n ≥ -1099511627776)) with
              | false =>
                rw [h6] at hs
                repeat (first | (refine sxv hs hw ?_; clear hs; intro a hs) | refine sxc hs ?_ | (refine sxa hs hw ?_; clear hs hw; intro a b W hw hs) | (refine sxs hs hw ?_; clear hs hw; intro W hs hw))
                exact rt1 hs rfl rfl ⟨by simp [mayOp, h1, h2, h3, h4, h5, h6], hw.end (by repeat (first | exact In.hd | apply In.tl))⟩
              | true =>
                rw [h6] at hs
                repeat (first | (refine sxv hs hw ?_; clear hs; intro a hs) | refine sxc hs ?_ | (refine sxa hs hw ?_; clear hs hw; intro a b W hw hs) | (refine sxs hs hw ?_; clear hs hw; intro W hs hw))
                exact rt1 hs rfl rfl ⟨by simp [mayOp, h1, h2, h3, h4, h5, h6], hw.end (by repeat (first | exact In.hd | apply In.tl))⟩
        have e4 : (kind == 4) = false := by simpa using k4
        rw [e4] at hs
        repeat (first | (refine sxv hs hw ?_; clear hs; intro a hs) | refine sxc hs ?_ | (refine sxa hs hw ?_; clear hs hw; intro a b W hw hs) | (refine sxs hs hw ?_; clear hs hw; intro W hs hw))
        repeat (first | (refine sxv hs hw ?_; clear hs; intro a hs) | refine sxc hs ?_ | (refine sxa hs hw ?_; clear hs hw; intro a b W hw hs) | (refine sxs hs hw ?_; clear hs hw; intro W hs hw))
        exact rt1 hs rfl rfl ⟨by simp [mayOp, h1, h2, h3, k1, k2, k3, k4], hw.end (by repeat (first | exact In.hd | apply In.tl))⟩
end Go.Proofs.YtcfaicomnngegaaDoor.Sw

/-
  Plain law: numbers as bytes ('putI', 'getI'), texts behind their length. No program in sight.
-/
namespace Ph

/-- A number's bytes, seven bits each, the least first. -/
def putN : Nat → Nat → List UInt8
  | 0, _ => []
  | f + 1, u => if u < 128 then [u.toUInt8] else (u % 128 + 128).toUInt8 :: putN f (u / 128)
def putU (u : Nat) : List UInt8 := putN 10 u
/-- Signed as unsigned. -/
def zig (n : Int) : Nat := if 0 ≤ n then (2 * n).toNat else (-2 * n - 1).toNat
def unzig (u : Nat) : Int := if u % 2 = 1 then -((u / 2 : Nat) : Int) - 1 else ((u / 2 : Nat) : Int)
def putI (n : Int) : List UInt8 := putU (zig n)

/-- What bytes begin with: the number, how many bytes, the error. -/
def getN : Nat → Nat → List UInt8 → Int × Nat × Int
  | _, _, [] => (0, 0, 2)
  | i, u, c :: t =>
    if i = 9 ∧ 1 < c.toNat then (0, 0, 1)
    else if 128 ≤ c.toNat then getN (i + 1) (u + c.toNat % 128 * 128 ^ i) t
    else if 0 < i ∧ c.toNat = 0 then (0, 0, 1)
    else (unzig (u + c.toNat % 128 * 128 ^ i), i + 1, 0)
def getI (l : List UInt8) : Int × Nat × Int := getN 0 0 l

def putT (s : List UInt8) : List UInt8 := putI s.length ++ s
def getT (l : List UInt8) : List UInt8 × Nat × Int :=
  let g := getI l
  if g.2.2 ≠ 0 then ([], 0, g.2.2)
  else if g.1 < 0 ∨ 1048576 < g.1 then ([], 0, 1)
  else if (l.length - g.2.1 : Nat) < g.1.toNat then ([], 0, 2)
  else ((l.drop g.2.1).take g.1.toNat, g.2.1 + g.1.toNat, 0)

theorem zig_lt {n : Int} (h0 : -9223372036854775808 ≤ n) (h1 : n ≤ 9223372036854775807) : zig n < 18446744073709551616 := by
  unfold zig; split <;> omega
theorem unzig_zig (n : Int) : unzig (zig n) = n := by
  unfold unzig zig; split <;> split <;> omega

theorem putN_length_le : ∀ f u, (putN f u).length ≤ f
  | 0, _ => by simp [putN]
  | f + 1, u => by
    simp only [putN]
    split
    · simp
    · have := putN_length_le f (u / 128)
      simp; omega
theorem putI_length_le (n : Int) : (putI n).length ≤ 10 := putN_length_le 10 _
theorem putI_ne_nil (n : Int) : putI n ≠ [] := by
  unfold putI putU
  simp only [putN]
  split <;> simp
end Ph

/-
  Plain law: a number's bytes are read back, whatever follows; so are a text's.
-/
set_option linter.unusedVariables false
namespace Ph

theorem u8n (x : Nat) (h : x < 256) : (x.toUInt8).toNat = x := by simp; omega

theorem putN_last (f u : Nat) (h : u < 128) : putN (f + 1) u = [u.toUInt8] := by simp [putN, h]
theorem putN_more (f u : Nat) (h : ¬ u < 128) : putN (f + 1) u = (u % 128 + 128).toUInt8 :: putN f (u / 128) := by simp [putN, h]

theorem pow_step (i : Nat) : 128 ^ (i + 1) = 128 ^ i * 128 := Nat.pow_succ 128 i

/-- Read back from place i on. -/
theorem getN_putN : ∀ (f i a u : Nat) (t : List UInt8), u < 128 ^ f → i + f ≤ 10 → 1 ≤ f → (1 ≤ i → 1 ≤ u) → (i = 9 → u ≤ 1) → (∀ j, i + j = 9 → u / 128 ^ j ≤ 1) →
    getN i a (putN f u ++ t) = (unzig (a + u * 128 ^ i), i + (putN f u).length, 0)
  | 0, _, _, _, _, _, _, h, _, _, _ => by omega
  | f + 1, i, a, u, t, hu, hf, _, h1, h9, hj => by
    by_cases hl : u < 128
    · rw [putN_last f u hl]
      have hb := u8n u (by omega)
      simp only [List.cons_append, List.nil_append, getN, hb, List.length_cons, List.length_nil]
      rw [if_neg (by omega), if_neg (by omega), if_neg (by omega)]
      have : u % 128 = u := by omega
      rw [this]
    · rw [putN_more f u hl]
      have hb := u8n (u % 128 + 128) (by omega)
      have hne : i ≠ 9 := fun e => by have := h9 e; omega
      have hf1 : 1 ≤ f := by
        rcases Nat.eq_zero_or_pos f with h0 | h0
        · subst h0; simp at hu; omega
        · exact h0
      simp only [List.cons_append, getN, hb, List.length_cons]
      rw [if_neg (by omega), if_pos (by omega)]
      have hd : u / 128 < 128 ^ f := by
        rw [pow_step] at hu
        omega
      rw [getN_putN f (i + 1) _ (u / 128) t hd (by omega) hf1 (fun _ => by omega) (fun e => by
          have := hj 1 (by omega)
          simpa using this) (fun j e => by
          have := hj (j + 1) (by omega)
          rw [Nat.div_div_eq_div_mul, Nat.mul_comm]
          rw [pow_step] at this
          exact this)]
      have e1 : (u % 128 + 128) % 128 = u % 128 := by omega
      rw [e1, pow_step]
      congr 1
      · congr 1
        have : u / 128 * (128 ^ i * 128) = 128 * (u / 128) * 128 ^ i := by
          rw [Nat.mul_comm (128 ^ i) 128, ← Nat.mul_assoc, Nat.mul_comm (u / 128) 128]
        rw [this]
        have h2 : u = u % 128 + 128 * (u / 128) := by omega
        have h3 : u * 128 ^ i = (u % 128 + 128 * (u / 128)) * 128 ^ i := by rw [← h2]
        rw [h3, Nat.add_mul]
        omega
      · congr 1
        omega

theorem zig_small {n : Int} (h0 : -9223372036854775808 ≤ n) (h1 : n ≤ 9223372036854775807) : zig n < 128 ^ 10 ∧ ∀ j, 0 + j = 9 → zig n / 128 ^ j ≤ 1 := by
  have h := zig_lt h0 h1
  have e10 : (128 : Nat) ^ 10 = 1180591620717411303424 := by decide
  have e9 : (128 : Nat) ^ 9 = 9223372036854775808 := by decide
  refine ⟨by rw [e10]; omega, fun j hj => ?_⟩
  obtain rfl : j = 9 := by omega
  rw [e9]
  omega

/-- A NUMBER's BYTES, READ AGAIN. -/
theorem getI_putI (n : Int) (t : List UInt8) (h0 : -9223372036854775808 ≤ n) (h1 : n ≤ 9223372036854775807) : getI (putI n ++ t) = (n, (putI n).length, 0) := by
  obtain ⟨a, b⟩ := zig_small h0 h1
  unfold getI putI putU
  rw [getN_putN 10 0 0 (zig n) t a (by omega) (by omega) (fun h => by omega) (fun h => by omega) b]
  simp [unzig_zig]

/-- A TEXT's BYTES, READ AGAIN. -/
theorem getT_putT (s t : List UInt8) (h : s.length ≤ 1048576) : getT (putT s ++ t) = (s, (putT s).length, 0) := by
  have g := getI_putI s.length (s ++ t) (by omega) (by omega)
  unfold putT getT
  rw [List.append_assoc, g]
  simp only [List.length_append]
  rw [if_neg (by omega), if_neg (by omega), if_neg (by simp)]
  simp

/-! ### what is read lies in the bytes -/
theorem getN_le : ∀ (l : List UInt8) (i u : Nat), (getN i u l).2.1 ≤ i + l.length ∧ ((getN i u l).2.2 = 0 ∨ (getN i u l).2.2 = 1 ∨ (getN i u l).2.2 = 2) ∧ ((getN i u l).2.2 ≠ 0 → (getN i u l).1 = 0 ∧ (getN i u l).2.1 = 0)
  | [], i, u => by simp [getN]
  | c :: t, i, u => by
    simp only [getN]
    split
    · simp
    · split
      · have := getN_le t (i + 1) (u + c.toNat % 128 * 128 ^ i)
        simp only [List.length_cons]
        exact ⟨by omega, this.2⟩
      · split
        · simp
        · simp
theorem getI_le (l : List UInt8) : (getI l).2.1 ≤ l.length := by
  have := (getN_le l 0 0).1
  unfold getI; omega
theorem getI_err (l : List UInt8) : (getI l).2.2 = 0 ∨ (getI l).2.2 = 1 ∨ (getI l).2.2 = 2 := (getN_le l 0 0).2.1
theorem getI_bad (l : List UInt8) (h : (getI l).2.2 ≠ 0) : (getI l).1 = 0 ∧ (getI l).2.1 = 0 := (getN_le l 0 0).2.2 h
end Ph

/-
  Plain law: the program's bit operations on 64-bit numbers are the sums that the plain law of numbers speaks of.
-/
set_option linter.unusedVariables false
namespace Ph
open Go

theorem umax : IntKind.u64.max = ((18446744073709551615 : Nat) : Int) := by decide
theorem xor_max (x : Nat) (h : x < 18446744073709551616) : bits .xor .u64 IntKind.u64.max (x : Int) = ((18446744073709551615 - x : Nat) : Int) := by
  show IntKind.u64.wrap ((BitVec.ofInt 64 IntKind.u64.max ^^^ BitVec.ofInt 64 (x : Int)).toNat : Int) = _
  have h1 : BitVec.ofInt 64 IntKind.u64.max = BitVec.allOnes 64 := by decide
  rw [h1, BitVec.allOnes_xor, BitVec.toNat_not, ofInt_u64 x h]
  rw [IntKind.wrap_u64]
  omega
/-- The number of a negative int, as the program reckons it. -/
theorem zig_neg (n : Int) (h0 : -9223372036854775808 ≤ n) (h1 : n < 0) : bits .xor .u64 IntKind.u64.max (IntKind.u64.wrap (IntKind.u64.wrap n * 2)) = (zig n : Int) := by
  have e : IntKind.u64.wrap (IntKind.u64.wrap n * 2) = (((2 * n + 18446744073709551616).toNat : Nat) : Int) := by
    rw [IntKind.wrap_u64, IntKind.wrap_u64]; omega
  rw [e, xor_max _ (by omega)]
  unfold zig
  rw [if_neg (by omega)]
  omega
theorem zig_pos (n : Int) (h0 : 0 ≤ n) : n * 2 = (zig n : Int) := by
  unfold zig
  rw [if_pos h0]; omega

set_option maxRecDepth 100000 in
theorem or128 : ∀ X : Fin 256, bits .or .u8 ((X.val : Nat) : Int) 128 = ((X.val % 128 + 128 : Nat) : Int) := by decide
set_option maxRecDepth 100000 in
theorem and127 : ∀ X : Fin 256, bits .and .u8 ((X.val : Nat) : Int) 127 = ((X.val % 128 : Nat) : Int) := by decide
theorem or128_at (x : Nat) (h : x < 256) : bits .or .u8 (x : Int) 128 = ((x % 128 + 128 : Nat) : Int) := or128 ⟨x, h⟩
theorem and127_at (x : Nat) (h : x < 256) : bits .and .u8 (x : Int) 127 = ((x % 128 : Nat) : Int) := and127 ⟨x, h⟩

theorem pow128 (k : Nat) : (128 : Nat) ^ k = 2 ^ (7 * k) := by
  rw [Nat.pow_mul]

/-- Seven bits more. -/
theorem or_seven (x c k : Nat) (hx : x < 128 ^ k) (hc : c < 256) (hs : c % 128 * 128 ^ k < 18446744073709551616) (hk : k ≤ 9) :
    bits .or .u64 (x : Int) (IntKind.u64.wrap (IntKind.u64.wrap (bits .and .u8 (c : Int) 127) * 2 ^ (7 * k))) = ((x + c % 128 * 128 ^ k : Nat) : Int) := by
  have e1 : IntKind.u64.wrap (bits .and .u8 (c : Int) 127) = ((c % 128 : Nat) : Int) := by
    rw [and127_at c hc, IntKind.wrap_u64]; omega
  have e2 : ((c % 128 : Nat) : Int) * 2 ^ (7 * k) = ((c % 128 * 128 ^ k : Nat) : Int) := by
    rw [pow128]; simp
  have e3 : IntKind.u64.wrap (((c % 128 : Nat) : Int) * 2 ^ (7 * k)) = ((c % 128 * 128 ^ k : Nat) : Int) := by
    rw [e2, IntKind.wrap_u64]; omega
  have h9 : (128 : Nat) ^ k ≤ 128 ^ 9 := Nat.pow_le_pow_right (by omega) hk
  have e9 : (128 : Nat) ^ 9 = 9223372036854775808 := by decide
  rw [e1, e3, bits_or_u64_nat x _ (by omega) hs]
  congr 1
  rw [pow128] at hx ⊢
  rw [Nat.or_comm, Nat.mul_comm, ← Nat.two_pow_add_eq_or_of_lt hx]
  omega
/-- The same at the last place, as the walk spells it. -/
theorem or_last (x c : Nat) (hx : x < 128 ^ 9) (hc : c ≤ 1) :
    bits .or .u64 (x : Int) (IntKind.u64.wrap (IntKind.u64.wrap (bits .and .u8 (c : Int) 127) * 9223372036854775808)) = ((x + c % 128 * 128 ^ 9 : Nat) : Int) := by
  have e9 : (128 : Nat) ^ 9 = 9223372036854775808 := by decide
  have h := or_seven x c 9 hx (by omega) (by rw [e9]; omega) (by omega)
  have e2 : (2 : Int) ^ (7 * 9) = 9223372036854775808 := by decide
  rw [e2] at h
  exact h

theorem sum_small (x c k : Nat) (hx : x < 128 ^ k) (hk : k ≤ 8) (hc : c < 256) : c % 128 * 128 ^ k < 18446744073709551616 ∧ x + c % 128 * 128 ^ k < 128 ^ (k + 1) := by
  have h8 : (128 : Nat) ^ k ≤ 128 ^ 8 := Nat.pow_le_pow_right (by omega) hk
  have e8 : (128 : Nat) ^ 8 = 72057594037927936 := by decide
  have h1 : c % 128 * 128 ^ k ≤ 127 * 128 ^ k := Nat.mul_le_mul_right _ (by omega)
  rw [Nat.pow_succ]
  omega

/-- What is read of a number's last byte. -/
theorem unzig_even (y : Nat) (h : y % 2 = 0) : unzig y = ((y / 2 : Nat) : Int) := by unfold unzig; rw [if_neg (by omega)]
theorem unzig_odd (y : Nat) (h : y % 2 = 1) : unzig y = -1 - ((y / 2 : Nat) : Int) := by unfold unzig; rw [if_pos h]; omega

theorem getN_end (k x : Nat) : getN k x [] = (0, 0, 2) := rfl
theorem getN_big (k x : Nat) (c : UInt8) (t : List UInt8) (h : k = 9) (hc : 1 < c.toNat) : getN k x (c :: t) = (0, 0, 1) := by simp only [getN]; rw [if_pos ⟨h, hc⟩]
theorem getN_more (k x : Nat) (c : UInt8) (t : List UInt8) (h : k ≠ 9) (hc : 128 ≤ c.toNat) : getN k x (c :: t) = getN (k + 1) (x + c.toNat % 128 * 128 ^ k) t := by simp only [getN]; rw [if_neg (by omega), if_pos hc]
theorem getN_zero (k x : Nat) (c : UInt8) (t : List UInt8) (h : 0 < k) (hc : c.toNat = 0) : getN k x (c :: t) = (0, 0, 1) := by simp only [getN]; rw [if_neg (by omega), if_neg (by omega), if_pos ⟨h, hc⟩]
theorem getN_last (k x : Nat) (c : UInt8) (t : List UInt8) (h9 : ¬ (k = 9 ∧ 1 < c.toNat)) (hc : c.toNat < 128) (hz : ¬ (0 < k ∧ c.toNat = 0)) : getN k x (c :: t) = (unzig (x + c.toNat % 128 * 128 ^ k), k + 1, 0) := by simp only [getN]; rw [if_neg h9, if_neg (by omega), if_neg hz]

/-- The bytes that are still to be written. -/
theorem putN_split (f u : Nat) (h : ¬ u < 128) (hu : u < 128 ^ f) : ∃ g, f = g + 1 ∧ 1 ≤ g ∧ u / 128 < 128 ^ g ∧ putN f u = (u % 128 + 128).toUInt8 :: putN g (u / 128) := by
  obtain ⟨g, rfl⟩ : ∃ g, f = g + 1 := by
    cases f with
    | zero => simp at hu; omega
    | succ g => exact ⟨g, rfl⟩
  refine ⟨g, rfl, ?_, ?_, putN_more g u h⟩
  · rcases Nat.eq_zero_or_pos g with h0 | h0
    · subst h0; simp at hu; omega
    · exact h0
  · rw [Nat.pow_succ] at hu; omega
end Ph

/-
  The walks of package num and of the reference's numbers, by Sx.
-/
set_option linter.unusedVariables false
set_option maxRecDepth 10000
-- pieces
namespace Go.Proofs.YtcfaicomnngegaaDoor.Sw
open Go.RowKit Go.Sx

theorem u8w (x : Nat) (h : x < 128) : IntKind.u8.wrap (x : Int) = ((x.toUInt8).toNat : Int) := by
  rw [IntKind.wrap_u8, Ph.u8n x (by omega)]; omega
theorem u8o (x : Nat) : bits .or .u8 (IntKind.u8.wrap (x : Int)) 128 = (((x % 128 + 128).toUInt8).toNat : Int) := by
  have e : IntKind.u8.wrap (x : Int) = ((x % 256 : Nat) : Int) := by rw [IntKind.wrap_u8]; omega
  rw [e, Ph.or128_at _ (by omega), Ph.u8n _ (by omega)]; omega

/-- The loop and what follows, from any number on. -/
structure PutS where
  v : Value
  acc : List UInt8
  f : Nat
  x : Nat

theorem u8r (x : Nat) : IntKind.u8.wrap (IntKind.u64.wrap ((x : Int).tmod 128 + 128)) = (((x % 128 + 128).toUInt8).toNat : Int) := by
  rw [show (x : Int).tmod 128 = ((x % 128 : Nat) : Int) from by rw [Int.tmod_eq_emod_of_nonneg (by omega)]; omega, IntKind.wrap_u8, IntKind.wrap_u64, Ph.u8n _ (by omega)]; omega
theorem quo7 (x : Nat) (h : x < 18446744073709551616) : IntKind.u64.wrap ((x : Int).tdiv 128) = ((x / 128 : Nat) : Int) := by
  rw [show (x : Int).tdiv 128 = ((x / 128 : Nat) : Int) from by rw [Int.tdiv_eq_ediv_of_nonneg (by omega)]; omega, IntKind.wrap_u64]; omega
theorem shr7 (x : Nat) : (x : Int).fdiv (2 ^ 7) = ((x / 128 : Nat) : Int) := by
  rw [Int.fdiv_eq_ediv_of_nonneg _ (by decide)]; omega

set_option maxHeartbeats 4000000 in
theorem num_Put (w0 W : World) (v : Value) (l : List UInt8) (n : Int) (R : List Res) (h0 : -9223372036854775808 ≤ n) (h1 : n ≤ 9223372036854775807) (hl : l.length ≤ 1000000000) (hw : Has 0 w0 W (OwnB 5 v l :: R)) :
    Calls Tryd.prog 75 ⟨[v, .int .i64 n]⟩ W fun e W' => ∃ ad cap, e = .returned (.slice ad (l ++ Ph.putI n).length cap) ∧ Has 0 w0 W' (OwnB 5 (.slice ad (l ++ Ph.putI n).length cap) (l ++ Ph.putI n) :: R) := by
  refine enter Tryd.func75 Tryd.ntmps75 rfl rfl fun a hs => ?_
  have hz := (Ph.zig_small h0 h1).1
  repeat (first | (refine sxv hs hw ?_; clear hs; intro a hs) | refine sxc hs ?_ | (refine sxa hs hw ?_; clear hs hw; intro a b W hw hs) | (refine sxs hs hw ?_; clear hs hw; intro W hs hw))
  refine merge (M := fun a W => Slots a 28 [(0, v), (5, .int .u64 (Ph.zig n))] ∧ Has 0 w0 W (OwnB 5 v l :: R)) ?_ ?_
  · refine cd_split hs (kt := fun hc => ?_) (kf := fun hc => ?_)
    · have hn : n < 0 := by simpa using hc
      repeat (first | (refine sxv hs hw ?_; clear hs; intro a hs) | refine sxc hs ?_ | (refine sxa hs hw ?_; clear hs hw; intro a b W hw hs) | (refine sxs hs hw ?_; clear hs hw; intro W hs hw))
      exact ⟨hs.of ⟨rfl, int_eq (Ph.zig_neg n h0 hn), trivial⟩, hw⟩
    · have hn : 0 ≤ n := by simpa using hc
      repeat (first | (refine sxv hs hw ?_; clear hs; intro a hs) | refine sxc hs ?_ | (refine sxa hs hw ?_; clear hs hw; intro a b W hw hs) | (refine sxs hs hw ?_; clear hs hw; intro W hs hw))
      have e : IntKind.u64.wrap (IntKind.u64.wrap n * 2 ^ min 1 IntKind.u64.bits) = (Ph.zig n : Int) := by
        rw [← Ph.zig_pos n hn, IntKind.wrap_u64, IntKind.wrap_u64]
        show (n % 18446744073709551616 * 2 % 18446744073709551616 : Int) = _
        omega
      exact ⟨hs.of ⟨rfl, int_eq e, trivial⟩, hw⟩
  clear hs hw
  rintro a W ⟨hs, hw⟩
  repeat (first | (refine sxv hs hw ?_; clear hs; intro a hs) | refine sxc hs ?_ | (refine sxa hs hw ?_; clear hs hw; intro a b W hw hs) | (refine sxs hs hw ?_; clear hs hw; intro W hs hw))
  refine st_loop (σ := PutS) (fun s => [(0, s.v), (5, .int .u64 s.x)]) (fun s => OwnB 5 s.v s.acc :: R) (fun s => s.x < 128 ^ s.f ∧ 1 ≤ s.f ∧ s.f ≤ 10 ∧ s.acc.length + s.f ≤ l.length + 10 ∧ s.acc ++ Ph.putN s.f s.x = l ++ Ph.putI n) (fun s => s.x) ⟨v, l, 10, Ph.zig n⟩ ⟨hz, Nat.le_add_left 1 9, Nat.le_refl 10, by simp, rfl⟩ hs ⟨rfl, rfl, trivial⟩ hw ?_
  clear hs hw
  rintro ⟨v, acc, f, x⟩ a W ⟨hx, hf1, hf2, hal, he⟩ hs hw
  simp only at hx hf1 hf2 hal he hs hw
  repeat (first | (refine sxv hs hw ?_; clear hs; intro a hs) | refine sxc hs ?_ | (refine sxa hs hw ?_; clear hs hw; intro a b W hw hs) | (refine sxs hs hw ?_; clear hs hw; intro W hs hw))
  refine cd_split hs (kt := fun hc => ?_) (kf := fun hc => ?_)
  · have hx' : ¬ x < 128 := by simp at hc; omega
    obtain ⟨g, rfl, hg1, hxg, hpn⟩ := Ph.putN_split f x hx' hx
    repeat (first | (refine sxv hs hw ?_; clear hs; intro a hs) | refine sxc hs ?_ | (refine sxa hs hw ?_; clear hs hw; intro a b W hw hs) | (refine sxs hs hw ?_; clear hs hw; intro W hs hw))
    refine st_append_lit hs hw (k := acc.length) (h63 := by omega) (hb := by omega) (c := ?_)
    clear hs hw; intro a ad cap W hs hw
    repeat (first | (refine sxv hs hw ?_; clear hs; intro a hs) | refine sxc hs ?_ | (refine sxa hs hw ?_; clear hs hw; intro a b W hw hs) | (refine sxs hs hw ?_; clear hs hw; intro W hs hw))
    have hw' := hw.sub (List.Sublist.cons _ (List.Sublist.refl _))
    rw [own_app (l := acc) (m := [(x % 128 + 128).toUInt8]) (by simp) (by rw [bys_app]; exact congrArg (fun u => bys acc ++ [Value.int .u8 u]) (u8o x))] at hw'
    refine st_again ⟨_, acc ++ [(x % 128 + 128).toUInt8], g, x / 128⟩ hs hw' ⟨hxg, hg1, by show g ≤ 10; omega, by simp; omega, ?_⟩ (by show x / 128 < x; omega) ⟨rfl, int_eq (shr7 x), trivial⟩
    rw [← he, hpn]
    simp
  · have hx' : x < 128 := by simp at hc; omega
    obtain ⟨g, rfl⟩ : ∃ g, f = g + 1 := ⟨f - 1, by omega⟩
    repeat (first | (refine sxv hs hw ?_; clear hs; intro a hs) | refine sxc hs ?_ | (refine sxa hs hw ?_; clear hs hw; intro a b W hw hs) | (refine sxs hs hw ?_; clear hs hw; intro W hs hw))
    refine st_append_lit hs hw (k := acc.length) (h63 := by omega) (hb := by omega) (c := ?_)
    clear hs hw; intro a ad cap W hs hw
    repeat (first | (refine sxv hs hw ?_; clear hs; intro a hs) | refine sxc hs ?_ | (refine sxa hs hw ?_; clear hs hw; intro a b W hw hs) | (refine sxs hs hw ?_; clear hs hw; intro W hs hw))
    have hw' := hw.sub (List.Sublist.cons _ (List.Sublist.refl _))
    have e1 : acc ++ [x.toUInt8] = l ++ Ph.putI n := by rw [← he, Ph.putN_last g x hx']
    have e2 : (l ++ Ph.putI n).length = acc.length + 1 := by rw [← e1]; simp
    refine rt1 hs rfl rfl ⟨ad, cap, by rw [e2], ?_⟩
    rw [own_app (l := acc) (m := [x.toUInt8]) (by simp) (by rw [bys_app]; exact congrArg (fun u => bys acc ++ [Value.int .u8 u]) (u8w x hx'))] at hw'
    rw [e2, ← e1]
    exact hw'

/-- A text behind its length. -/
theorem putT_eq (s : ByteArray) : Ph.putI (s.size : Int) ++ s.data.toList = Ph.putT s.data.toList := by
  unfold Ph.putT
  rw [show (s.data.toList.length : Int) = (s.size : Int) from by rw [Array.length_toList]; rfl]
theorem src_str {P : Program} {T : TypeId} [t : StrTy P T] (s : ByteArray) (W : World) : Src P 1 T (.string s) s.data.toList.length (bys s.data.toList) W := by
  have := src_string (P := P) (S := T) (W := W) s
  rwa [show s.size = s.data.toList.length from by rw [Array.length_toList]; rfl] at this

set_option maxHeartbeats 4000000 in
theorem num_PutText (w0 W : World) (v : Value) (l : List UInt8) (s : ByteArray) (R : List Res) (hs0 : s.size ≤ 1000000000) (hl : l.length ≤ 1000000000) (hw : Has 0 w0 W (OwnB 5 v l :: R)) :
    Calls Tryd.prog 76 ⟨[v, .string s]⟩ W fun e W' => ∃ ad cap, e = .returned (.slice ad (l ++ Ph.putT s.data.toList).length cap) ∧ Has 0 w0 W' (OwnB 5 (.slice ad (l ++ Ph.putT s.data.toList).length cap) (l ++ Ph.putT s.data.toList) :: R) := by
  have e := putT_eq s
  have hd : s.data.toList.length = s.size := by rw [Array.length_toList]; rfl
  have hp := Ph.putI_length_le (s.size : Int)
  refine enter Tryd.func76 Tryd.ntmps76 rfl rfl fun a hs => ?_
  repeat (first | (refine sxv hs hw ?_; clear hs; intro a hs) | refine sxc hs ?_ | (refine sxa hs hw ?_; clear hs hw; intro a b W hw hs) | (refine sxs hs hw ?_; clear hs hw; intro W hs hw))
  refine st_call hs (hc := num_Put w0 W v l s.size R (by omega) (by omega) hl hw) (k := ?_); rintro e0 W1 ⟨ad, cap, rfl, hw1⟩; refine ⟨_, rfl, ?_⟩; clear hs hw; intro a hs; have hw := hw1; clear hw1
  repeat (first | (refine sxv hs hw ?_; clear hs; intro a hs) | refine sxc hs ?_ | (refine sxa hs hw ?_; clear hs hw; intro a b W hw hs) | (refine sxs hs hw ?_; clear hs hw; intro W hs hw))
  refine st_append_b hs hw (l := l ++ Ph.putI (s.size : Int)) (m := s.data.toList) (hr := src_str s W1) (hb := by rw [List.length_append]; omega) (c := ?_)
  clear hs hw; intro a ad cap W hs hw
  repeat (first | (refine sxv hs hw ?_; clear hs; intro a hs) | refine sxc hs ?_ | (refine sxa hs hw ?_; clear hs hw; intro a b W hw hs) | (refine sxs hs hw ?_; clear hs hw; intro W hs hw))
  rw [List.append_assoc, e] at hs hw
  exact rt1 hs rfl rfl ⟨ad, cap, rfl, hw⟩

set_option maxHeartbeats 4000000 in
theorem ref_Put (w0 W : World) (n : Int) (R : List Res) (h0 : -9223372036854775808 ≤ n) (h1 : n ≤ 9223372036854775807) (hw : Has 0 w0 W R) :
    Calls Tryd.prog 55 ⟨[.int .i64 n]⟩ W fun e W' => ∃ ad cap, e = .returned (.slice ad (Ph.putI n).length cap) ∧ Has 0 w0 W' (OwnB 5 (.slice ad (Ph.putI n).length cap) (Ph.putI n) :: R) := by
  refine enter Tryd.func55 Tryd.ntmps55 rfl rfl fun a hs => ?_
  have hz := (Ph.zig_small h0 h1).1
  repeat (first | (refine sxv hs hw ?_; clear hs; intro a hs) | refine sxc hs ?_ | (refine sxa hs hw ?_; clear hs hw; intro a b W hw hs) | (refine sxs hs hw ?_; clear hs hw; intro W hs hw))
  refine merge (M := fun a W => Slots a 28 [(3, .int .u64 (Ph.zig n))] ∧ Has 0 w0 W R) ?_ ?_
  · refine cd_split hs (kt := fun hc => ?_) (kf := fun hc => ?_)
    · have hn : n < 0 := by simpa using hc
      repeat (first | (refine sxv hs hw ?_; clear hs; intro a hs) | refine sxc hs ?_ | (refine sxa hs hw ?_; clear hs hw; intro a b W hw hs) | (refine sxs hs hw ?_; clear hs hw; intro W hs hw))
      exact ⟨hs.of ⟨int_eq (Ph.zig_neg n h0 hn), trivial⟩, hw⟩
    · have hn : 0 ≤ n := by simpa using hc
      repeat (first | (refine sxv hs hw ?_; clear hs; intro a hs) | refine sxc hs ?_ | (refine sxa hs hw ?_; clear hs hw; intro a b W hw hs) | (refine sxs hs hw ?_; clear hs hw; intro W hs hw))
      have e : IntKind.u64.wrap (IntKind.u64.wrap n * 2) = (Ph.zig n : Int) := by
        rw [← Ph.zig_pos n hn, IntKind.wrap_u64, IntKind.wrap_u64]
        omega
      exact ⟨hs.of ⟨int_eq e, trivial⟩, hw⟩
  clear hs hw
  rintro a W ⟨hs, hw⟩
  repeat (first | (refine sxv hs hw ?_; clear hs; intro a hs) | refine sxc hs ?_ | (refine sxa hs hw ?_; clear hs hw; intro a b W hw hs) | (refine sxs hs hw ?_; clear hs hw; intro W hs hw))
  have hw := hw.nilB 5
  refine st_loop (σ := PutS) (fun s => [(4, s.v), (3, .int .u64 s.x)]) (fun s => OwnB 5 s.v s.acc :: R) (fun s => s.x < 128 ^ s.f ∧ 1 ≤ s.f ∧ s.f ≤ 10 ∧ s.acc.length + s.f ≤ 10 ∧ s.x < 18446744073709551616 ∧ s.acc ++ Ph.putN s.f s.x = Ph.putI n) (fun s => s.x) ⟨.slice none 0 0, [], 10, Ph.zig n⟩ ⟨hz, Nat.le_add_left 1 9, Nat.le_refl 10, by simp, Ph.zig_lt h0 h1, rfl⟩ hs ⟨rfl, rfl, trivial⟩ hw ?_
  clear hs hw
  rintro ⟨v, acc, f, x⟩ a W ⟨hx, hf1, hf2, hal, hxl, he⟩ hs hw
  simp only at hx hf1 hf2 hal hxl he hs hw
  repeat (first | (refine sxv hs hw ?_; clear hs; intro a hs) | refine sxc hs ?_ | (refine sxa hs hw ?_; clear hs hw; intro a b W hw hs) | (refine sxs hs hw ?_; clear hs hw; intro W hs hw))
  refine cd_split hs (kt := fun hc => ?_) (kf := fun hc => ?_)
  · have hx' : ¬ x < 128 := by simp at hc; omega
    obtain ⟨g, rfl, hg1, hxg, hpn⟩ := Ph.putN_split f x hx' hx
    repeat (first | (refine sxv hs hw ?_; clear hs; intro a hs) | refine sxc hs ?_ | (refine sxa hs hw ?_; clear hs hw; intro a b W hw hs) | (refine sxs hs hw ?_; clear hs hw; intro W hs hw))
    refine st_append_lit hs hw (k := acc.length) (h63 := by omega) (hb := by omega) (c := ?_)
    clear hs hw; intro a ad cap W hs hw
    repeat (first | (refine sxv hs hw ?_; clear hs; intro a hs) | refine sxc hs ?_ | (refine sxa hs hw ?_; clear hs hw; intro a b W hw hs) | (refine sxs hs hw ?_; clear hs hw; intro W hs hw))
    have hw' := hw.sub (List.Sublist.cons _ (List.Sublist.refl _))
    rw [own_app (l := acc) (m := [(x % 128 + 128).toUInt8]) (by simp) (by rw [bys_app]; exact congrArg (fun u => bys acc ++ [Value.int .u8 u]) (u8r x))] at hw'
    refine st_again ⟨_, acc ++ [(x % 128 + 128).toUInt8], g, x / 128⟩ hs hw' ⟨hxg, hg1, by show g ≤ 10; omega, by simp; omega, by show x / 128 < _; omega, ?_⟩ (by show x / 128 < x; omega) ⟨rfl, int_eq (quo7 x hxl), trivial⟩
    rw [← he, hpn]
    simp
  · have hx' : x < 128 := by simp at hc; omega
    obtain ⟨g, rfl⟩ : ∃ g, f = g + 1 := ⟨f - 1, by omega⟩
    repeat (first | (refine sxv hs hw ?_; clear hs; intro a hs) | refine sxc hs ?_ | (refine sxa hs hw ?_; clear hs hw; intro a b W hw hs) | (refine sxs hs hw ?_; clear hs hw; intro W hs hw))
    refine st_append_lit hs hw (k := acc.length) (h63 := by omega) (hb := by omega) (c := ?_)
    clear hs hw; intro a ad cap W hs hw
    repeat (first | (refine sxv hs hw ?_; clear hs; intro a hs) | refine sxc hs ?_ | (refine sxa hs hw ?_; clear hs hw; intro a b W hw hs) | (refine sxs hs hw ?_; clear hs hw; intro W hs hw))
    have hw' := hw.sub (List.Sublist.cons _ (List.Sublist.refl _))
    have e1 : acc ++ [x.toUInt8] = Ph.putI n := by rw [← he, Ph.putN_last g x hx']
    have e2 : (Ph.putI n).length = acc.length + 1 := by rw [← e1]; simp
    refine rt1 hs rfl rfl ⟨ad, cap, by rw [e2], ?_⟩
    rw [own_app (l := acc) (m := [x.toUInt8]) (by simp) (by rw [bys_app]; exact congrArg (fun u => bys acc ++ [Value.int .u8 u]) (u8w x hx'))] at hw'
    rw [e2, ← e1]
    exact hw'

set_option maxHeartbeats 4000000 in
theorem ref_PutText (w0 W : World) (s : ByteArray) (R : List Res) (hs0 : s.size ≤ 1000000000) (hw : Has 0 w0 W R) :
    Calls Tryd.prog 56 ⟨[.string s]⟩ W fun e W' => ∃ ad cap, e = .returned (.slice ad (Ph.putT s.data.toList).length cap) ∧ Has 0 w0 W' (OwnB 5 (.slice ad (Ph.putT s.data.toList).length cap) (Ph.putT s.data.toList) :: R) := by
  have e := putT_eq s
  have hd : s.data.toList.length = s.size := by rw [Array.length_toList]; rfl
  have hp := Ph.putI_length_le (s.size : Int)
  refine enter Tryd.func56 Tryd.ntmps56 rfl rfl fun a hs => ?_
  repeat (first | (refine sxv hs hw ?_; clear hs; intro a hs) | refine sxc hs ?_ | (refine sxa hs hw ?_; clear hs hw; intro a b W hw hs) | (refine sxs hs hw ?_; clear hs hw; intro W hs hw))
  refine st_call hs (hc := ref_Put w0 W s.size R (by omega) (by omega) hw) (k := ?_); rintro e0 W1 ⟨ad, cap, rfl, hw1⟩; refine ⟨_, rfl, ?_⟩; clear hs hw; intro a hs; have hw := hw1; clear hw1
  repeat (first | (refine sxv hs hw ?_; clear hs; intro a hs) | refine sxc hs ?_ | (refine sxa hs hw ?_; clear hs hw; intro a b W hw hs) | (refine sxs hs hw ?_; clear hs hw; intro W hs hw))
  refine st_append_b hs hw (l := Ph.putI (s.size : Int)) (m := s.data.toList) (hr := src_str s W1) (hb := by omega) (c := ?_)
  clear hs hw; intro a ad cap W hs hw
  repeat (first | (refine sxv hs hw ?_; clear hs; intro a hs) | refine sxc hs ?_ | (refine sxa hs hw ?_; clear hs hw; intro a b W hw hs) | (refine sxs hs hw ?_; clear hs hw; intro W hs hw))
  rw [e] at hs hw
  exact rt1 hs rfl rfl ⟨ad, cap, rfl, hw⟩

/-- A raw value's bytes. -/
def putR (k n : Int) (s : ByteArray) : List UInt8 := Ph.putI k ++ (if k = 1 then Ph.putI n else if k = 2 then Ph.putT s.data.toList else [])

set_option maxHeartbeats 4000000 in
theorem ref_PutRaw (w0 W : World) (k n : Int) (s : ByteArray) (R : List Res) (hk0 : -9223372036854775808 ≤ k) (hk1 : k ≤ 9223372036854775807) (h0 : -9223372036854775808 ≤ n) (h1 : n ≤ 9223372036854775807) (hs0 : s.size ≤ 1000000000) (hw : Has 0 w0 W R) :
    Calls Tryd.prog 57 ⟨[.agg #[.int .i64 k, .int .i64 n, .string s]]⟩ W fun e W' => ∃ ad cap, e = .returned (.slice ad (putR k n s).length cap) ∧ Has 0 w0 W' (OwnB 5 (.slice ad (putR k n s).length cap) (putR k n s) :: R) := by
  have hd : s.data.toList.length = s.size := by rw [Array.length_toList]; rfl
  have hpk := Ph.putI_length_le k
  have hpn := Ph.putI_length_le n
  have hpt : (Ph.putT s.data.toList).length ≤ 1000000010 := by unfold Ph.putT; rw [List.length_append]; have := Ph.putI_length_le s.data.toList.length; omega
  refine enter Tryd.func57 Tryd.ntmps57 rfl rfl fun a hs => ?_
  repeat (first | (refine sxv hs hw ?_; clear hs; intro a hs) | refine sxc hs ?_ | (refine sxa hs hw ?_; clear hs hw; intro a b W hw hs) | (refine sxs hs hw ?_; clear hs hw; intro W hs hw))
  refine st_call hs (hc := ref_Put w0 W k _ hk0 hk1 hw) (k := ?_); rintro e0 W1 ⟨ad, cap, rfl, hw1⟩; refine ⟨_, rfl, ?_⟩; clear hs hw; intro a hs; have hw := hw1; clear hw1
  repeat (first | (refine sxv hs hw ?_; clear hs; intro a hs) | refine sxc hs ?_ | (refine sxa hs hw ?_; clear hs hw; intro a b W hw hs) | (refine sxs hs hw ?_; clear hs hw; intro W hs hw))
  refine cd_split hs (kt := fun hc => ?_) (kf := fun hc => ?_)
  · have hk : k = 1 := by simpa using hc
    subst hk
    repeat (first | (refine sxv hs hw ?_; clear hs; intro a hs) | refine sxc hs ?_ | (refine sxa hs hw ?_; clear hs hw; intro a b W hw hs) | (refine sxs hs hw ?_; clear hs hw; intro W hs hw))
    refine st_call hs (hc := ref_Put w0 _ n _ h0 h1 hw) (k := ?_); rintro e0 W1 ⟨ad, cap, rfl, hw1⟩; refine ⟨_, rfl, ?_⟩; clear hs hw; intro a hs; have hw := hw1; clear hw1
    repeat (first | (refine sxv hs hw ?_; clear hs; intro a hs) | refine sxc hs ?_ | (refine sxa hs hw ?_; clear hs hw; intro a b W hw hs) | (refine sxs hs hw ?_; clear hs hw; intro W hs hw))
    refine st_append_b hs hw (l := Ph.putI 1) (m := Ph.putI n) (hr := src_rd (hw.rd_own (by repeat (first | exact In.hd | apply In.tl))) (bys_one _)) (hb := by omega) (c := ?_)
    clear hs hw; intro a ad cap W hs hw
    repeat (first | (refine sxv hs hw ?_; clear hs; intro a hs) | refine sxc hs ?_ | (refine sxa hs hw ?_; clear hs hw; intro a b W hw hs) | (refine sxs hs hw ?_; clear hs hw; intro W hs hw))
    have e : putR 1 n s = Ph.putI 1 ++ Ph.putI n := rfl
    rw [← e] at hs hw
    exact rt1 hs rfl rfl ⟨ad, cap, rfl, (hw.pick (by repeat (first | exact Pick.hd | apply Pick.tl))).sub (by repeat (first | exact List.Sublist.refl _ | apply List.Sublist.cons_cons | apply List.Sublist.cons))⟩
  · have hk : ¬ k = 1 := by simpa using hc
    repeat (first | (refine sxv hs hw ?_; clear hs; intro a hs) | refine sxc hs ?_ | (refine sxa hs hw ?_; clear hs hw; intro a b W hw hs) | (refine sxs hs hw ?_; clear hs hw; intro W hs hw))
    refine cd_split hs (kt := fun hc => ?_) (kf := fun hc => ?_)
    · have hk2 : k = 2 := by simpa using hc
      subst hk2
      repeat (first | (refine sxv hs hw ?_; clear hs; intro a hs) | refine sxc hs ?_ | (refine sxa hs hw ?_; clear hs hw; intro a b W hw hs) | (refine sxs hs hw ?_; clear hs hw; intro W hs hw))
      refine st_call hs (hc := ref_PutText w0 _ s _ hs0 hw) (k := ?_); rintro e0 W1 ⟨ad, cap, rfl, hw1⟩; refine ⟨_, rfl, ?_⟩; clear hs hw; intro a hs; have hw := hw1; clear hw1
      repeat (first | (refine sxv hs hw ?_; clear hs; intro a hs) | refine sxc hs ?_ | (refine sxa hs hw ?_; clear hs hw; intro a b W hw hs) | (refine sxs hs hw ?_; clear hs hw; intro W hs hw))
      refine st_append_b hs hw (l := Ph.putI 2) (m := Ph.putT s.data.toList) (hr := src_rd (hw.rd_own (by repeat (first | exact In.hd | apply In.tl))) (bys_one _)) (hb := by omega) (c := ?_)
      clear hs hw; intro a ad cap W hs hw
      repeat (first | (refine sxv hs hw ?_; clear hs; intro a hs) | refine sxc hs ?_ | (refine sxa hs hw ?_; clear hs hw; intro a b W hw hs) | (refine sxs hs hw ?_; clear hs hw; intro W hs hw))
      have e : putR 2 n s = Ph.putI 2 ++ Ph.putT s.data.toList := rfl
      rw [← e] at hs hw
      exact rt1 hs rfl rfl ⟨ad, cap, rfl, (hw.pick (by repeat (first | exact Pick.hd | apply Pick.tl))).sub (by repeat (first | exact List.Sublist.refl _ | apply List.Sublist.cons_cons | apply List.Sublist.cons))⟩
    · have hk2 : ¬ k = 2 := by simpa using hc
      repeat (first | (refine sxv hs hw ?_; clear hs; intro a hs) | refine sxc hs ?_ | (refine sxa hs hw ?_; clear hs hw; intro a b W hw hs) | (refine sxs hs hw ?_; clear hs hw; intro W hs hw))
      have e : putR k n s = Ph.putI k := by unfold putR; rw [if_neg hk, if_neg hk2, List.append_nil]
      rw [← e] at hs hw
      exact rt1 hs rfl rfl ⟨ad, cap, rfl, (hw.pick (by repeat (first | exact Pick.hd | apply Pick.tl))).sub (by repeat (first | exact List.Sublist.refl _ | apply List.Sublist.cons_cons | apply List.Sublist.cons))⟩

set_option maxHeartbeats 4000000 in
theorem value_Put (w0 W : World) (v : Value) (l : List UInt8) (k n : Int) (s : ByteArray) (R : List Res) (hk0 : -9223372036854775808 ≤ k) (hk1 : k ≤ 9223372036854775807) (h0 : -9223372036854775808 ≤ n) (h1 : n ≤ 9223372036854775807) (hs0 : s.size ≤ 1000000000) (hl : l.length ≤ 900000000) (hw : Has 0 w0 W (OwnB 5 v l :: R)) :
    Calls Tryd.prog 77 ⟨[v, .agg #[.int .i64 k, .int .i64 n, .string s]]⟩ W fun e W' => ∃ ad cap, e = .returned (.slice ad (l ++ putR k n s).length cap) ∧ Has 0 w0 W' (OwnB 5 (.slice ad (l ++ putR k n s).length cap) (l ++ putR k n s) :: R) := by
  have hpk := Ph.putI_length_le k
  refine enter Tryd.func77 Tryd.ntmps77 rfl rfl fun a hs => ?_
  repeat (first | (refine sxv hs hw ?_; clear hs; intro a hs) | refine sxc hs ?_ | (refine sxa hs hw ?_; clear hs hw; intro a b W hw hs) | (refine sxs hs hw ?_; clear hs hw; intro W hs hw))
  refine st_call hs (hc := num_Put w0 _ v l k _ hk0 hk1 (by omega) (hw.pick (by repeat (first | exact Pick.hd | apply Pick.tl)))) (k := ?_); rintro e0 W1 ⟨ad, cap, rfl, hw1⟩; refine ⟨_, rfl, ?_⟩; clear hs hw; intro a hs; have hw := hw1; clear hw1
  repeat (first | (refine sxv hs hw ?_; clear hs; intro a hs) | refine sxc hs ?_ | (refine sxa hs hw ?_; clear hs hw; intro a b W hw hs) | (refine sxs hs hw ?_; clear hs hw; intro W hs hw))
  refine cd_split hs (kt := fun hc => ?_) (kf := fun hc => ?_)
  · have hk : k = 1 := by simpa using hc
    subst hk
    repeat (first | (refine sxv hs hw ?_; clear hs; intro a hs) | refine sxc hs ?_ | (refine sxa hs hw ?_; clear hs hw; intro a b W hw hs) | (refine sxs hs hw ?_; clear hs hw; intro W hs hw))
    refine st_call hs (hc := num_Put w0 _ _ (l ++ Ph.putI 1) n _ h0 h1 (by rw [List.length_append]; omega) (hw.pick (by repeat (first | exact Pick.hd | apply Pick.tl)))) (k := ?_); rintro e0 W1 ⟨ad, cap, rfl, hw1⟩; refine ⟨_, rfl, ?_⟩; clear hs hw; intro a hs; have hw := hw1; clear hw1
    repeat (first | (refine sxv hs hw ?_; clear hs; intro a hs) | refine sxc hs ?_ | (refine sxa hs hw ?_; clear hs hw; intro a b W hw hs) | (refine sxs hs hw ?_; clear hs hw; intro W hs hw))
    have e : l ++ putR 1 n s = l ++ Ph.putI 1 ++ Ph.putI n := by rw [List.append_assoc]; rfl
    rw [← e] at hs hw
    exact rt1 hs rfl rfl ⟨ad, cap, rfl, (hw.pick (by repeat (first | exact Pick.hd | apply Pick.tl))).sub (by repeat (first | exact List.Sublist.refl _ | apply List.Sublist.cons_cons | apply List.Sublist.cons))⟩
  · have hk : ¬ k = 1 := by simpa using hc
    repeat (first | (refine sxv hs hw ?_; clear hs; intro a hs) | refine sxc hs ?_ | (refine sxa hs hw ?_; clear hs hw; intro a b W hw hs) | (refine sxs hs hw ?_; clear hs hw; intro W hs hw))
    refine cd_split hs (kt := fun hc => ?_) (kf := fun hc => ?_)
    · have hk2 : k = 2 := by simpa using hc
      subst hk2
      repeat (first | (refine sxv hs hw ?_; clear hs; intro a hs) | refine sxc hs ?_ | (refine sxa hs hw ?_; clear hs hw; intro a b W hw hs) | (refine sxs hs hw ?_; clear hs hw; intro W hs hw))
      refine st_call hs (hc := num_PutText w0 _ _ (l ++ Ph.putI 2) s _ hs0 (by rw [List.length_append]; omega) (hw.pick (by repeat (first | exact Pick.hd | apply Pick.tl)))) (k := ?_); rintro e0 W1 ⟨ad, cap, rfl, hw1⟩; refine ⟨_, rfl, ?_⟩; clear hs hw; intro a hs; have hw := hw1; clear hw1
      repeat (first | (refine sxv hs hw ?_; clear hs; intro a hs) | refine sxc hs ?_ | (refine sxa hs hw ?_; clear hs hw; intro a b W hw hs) | (refine sxs hs hw ?_; clear hs hw; intro W hs hw))
      have e : l ++ putR 2 n s = l ++ Ph.putI 2 ++ Ph.putT s.data.toList := by rw [List.append_assoc]; rfl
      rw [← e] at hs hw
      exact rt1 hs rfl rfl ⟨ad, cap, rfl, (hw.pick (by repeat (first | exact Pick.hd | apply Pick.tl))).sub (by repeat (first | exact List.Sublist.refl _ | apply List.Sublist.cons_cons | apply List.Sublist.cons))⟩
    · have hk2 : ¬ k = 2 := by simpa using hc
      repeat (first | (refine sxv hs hw ?_; clear hs; intro a hs) | refine sxc hs ?_ | (refine sxa hs hw ?_; clear hs hw; intro a b W hw hs) | (refine sxs hs hw ?_; clear hs hw; intro W hs hw))
      have e : l ++ putR k n s = l ++ Ph.putI k := by unfold putR; rw [if_neg hk, if_neg hk2, List.append_nil]
      rw [← e] at hs hw
      exact rt1 hs rfl rfl ⟨ad, cap, rfl, (hw.pick (by repeat (first | exact Pick.hd | apply Pick.tl))).sub (by repeat (first | exact List.Sublist.refl _ | apply List.Sublist.cons_cons | apply List.Sublist.cons))⟩

end Go.Proofs.YtcfaicomnngegaaDoor.Sw

/-
  The walk of op.text, by Sx: a batch's bytes.
-/
set_option linter.unusedVariables false
set_option maxRecDepth 10000
namespace Go.Sx
/-- A call that yields a new piece and leaves what was there. -/
theorem Has.call {w0 W W' : World} {R : List Res} {r : Res} (h : Has 0 w0 W R) (k : Has 0 W W' (r :: Old W 0 :: [])) : Has 0 w0 W' (r :: R) := by
  have hb := k.end (In.tl In.hd)
  obtain ⟨F1, a1, a2, F2, b1, b2, _⟩ := k.has
  have h1 := h.below hb
  refine ⟨h1.ext, h1.glob, F1, a1, a2, ?_⟩
  exact (h.has.loc fun b hb' => hb.block b hb'.2).mono fun b hb' => ⟨⟨hb'.1, Nat.lt_of_lt_of_le hb'.2 hb.size⟩, fun hF => (b1 b ((b2 b (Nat.zero_le _) hb'.2).1)).2 hF⟩
theorem Has.swap2 {G : Nat} {w W : World} {r q : Res} {R : List Res} (h : Has G w W (r :: q :: R)) : Has G w W (q :: r :: R) := ⟨h.ext, h.glob, HasIn.swap h.has⟩
theorem Has.drop2 {G : Nat} {w W : World} {r q : Res} {R : List Res} (h : Has G w W (r :: q :: R)) : Has G w W (r :: R) := h.sub (List.Sublist.cons_cons _ (List.Sublist.cons _ (List.Sublist.refl _)))
theorem Has.own_slice {G : Nat} {w W : World} {E : TypeId} {size n : Nat} {v : Value} {xs : List Value} {R : List Res} (h : Has G w W (Own E size v n xs :: R)) : ∃ ad cap, v = .slice ad n cap := by
  obtain ⟨_, ad, cap, e, _⟩ := h.rd_own In.hd
  exact ⟨ad, cap, e⟩
end Go.Sx
namespace Go.Proofs.YtcfaicomnngegaaDoor.Sw
open Go.RowKit Go.Sx

/-- An operation as data. -/
structure OpD where
  kind : Int
  key : ByteArray
  vk : Int
  vn : Int
  vs : ByteArray
  ok : Int
  on : Int
  os : ByteArray
  n : Int
def opCells (o : OpD) : List Value := [.int .i64 o.kind, .string o.key, .int .i64 o.vk, .int .i64 o.vn, .string o.vs, .int .i64 o.ok, .int .i64 o.on, .string o.os, .int .i64 o.n]
/-- An operation's bytes. -/
def opB (o : OpD) : List UInt8 := Ph.putI o.kind ++ Ph.putT o.key.data.toList ++ (if o.kind = 3 then putR o.vk o.vn o.vs ++ putR o.ok o.on o.os else if o.kind = 1 then putR o.vk o.vn o.vs else if o.kind = 4 then Ph.putI o.n else [])
def headB (c q n : Int) : List UInt8 := Ph.putI c ++ Ph.putI q ++ Ph.putI n
def textB (c q : Int) (l : List OpD) : List UInt8 := headB c q l.length ++ l.flatMap opB
def i64 (n : Int) : Prop := -9223372036854775808 ≤ n ∧ n ≤ 9223372036854775807
structure OpOk (o : OpD) : Prop where
  kind : i64 o.kind
  vk : i64 o.vk
  vn : i64 o.vn
  ok : i64 o.ok
  on : i64 o.on
  n : i64 o.n
  key : o.key.size ≤ 1000000
  vs : o.vs.size ≤ 1000000
  os : o.os.size ≤ 1000000
theorem putT_le (s : ByteArray) : (Ph.putT s.data.toList).length ≤ 10 + s.size := by
  have hd : s.data.toList.length = s.size := by rw [Array.length_toList]; rfl
  unfold Ph.putT
  have := Ph.putI_length_le s.data.toList.length
  rw [List.length_append, hd]
  rw [hd] at this
  omega
theorem putR_le (k n : Int) (s : ByteArray) : (putR k n s).length ≤ 30 + s.size := by
  unfold putR
  have h1 := Ph.putI_length_le k
  have h2 := Ph.putI_length_le n
  have h3 := putT_le s
  rw [List.length_append]
  split
  · omega
  · split
    · omega
    · simp; omega
theorem opB_le {o : OpD} (h : OpOk o) : (opB o).length ≤ 3200000 := by
  have h1 := Ph.putI_length_le o.kind
  have h2 := putT_le o.key
  have h3 := putR_le o.vk o.vn o.vs
  have h4 := putR_le o.ok o.on o.os
  have h5 := Ph.putI_length_le o.n
  have := h.key; have := h.vs; have := h.os
  unfold opB
  rw [List.length_append, List.length_append]
  split
  · rw [List.length_append]; omega
  · split
    · omega
    · split
      · omega
      · simp; omega
theorem headB_le (c q n : Int) : (headB c q n).length ≤ 30 := by
  have h1 := Ph.putI_length_le c
  have h2 := Ph.putI_length_le q
  have h3 := Ph.putI_length_le n
  unfold headB
  rw [List.length_append, List.length_append]; omega
theorem ops_le {l : List OpD} (h : ∀ o ∈ l, OpOk o) : (l.flatMap opB).length ≤ 3200000 * l.length := by
  induction l with
  | nil => simp
  | cons o l ih =>
    have h1 := opB_le (h o (by simp))
    have h2 := ih fun x hx => h x (by simp [hx])
    rw [List.flatMap_cons, List.length_append, List.length_cons]; omega
def headAt (c q n : Int) : Nat → List UInt8
  | 0 => []
  | 1 => Ph.putI c
  | 2 => Ph.putI c ++ Ph.putI q
  | _ => headB c q n
theorem headAt_le (c q n : Int) (i : Nat) : (headAt c q n i).length ≤ 30 := by
  have h1 := Ph.putI_length_le c
  have h2 := Ph.putI_length_le q
  unfold headAt
  split
  · simp
  · omega
  · rw [List.length_append]; omega
  · exact headB_le c q n

theorem cut_ops : ∀ (l : List OpD) (i : Nat) (o : OpD), l[i]? = some o → ((l.flatMap opCells).drop (i * 9)).take 9 = opCells o
  | [], i, o, h => by simp at h
  | x :: l, 0, o, h => by
    simp only [List.getElem?_cons_zero, Option.some.injEq] at h
    subst h
    rw [List.flatMap_cons, Nat.zero_mul, List.drop_zero]
    exact List.take_left' rfl
  | x :: l, i + 1, o, h => by
    rw [List.getElem?_cons_succ] at h
    rw [List.flatMap_cons, show (i + 1) * 9 = (opCells x).length + i * 9 from by rw [Nat.add_mul]; show _ = 9 + _; omega, List.drop_append]
    rw [List.drop_of_length_le (by omega), List.nil_append, show (opCells x).length + i * 9 - (opCells x).length = i * 9 from by omega]
    exact cut_ops l i o h
section
variable {ops : Array Oper} {rest : List Oper} {Q : Exit → Act → World → Prop} {a : Act} {n : Nat} {L : List (Nat × Value)} {W : World} {d : Nat} {T : TypeId} {p : String} {e : Array Edge} {x y : Operand} {v : Value} {q : IntKind}
theorem st_index_op {l : List OpD} {i : Nat} {o : OpD} (hs : Slots a n L) (r : Rd W 9 v l.length (l.flatMap opCells)) (ho : l[i]? = some o) (hx : ev L x = some v := by with_unfolding_all exact rfl) (hy : ev L y = some (.int q (i : Int)) := by with_unfolding_all exact rfl) (hd : Nat.blt d n = true := by with_unfolding_all exact rfl)
    (c : ∀ a' b off, (∀ j u, (opCells o)[j]? = some u → W.cell? ⟨b, off + j, none⟩ = some u) → Slots a' n ((d, .pointer (some ⟨b, off, none⟩)) :: L) → wpList Tryd.prog ops Q rest a' W) : wpList Tryd.prog ops Q (⟨some d, .indexAddr 31 x y, T, p, e, none⟩ :: rest) a W := by
  have hi : i < l.length := (List.getElem?_eq_some_iff.1 ho).1
  refine st_indexAddr (z := opCells ⟨0, ⟨#[]⟩, 0, 0, ⟨#[]⟩, 0, 0, ⟨#[]⟩, 0⟩) hs hx hy r (by omega) (by omega) hd fun a' b off h1 h2 h3 => c a' b off (fun j u hu => h1 j u ?_) h3
  rw [cut_eq, Int.toNat_natCast]
  exact (congrArg (fun t => t[j]?) (cut_ops l i o ho)).trans hu
end

set_option maxHeartbeats 4000000 in
theorem op_text (c q : Int) (l : List OpD) (sv : Value) (w : World) (hc : i64 c) (hq : i64 q) (hl : l.length ≤ 100) (ho : ∀ o ∈ l, OpOk o) (r : Rd w 9 sv l.length (l.flatMap opCells)) :
    Calls Tryd.prog 69 ⟨[.agg ⟨[.int .i64 c, .int .i64 q, sv]⟩]⟩ w fun e w' => ∃ ad cap, e = .returned (.slice ad (textB c q l).length cap) ∧ Has 0 w w' (OwnB 5 (.slice ad (textB c q l).length cap) (textB c q l) :: Old w 0 :: []) := by
  have hw := Has.start (G := 0) (w := w) (Nat.zero_le _)
  obtain ⟨sad, scap, rfl⟩ : ∃ ad cap, sv = .slice ad l.length cap := by obtain ⟨_, ad, cap, e, _⟩ := r; exact ⟨ad, cap, e⟩
  refine enter Tryd.func69 Tryd.ntmps69 rfl rfl fun a hs => ?_
  repeat (first | (refine sxv hs hw ?_; clear hs; intro a hs) | refine sxc hs ?_ | (refine sxa hs hw ?_; clear hs hw; intro a b W hw hs) | (refine sxs hs hw ?_; clear hs hw; intro W hs hw))
  obtain ⟨b2, q2⟩ := nm1 hw; subst q2
  obtain ⟨b1, q1⟩ := nm2 hw; subst q1
  have hw := hw.nilB 5
  have hw : Has 0 w _ (Sx.OwnB 5 (.slice none 0 0) [] :: [Cells b2 [.int .i64 c, .int .i64 q, .int .i64 (l.length : Int)] 2, Cells b1 [.int .i64 c, .int .i64 q, .slice sad l.length scap] 33, Old w 0]) := hw
  refine st_loop (σ := Value × Nat) (fun s => [(1, .pointer (some ⟨b1, 0, none⟩)), (3, s.1), (15, .slice (some ⟨b2, 0, none⟩) 3 3), (16, .int .i64 3), (17, .int .i64 s.2)]) (fun s => OwnB 5 s.1 (headAt c q l.length s.2) :: [Cells b2 [.int .i64 c, .int .i64 q, .int .i64 (l.length : Int)] 2, Cells b1 [.int .i64 c, .int .i64 q, .slice sad l.length scap] 33, Old w 0]) (fun s => s.2 ≤ 3) (fun s => 3 - s.2) (.slice none 0 0, 0) (by decide) hs ⟨rfl, rfl, rfl, rfl, rfl, trivial⟩ hw ?_
  clear hs hw
  rintro ⟨v, i⟩ a W hi hs hw
  simp only at hi hs hw
  repeat (first | (refine sxv hs hw ?_; clear hs; intro a hs) | refine sxc hs ?_ | (refine sxa hs hw ?_; clear hs hw; intro a b W hw hs) | (refine sxs hs hw ?_; clear hs hw; intro W hs hw))
  obtain rfl | rfl | rfl | rfl : i = 0 ∨ i = 1 ∨ i = 2 ∨ i = 3 := by omega
  · repeat (first | (refine sxv hs hw ?_; clear hs; intro a hs) | refine sxc hs ?_ | (refine sxa hs hw ?_; clear hs hw; intro a b W hw hs) | (refine sxs hs hw ?_; clear hs hw; intro W hs hw))
    refine st_index_at hs (h0 := by decide) (h1 := by decide) (c := ?_); clear hs; intro a hs
    repeat (first | (refine sxv hs hw ?_; clear hs; intro a hs) | refine sxc hs ?_ | (refine sxa hs hw ?_; clear hs hw; intro a b W hw hs) | (refine sxs hs hw ?_; clear hs hw; intro W hs hw))
    refine st_call hs (hc := num_Put w _ _ (headAt c q l.length 0) c _ hc.1 hc.2 (by have := headAt_le c q l.length 0; omega) hw) (k := ?_); rintro e0 W1 ⟨ad, cap, rfl, hw1⟩; refine ⟨_, rfl, ?_⟩; clear hs hw; intro a hs; have hw := hw1; clear hw1
    repeat (first | (refine sxv hs hw ?_; clear hs; intro a hs) | refine sxc hs ?_ | (refine sxa hs hw ?_; clear hs hw; intro a b W hw hs) | (refine sxs hs hw ?_; clear hs hw; intro W hs hw))
    refine st_again (_, 1) hs hw (by show 1 ≤ 3; decide) (by show 3 - 1 < 3 - 0; decide) ⟨rfl, rfl, rfl, rfl, rfl, trivial⟩
  · repeat (first | (refine sxv hs hw ?_; clear hs; intro a hs) | refine sxc hs ?_ | (refine sxa hs hw ?_; clear hs hw; intro a b W hw hs) | (refine sxs hs hw ?_; clear hs hw; intro W hs hw))
    refine st_index_at hs (h0 := by decide) (h1 := by decide) (c := ?_); clear hs; intro a hs
    repeat (first | (refine sxv hs hw ?_; clear hs; intro a hs) | refine sxc hs ?_ | (refine sxa hs hw ?_; clear hs hw; intro a b W hw hs) | (refine sxs hs hw ?_; clear hs hw; intro W hs hw))
    refine st_call hs (hc := num_Put w _ _ (headAt c q l.length 1) q _ hq.1 hq.2 (by have := headAt_le c q l.length 1; omega) hw) (k := ?_); rintro e0 W1 ⟨ad, cap, rfl, hw1⟩; refine ⟨_, rfl, ?_⟩; clear hs hw; intro a hs; have hw := hw1; clear hw1
    repeat (first | (refine sxv hs hw ?_; clear hs; intro a hs) | refine sxc hs ?_ | (refine sxa hs hw ?_; clear hs hw; intro a b W hw hs) | (refine sxs hs hw ?_; clear hs hw; intro W hs hw))
    refine st_again (_, 2) hs hw (by show 2 ≤ 3; decide) (by show 3 - 2 < 3 - 1; decide) ⟨rfl, rfl, rfl, rfl, rfl, trivial⟩
  · repeat (first | (refine sxv hs hw ?_; clear hs; intro a hs) | refine sxc hs ?_ | (refine sxa hs hw ?_; clear hs hw; intro a b W hw hs) | (refine sxs hs hw ?_; clear hs hw; intro W hs hw))
    refine st_index_at hs (h0 := by decide) (h1 := by decide) (c := ?_); clear hs; intro a hs
    repeat (first | (refine sxv hs hw ?_; clear hs; intro a hs) | refine sxc hs ?_ | (refine sxa hs hw ?_; clear hs hw; intro a b W hw hs) | (refine sxs hs hw ?_; clear hs hw; intro W hs hw))
    refine st_call hs (hc := num_Put w _ _ (headAt c q l.length 2) (l.length : Int) _ (by omega) (by omega) (by have := headAt_le c q l.length 2; omega) hw) (k := ?_); rintro e0 W1 ⟨ad, cap, rfl, hw1⟩; refine ⟨_, rfl, ?_⟩; clear hs hw; intro a hs; have hw := hw1; clear hw1
    repeat (first | (refine sxv hs hw ?_; clear hs; intro a hs) | refine sxc hs ?_ | (refine sxa hs hw ?_; clear hs hw; intro a b W hw hs) | (refine sxs hs hw ?_; clear hs hw; intro W hs hw))
    refine st_again (_, 3) hs hw (by show 3 ≤ 3; decide) (by show 3 - 3 < 3 - 2; decide) ⟨rfl, rfl, rfl, rfl, rfl, trivial⟩
  · -- BEHIND
    repeat (first | (refine sxv hs hw ?_; clear hs; intro a hs) | refine sxc hs ?_ | (refine sxa hs hw ?_; clear hs hw; intro a b W hw hs) | (refine sxs hs hw ?_; clear hs hw; intro W hs hw))
    refine st_loop (σ := Value × Nat) (fun s => [(3, s.1), (26, .slice sad l.length scap), (27, .int .i64 (l.length : Int)), (28, .int .i64 (s.2 : Int))]) (fun s => Sx.OwnB 5 s.1 (headB c q l.length ++ (l.take s.2).flatMap opB) :: Cells b2 [.int .i64 c, .int .i64 q, .int .i64 (l.length : Int)] 2 :: Cells b1 [.int .i64 c, .int .i64 q, .slice sad l.length scap] 33 :: Old w 0 :: []) (fun s => s.2 ≤ l.length) (fun s => l.length - s.2) (v, 0) (Nat.zero_le _) hs ⟨rfl, rfl, rfl, rfl, trivial⟩ (by rw [show (headB c q l.length ++ (l.take 0).flatMap opB) = headAt c q l.length 3 from by simp [headAt]]; exact hw) ?_
    clear hs hw hi
    rintro ⟨v, i⟩ a W hi hs hw
    simp only at hi hs hw
    repeat (first | (refine sxv hs hw ?_; clear hs; intro a hs) | refine sxc hs ?_ | (refine sxa hs hw ?_; clear hs hw; intro a b W hw hs) | (refine sxs hs hw ?_; clear hs hw; intro W hs hw))
    refine cd_split hs (kt := fun hc => ?_) (kf := fun hc => ?_)
    · have hi' : i < l.length := by simpa using hc
      obtain ⟨o, hoi⟩ : ∃ o, l[i]? = some o := ⟨l[i], List.getElem?_eq_getElem hi'⟩
      have hok := ho o (List.mem_of_getElem? hoi)
      have hacc : (headB c q l.length ++ (l.take i).flatMap opB).length ≤ 320000030 := by
        have h1 := headB_le c q l.length
        have h2 := ops_le (l := l.take i) fun x hx => ho x (List.mem_of_mem_take hx)
        rw [List.length_take] at h2
        rw [List.length_append]; omega
      have hnext : headB c q l.length ++ (l.take (i + 1)).flatMap opB = headB c q l.length ++ (l.take i).flatMap opB ++ opB o := by
        rw [List.take_add_one, hoi, List.flatMap_append, List.append_assoc]; simp
      generalize headB c q l.length ++ (l.take i).flatMap opB = acc at *
      have hp1 := Ph.putI_length_le o.kind
      have hp2 := putT_le o.key
      have hp3 := putR_le o.vk o.vn o.vs
      obtain ⟨hk, hvk, hvn, hok', hon, hn, hkey, hvs, hos⟩ := hok
      repeat (first | (refine sxv hs hw ?_; clear hs; intro a hs) | refine sxc hs ?_ | (refine sxa hs hw ?_; clear hs hw; intro a b W hw hs) | (refine sxs hs hw ?_; clear hs hw; intro W hs hw))
      refine st_index_op hs (r := hw.rd (by repeat (first | exact In.hd | apply In.tl)) hw.ext.size r) (ho := hoi) (c := ?_); clear hs; intro a p off hpc hs
      refine st_load_ats (z := opCells ⟨0, ⟨#[]⟩, 0, 0, ⟨#[]⟩, 0, 0, ⟨#[]⟩, 0⟩) hs (hc := hpc) (hl := rfl) (c := ?_); clear hs; intro a hs
      obtain ⟨kind, key, vk, vn, vs, ok, on, os, n⟩ := o
      simp only at hk hvk hvn hok' hon hn hkey hvs hos hp1 hp2 hp3
      simp only [opCells] at hs
      clear hpc
      repeat (first | (refine sxv hs hw ?_; clear hs; intro a hs) | refine sxc hs ?_ | (refine sxa hs hw ?_; clear hs hw; intro a b W hw hs) | (refine sxs hs hw ?_; clear hs hw; intro W hs hw))
      obtain ⟨b4, q4⟩ := nm1 hw; subst q4
      have hw : Has 0 w _ (Cells b4 [.int .i64 kind, .string key, .int .i64 vk, .int .i64 vn, .string vs, .int .i64 ok, .int .i64 on, .string os, .int .i64 n] 56 :: Sx.OwnB 5 v acc :: Cells b2 [.int .i64 c, .int .i64 q, .int .i64 (l.length : Int)] 2 :: Cells b1 [.int .i64 c, .int .i64 q, .slice sad l.length scap] 33 :: Old w 0 :: []) := hw
      have hw := hw.swap2
      refine rg_drawU (σ := Option Addr × Nat) (V := fun u => [v, .pointer (some ⟨b4, 0 + 0, none⟩), .int .i64 kind, (.slice (u 3).1 (acc ++ Ph.putI kind).length (u 3).2), .pointer (some ⟨b4, 0 + 1, none⟩), .string key, (.slice (u 6).1 (acc ++ Ph.putI kind ++ Ph.putT key.data.toList).length (u 6).2), (.slice (u 7).1 (acc ++ Ph.putI kind ++ Ph.putT key.data.toList).length (u 7).2)])
        (Rs := fun u D => (if D 7 then Sx.OwnB 5 (.slice (u 7).1 (acc ++ Ph.putI kind ++ Ph.putT key.data.toList).length (u 7).2) (acc ++ Ph.putI kind ++ Ph.putT key.data.toList) else if D 6 then Sx.OwnB 5 (.slice (u 6).1 (acc ++ Ph.putI kind ++ Ph.putT key.data.toList).length (u 6).2) (acc ++ Ph.putI kind ++ Ph.putT key.data.toList) else if D 3 then Sx.OwnB 5 (.slice (u 3).1 (acc ++ Ph.putI kind).length (u 3).2) (acc ++ Ph.putI kind) else Sx.OwnB 5 v acc) :: Cells b4 [.int .i64 kind, .string key, .int .i64 vk, .int .i64 vn, .string vs, .int .i64 ok, .int .i64 on, .string os, .int .i64 n] 56 :: Cells b2 [.int .i64 c, .int .i64 q, .int .i64 (l.length : Int)] 2 :: Cells b1 [.int .i64 c, .int .i64 q, .slice sad l.length scap] 33 :: Old w 0 :: []) (fun _ => (none, 0)) hs hw (hVu := ?vu_a) (ho := ⟨?_, ?_, ?_, ?c3_a, ?_, ?_, ?c6_a, ?c7_a, trivial⟩) (k := ?k_a)
      case vu_a =>
        intro u u' j h
        rcases j with _ | _ | _ | _ | _ | _ | _ | _ | j
        · rfl
        · rfl
        · rfl
        · simp [h]
        · rfl
        · rfl
        · simp [h]
        · simp [h]
        · rfl
      case c3_a =>
        intro u LD D a W hcl hi hp hs hw
        have h6 := Go.Sx.not_done hcl hi 6 (by kernel_rfl)
        have h7 := Go.Sx.not_done hcl h6 7 (by kernel_rfl)
        simp only [hi, h6, h7, Bool.false_eq_true, if_false] at hw
        refine st_call hs (hc := num_Put w _ _ acc kind _ hk.1 hk.2 (by omega) hw) (k := ?_); rintro e0 W1 ⟨ad, cap, rfl, hw1⟩; refine ⟨_, rfl, ?_⟩; clear hs hw; intro a hs; have hw := hw1; clear hw1
        repeat (first | (refine sxv hs hw ?_; clear hs; intro a hs) | refine sxc hs ?_ | (refine sxa hs hw ?_; clear hs hw; intro a b W hw hs) | (refine sxs hs hw ?_; clear hs hw; intro W hs hw))
        refine Or.inr ⟨(ad, cap), hs, ?_⟩
        show Has 0 w _ ((if (Nat.beq 7 3 || D 7) = true then _ else if (Nat.beq 6 3 || D 6) = true then _ else _) :: _)
        rw [h6, h7]
        exact hw
      case c6_a =>
        intro u LD D a W hcl hi hp hs hw
        have h7 := Go.Sx.not_done hcl hi 7 (by kernel_rfl)
        have h3 := Go.Sx.done hp 3 (by kernel_rfl)
        simp only [hi, h3, h7, Bool.false_eq_true, if_false, if_true] at hw
        refine st_call hs (hc := num_PutText w _ _ (acc ++ Ph.putI kind) key _ (by omega) (by rw [List.length_append]; omega) hw) (k := ?_); rintro e0 W1 ⟨ad, cap, rfl, hw1⟩; refine ⟨_, rfl, ?_⟩; clear hs hw; intro a hs; have hw := hw1; clear hw1
        repeat (first | (refine sxv hs hw ?_; clear hs; intro a hs) | refine sxc hs ?_ | (refine sxa hs hw ?_; clear hs hw; intro a b W hw hs) | (refine sxs hs hw ?_; clear hs hw; intro W hs hw))
        refine Or.inr ⟨(ad, cap), hs, ?_⟩
        show Has 0 w _ ((if (Nat.beq 7 6 || D 7) = true then _ else _) :: _)
        rw [h7]
        exact hw
      case c7_a =>
        intro u LD D a W hcl hi hp hs hw
        have h6 := Go.Sx.done hp 6 (by kernel_rfl)
        simp only [hi, h6, Bool.false_eq_true, if_false, if_true] at hw
        repeat (first | (refine sxv hs hw ?_; clear hs; intro a hs) | refine sxc hs ?_ | (refine sxa hs hw ?_; clear hs hw; intro a b W hw hs) | (refine sxs hs hw ?_; clear hs hw; intro W hs hw))
        exact Or.inr ⟨u 6, hs, hw⟩
      case k_a =>
        clear hs hw
        intro u a W hs hw
        replace hw : Has 0 w W (Sx.OwnB 5 (.slice (u 7).1 (acc ++ Ph.putI kind ++ Ph.putT key.data.toList).length (u 7).2) (acc ++ Ph.putI kind ++ Ph.putT key.data.toList) :: Cells b4 [.int .i64 kind, .string key, .int .i64 vk, .int .i64 vn, .string vs, .int .i64 ok, .int .i64 on, .string os, .int .i64 n] 56 :: Cells b2 [.int .i64 c, .int .i64 q, .int .i64 (l.length : Int)] 2 :: Cells b1 [.int .i64 c, .int .i64 q, .slice sad l.length scap] 33 :: Old w 0 :: []) := hw
        replace hs : Slots a 64 [(3, (.slice (u 7).1 (acc ++ Ph.putI kind ++ Ph.putT key.data.toList).length (u 7).2)), (7, .pointer (some ⟨b4, 0, none⟩)), (26, .slice sad l.length scap), (27, .int .i64 (l.length : Int)), (28, .int .i64 (i : Int))] := hs.of ⟨rfl, rfl, rfl, rfl, rfl, trivial⟩
        generalize (u 7).1 = ad1 at *
        generalize (u 7).2 = cap1 at *
        clear u
        have hlen2 : (acc ++ Ph.putI kind ++ Ph.putT key.data.toList).length ≤ 322000060 := by simp only [List.length_append]; omega
        generalize hA : acc ++ Ph.putI kind ++ Ph.putT key.data.toList = acc2 at *
        generalize Value.slice ad1 acc2.length cap1 = v at *
        repeat (first | (refine sxv hs hw ?_; clear hs; intro a hs) | refine sxc hs ?_ | (refine sxa hs hw ?_; clear hs hw; intro a b W hw hs) | (refine sxs hs hw ?_; clear hs hw; intro W hs hw))
        by_cases k3 : kind = 3
        · subst k3
          repeat (first | (refine sxv hs hw ?_; clear hs; intro a hs) | refine sxc hs ?_ | (refine sxa hs hw ?_; clear hs hw; intro a b W hw hs) | (refine sxs hs hw ?_; clear hs hw; intro W hs hw))
          refine rg_drawU (σ := Option Addr × Nat) (V := fun u => [v, .pointer (some ⟨b4, 0 + 2, none⟩), .agg ⟨[.int .i64 vk, .int .i64 vn, .string vs]⟩, (.slice (u 3).1 (acc2 ++ putR vk vn vs).length (u 3).2), .pointer (some ⟨b4, 0 + 5, none⟩), .agg ⟨[.int .i64 ok, .int .i64 on, .string os]⟩, (.slice (u 6).1 (acc2 ++ putR vk vn vs ++ putR ok on os).length (u 6).2), (.slice (u 7).1 (acc2 ++ putR vk vn vs ++ putR ok on os).length (u 7).2)])
            (Rs := fun u D => (if D 7 then Sx.OwnB 5 (.slice (u 7).1 (acc2 ++ putR vk vn vs ++ putR ok on os).length (u 7).2) (acc2 ++ putR vk vn vs ++ putR ok on os) else if D 6 then Sx.OwnB 5 (.slice (u 6).1 (acc2 ++ putR vk vn vs ++ putR ok on os).length (u 6).2) (acc2 ++ putR vk vn vs ++ putR ok on os) else if D 3 then Sx.OwnB 5 (.slice (u 3).1 (acc2 ++ putR vk vn vs).length (u 3).2) (acc2 ++ putR vk vn vs) else Sx.OwnB 5 v acc2) :: Cells b4 [.int .i64 3, .string key, .int .i64 vk, .int .i64 vn, .string vs, .int .i64 ok, .int .i64 on, .string os, .int .i64 n] 56 :: Cells b2 [.int .i64 c, .int .i64 q, .int .i64 (l.length : Int)] 2 :: Cells b1 [.int .i64 c, .int .i64 q, .slice sad l.length scap] 33 :: Old w 0 :: []) (fun _ => (none, 0)) hs hw (hVu := ?vu_b) (ho := ⟨?_, ?_, ?_, ?c3_b, ?_, ?_, ?c6_b, ?c7_b, trivial⟩) (k := ?k_b)
          case vu_b =>
            intro u u' j h
            rcases j with _ | _ | _ | _ | _ | _ | _ | _ | j
            · rfl
            · rfl
            · rfl
            · simp [h]
            · rfl
            · rfl
            · simp [h]
            · simp [h]
            · rfl
          case c3_b =>
            intro u LD D a W hcl hi hp hs hw
            have h6 := Go.Sx.not_done hcl hi 6 (by kernel_rfl)
            have h7 := Go.Sx.not_done hcl h6 7 (by kernel_rfl)
            simp only [hi, h6, h7, Bool.false_eq_true, if_false] at hw
            refine st_call hs (hc := value_Put w _ _ acc2 vk vn vs _ hvk.1 hvk.2 hvn.1 hvn.2 (by omega) (by omega) hw) (k := ?_); rintro e0 W1 ⟨ad, cap, rfl, hw1⟩; refine ⟨_, rfl, ?_⟩; clear hs hw; intro a hs; have hw := hw1; clear hw1
            repeat (first | (refine sxv hs hw ?_; clear hs; intro a hs) | refine sxc hs ?_ | (refine sxa hs hw ?_; clear hs hw; intro a b W hw hs) | (refine sxs hs hw ?_; clear hs hw; intro W hs hw))
            refine Or.inr ⟨(ad, cap), hs, ?_⟩
            show Has 0 w _ ((if (Nat.beq 7 3 || D 7) = true then _ else if (Nat.beq 6 3 || D 6) = true then _ else _) :: _)
            rw [h6, h7]
            exact hw
          case c6_b =>
            intro u LD D a W hcl hi hp hs hw
            have h7 := Go.Sx.not_done hcl hi 7 (by kernel_rfl)
            have h3 := Go.Sx.done hp 3 (by kernel_rfl)
            simp only [hi, h3, h7, Bool.false_eq_true, if_false, if_true] at hw
            refine st_call hs (hc := value_Put w _ _ (acc2 ++ putR vk vn vs) ok on os _ hok'.1 hok'.2 hon.1 hon.2 (by omega) (by rw [List.length_append]; omega) hw) (k := ?_); rintro e0 W1 ⟨ad, cap, rfl, hw1⟩; refine ⟨_, rfl, ?_⟩; clear hs hw; intro a hs; have hw := hw1; clear hw1
            repeat (first | (refine sxv hs hw ?_; clear hs; intro a hs) | refine sxc hs ?_ | (refine sxa hs hw ?_; clear hs hw; intro a b W hw hs) | (refine sxs hs hw ?_; clear hs hw; intro W hs hw))
            refine Or.inr ⟨(ad, cap), hs, ?_⟩
            show Has 0 w _ ((if (Nat.beq 7 6 || D 7) = true then _ else _) :: _)
            rw [h7]
            exact hw
          case c7_b =>
            intro u LD D a W hcl hi hp hs hw
            have h6 := Go.Sx.done hp 6 (by kernel_rfl)
            simp only [hi, h6, Bool.false_eq_true, if_false, if_true] at hw
            repeat (first | (refine sxv hs hw ?_; clear hs; intro a hs) | refine sxc hs ?_ | (refine sxa hs hw ?_; clear hs hw; intro a b W hw hs) | (refine sxs hs hw ?_; clear hs hw; intro W hs hw))
            exact Or.inr ⟨u 6, hs, hw⟩
          case k_b =>
            clear hs hw
            intro u a W hs hw
            replace hw : Has 0 w W (Sx.OwnB 5 (.slice (u 7).1 (acc2 ++ putR vk vn vs ++ putR ok on os).length (u 7).2) (acc2 ++ putR vk vn vs ++ putR ok on os) :: Cells b4 [.int .i64 3, .string key, .int .i64 vk, .int .i64 vn, .string vs, .int .i64 ok, .int .i64 on, .string os, .int .i64 n] 56 :: Cells b2 [.int .i64 c, .int .i64 q, .int .i64 (l.length : Int)] 2 :: Cells b1 [.int .i64 c, .int .i64 q, .slice sad l.length scap] 33 :: Old w 0 :: []) := hw
            replace hs : Slots a 64 [(3, (.slice (u 7).1 (acc2 ++ putR vk vn vs ++ putR ok on os).length (u 7).2)), (7, .pointer (some ⟨b4, 0, none⟩)), (26, .slice sad l.length scap), (27, .int .i64 (l.length : Int)), (28, .int .i64 (i : Int))] := hs.of ⟨rfl, rfl, rfl, rfl, rfl, trivial⟩
            generalize (u 7).1 = ad1 at *
            generalize (u 7).2 = cap1 at *
            clear u
            have hw := hw.drop2
            repeat (first | (refine sxv hs hw ?_; clear hs; intro a hs) | refine sxc hs ?_ | (refine sxa hs hw ?_; clear hs hw; intro a b W hw hs) | (refine sxs hs hw ?_; clear hs hw; intro W hs hw))
            rw [show acc2 ++ putR vk vn vs ++ putR ok on os = acc ++ opB ⟨3, key, vk, vn, vs, ok, on, os, n⟩ from by rw [← hA]; simp [opB], ← hnext] at hs hw
            refine st_again (_, i + 1) hs hw (by show i + 1 ≤ l.length; omega) (by show l.length - (i + 1) < l.length - i; omega) ⟨rfl, rfl, rfl, int_eq (by show IntKind.i64.wrap ((i : Int) + 1) = ((i + 1 : Nat) : Int); rw [IntWalk.i64_in _ (by omega)]; omega), trivial⟩
          all_goals
            intro u LD D a W hcl hi hp hs hw
            repeat (first | (refine sxv hs hw ?_; clear hs; intro a hs) | refine sxc hs ?_ | (refine sxa hs hw ?_; clear hs hw; intro a b W hw hs) | (refine sxs hs hw ?_; clear hs hw; intro W hs hw))
            exact Or.inl ⟨hs, hw⟩
        have e3 : (kind == 3) = false := by simpa using k3
        rw [e3] at hs
        repeat (first | (refine sxv hs hw ?_; clear hs; intro a hs) | refine sxc hs ?_ | (refine sxa hs hw ?_; clear hs hw; intro a b W hw hs) | (refine sxs hs hw ?_; clear hs hw; intro W hs hw))
        by_cases k1 : kind = 1
        · subst k1
          repeat (first | (refine sxv hs hw ?_; clear hs; intro a hs) | refine sxc hs ?_ | (refine sxa hs hw ?_; clear hs hw; intro a b W hw hs) | (refine sxs hs hw ?_; clear hs hw; intro W hs hw))
          refine st_call hs (hc := value_Put w _ _ (acc2) vk vn vs _ hvk.1 hvk.2 hvn.1 hvn.2 (by omega) (by omega) hw) (k := ?_); rintro e0 W1 ⟨ad, cap, rfl, hw1⟩; refine ⟨_, rfl, ?_⟩; clear hs hw; intro a hs; have hw := hw1; clear hw1
          repeat (first | (refine sxv hs hw ?_; clear hs; intro a hs) | refine sxc hs ?_ | (refine sxa hs hw ?_; clear hs hw; intro a b W hw hs) | (refine sxs hs hw ?_; clear hs hw; intro W hs hw))
          have hw := hw.drop2
          repeat (first | (refine sxv hs hw ?_; clear hs; intro a hs) | refine sxc hs ?_ | (refine sxa hs hw ?_; clear hs hw; intro a b W hw hs) | (refine sxs hs hw ?_; clear hs hw; intro W hs hw))
          rw [show acc2 ++ putR vk vn vs = acc ++ opB ⟨1, key, vk, vn, vs, ok, on, os, n⟩ from by rw [← hA]; simp [opB], ← hnext] at hs hw
          refine st_again (_, i + 1) hs hw (by show i + 1 ≤ l.length; omega) (by show l.length - (i + 1) < l.length - i; omega) ⟨rfl, rfl, rfl, int_eq (by show IntKind.i64.wrap ((i : Int) + 1) = ((i + 1 : Nat) : Int); rw [IntWalk.i64_in _ (by omega)]; omega), trivial⟩
        have e1 : (kind == 1) = false := by simpa using k1
        rw [e1] at hs
        repeat (first | (refine sxv hs hw ?_; clear hs; intro a hs) | refine sxc hs ?_ | (refine sxa hs hw ?_; clear hs hw; intro a b W hw hs) | (refine sxs hs hw ?_; clear hs hw; intro W hs hw))
        by_cases k4 : kind = 4
        · subst k4
          repeat (first | (refine sxv hs hw ?_; clear hs; intro a hs) | refine sxc hs ?_ | (refine sxa hs hw ?_; clear hs hw; intro a b W hw hs) | (refine sxs hs hw ?_; clear hs hw; intro W hs hw))
          refine st_call hs (hc := num_Put w _ _ (acc2) n _ hn.1 hn.2 (by omega) hw) (k := ?_); rintro e0 W1 ⟨ad, cap, rfl, hw1⟩; refine ⟨_, rfl, ?_⟩; clear hs hw; intro a hs; have hw := hw1; clear hw1
          repeat (first | (refine sxv hs hw ?_; clear hs; intro a hs) | refine sxc hs ?_ | (refine sxa hs hw ?_; clear hs hw; intro a b W hw hs) | (refine sxs hs hw ?_; clear hs hw; intro W hs hw))
          have hw := hw.drop2
          repeat (first | (refine sxv hs hw ?_; clear hs; intro a hs) | refine sxc hs ?_ | (refine sxa hs hw ?_; clear hs hw; intro a b W hw hs) | (refine sxs hs hw ?_; clear hs hw; intro W hs hw))
          rw [show acc2 ++ Ph.putI n = acc ++ opB ⟨4, key, vk, vn, vs, ok, on, os, n⟩ from by rw [← hA]; simp [opB], ← hnext] at hs hw
          refine st_again (_, i + 1) hs hw (by show i + 1 ≤ l.length; omega) (by show l.length - (i + 1) < l.length - i; omega) ⟨rfl, rfl, rfl, int_eq (by show IntKind.i64.wrap ((i : Int) + 1) = ((i + 1 : Nat) : Int); rw [IntWalk.i64_in _ (by omega)]; omega), trivial⟩
        have e4 : (kind == 4) = false := by simpa using k4
        rw [e4] at hs
        repeat (first | (refine sxv hs hw ?_; clear hs; intro a hs) | refine sxc hs ?_ | (refine sxa hs hw ?_; clear hs hw; intro a b W hw hs) | (refine sxs hs hw ?_; clear hs hw; intro W hs hw))
        have hw := hw.drop2
        repeat (first | (refine sxv hs hw ?_; clear hs; intro a hs) | refine sxc hs ?_ | (refine sxa hs hw ?_; clear hs hw; intro a b W hw hs) | (refine sxs hs hw ?_; clear hs hw; intro W hs hw))
        rw [show acc2 = acc ++ opB ⟨kind, key, vk, vn, vs, ok, on, os, n⟩ from by rw [← hA]; simp [opB, k3, k1, k4], ← hnext] at hw
        refine st_again (_, i + 1) hs hw (by show i + 1 ≤ l.length; omega) (by show l.length - (i + 1) < l.length - i; omega) ⟨rfl, rfl, rfl, int_eq (by show IntKind.i64.wrap ((i : Int) + 1) = ((i + 1 : Nat) : Int); rw [IntWalk.i64_in _ (by omega)]; omega), trivial⟩
      all_goals
        intro u LD D a W hcl hi hp hs hw
        repeat (first | (refine sxv hs hw ?_; clear hs; intro a hs) | refine sxc hs ?_ | (refine sxa hs hw ?_; clear hs hw; intro a b W hw hs) | (refine sxs hs hw ?_; clear hs hw; intro W hs hw))
        exact Or.inl ⟨hs, hw⟩
    · have hi' : i = l.length := by simp at hc; omega
      subst hi'
      repeat (first | (refine sxv hs hw ?_; clear hs; intro a hs) | refine sxc hs ?_ | (refine sxa hs hw ?_; clear hs hw; intro a b W hw hs) | (refine sxs hs hw ?_; clear hs hw; intro W hs hw))
      rw [List.take_length] at hw
      have hw := hw.sub (List.Sublist.cons_cons _ (List.Sublist.cons _ (List.Sublist.cons _ (List.Sublist.refl _))))
      obtain ⟨ad, cap, e⟩ : ∃ ad cap, v = .slice ad (textB c q l).length cap := hw.own_slice
      subst e
      exact rt1 hs rfl rfl ⟨ad, cap, rfl, hw⟩
end Go.Proofs.YtcfaicomnngegaaDoor.Sw

/-
  Sx, more: pieces in another order; a place that is free, and filled.
-/
set_option linter.unusedVariables false
namespace Go.Sx
theorem HasIn.under {W : World} {r : Res} {A B : List Res} (f : ∀ F, HasIn W A F → HasIn W B F) {F : Nat → Prop} : HasIn W (r :: A) F → HasIn W (r :: B) F :=
  fun ⟨F1, h1, h2, h3⟩ => ⟨F1, h1, h2, f _ h3⟩
theorem HasIn.perm {W : World} {A B : List Res} (p : A.Perm B) : ∀ {F : Nat → Prop}, HasIn W A F → HasIn W B F := by
  induction p with
  | nil => exact fun h => h
  | cons x _ ih => exact fun h => HasIn.under (fun F => ih) h
  | swap x y l => exact fun h => HasIn.swap h
  | trans _ _ ih1 ih2 => exact fun h => ih2 (ih1 h)
theorem Has.perm {G : Nat} {w W : World} {A B : List Res} (h : Has G w W A) (p : A.Perm B) : Has G w W B := ⟨h.ext, h.glob, h.has.perm p⟩
/-- A free place. -/
def Free : Res where
  ok _ _ := True
  loc _ _ _ _ h := h
theorem Has.free {G : Nat} {w W : World} {A : List Res} (h : Has G w W A) : Has G w W (Free :: A) :=
  ⟨h.ext, h.glob, fun _ => False, fun _ h => h.elim, trivial, h.has.mono fun b hb => ⟨hb, fun h => h⟩⟩
/-- The first piece takes another's place. -/
theorem HasIn.fill {W : World} {r q : Res} {L L' : List Res} (u : Upd q L r L') : ∀ {F : Nat → Prop}, HasIn W (r :: L) F → HasIn W L' F := by
  induction u with
  | hd =>
    rintro F ⟨F1, h1, h2, F2, h3, h4, h5⟩
    exact ⟨F1, h1, h2, h5.mono fun b hb => hb.1⟩
  | tl u ih => exact fun h => HasIn.under (fun F => ih) (HasIn.swap h)
theorem Has.fill {G : Nat} {w W : World} {r q : Res} {L L' : List Res} (h : Has G w W (r :: L)) (u : Upd q L r L') : Has G w W L' := ⟨h.ext, h.glob, h.has.fill u⟩
/-- A fact that goes along. -/
def Fact (p : Prop) : Res where
  ok _ _ := p
  loc _ _ _ _ h := h
theorem Has.fact {G : Nat} {w W : World} {A : List Res} {p : Prop} (h : Has G w W A) (hp : p) : Has G w W (Fact p :: A) :=
  ⟨h.ext, h.glob, fun _ => False, fun _ h => h.elim, hp, h.has.mono fun b hb => ⟨hb, fun h => h⟩⟩
theorem Has.told {G : Nat} {w W : World} {A : List Res} {p : Prop} (h : Has G w W A) (i : In (Fact p) A) : p := by
  obtain ⟨F, _, h2⟩ := h.of_in i
  exact h2
section
variable {P : Program} {ops : Array Oper} {rest : List Oper} {Q : Exit → Act → World → Prop} {a : Act} {n G : Nat} {L : List (Nat × Value)} {w W W' : World} {R : List Res} {d k cap : Nat} {T S S' E : TypeId} {p : String} {e : Array Edge} {x y : Operand} {ad : Option Addr}
/-- A slice against nil. -/
theorem st_eqnil [sl : Sl P S E] (hs : Slots a n L) (hx : ev L x = some (.slice ad k cap) := by with_unfolding_all exact rfl) (hd : Nat.blt d n = true := by with_unfolding_all exact rfl)
    (c : ∀ a', Slots a' n ((d, .bool ad.isNone) :: L) → wpList P ops Q rest a' W) : wpList P ops Q (⟨some d, .binOp .eql S x (.const (.slice none 0 0)) S', T, p, e, none⟩ :: rest) a W := by
  refine st_value hs hd (W' := W) ?_ c
  have h1 : ∀ d, (Op.equalIn (d + 1) S (.slice ad k cap) (.slice none 0 0)).run P W = .ok ad.isNone W := fun d => by
    cases ad <;> simp [Op.equalIn, run_underlying sl.out]
  have h2 : (binOp .eql S (.slice ad k cap) (.slice none 0 0)).run P W = .ok (.bool ad.isNone) W := by
    simp only [binOp, Op.equal, Sem.run_bind]
    rw [show Op.maxDepth = 9999 + 1 from rfl, h1 9999]
    rfl
  have h3 : a.eval (.const (.slice none 0 0)) = .slice none 0 0 := rfl
  simp only [execOp, hs.ev hx, h3, Sem.run_bind]
  simp [eqGuard, h2]
/-- A text's first bytes. -/
theorem st_slice_str_hi {s : ByteArray} {q : IntKind} {i : Int} {hi : Operand} [t : StrTy P S] (hs : Slots a n L) (hx : ev L x = some (.string s) := by with_unfolding_all exact rfl) (hh : ev L hi = some (.int q i) := by with_unfolding_all exact rfl) (h0 : 0 ≤ i) (h1 : i ≤ s.size) (hd : Nat.blt d n = true := by with_unfolding_all exact rfl)
    (c : ∀ a', Slots a' n ((d, .string (s.extract 0 i.toNat)) :: L) → wpList P ops Q rest a' W) : wpList P ops Q (⟨some d, .slice S x none (some hi) none, T, p, e, none⟩ :: rest) a W := by
  refine st_value hs hd (W' := W) ?_ c
  simp only [execOp, Option.map_some, Option.map_none, hs.ev hx, hs.ev hh]
  simp only [Sem.run_bind, run_sliceAt_string (h := t.out), run_slice_string_h (ht := t.out) (h0 := h0) (h2 := h1), Result.andThen_ok]
  rfl
end
end Go.Sx

/-
  The walk of packhorselaw5.Cut: operations that are not too many and long.
-/
set_option linter.unusedVariables false
set_option maxRecDepth 10000
namespace Go.Proofs.YtcfaicomnngegaaDoor.Sw
open Go.RowKit Go.Sx

theorem law4_CutS (k n : Int) (s : ByteArray) (w : World) (hs0 : s.size ≤ 9223372036854775807) :
    Calls Tryd.prog 54 ⟨[.agg #[.int .i64 k, .int .i64 n, .string s]]⟩ w fun e w' => e = .returned (.agg ⟨[.int .i64 k, .int .i64 n, .string (cutS s 220)]⟩) ∧ Below w.heap.size w w' := by
  have hw := Has.start (G := 0) (w := w) (Nat.zero_le _)
  refine enter Tryd.func54 Tryd.ntmps54 rfl rfl fun a hs => ?_
  repeat (first | (refine sxv hs hw ?_; clear hs; intro a hs) | refine sxc hs ?_ | (refine sxa hs hw ?_; clear hs hw; intro a b W hw hs) | (refine sxs hs hw ?_; clear hs hw; intro W hs hw))
  refine st_call hs (hc := law1_Cut s 220 _ hs0 (by decide)) (k := ?_); rintro e0 W1 ⟨rfl, rfl⟩; refine ⟨_, rfl, ?_⟩; clear hs; intro a hs
  rw [show (220 : Int).toNat = 220 from rfl] at hs
  repeat (first | (refine sxv hs hw ?_; clear hs; intro a hs) | refine sxc hs ?_ | (refine sxa hs hw ?_; clear hs hw; intro a b W hw hs) | (refine sxs hs hw ?_; clear hs hw; intro W hs hw))
  refine rc1 hs rfl rfl hw (by repeat (first | exact In.hd | apply In.tl)) rfl ?_
  exact ⟨rfl, hw.end (by repeat (first | exact In.hd | apply In.tl))⟩

def cutO (o : OpD) : OpD := ⟨o.kind, cutS o.key 90, o.vk, o.vn, cutS o.vs 220, o.ok, o.on, cutS o.os 220, o.n⟩
def cutD (l : List OpD) : List OpD := (l.take 10).map cutO

set_option maxHeartbeats 8000000 in
theorem law5_Cut (l : List OpD) (sv : Value) (w : World) (hz : ∀ o ∈ l, o.key.size ≤ 9223372036854775807 ∧ o.vs.size ≤ 9223372036854775807 ∧ o.os.size ≤ 9223372036854775807) (r : Rd w 9 sv l.length (l.flatMap opCells)) :
    Calls Tryd.prog 38 ⟨[sv]⟩ w fun e w' => ∃ ad cap, e = .returned (.slice ad (cutD l).length cap) ∧ Has 0 w w' (Sx.Own 56 9 (.slice ad (cutD l).length cap) (cutD l).length ((cutD l).flatMap opCells) :: Old w 0 :: []) := by
  have hw := Has.start (G := 0) (w := w) (Nat.zero_le _)
  obtain ⟨sad, scap, rfl⟩ : ∃ ad cap, sv = .slice ad l.length cap := by obtain ⟨_, ad, cap, e, _⟩ := r; exact ⟨ad, cap, e⟩
  have hlen : l.length ≤ 9223372036854775807 := r.len
  refine enter Tryd.func38 Tryd.ntmps38 rfl rfl fun a hs => ?_
  repeat (first | (refine sxv hs hw ?_; clear hs; intro a hs) | refine sxc hs ?_ | (refine sxa hs hw ?_; clear hs hw; intro a b W hw hs) | (refine sxs hs hw ?_; clear hs hw; intro W hs hw))
  have hw : Has 0 w w (Sx.Own 56 9 (.slice none 0 0) (cutD (l.take 0)).length ((cutD (l.take 0)).flatMap opCells) :: Old w 0 :: []) := hw.nilOwn _ _
  refine st_loop (σ := Value × Nat) (fun s => [(0, .slice sad l.length scap), (3, s.1), (4, .int .i64 (s.2 : Int))]) (fun s => Sx.Own 56 9 s.1 (cutD (l.take s.2)).length ((cutD (l.take s.2)).flatMap opCells) :: Old w 0 :: []) (fun s => s.2 ≤ l.length ∧ s.2 ≤ 10) (fun s => l.length - s.2) (.slice none 0 0, 0) ⟨Nat.zero_le _, Nat.zero_le _⟩ hs ⟨rfl, rfl, rfl, trivial⟩ hw ?_
  clear hs hw
  rintro ⟨v, i⟩ a W ⟨hi, hi10⟩ hs hw
  simp only at hi hi10 hs hw
  repeat (first | (refine sxv hs hw ?_; clear hs; intro a hs) | refine sxc hs ?_ | (refine sxa hs hw ?_; clear hs hw; intro a b W hw hs) | (refine sxs hs hw ?_; clear hs hw; intro W hs hw))
  by_cases c1 : i < l.length
  · have e1 : decide ((i : Int) < (l.length : Int)) = true := by simp; omega
    rw [e1] at hs
    repeat (first | (refine sxv hs hw ?_; clear hs; intro a hs) | refine sxc hs ?_ | (refine sxa hs hw ?_; clear hs hw; intro a b W hw hs) | (refine sxs hs hw ?_; clear hs hw; intro W hs hw))
    by_cases c2 : i < 10
    · have e2 : decide ((i : Int) < 10) = true := by simp; omega
      rw [e2] at hs
      obtain ⟨o, hoi⟩ : ∃ o, l[i]? = some o := ⟨l[i], List.getElem?_eq_getElem c1⟩
      have hz' := hz o (List.mem_of_getElem? hoi)
      have hnext : cutD (l.take (i + 1)) = cutD (l.take i) ++ [cutO o] := by
        unfold cutD
        rw [List.take_take, List.take_take, Nat.min_eq_right (by omega : i + 1 ≤ 10), Nat.min_eq_right (by omega : i ≤ 10), List.take_add_one, hoi]
        simp
      repeat (first | (refine sxv hs hw ?_; clear hs; intro a hs) | refine sxc hs ?_ | (refine sxa hs hw ?_; clear hs hw; intro a b W hw hs) | (refine sxs hs hw ?_; clear hs hw; intro W hs hw))
      refine st_index_op hs (r := hw.rd (by repeat (first | exact In.hd | apply In.tl)) hw.ext.size r) (ho := hoi) (c := ?_); clear hs; intro a p off hpc hs
      refine st_load_ats (z := opCells ⟨0, ⟨#[]⟩, 0, 0, ⟨#[]⟩, 0, 0, ⟨#[]⟩, 0⟩) hs (hc := hpc) (hl := rfl) (c := ?_); clear hs; intro a hs
      obtain ⟨kind, key, vk, vn, vs, ok, on, os, n⟩ := o
      simp only at hz'
      simp only [opCells] at hs
      clear hpc
      repeat (first | (refine sxv hs hw ?_; clear hs; intro a hs) | refine sxc hs ?_ | (refine sxa hs hw ?_; clear hs hw; intro a b W hw hs) | (refine sxs hs hw ?_; clear hs hw; intro W hs hw))
      obtain ⟨b4, q4⟩ := nm1 hw; subst q4
      refine rg_draw (V := [.pointer (some ⟨b4, 0 + 1, none⟩), .string key, .string (cutS key 90), .pointer (some ⟨b4, 0 + 2, none⟩), .agg ⟨[.int .i64 vk, .int .i64 vn, .string vs]⟩, .agg ⟨[.int .i64 vk, .int .i64 vn, .string (cutS vs 220)]⟩, .pointer (some ⟨b4, 0 + 5, none⟩), .agg ⟨[.int .i64 ok, .int .i64 on, .string os]⟩, .agg ⟨[.int .i64 ok, .int .i64 on, .string (cutS os 220)]⟩, .pointer (some ⟨b4, 0 + 1, none⟩), .bool true, .pointer (some ⟨b4, 0 + 2, none⟩), .bool true, .pointer (some ⟨b4, 0 + 5, none⟩), .bool true])
        (Rs := fun D => Cells b4 [.int .i64 kind, .string (if D 10 then cutS key 90 else key), .int .i64 vk, .int .i64 vn, .string (if D 12 then cutS vs 220 else vs), .int .i64 ok, .int .i64 on, .string (if D 14 then cutS os 220 else os), .int .i64 n] 56 :: Sx.Own 56 9 v (cutD (l.take i)).length ((cutD (l.take i)).flatMap opCells) :: Old w 0 :: []) hs hw (ho := ⟨?_, ?c1_a, ?c2_a, ?_, ?c4_a, ?c5_a, ?_, ?c7_a, ?c8_a, ?_, ?_, ?_, ?_, ?_, ?_, trivial⟩) (k := ?k_a)
      case c1_a =>
        intro LD D a W hcl hi hp hs hw
        have h2 := Go.Sx.not_done hcl hi 2 (by kernel_rfl)
        have h10 := Go.Sx.not_done hcl h2 10 (by kernel_rfl)
        have hw0 := hw
        simp only [h10, Bool.false_eq_true, if_false] at hw
        repeat (first | (refine sxv hs hw ?_; clear hs; intro a hs) | refine sxc hs ?_ | (refine sxa hs hw ?_; clear hs hw; intro a b W hw hs) | (refine sxs hs hw ?_; clear hs hw; intro W hs hw))
        exact ⟨hs, hw0⟩
      case c4_a =>
        intro LD D a W hcl hi hp hs hw
        have h2 := Go.Sx.not_done hcl hi 5 (by kernel_rfl)
        have h10 := Go.Sx.not_done hcl h2 12 (by kernel_rfl)
        have hw0 := hw
        simp only [h10, Bool.false_eq_true, if_false] at hw
        repeat (first | (refine sxv hs hw ?_; clear hs; intro a hs) | refine sxc hs ?_ | (refine sxa hs hw ?_; clear hs hw; intro a b W hw hs) | (refine sxs hs hw ?_; clear hs hw; intro W hs hw))
        exact ⟨hs, hw0⟩
      case c7_a =>
        intro LD D a W hcl hi hp hs hw
        have h2 := Go.Sx.not_done hcl hi 8 (by kernel_rfl)
        have h10 := Go.Sx.not_done hcl h2 14 (by kernel_rfl)
        have hw0 := hw
        simp only [h10, Bool.false_eq_true, if_false] at hw
        repeat (first | (refine sxv hs hw ?_; clear hs; intro a hs) | refine sxc hs ?_ | (refine sxa hs hw ?_; clear hs hw; intro a b W hw hs) | (refine sxs hs hw ?_; clear hs hw; intro W hs hw))
        exact ⟨hs, hw0⟩
      case c2_a =>
        intro LD D a W hcl hi hp hs hw
        refine st_call hs (hc := law1_Cut key 90 _ hz'.1 (by decide)) (k := ?_); rintro e0 W1 ⟨rfl, rfl⟩; refine ⟨_, rfl, ?_⟩; clear hs; intro a hs
        rw [show (90 : Int).toNat = 90 from rfl] at hs
        repeat (first | (refine sxv hs hw ?_; clear hs; intro a hs) | refine sxc hs ?_ | (refine sxa hs hw ?_; clear hs hw; intro a b W hw hs) | (refine sxs hs hw ?_; clear hs hw; intro W hs hw))
        exact ⟨hs, hw⟩
      case c5_a =>
        intro LD D a W hcl hi hp hs hw
        refine st_call hs (hc := law4_CutS vk vn vs _ hz'.2.1) (k := ?_); rintro e0 W1 ⟨rfl, hb⟩; refine ⟨_, rfl, ?_⟩; clear hs; intro a hs; replace hw := hw.below hb; clear hb
        repeat (first | (refine sxv hs hw ?_; clear hs; intro a hs) | refine sxc hs ?_ | (refine sxa hs hw ?_; clear hs hw; intro a b W hw hs) | (refine sxs hs hw ?_; clear hs hw; intro W hs hw))
        exact ⟨hs, hw⟩
      case c8_a =>
        intro LD D a W hcl hi hp hs hw
        refine st_call hs (hc := law4_CutS ok on os _ hz'.2.2) (k := ?_); rintro e0 W1 ⟨rfl, hb⟩; refine ⟨_, rfl, ?_⟩; clear hs; intro a hs; replace hw := hw.below hb; clear hb
        repeat (first | (refine sxv hs hw ?_; clear hs; intro a hs) | refine sxc hs ?_ | (refine sxa hs hw ?_; clear hs hw; intro a b W hw hs) | (refine sxs hs hw ?_; clear hs hw; intro W hs hw))
        exact ⟨hs, hw⟩
      case k_a =>
        clear hs hw
        intro a W hs hw
        replace hw : Has 0 w W (Cells b4 (opCells (cutO ⟨kind, key, vk, vn, vs, ok, on, os, n⟩)) 56 :: Sx.Own 56 9 v (cutD (l.take i)).length ((cutD (l.take i)).flatMap opCells) :: Old w 0 :: []) := hw
        repeat (first | (refine sxv hs hw ?_; clear hs; intro a hs) | refine sxc hs ?_ | (refine sxa hs hw ?_; clear hs hw; intro a b W hw hs) | (refine sxs hs hw ?_; clear hs hw; intro W hs hw))
        have hk : (cutD (l.take i)).length ≤ 10 := by unfold cutD; simp; omega
        refine st_append_lit hs hw (k := (cutD (l.take i)).length) (h63 := by omega) (hb := by omega) (c := ?_)
        clear hs hw; intro a ad cap W hs hw
        repeat (first | (refine sxv hs hw ?_; clear hs; intro a hs) | refine sxc hs ?_ | (refine sxa hs hw ?_; clear hs hw; intro a b W hw hs) | (refine sxs hs hw ?_; clear hs hw; intro W hs hw))
        replace hw := hw.sub (List.Sublist.cons _ (List.Sublist.cons _ (List.Sublist.refl _)))
        have hL : (cutD (l.take i)).length + 1 = (cutD (l.take (i + 1))).length := by rw [hnext]; simp
        have hw' : Has 0 w W (Sx.Own 56 9 (.slice ad (cutD (l.take (i + 1))).length cap) (cutD (l.take (i + 1))).length ((cutD (l.take (i + 1))).flatMap opCells) :: Old w 0 :: []) := by
          rw [← hL, hnext, List.flatMap_append, List.flatMap_singleton]; exact hw
        rw [hL] at hs
        exact st_again (_, i + 1) hs hw' ⟨by show i + 1 ≤ l.length; omega, by show i + 1 ≤ 10; omega⟩ (by show l.length - (i + 1) < l.length - i; omega) ⟨rfl, rfl, int_eq (by show IntKind.i64.wrap ((i : Int) + 1) = ((i + 1 : Nat) : Int); rw [IntWalk.i64_in _ (by omega)]; omega), trivial⟩
      all_goals
        intro LD D a W hcl hi hp hs hw
        repeat (first | (refine sxv hs hw ?_; clear hs; intro a hs) | refine sxc hs ?_ | (refine sxa hs hw ?_; clear hs hw; intro a b W hw hs) | (refine sxs hs hw ?_; clear hs hw; intro W hs hw))
        exact ⟨hs, hw⟩
    · have e2 : decide ((i : Int) < 10) = false := by simp; omega
      rw [e2] at hs
      repeat (first | (refine sxv hs hw ?_; clear hs; intro a hs) | refine sxc hs ?_ | (refine sxa hs hw ?_; clear hs hw; intro a b W hw hs) | (refine sxs hs hw ?_; clear hs hw; intro W hs hw))
      obtain rfl : i = 10 := by omega
      have hD : cutD (l.take 10) = cutD l := by unfold cutD; rw [List.take_take]; rfl
      rw [hD] at hw
      obtain ⟨ad, cap, rfl⟩ := hw.own_slice
      exact rt1 hs rfl rfl ⟨ad, cap, rfl, hw⟩
  · have e1 : decide ((i : Int) < (l.length : Int)) = false := by simp; omega
    rw [e1] at hs
    repeat (first | (refine sxv hs hw ?_; clear hs; intro a hs) | refine sxc hs ?_ | (refine sxa hs hw ?_; clear hs hw; intro a b W hw hs) | (refine sxs hs hw ?_; clear hs hw; intro W hs hw))
    obtain rfl : i = l.length := by omega
    rw [List.take_length] at hw
    obtain ⟨ad, cap, rfl⟩ := hw.own_slice
    exact rt1 hs rfl rfl ⟨ad, cap, rfl, hw⟩
end Go.Proofs.YtcfaicomnngegaaDoor.Sw

/-
  Operations as they come in.
-/
set_option linter.unusedVariables false
namespace Go.Proofs.YtcfaicomnngegaaDoor.Sw
open Go.RowKit Go.Sx

/-- An operation as it comes in. -/
structure OpWf (o : OpD) : Prop where
  kind : (Lit.int .i64 o.kind).wf = true
  vk : (Lit.int .i64 o.vk).wf = true
  vn : (Lit.int .i64 o.vn).wf = true
  ok : (Lit.int .i64 o.ok).wf = true
  on : (Lit.int .i64 o.on).wf = true
  n : (Lit.int .i64 o.n).wf = true
  key : o.key.size ≤ maxLen
  vs : o.vs.size ≤ maxLen
  os : o.os.size ≤ maxLen
theorem max63 {n : Nat} (h : n ≤ maxLen) : n ≤ 9223372036854775807 := by
  have : (maxLen : Nat) ≤ 9223372036854775807 := by decide
  omega
theorem wf_i64 {n : Int} (h : (Lit.int .i64 n).wf = true) : i64 n := by
  have := (Lit.wf_int_iff .i64 n).1 h
  show -9223372036854775808 ≤ n ∧ n ≤ 9223372036854775807
  simpa [IntKind.min, IntKind.max, IntKind.signed, IntKind.bits] using this
theorem cutO_ok {o : OpD} (h : OpWf o) : OpOk (cutO o) := by
  have h1 := cutS_size o.key 90
  have h2 := cutS_size o.vs 220
  have h3 := cutS_size o.os 220
  exact ⟨wf_i64 h.kind, wf_i64 h.vk, wf_i64 h.vn, wf_i64 h.ok, wf_i64 h.on, wf_i64 h.n, by show (cutS o.key 90).size ≤ _; omega, by show (cutS o.vs 220).size ≤ _; omega, by show (cutS o.os 220).size ≤ _; omega⟩
theorem cutD_ok {l : List OpD} (h : ∀ o ∈ l, OpWf o) : ∀ o ∈ cutD l, OpOk o := by
  intro o ho
  obtain ⟨x, hx, rfl⟩ := List.mem_map.1 ho
  exact cutO_ok (h x (List.mem_of_mem_take hx))
theorem wf_sizes {l : List OpD} (h : ∀ o ∈ l, OpWf o) : ∀ o ∈ l, o.key.size ≤ 9223372036854775807 ∧ o.vs.size ≤ 9223372036854775807 ∧ o.os.size ≤ 9223372036854775807 :=
  fun o ho => ⟨max63 (h o ho).key, max63 (h o ho).vs, max63 (h o ho).os⟩
end Go.Proofs.YtcfaicomnngegaaDoor.Sw

/-
  An operation, and a batch, among the arguments: opened into what the walks read.
-/
set_option linter.unusedVariables false
set_option maxRecDepth 10000
namespace Go.Proofs.YtcfaicomnngegaaDoor
open Go.ChangeShapes Go.WideShapes Go.ChangeAt Go.RowKit Go.Lib Go.Sx Go.Proofs Go.Deep
open Sw Go.Joins

theorem list9 {α : Type} {l : List α} (h : l.length = 9) : ∃ c0 c1 c2 c3 c4 c5 c6 c7 c8, l = [c0, c1, c2, c3, c4, c5, c6, c7, c8] := by
  match l, h with
  | [c0, c1, c2, c3, c4, c5, c6, c7, c8], _ => exact ⟨c0, c1, c2, c3, c4, c5, c6, c7, c8, rfl⟩

section
variable {H : Type} {enc : TypeId × Value → H} {w : World} {base : Nat} {spare : Nat → Bool} {held : Bool}
theorem open_raw_cells {fuel : Nat} {v0 v1 v2 : Value} {x : DataW H × List MemPlace} (h : DataW.trod enc Tryd.prog w base spare held fuel 54 [v0, v1, v2] = some x) :
    ∃ (k n : Int) (s : ByteArray), v0 = .int .i64 k ∧ v1 = .int .i64 n ∧ v2 = .string s ∧ (Lit.int .i64 k).wf = true ∧ (Lit.int .i64 n).wf = true ∧ s.size ≤ maxLen := by
  obtain ⟨xs, n, _, rfl, hl, hlen, hf⟩ := DataW.trod_struct Tryd.underlying54 h
  have c1 : Tryd.prog.cellsOf 3 = 1 := by kernel_rfl
  have c2 : Tryd.prog.cellsOf 2 = 1 := by kernel_rfl
  have c3 : Tryd.prog.cellsOf 9 = 1 := by kernel_rfl
  match xs, hlen with
  | [y0, y1, y2], _ =>
    have h0 := hf 0 _ rfl
    have h1 := hf 1 _ rfl
    have h2 := hf 2 _ rfl
    change DataW.trod enc _ w base spare held n 3 (([v0, v1, v2].drop 0).take (Tryd.prog.cellsOf 3)) = some y0 at h0
    change DataW.trod enc _ w base spare held n 2 (([v0, v1, v2].drop 1).take (Tryd.prog.cellsOf 2)) = some y1 at h1
    change DataW.trod enc _ w base spare held n 9 (([v0, v1, v2].drop 2).take (Tryd.prog.cellsOf 9)) = some y2 at h2
    rw [c1] at h0
    rw [c2] at h1
    rw [c3] at h2
    obtain ⟨k, e0, _, w0⟩ := DataW.trod_int Tryd.underlying3 h0
    obtain ⟨m, e1, _, w1⟩ := DataW.trod_int Tryd.underlying2 h1
    obtain ⟨s, e2, _, w2⟩ := DataW.trod_string Tryd.underlying9 h2
    simp at e0 e1 e2
    exact ⟨k, m, s, e0, e1, e2, w0, w1, w2⟩

theorem open_op_cells {fuel : Nat} {cs : List Value} {x : DataW H × List MemPlace} (h : DataW.trod enc Tryd.prog w base spare held fuel 56 cs = some x) :
    ∃ o : OpD, cs = opCells o ∧ OpWf o := by
  obtain ⟨xs, n, _, rfl, hl, hlen, hf⟩ := DataW.trod_struct Tryd.underlying56 h
  have c0 : Tryd.prog.cellsOf 56 = 9 := by kernel_rfl
  have c1 : Tryd.prog.cellsOf 3 = 1 := by kernel_rfl
  have c2 : Tryd.prog.cellsOf 2 = 1 := by kernel_rfl
  have c3 : Tryd.prog.cellsOf 9 = 1 := by kernel_rfl
  have c4 : Tryd.prog.cellsOf 54 = 3 := by kernel_rfl
  obtain ⟨v0, v1, v2, v3, v4, v5, v6, v7, v8, rfl⟩ := list9 (hl.trans c0)
  match xs, hlen with
  | [y0, y1, y2, y3, y4], _ =>
    have h0 := hf 0 _ rfl
    have h1 := hf 1 _ rfl
    have h2 := hf 2 _ rfl
    have h3 := hf 3 _ rfl
    have h4 := hf 4 _ rfl
    change DataW.trod enc _ w base spare held n 3 (([v0, v1, v2, v3, v4, v5, v6, v7, v8].drop 0).take (Tryd.prog.cellsOf 3)) = some y0 at h0
    change DataW.trod enc _ w base spare held n 9 (([v0, v1, v2, v3, v4, v5, v6, v7, v8].drop 1).take (Tryd.prog.cellsOf 9)) = some y1 at h1
    change DataW.trod enc _ w base spare held n 54 (([v0, v1, v2, v3, v4, v5, v6, v7, v8].drop 2).take (Tryd.prog.cellsOf 54)) = some y2 at h2
    change DataW.trod enc _ w base spare held n 54 (([v0, v1, v2, v3, v4, v5, v6, v7, v8].drop 5).take (Tryd.prog.cellsOf 54)) = some y3 at h3
    change DataW.trod enc _ w base spare held n 2 (([v0, v1, v2, v3, v4, v5, v6, v7, v8].drop 8).take (Tryd.prog.cellsOf 2)) = some y4 at h4
    rw [c1] at h0
    rw [c3] at h1
    rw [c4] at h2 h3
    rw [c2] at h4
    obtain ⟨k, e0, _, w0⟩ := DataW.trod_int Tryd.underlying3 h0
    obtain ⟨s, e1, _, w1⟩ := DataW.trod_string Tryd.underlying9 h1
    obtain ⟨vk, vn, vs, g0, g1, g2, u0, u1, u2⟩ := open_raw_cells (v0 := v2) (v1 := v3) (v2 := v4) h2
    obtain ⟨ok, on, os, g3, g4, g5, u3, u4, u5⟩ := open_raw_cells (v0 := v5) (v1 := v6) (v2 := v7) h3
    obtain ⟨m, e4, _, w4⟩ := DataW.trod_int Tryd.underlying2 h4
    simp at e0 e1 e4
    subst e0 e1 e4 g0 g1 g2 g3 g4 g5
    exact ⟨⟨k, s, vk, vn, vs, ok, on, os, m⟩, rfl, w0, u0, u1, u3, u4, w4, w1, u2, u5⟩

theorem open_op {r : Reach} {b0 : Nat} {v : Value} {d : DataW H} {p : List MemPlace} (hv : Value.okWide Tryd.prog w r b0 56 v) (h : DataW.Trod enc Tryd.prog w base spare held 56 v d p) :
    ∃ o : OpD, v = .agg ⟨opCells o⟩ ∧ OpWf o := by
  obtain ⟨cs, rfl, hsz⟩ := okWide_struct Tryd.underlying56 hv
  obtain ⟨fuel, hf⟩ := h
  obtain ⟨o, e, ho⟩ := open_op_cells hf
  refine ⟨o, ?_, ho⟩
  obtain ⟨l⟩ := cs
  simp only [Value.cells] at e
  rw [e]

instance : Inhabited OpD := ⟨⟨0, ⟨#[]⟩, 0, 0, ⟨#[]⟩, 0, 0, ⟨#[]⟩, 0⟩⟩
theorem flat_get : ∀ (l : List OpD) (j : Nat) (x : Value), (l.flatMap opCells)[j]? = some x → ∃ i o k, l[i]? = some o ∧ (opCells o)[k]? = some x ∧ j = i * 9 + k ∧ k < 9
  | [], j, x, h => by simp at h
  | o :: l, j, x, h => by
    rw [List.flatMap_cons, List.getElem?_append] at h
    split at h
    · rename_i hj
      exact ⟨0, o, j, rfl, h, by omega, hj⟩
    · rename_i hj
      have hL : (opCells o).length = 9 := rfl
      obtain ⟨i, o', k, h1, h2, h3, h4⟩ := flat_get l _ x h
      exact ⟨i + 1, o', k, by simpa using h1, h2, by omega, h4⟩
theorem flat_len (l : List OpD) : (l.flatMap opCells).length = l.length * 9 := by
  induction l with
  | nil => rfl
  | cons o l ih => rw [List.flatMap_cons, List.length_append, ih, List.length_cons]; show 9 + _ = _; omega

theorem open_ops {fuel : Nat} {cs : List Value} {x : DataW H × List MemPlace} (h : DataW.trod enc Tryd.prog w 0 spare held fuel 31 cs = some x) :
    ∃ (sv : Value) (l : List OpD), cs = [sv] ∧ (∀ o ∈ l, OpWf o) ∧ Rd w 9 sv l.length (l.flatMap opCells) := by
  have hlt := DataW.trod_lt _ _ _ _ h
  have c0 : Tryd.prog.cellsOf 56 = 9 := by kernel_rfl
  rcases open_slice Tryd.underlying31 h with ⟨rfl, -⟩ | ⟨a, len, cap, m, n, D, Pl, rfl, -, hl, hm, hmm, rfl, hx⟩
  · exact ⟨_, [], rfl, by simp, Rd.nil w 9 0 (by omega)⟩
  · have hlm : len ≤ m := by rw [hmm]; split <;> omega
    obtain ⟨O, hO⟩ := choose_lt (n := len) (α := OpD) (p := fun i o => OpWf o ∧ ∀ k u, (opCells o)[k]? = some u → w.cell? ((a.add (i * 9)).add k) = some u) fun i hi => by
      obtain ⟨cs', h1, h2⟩ := hx i (by omega)
      obtain ⟨o, rfl, ho⟩ := open_op_cells h2
      rw [c0] at h1
      obtain ⟨_, _, h3⟩ := World.cells?_some h1
      refine ⟨o, ho, fun k u hk => ?_⟩
      have hk9 : k < 9 := (List.getElem?_eq_some_iff.1 hk).1
      rw [h3 k hk9]; exact hk
    have hcap : cap ≤ 9223372036854775807 := max63 hm
    have hL : ((List.range len).map O).length = len := by simp
    refine ⟨_, (List.range len).map O, rfl, fun o ho => ?_, ?_⟩
    · obtain ⟨i, hi, rfl⟩ := List.mem_map.1 ho
      exact (hO i (List.mem_range.1 hi)).1
    · rw [hL]
      refine ⟨by rw [flat_len, hL], some a, cap, rfl, hl, hcap, ?_⟩
      rcases Nat.eq_zero_or_pos len with h0 | h0
      · exact .inl h0
      · right
        obtain ⟨b, off, spot⟩ := a
        have h00 := (hO 0 h0).2 0 (.int .i64 (O 0).kind) rfl
        have hspot : spot = none := by simpa [Addr.add] using World.cell?_spot h00
        subst hspot
        refine ⟨b, off, rfl, ?_, fun j x hj => ?_⟩
        · exact hlt (.cell b off) (List.mem_append_left _ (MemPlace.mem_row.2 ⟨0, by rw [c0]; omega, rfl⟩))
        · obtain ⟨i, o, k, h1, h2, rfl, h4⟩ := flat_get _ _ _ hj
          have hi : i < len := by have := (List.getElem?_eq_some_iff.1 h1).1; omega
          rw [List.getElem?_map, List.getElem?_range hi, Option.map_some, Option.some.injEq] at h1
          subst h1
          have := (hO i hi).2 k x h2
          rw [add_add, add_plain] at this
          exact this

theorem open_batch {r : Reach} {b0 : Nat} {v : Value} {d : DataW H} {p : List MemPlace} (hv : Value.okWide Tryd.prog w r b0 33 v) (h : DataW.Trod enc Tryd.prog w 0 spare held 33 v d p) :
    ∃ (c q : Int) (l : List OpD) (sv : Value), v = .agg ⟨[.int .i64 c, .int .i64 q, sv]⟩ ∧ (Lit.int .i64 c).wf = true ∧ (Lit.int .i64 q).wf = true ∧ (∀ o ∈ l, OpWf o) ∧ Rd w 9 sv l.length (l.flatMap opCells) := by
  obtain ⟨v0, v1, v2, y0, y1, y2, m, rfl, rfl, rfl, h0, h1, h2⟩ := open_agg3 Tryd.underlying33 (by kernel_rfl) (by kernel_rfl) hv h
  obtain ⟨k, e0, rfl, w0⟩ := DataW.trod_int Tryd.underlying3 h0
  obtain ⟨n, e1, rfl, w1⟩ := DataW.trod_int Tryd.underlying2 h1
  obtain ⟨sv, l, e2, ho, hr⟩ := open_ops h2
  simp only [List.cons.injEq, and_true] at e0 e1 e2
  subst e0 e1 e2
  exact ⟨k, n, l, v2, rfl, w0, w1, ho, hr⟩
end
end Go.Proofs.YtcfaicomnngegaaDoor

/-
  Sx, maps with texts as keys.
-/
set_option linter.unusedVariables false
namespace Go.Sx
open Go.RowKit
/-- Entries: key, value. -/
abbrev KV := List (ByteArray × Value)
def ks (a b : ByteArray) : Bool := a == b
theorem ks_iff {a b : ByteArray} : ks a b = true ↔ a = b := by
  unfold ks
  constructor
  · intro h
    obtain ⟨a⟩ := a
    obtain ⟨b⟩ := b
    have : (a == b) = true := h
    rw [beq_iff_eq] at this
    rw [this]
  · rintro rfl
    obtain ⟨a⟩ := a
    show (a == a) = true
    exact beq_self_eq_true a
theorem ks_self (a : ByteArray) : ks a a = true := ks_iff.2 rfl
def dget : KV → ByteArray → Option Value
  | [], _ => none
  | p :: d, k => match ks k p.1 with | true => some p.2 | false => dget d k
def dset : KV → ByteArray → Value → KV
  | [], k, v => [(k, v)]
  | p :: d, k, v => match ks k p.1 with | true => (k, v) :: d | false => p :: dset d k v
def ddel : KV → ByteArray → KV
  | [], _ => []
  | p :: d, k => match ks k p.1 with | true => d | false => p :: ddel d k
structure Ent where
  k : ByteArray
  v : Value
  t : Nat
def Ent.raw (e : Ent) : MapEntry := ⟨.string e.k, e.v, e.t⟩
def Ent.kv (e : Ent) : ByteArray × Value := (e.k, e.v)
/-- A map's entries and stamps. -/
structure MapAt (W : World) (b : Nat) (es : List Ent) (c : Nat) : Prop where
  at_ : W.heap[b]? = some (.map ⟨es.map Ent.raw⟩ c)
  nodup : (es.map (·.t)).Nodup
  lt : ∀ e ∈ es, e.t < c
/-- A map's block. -/
def MapOf (b : Nat) (d : KV) : Res where
  ok F W := F b ∧ ∃ es c, MapAt W b es c ∧ es.map Ent.kv = d
  loc F W W' h := fun ⟨h1, es, c, h2, h3⟩ => ⟨h1, es, c, ⟨(h b h1).trans h2.at_, h2.nodup, h2.lt⟩, h3⟩

def fidx : List Ent → ByteArray → Nat → Option (Nat × Value)
  | [], _, _ => none
  | e :: es, k, i => match ks k e.k with | true => some (i, e.v) | false => fidx es k (i + 1)
theorem findNow_s (k : ByteArray) : ∀ (es : List Ent) (i : Nat), Instr.findNow .string (.string k) (es.map Ent.raw) i = some (fidx es k i)
  | [], _ => rfl
  | e :: es, i => by
    simp only [List.map_cons, Instr.findNow, Ent.raw, Instr.sameNow, fidx]
    rw [show (k == e.k) = ks k e.k from rfl]
    cases ks k e.k with
    | true => rfl
    | false => exact findNow_s k es (i + 1)
theorem fidx_none {k : ByteArray} : ∀ {es : List Ent} {i : Nat}, fidx es k i = none → dget (es.map Ent.kv) k = none ∧ (∀ v, dset (es.map Ent.kv) k v = es.map Ent.kv ++ [(k, v)]) ∧ ddel (es.map Ent.kv) k = es.map Ent.kv
  | [], _, _ => ⟨rfl, fun _ => rfl, rfl⟩
  | e :: es, i, h => by
    simp only [fidx] at h
    cases hk : ks k e.k with
    | true => rw [hk] at h; cases h
    | false =>
      rw [hk] at h
      obtain ⟨h1, h2, h3⟩ := fidx_none (es := es) (i := i + 1) h
      simp only [List.map_cons, dget, dset, ddel, Ent.kv, hk]
      exact ⟨h1, fun v => by rw [h2 v]; rfl, by rw [h3]⟩
theorem fidx_some {k : ByteArray} : ∀ {es : List Ent} {i j : Nat} {v0 : Value}, fidx es k i = some (j, v0) → dget (es.map Ent.kv) k = some v0 ∧ ∃ m e, j = i + m ∧ es[m]? = some e ∧ e.k = k ∧
    (∀ v, dset (es.map Ent.kv) k v = (es.modify m fun e => ⟨k, v, e.t⟩).map Ent.kv) ∧ ddel (es.map Ent.kv) k = (es.eraseIdx m).map Ent.kv
  | [], _, _, _, h => by simp [fidx] at h
  | e :: es, i, j, v0, h => by
    simp only [fidx] at h
    cases hk : ks k e.k with
    | true =>
      rw [hk] at h
      injection h with h
      injection h with h1 h2
      subst h1 h2
      simp only [List.map_cons, dget, dset, ddel, Ent.kv, hk]
      exact ⟨trivial, 0, e, rfl, rfl, (ks_iff.1 hk).symm, fun v => by simp [Ent.kv], by simp⟩
    | false =>
      rw [hk] at h
      obtain ⟨h1, m, e', h2, h3, h4, h5, h6⟩ := fidx_some (es := es) (i := i + 1) h
      simp only [List.map_cons, dget, dset, ddel, Ent.kv, hk]
      refine ⟨h1, m + 1, e', by omega, h3, h4, fun v => ?_, ?_⟩
      · rw [h5 v]; simp [Ent.kv]
      · rw [h6]; simp [Ent.kv]

section
variable {P : Program} {W : World} {T K E : TypeId}
/-- A map's type, its keys texts. -/
class Mp (P : Program) (T : TypeId) (K E : outParam TypeId) : Prop where
  out : P.underlying T = some (.map K E)
  key : P.underlying K = some .string
theorem run_checkKey_s (hK : P.underlying K = some .string) (em : Bool) (k : ByteArray) (W : World) : (Instr.checkKey em 10000 K (.string k)).run P W = .ok () W := by
  show (Instr.checkKey em (9999 + 1) K (.string k)).run P W = .ok () W
  unfold Instr.checkKey
  simp [run_underlying hK]
theorem run_findKey_s (hK : P.underlying K = some .string) (k : ByteArray) (es : List Ent) (W : World) : (Instr.findKey K (.string k) (es.map Ent.raw)).run P W = .ok (fidx es k 0) W := by
  unfold Instr.findKey
  simp only [Sem.run_bind, run_underlying hK, Result.andThen_ok, findNow_s]
  rfl
theorem MapAt.get {b : Nat} {es : List Ent} {c : Nat} (h : MapAt W b es c) : (getObj b).run P W = .ok (.map ⟨es.map Ent.raw⟩ c) W := MapKept.run_getObj_map h.at_
theorem run_lookup_s [m : Mp P T K E] {b : Nat} {es : List Ent} {c : Nat} {k : ByteArray} {zv : Value} (h : MapAt W b es c) (hz : (zeroValue E).run P W = .ok zv W) :
    (Instr.lookup T (.map (some b)) (.string k) false).run P W = .ok ((dget (es.map Ent.kv) k).getD zv) W := by
  unfold Instr.lookup
  simp only [Sem.run_bind, run_underlying m.out, Result.andThen_ok, h.get, run_checkKey_s m.key, run_findKey_s m.key, Sem.run_pure]
  cases hf : fidx es k 0 with
  | none =>
    simp only [(fidx_none hf).1, Sem.run_bind, hz, Result.andThen_ok, Sem.run_pure]
    rfl
  | some p =>
    obtain ⟨j, v⟩ := p
    simp only [(fidx_some hf).1, Sem.run_bind, Result.andThen_ok, Sem.run_pure]
    rfl
theorem run_lookup_ok_s [m : Mp P T K E] {b : Nat} {es : List Ent} {c : Nat} {k : ByteArray} {zv : Value} (h : MapAt W b es c) (hz : (zeroValue E).run P W = .ok zv W) :
    (Instr.lookup T (.map (some b)) (.string k) true).run P W = .ok (.tuple #[(dget (es.map Ent.kv) k).getD zv, .bool (dget (es.map Ent.kv) k).isSome]) W := by
  unfold Instr.lookup
  simp only [Sem.run_bind, run_underlying m.out, Result.andThen_ok, h.get, run_checkKey_s m.key, run_findKey_s m.key, Sem.run_pure]
  cases hf : fidx es k 0 with
  | none =>
    simp only [(fidx_none hf).1, Sem.run_bind, hz, Result.andThen_ok, Sem.run_pure]
    rfl
  | some p =>
    obtain ⟨j, v⟩ := p
    simp only [(fidx_some hf).1, Sem.run_bind, Result.andThen_ok, Sem.run_pure]
    rfl
theorem run_setObj_s {b : Nat} {es : List Ent} {c : Nat} (h : MapAt W b es c) (o' : Obj) : (setObj b o').run P W = .ok () (ChangeMaps.setBlock W b o') := by
  simp [setObj, Sem.run, h.at_, ChangeMaps.setBlock]
theorem setBlock_at {b : Nat} {o : Obj} (h : b < W.heap.size) : (ChangeMaps.setBlock W b o).heap[b]? = some o := by
  simp [ChangeMaps.setBlock, h]
theorem setBlock_ne {b r : Nat} {o : Obj} (h : r ≠ b) : (ChangeMaps.setBlock W b o).heap[r]? = W.heap[r]? := by
  simp only [ChangeMaps.setBlock, Array.getElem?_setIfInBounds]
  rw [if_neg (Ne.symm h)]
theorem MapAt.size {b : Nat} {es : List Ent} {c : Nat} (h : MapAt W b es c) : b < W.heap.size := by
  have := h.at_
  exact (Array.getElem?_eq_some_iff.1 this).1
theorem raw_modify (es : List Ent) (m : Nat) (k : ByteArray) (v : Value) : (es.map Ent.raw).modify m (fun e => { e with key := .string k, val := v }) = (es.modify m fun e => ⟨k, v, e.t⟩).map Ent.raw := by
  induction es generalizing m with
  | nil => simp
  | cons e es ih =>
    cases m with
    | zero => simp [Ent.raw]
    | succ m => simp [ih]
theorem t_modify (es : List Ent) (m : Nat) (k : ByteArray) (v : Value) : (es.modify m fun e => ⟨k, v, e.t⟩).map (·.t) = es.map (·.t) := by
  induction es generalizing m with
  | nil => simp
  | cons e es ih =>
    cases m with
    | zero => simp
    | succ m => simp [ih]
theorem raw_erase (es : List Ent) (m : Nat) : (es.map Ent.raw).eraseIdx m = (es.eraseIdx m).map Ent.raw := by
  induction es generalizing m with
  | nil => simp
  | cons e es ih =>
    cases m with
    | zero => simp
    | succ m => simp [ih]
/-- m[k] = v. -/
theorem run_update_s [m : Mp P T K E] {b : Nat} {es : List Ent} {c : Nat} {k : ByteArray} {v : Value} (h : MapAt W b es c) :
    ∃ W' es' c', (Instr.mapUpdate T (.map (some b)) (.string k) v).run P W = .ok () W' ∧ MapAt W' b es' c' ∧ es'.map Ent.kv = dset (es.map Ent.kv) k v ∧ ∃ o, W' = ChangeMaps.setBlock W b o := by
  unfold Instr.mapUpdate
  simp only [Sem.run_bind, run_underlying m.out, Result.andThen_ok, h.get, run_checkKey_s m.key, run_findKey_s m.key]
  cases hf : fidx es k 0 with
  | none =>
    obtain ⟨h1, h2, h3⟩ := fidx_none hf
    refine ⟨_, es ++ [⟨k, v, c⟩], c + 1, run_setObj_s h _, ⟨?_, ?_, ?_⟩, ?_, _, rfl⟩
    · rw [setBlock_at h.size]
      simp [Ent.raw]
    · rw [List.map_append, List.nodup_append]
      refine ⟨h.nodup, by simp, fun a ha b hb => ?_⟩
      obtain ⟨e, he, rfl⟩ := List.mem_map.1 ha
      simp only [List.map_cons, List.map_nil, List.mem_singleton] at hb
      have := h.lt e he
      omega
    · intro e he
      rcases List.mem_append.1 he with he | he
      · have := h.lt e he; omega
      · rw [List.mem_singleton] at he; subst he; exact Nat.lt_succ_self c
    · rw [h2 v]; simp [Ent.kv]
  | some p =>
    obtain ⟨j, v0⟩ := p
    obtain ⟨h1, i, e, h2, h3, h4, h5, h6⟩ := fidx_some hf
    rw [Nat.zero_add] at h2
    subst h2
    have hkey : (((⟨es.map Ent.raw⟩ : Array MapEntry)[j]?).map (·.key)).getD (.string k) = .string k := by
      simp [h3, Ent.raw, h4]
    have hstay : (Instr.keyThatStays (.string k) (.string k)).run P W = .ok (.string k) W := by
      unfold Instr.keyThatStays
      have : Instr.sameBits 10000 (.string k) (.string k) = true := by
        show Instr.sameBits (9999 + 1) (.string k) (.string k) = true
        unfold Instr.sameBits
        exact ks_self k
      simp [this]
    refine ⟨ChangeMaps.setBlock W b (.map (Array.modify ⟨es.map Ent.raw⟩ j fun e => { e with key := .string k, val := v }) c), es.modify j fun e => ⟨k, v, e.t⟩, c, ?_, ⟨?_, ?_, ?_⟩, (h5 v).symm, _, rfl⟩
    · simp only [Sem.run_bind, hkey, hstay, Result.andThen_ok]
      exact run_setObj_s h _
    · rw [setBlock_at h.size]
      congr 2
      apply Array.ext'
      rw [Array.toList_modify]
      exact raw_modify es j k v
    · rw [t_modify]; exact h.nodup
    · intro e' he'
      have : e'.t ∈ (es.modify j fun e => ⟨k, v, e.t⟩).map (·.t) := List.mem_map_of_mem he'
      rw [t_modify] at this
      obtain ⟨e2, he2, h7⟩ := List.mem_map.1 this
      rw [← h7]; exact h.lt e2 he2
/-- delete(m, k). -/
theorem run_delete_s [m : Mp P T K E] {b : Nat} {es : List Ent} {c : Nat} {k : ByteArray} {ty : TypeId} (h : MapAt W b es c) :
    ∃ W' es' c', (Builtin.delete_ #[T, K] ty #[.map (some b), .string k]).run P W = .ok (.tuple #[]) W' ∧ MapAt W' b es' c' ∧ es'.map Ent.kv = ddel (es.map Ent.kv) k ∧ ∃ o, W' = ChangeMaps.setBlock W b o := by
  unfold Builtin.delete_
  simp only [List.getElem?_toArray, List.getElem?_cons_zero, List.getElem?_cons_succ, Sem.run_bind, run_underlying m.out, Result.andThen_ok, h.get, run_checkKey_s m.key, run_findKey_s m.key]
  cases hf : fidx es k 0 with
  | none =>
    obtain ⟨h1, h2, h3⟩ := fidx_none hf
    refine ⟨_, es, c, ?_, ⟨setBlock_at h.size, h.nodup, h.lt⟩, h3.symm, _, rfl⟩
    simp only [Sem.run_bind, run_setObj_s h, Result.andThen_ok]
    rfl
  | some p =>
    obtain ⟨j, v0⟩ := p
    obtain ⟨h1, i, e, h2, h3, h4, h5, h6⟩ := fidx_some hf
    rw [Nat.zero_add] at h2
    subst h2
    refine ⟨ChangeMaps.setBlock W b (.map (Array.eraseIdxIfInBounds ⟨es.map Ent.raw⟩ j) c), es.eraseIdx j, c, ?_, ⟨?_, ?_, ?_⟩, h6.symm, _, rfl⟩
    · simp only [Sem.run_bind, run_setObj_s h, Result.andThen_ok]
      rfl
    · rw [setBlock_at h.size]
      congr 2
      apply Array.ext'
      rw [Array.toList_eraseIdxIfInBounds]
      exact raw_erase es j
    · exact h.nodup.sublist ((List.eraseIdx_sublist _ _).map _)
    · exact fun e he => h.lt e (List.mem_of_mem_eraseIdx he)
end

section
variable {G : Nat} {w W W' : World} {L L' R R' : List Res} {b : Nat} {d d' : KV}
theorem Has.setMap (h : Has G w W L) (u : Upd (MapOf b d) L (MapOf b d') L') {o : Obj} (hW : W' = ChangeMaps.setBlock W b o) (hd : ∃ es c, MapAt W' b es c ∧ es.map Ent.kv = d') : Has G w W' L' := by
  obtain ⟨F1, h1, h2, h3⟩ := h.has.upd u
  have hbG := (h1 b h2.1).1
  have hbl := (h1 b h2.1).2
  subst hW
  have hx : (ChangeMaps.setBlock W b o).heap.size = W.heap.size := by simp [ChangeMaps.setBlock]
  refine ⟨h.ext.trans ⟨rfl, rfl, rfl, by omega, fun c hc => setBlock_ne (by omega)⟩, h.glob, h3 _ _ (fun c => c = b) (fun c hc => ⟨hc.1, by omega⟩) ?_ ?_ ⟨rfl, hd⟩⟩
  · rintro c rfl
    exact ⟨⟨hbG, by omega⟩, fun _ => h2.1⟩
  · intro c hc hn
    refine setBlock_ne fun e => hn ?_
    rw [e]; exact h2.1
theorem Has.map_at (h : Has G w W L) (i : In (MapOf b d) L) : ∃ es c, MapAt W b es c ∧ es.map Ent.kv = d := by
  obtain ⟨F, _, h2⟩ := h.of_in i
  exact h2.2
theorem Has.newObj (h : Has G w W L) {o : Obj} {r : Res} (hr : r.ok (fun b => b = W.heap.size) (W.alloc o)) : Has G w (W.alloc o) (r :: L) := by
  have hb : Below W.heap.size W (W.alloc o) := (Below.refl _ _).alloc (Nat.le_refl _) _
  have h1 := h.below hb
  refine ⟨h1.ext, h1.glob, fun b => b = W.heap.size, ?_, hr, ?_⟩
  · rintro b rfl
    exact ⟨h.globW, by simp⟩
  · refine (h.has.loc fun b hb' => hb.block b hb'.2).mono fun b hb' => ⟨⟨hb'.1, Nat.lt_of_lt_of_le hb'.2 hb.size⟩, by omega⟩
theorem Has.newMap (h : Has G w W L) : Has G w (W.alloc (.map #[] 0)) (MapOf W.heap.size [] :: L) :=
  h.newObj ⟨rfl, [], 0, ⟨heap_alloc_new _ _, by simp, by simp⟩, rfl⟩
end

section
variable {P : Program} {ops : Array Oper} {rest : List Oper} {Q : Exit → Act → World → Prop} {a : Act} {n G : Nat} {L : List (Nat × Value)} {w W : World} {R R' : List Res} {dst b : Nat} {T K E ty : TypeId} {p : String} {e : Array Edge} {x y z : Operand} {k : ByteArray} {v zv : Value} {d : KV}
theorem st_makeMap (hs : Slots a n L) (hw : Has G w W R) (hd : Nat.blt dst n = true := by with_unfolding_all exact rfl)
    (c : ∀ a' b W', Has G w W' (MapOf b [] :: R) → Slots a' n ((dst, .map (some b)) :: L) → wpList P ops Q rest a' W') : wpList P ops Q (⟨some dst, .makeMap T none, ty, p, e, none⟩ :: rest) a W := by
  refine st_value hs hd (v := .map (some W.heap.size)) (W' := W.alloc (.map #[] 0)) ?_ fun a' hs' => c a' W.heap.size _ hw.newMap hs'
  simp only [execOp, Option.map_none, Sem.run_bind, run_makeMap, Result.andThen_ok]
  rfl
theorem st_lookup [m : Mp P T K E] (hs : Slots a n L) (hx : ev L x = some (.map (some b)) := by with_unfolding_all exact rfl) (hy : ev L y = some (.string k) := by with_unfolding_all exact rfl) (hw : Has G w W R) (hi : In (MapOf b d) R := by repeat (first | exact In.hd | apply In.tl)) (hz : ∀ W, (zeroValue E).run P W = .ok zv W) (hd : Nat.blt dst n = true := by with_unfolding_all exact rfl)
    (c : ∀ a', Slots a' n ((dst, (dget d k).getD zv) :: L) → wpList P ops Q rest a' W) : wpList P ops Q (⟨some dst, .lookup T x y false, ty, p, e, none⟩ :: rest) a W := by
  obtain ⟨es, ck, h1, rfl⟩ := hw.map_at hi
  refine st_value hs hd (W' := W) ?_ c
  simp only [execOp, hs.ev hx, hs.ev hy, Sem.run_bind, run_lookup_s h1 (hz W), Result.andThen_ok]
  rfl
theorem st_update [m : Mp P T K E] (hs : Slots a n L) (hx : ev L x = some (.map (some b)) := by with_unfolding_all exact rfl) (hy : ev L y = some (.string k) := by with_unfolding_all exact rfl) (hz : ev L z = some v := by with_unfolding_all exact rfl) (hw : Has G w W R) (hu : Upd (MapOf b d) R (MapOf b (dset d k v)) R' := by repeat (first | exact Upd.hd | apply Upd.tl))
    (c : ∀ W', Slots a n L → Has G w W' R' → wpList P ops Q rest a W') : wpList P ops Q (⟨none, .mapUpdate T x y z, ty, p, e, none⟩ :: rest) a W := by
  obtain ⟨F1, -, h2, -⟩ := hw.has.upd hu
  obtain ⟨-, es, ck, h1, rfl⟩ := h2
  obtain ⟨W', es', c', g1, g2, g3, o, g4⟩ := run_update_s (P := P) (T := T) (k := k) (v := v) h1
  refine st_skip hs (W' := W') ?_ fun hs' => c W' hs' (hw.setMap hu g4 ⟨es', c', g2, g3⟩)
  simp only [execOp, hs.ev hx, hs.ev hy, hs.ev hz, Sem.run_bind, g1, Result.andThen_ok]
  rfl
theorem st_value0 {op : Op} {W' : World} (hs : Slots a n L) (he : (execOp a.eval ⟨none, op, ty, p, e, none⟩).run P W = .ok (.value v) W')
    (c : Slots a n L → wpList P ops Q rest a W') : wpList P ops Q (⟨none, op, ty, p, e, none⟩ :: rest) a W := by
  refine wpList_plain rfl fun K hK => ?_
  simp only [Oper.wp, he, Oper.upon_value]
  exact hK _ _ (c hs)
theorem st_delete [m : Mp P T K E] (hs : Slots a n L) (hx : ev L x = some (.map (some b)) := by with_unfolding_all exact rfl) (hy : ev L y = some (.string k) := by with_unfolding_all exact rfl) (hw : Has G w W R) (hu : Upd (MapOf b d) R (MapOf b (ddel d k)) R' := by repeat (first | exact Upd.hd | apply Upd.tl))
    (c : ∀ W', Slots a n L → Has G w W' R' → wpList P ops Q rest a W') : wpList P ops Q (⟨none, .call { callee := .builtin .delete, args := #[x, y], argTypes := #[T, K] }, ty, p, e, none⟩ :: rest) a W := by
  obtain ⟨F1, -, h2, -⟩ := hw.has.upd hu
  obtain ⟨-, es, ck, h1, rfl⟩ := h2
  obtain ⟨W', es', c', g1, g2, g3, o, g4⟩ := run_delete_s (P := P) (T := T) (k := k) (ty := ty) h1
  refine st_value0 hs (v := .tuple #[]) (W' := W') ?_ fun hs' => c W' hs' (hw.setMap hu g4 ⟨es', c', g2, g3⟩)
  simp only [execOp, resolve, invoke, builtin, Sem.run_bind, Sem.run_pure, Result.andThen_ok, List.map_toArray, List.map_cons, List.map_nil, hs.ev hx, hs.ev hy, g1]
theorem st_len_map [m : Mp P T K E] (hs : Slots a n L) (hx : ev L x = some (.map (some b)) := by with_unfolding_all exact rfl) (hw : Has G w W R) (hi : In (MapOf b d) R := by repeat (first | exact In.hd | apply In.tl)) (hd : Nat.blt dst n = true := by with_unfolding_all exact rfl)
    (c : ∀ a', Slots a' n ((dst, .int .i64 (d.length : Int)) :: L) → wpList P ops Q rest a' W) : wpList P ops Q (⟨some dst, .call { callee := .builtin .len, args := #[x], argTypes := #[T] }, ty, p, e, none⟩ :: rest) a W := by
  obtain ⟨es, ck, h1, rfl⟩ := hw.map_at hi
  refine st_value hs hd (W' := W) ?_ c
  simp only [execOp, resolve, invoke, builtin, Builtin.len_, List.map_toArray, List.map_cons, List.map_nil, hs.ev hx, Sem.run_bind, Sem.run_pure, Result.andThen_ok]
  simp [Sem.run_bind, run_underlying m.out, goInt, h1.get]
end
/-- A map that is ranged over, and its iterator; what is still to come. -/
def Ranged (b it : Nat) (d left : KV) (cur : Option (ByteArray × Value)) : Res where
  ok F W := F b ∧ F it ∧ b ≠ it ∧ ∃ (es : List Ent) (c since : Nat) (seen : List Nat) (c0 : Nat), MapAt W b es c ∧ es.map Ent.kv = d ∧ W.heap[it]? = some (.mapIter (some b) since ⟨seen⟩ c0) ∧ (∀ e ∈ es, e.t < since) ∧ since ≤ c0 ∧ since ≤ c ∧ (es.filter fun e => !seen.contains e.t).map Ent.kv = left ∧ ∀ p, cur = some p → c0 = c ∧ ∃ (s : List Nat) (e : Ent), seen = s ++ [e.t] ∧ e ∈ es ∧ e.kv = p
  loc F W W' h := fun ⟨h1, h2, hn, es, c, since, seen, c0, h3, h4, h5, h6⟩ => ⟨h1, h2, hn, es, c, since, seen, c0, ⟨(h b h1).trans h3.at_, h3.nodup, h3.lt⟩, h4, (h it h2).trans h5, h6⟩
section
variable {G : Nat} {w W W' : World} {L L' R R' : List Res} {b it : Nat} {d left : KV} {cur : Option (ByteArray × Value)}
theorem Has.ranged (h : Has G w W (MapOf b d :: L)) : ∃ c, (∃ es, MapAt W b es c) ∧ Has G w (W.alloc (.mapIter (some b) c #[] c)) (Ranged b W.heap.size d d none :: L) := by
  obtain ⟨F1, h1, ⟨h2, es, c, h3, rfl⟩, h4⟩ := h.has
  have hb : Below W.heap.size W (W.alloc (.mapIter (some b) c #[] c)) := (Below.refl _ _).alloc (Nat.le_refl _) _
  have he := h.below hb
  refine ⟨c, ⟨es, h3⟩, he.ext, he.glob, fun x => F1 x ∨ x = W.heap.size, ?_, ⟨.inl h2, .inr rfl, ?_, es, c, c, [], c, ⟨?_, h3.nodup, h3.lt⟩, rfl, heap_alloc_new _ _, h3.lt, Nat.le_refl _, Nat.le_refl _, congrArg (List.map Ent.kv) (List.filter_eq_self.2 fun e _ => by simp), fun p h => by cases h⟩, ?_⟩
  · rintro x (hx | rfl)
    · exact ⟨(h1 x hx).1, Nat.lt_of_lt_of_le (h1 x hx).2 hb.size⟩
    · exact ⟨h.globW, by simp⟩
  · have := h3.size; omega
  · exact (heap_alloc_old W _ h3.size).trans h3.at_
  · refine (h4.loc fun x hx => hb.block x hx.1.2).mono fun x hx => ⟨⟨hx.1.1, Nat.lt_of_lt_of_le hx.1.2 hb.size⟩, ?_⟩
    rintro (h | h)
    · exact hx.2 h
    · have := hx.1.2; omega
theorem Has.unranged (h : Has G w W (Ranged b it d left cur :: L)) : Has G w W (MapOf b d :: L) := by
  obtain ⟨F1, h1, ⟨h2, h3, hn, es, c, since, seen, c0, h4, h5, h6⟩, h7⟩ := h.has
  exact ⟨h.ext, h.glob, F1, h1, ⟨h2, es, c, h4, h5⟩, h7⟩
theorem left_list (es : List Ent) (seen : List Nat) : (leftOf ⟨es.map Ent.raw⟩ ⟨seen⟩).toList = (es.filter fun e => !seen.contains e.t).map Ent.raw := by
  unfold leftOf
  simp only [Array.toList_filter, List.filter_map]
  congr 1
  apply List.filter_congr
  intro e _
  simp [Ent.raw]
  exact decide_eq_decide.2 Iff.rfl
theorem perm_take {es : List Ent} {seen : List Nat} {e : Ent} (hd : (es.map (·.t)).Nodup) (he : e ∈ es.filter fun e => !seen.contains e.t) :
    (es.filter fun e => !seen.contains e.t).Perm (e :: es.filter fun x => !(seen ++ [e.t]).contains x.t) := by
  have e1 : (es.filter fun x => !(seen ++ [e.t]).contains x.t) = (es.filter fun e => !seen.contains e.t).filter fun x => !(x.t == e.t) := by
    rw [List.filter_filter]
    apply List.filter_congr
    intro x _
    simp only [List.contains_eq_mem, List.mem_append, List.mem_singleton]
    by_cases h1 : x.t ∈ seen <;> by_cases h2 : x.t = e.t <;> simp [h1, h2]
  rw [e1]
  have hd' : ((es.filter fun e => !seen.contains e.t).map (·.t)).Nodup := hd.sublist (List.filter_sublist.map _)
  generalize (es.filter fun e => !seen.contains e.t) = l at *
  clear e1 hd
  induction l with
  | nil => simp at he
  | cons x l ih =>
    rw [List.map_cons, List.nodup_cons] at hd'
    rcases List.mem_cons.1 he with rfl | he
    · rw [List.filter_cons]
      simp only [beq_self_eq_true, Bool.not_true, Bool.false_eq_true, if_false]
      have : l.filter (fun x => !(x.t == e.t)) = l := by
        rw [List.filter_eq_self]
        intro y hy
        have : y.t ≠ e.t := fun h => hd'.1 (by rw [← h]; exact List.mem_map_of_mem hy)
        simpa using this
      rw [this]
    · have hne : x.t ≠ e.t := fun h => hd'.1 (by rw [h]; exact List.mem_map_of_mem he)
      rw [List.filter_cons]
      have : (x.t == e.t) = false := by simpa using hne
      simp only [this, Bool.not_false, if_true]
      exact ((ih he hd'.2).cons x).trans (List.Perm.swap _ _ _)
end
section
variable {P : Program} {ops : Array Oper} {rest : List Oper} {Q : Exit → Act → World → Prop} {a : Act} {n G : Nat} {L : List (Nat × Value)} {w W : World} {R R' : List Res} {dst b it : Nat} {T K E ty : TypeId} {p : String} {e : Array Edge} {x : Operand} {d left : KV} {cur : Option (ByteArray × Value)}
theorem st_range [m : Mp P T K E] (hs : Slots a n L) (hx : ev L x = some (.map (some b)) := by with_unfolding_all exact rfl) (hw : Has G w W (MapOf b d :: R)) (hd : Nat.blt dst n = true := by with_unfolding_all exact rfl)
    (c : ∀ a' it W', Has G w W' (Ranged b it d d none :: R) → Slots a' n ((dst, .pointer (some ⟨it, 0, none⟩)) :: L) → wpList P ops Q rest a' W') : wpList P ops Q (⟨some dst, .range T x, ty, p, e, none⟩ :: rest) a W := by
  obtain ⟨ck, ⟨es, h1⟩, hw'⟩ := hw.ranged
  refine st_value hs hd (v := .pointer (some ⟨W.heap.size, 0, none⟩)) (W' := W.alloc (.mapIter (some b) ck #[] ck)) ?_ fun a' hs' => c a' W.heap.size _ hw' hs'
  simp only [execOp, hs.ev hx, Sem.run_bind, run_range_map W T K E b _ _ m.out h1.at_, Result.andThen_ok]
  rfl
theorem st_next (hs : Slots a n L) (hx : ev L x = some (.pointer (some ⟨it, 0, none⟩)) := by with_unfolding_all exact rfl) (hw : Has G w W (Ranged b it d left cur :: R)) (hd : Nat.blt dst n = true := by with_unfolding_all exact rfl)
    (c1 : ∀ a', left = [] → Slots a' n ((dst, .tuple #[.bool false]) :: L) → wpList P ops Q rest a' W)
    (c2 : ∀ a' W' kv left', left.Perm (kv :: left') → Has G w W' (Ranged b it d left' (some kv) :: R) → Slots a' n ((dst, .tuple #[.bool true, .string kv.1, kv.2]) :: L) → wpList P ops Q rest a' W') : wpList P ops Q (⟨some dst, .next x false, ty, p, e, none⟩ :: rest) a W := by
  have hW := hw
  obtain ⟨F1, h1, ⟨h2, h3, hn, es, ck, since, seen, c0, h4, h5, h6, h7, h8, h9, h10, -⟩, h11⟩ := hw.has
  have hold : ∀ x ∈ (⟨es.map Ent.raw⟩ : Array MapEntry).toList, x.born < since := by
    intro x hx
    obtain ⟨e, he, rfl⟩ := List.mem_map.1 hx
    exact h7 e he
  rcases run_next_at (P := P) W ty it b since c0 ⟨seen⟩ ⟨es.map Ent.raw⟩ ck h6 h4.at_ hold h8 with ⟨g1, g2⟩ | ⟨en, g1, w1, g2, g3⟩
  · refine st_value hs hd (W' := W) ?_ fun a' hs' => c1 a' ?_ hs'
    · simp only [execOp, hs.ev hx, Sem.run_bind, g2, Result.andThen_ok]
      rfl
    · have : (leftOf ⟨es.map Ent.raw⟩ ⟨seen⟩).toList.length = 0 := by rw [Array.length_toList]; exact g1
      rw [left_list] at this
      rw [← h10]
      simpa using this
  · rw [left_list] at g1
    obtain ⟨e', he', rfl⟩ := List.mem_map.1 g1
    have hp := perm_take h4.nodup he'
    refine st_value hs hd (W' := ChangeMaps.setBlock w1 it (.mapIter (some b) since ((⟨seen⟩ : Array Nat).push e'.t) ck)) ?_ fun a' hs' => c2 a' _ e'.kv _ (by rw [← h10]; exact hp.map Ent.kv) ?_ hs'
    · simp only [execOp, hs.ev hx, Sem.run_bind, Ent.raw, g3, Result.andThen_ok]
      rfl
    · have hbl := (h1 it h3)
      have hw1 : w1.heap = W.heap ∧ w1.os = W.os ∧ w1.tape = W.tape ∧ w1.output = W.output := by rcases g2 with rfl | rfl <;> exact ⟨rfl, rfl, rfl, rfl⟩
      have hsz : w1.heap.size = W.heap.size := by rw [hw1.1]
      have hoth : ∀ r, r ≠ it → (ChangeMaps.setBlock w1 it (.mapIter (some b) since ((⟨seen⟩ : Array Nat).push e'.t) ck)).heap[r]? = W.heap[r]? := fun r hr => by
        rw [setBlock_ne hr, hw1.1]
      have hx2 : (ChangeMaps.setBlock w1 it (.mapIter (some b) since ((⟨seen⟩ : Array Nat).push e'.t) ck)).heap.size = W.heap.size := by simp [ChangeMaps.setBlock, hsz]
      refine ⟨hW.ext.trans ⟨hw1.2.1, hw1.2.2.1, hw1.2.2.2, by omega, fun r hr => hoth r (by omega)⟩, hW.glob, F1, ?_, ⟨h2, h3, hn, es, ck, since, seen ++ [e'.t], ck, ⟨(hoth b hn).trans h4.at_, h4.nodup, h4.lt⟩, h5, ?_, h7, h9, h9, rfl, fun p hp => ⟨rfl, seen, e', rfl, (List.mem_filter.1 he').1, Option.some.inj hp⟩⟩, ?_⟩
      · intro r hr
        rw [hx2]; exact h1 r hr
      · rw [setBlock_at (by omega)]
        simp
      · refine (h11.loc fun r hr => hoth r fun h => hr.2 (h ▸ h3)).mono fun r hr => ?_
        rw [hx2]; exact hr
theorem st_entry {kv : ByteArray × Value} (hs : Slots a n L) (hx : ev L x = some (.pointer (some ⟨it, 0, none⟩)) := by with_unfolding_all exact rfl) (hw : Has G w W R) (hi : In (Ranged b it d left (some kv)) R := by repeat (first | exact In.hd | apply In.tl)) (hd : Nat.blt dst n = true := by with_unfolding_all exact rfl)
    (c : ∀ a', Slots a' n ((dst, .tuple #[.string kv.1, kv.2]) :: L) → wpList P ops Q rest a' W) : wpList P ops Q (⟨some dst, .entry x, ty, p, e, none⟩ :: rest) a W := by
  obtain ⟨F, -, h2, h3, hn, es, ck, since, seen, c0, h4, h5, h6, h7, h8, h9, h10, h11⟩ := hw.of_in hi
  obtain ⟨rfl, s, e', rfl, he, rfl⟩ := h11 kv rfl
  refine st_value hs hd (W' := W) ?_ c
  have hr : W.heap[it]? = some (.mapIter (some b) since ((⟨s⟩ : Array Nat).push e'.raw.born) c0) := by rw [h6]; simp [Ent.raw]
  have := run_entry_at (P := P) W it b since ⟨s⟩ ⟨es.map Ent.raw⟩ c0 e'.raw hr h4.at_ (List.mem_map_of_mem he) (by simpa [Ent.raw, Function.comp_def] using h4.nodup)
  simp only [execOp, hs.ev hx, Sem.run_bind, this, Result.andThen_ok]
  rfl
end
/-! lists of entries -/
theorem dset_new : ∀ {d : KV} {k : ByteArray} (v : Value), k ∉ d.map (·.1) → dset d k v = d ++ [(k, v)]
  | [], _, _, _ => rfl
  | p :: d, k, v, h => by
    rw [List.map_cons, List.mem_cons, not_or] at h
    have : ks k p.1 = false := by
      cases hk : ks k p.1 with
      | false => rfl
      | true => exact absurd (ks_iff.1 hk) h.1
    simp only [dset, this]
    rw [dset_new v h.2]; rfl
theorem dget_none : ∀ {d : KV} {k : ByteArray}, dget d k = none ↔ k ∉ d.map (·.1)
  | [], _ => by simp [dget]
  | p :: d, k => by
    simp only [dget, List.map_cons, List.mem_cons, not_or]
    cases hk : ks k p.1 with
    | true => simp [ks_iff.1 hk]
    | false =>
      have : k ≠ p.1 := fun h => by rw [ks_iff.2 h] at hk; cases hk
      simp only [this, not_false_eq_true, true_and]
      exact dget_none
theorem dget_mem : ∀ {d : KV} {k : ByteArray} {v : Value}, (d.map (·.1)).Nodup → (dget d k = some v ↔ (k, v) ∈ d)
  | [], _, _, _ => by simp [dget]
  | p :: d, k, v, h => by
    rw [List.map_cons, List.nodup_cons] at h
    simp only [dget, List.mem_cons]
    cases hk : ks k p.1 with
    | true =>
      have e := ks_iff.1 hk
      constructor
      · intro h'
        injection h' with h'
        exact .inl (by rw [e, ← h'])
      · rintro (h' | h')
        · rw [← h']
        · exact absurd (List.mem_map_of_mem (f := (·.1)) h') (by rw [e]; exact h.1)
    | false =>
      have : k ≠ p.1 := fun h => by rw [ks_iff.2 h] at hk; cases hk
      simp only
      rw [dget_mem h.2]
      constructor
      · exact .inr
      · rintro (h' | h')
        · exact absurd (by rw [← h']) this
        · exact h'
theorem dget_perm {d d' : KV} (p : d.Perm d') (h : (d.map (·.1)).Nodup) (k : ByteArray) : dget d k = dget d' k := by
  have h' : (d'.map (·.1)).Nodup := (p.map _).nodup_iff.1 h
  cases hd : dget d k with
  | some v => exact ((dget_mem h').2 (p.mem_iff.1 ((dget_mem h).1 hd))).symm
  | none =>
    rw [dget_none] at hd
    exact (dget_none.2 fun hm => hd ((p.map _).mem_iff.2 hm)).symm
end Go.Sx
