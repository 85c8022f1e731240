/-
  Sx, more: pieces in another order; a place that is free, and filled.
-/
import Derived.Test.YtfnmfofipcnojaaDoorSx
set_option linter.unusedVariables false
namespace Go.Sx
theorem HasIn.under {W : World} {r : Res} {A B : List Res} (f : ∀ F, HasIn W A F → HasIn W B F) {F : Nat → Prop} : HasIn W (r :: A) F → HasIn W (r :: B) F :=
  fun ⟨F1, h1, h2, h3⟩ => ⟨F1, h1, h2, f _ h3⟩
theorem HasIn.perm {W : World} {A B : List Res} (p : A.Perm B) : ∀ {F : Nat → Prop}, HasIn W A F → HasIn W B F := by
  induction p with
  | nil => exact fun h => h
  | cons x _ ih => exact fun h => HasIn.under (fun F => ih) h
  | swap x y l => exact fun h => HasIn.swap h
  | trans _ _ ih1 ih2 => exact fun h => ih2 (ih1 h)
theorem Has.perm {G : Nat} {w W : World} {A B : List Res} (h : Has G w W A) (p : A.Perm B) : Has G w W B := ⟨h.ext, h.glob, h.has.perm p⟩
/-- A free place. -/
def Free : Res where
  ok _ _ := True
  loc _ _ _ _ h := h
theorem Has.free {G : Nat} {w W : World} {A : List Res} (h : Has G w W A) : Has G w W (Free :: A) :=
  ⟨h.ext, h.glob, fun _ => False, fun _ h => h.elim, trivial, h.has.mono fun b hb => ⟨hb, fun h => h⟩⟩
/-- The first piece takes another's place. -/
theorem HasIn.fill {W : World} {r q : Res} {L L' : List Res} (u : Upd q L r L') : ∀ {F : Nat → Prop}, HasIn W (r :: L) F → HasIn W L' F := by
  induction u with
  | hd =>
    rintro F ⟨F1, h1, h2, F2, h3, h4, h5⟩
    exact ⟨F1, h1, h2, h5.mono fun b hb => hb.1⟩
  | tl u ih => exact fun h => HasIn.under (fun F => ih) (HasIn.swap h)
theorem Has.fill {G : Nat} {w W : World} {r q : Res} {L L' : List Res} (h : Has G w W (r :: L)) (u : Upd q L r L') : Has G w W L' := ⟨h.ext, h.glob, h.has.fill u⟩
/-- A fact that goes along. -/
def Fact (p : Prop) : Res where
  ok _ _ := p
  loc _ _ _ _ h := h
theorem Has.fact {G : Nat} {w W : World} {A : List Res} {p : Prop} (h : Has G w W A) (hp : p) : Has G w W (Fact p :: A) :=
  ⟨h.ext, h.glob, fun _ => False, fun _ h => h.elim, hp, h.has.mono fun b hb => ⟨hb, fun h => h⟩⟩
theorem Has.told {G : Nat} {w W : World} {A : List Res} {p : Prop} (h : Has G w W A) (i : In (Fact p) A) : p := by
  obtain ⟨F, _, h2⟩ := h.of_in i
  exact h2
section
variable {P : Program} {ops : Array Oper} {rest : List Oper} {Q : Exit → Act → World → Prop} {a : Act} {n G : Nat} {L : List (Nat × Value)} {w W W' : World} {R : List Res} {d k cap : Nat} {T S S' E : TypeId} {p : String} {e : Array Edge} {x y : Operand} {ad : Option Addr}
/-- A slice against nil. -/
theorem st_eqnil [sl : Sl P S E] (hs : Slots a n L) (hx : ev L x = some (.slice ad k cap) := by with_unfolding_all exact rfl) (hd : Nat.blt d n = true := by with_unfolding_all exact rfl)
    (c : ∀ a', Slots a' n ((d, .bool ad.isNone) :: L) → wpList P ops Q rest a' W) : wpList P ops Q (⟨some d, .binOp .eql S x (.const (.slice none 0 0)) S', T, p, e, none⟩ :: rest) a W := by
  refine st_value hs hd (W' := W) ?_ c
  have h1 : ∀ d, (Op.equalIn (d + 1) S (.slice ad k cap) (.slice none 0 0)).run P W = .ok ad.isNone W := fun d => by
    cases ad <;> simp [Op.equalIn, run_underlying sl.out]
  have h2 : (binOp .eql S (.slice ad k cap) (.slice none 0 0)).run P W = .ok (.bool ad.isNone) W := by
    simp only [binOp, Op.equal, Sem.run_bind]
    rw [show Op.maxDepth = 9999 + 1 from rfl, h1 9999]
    rfl
  have h3 : a.eval (.const (.slice none 0 0)) = .slice none 0 0 := rfl
  simp only [execOp, hs.ev hx, h3, Sem.run_bind]
  simp [eqGuard, h2]
/-- A text's first bytes. -/
theorem st_slice_str_hi {s : ByteArray} {q : IntKind} {i : Int} {hi : Operand} [t : StrTy P S] (hs : Slots a n L) (hx : ev L x = some (.string s) := by with_unfolding_all exact rfl) (hh : ev L hi = some (.int q i) := by with_unfolding_all exact rfl) (h0 : 0 ≤ i) (h1 : i ≤ s.size) (hd : Nat.blt d n = true := by with_unfolding_all exact rfl)
    (c : ∀ a', Slots a' n ((d, .string (s.extract 0 i.toNat)) :: L) → wpList P ops Q rest a' W) : wpList P ops Q (⟨some d, .slice S x none (some hi) none, T, p, e, none⟩ :: rest) a W := by
  refine st_value hs hd (W' := W) ?_ c
  simp only [execOp, Option.map_some, Option.map_none, hs.ev hx, hs.ev hh]
  simp only [Sem.run_bind, run_sliceAt_string (h := t.out), run_slice_string_h (ht := t.out) (h0 := h0) (h2 := h1), Result.andThen_ok]
  rfl
end
end Go.Sx
