/-
  Texts of the proof, one behind the other (part 3).
-/
import Derived.Test.YthpenehgfogloaaDoorM2
import Derived.Maps.RangeRun
import Derived.Test.YthpenehgfogloaaDoorProg
import Derived.Deep.RegionHeld3
/-
  Sx, maps with texts as keys.
-/
set_option linter.unusedVariables false
namespace Go.Sx
open Go.RowKit
/-- Entries: key, value. -/
abbrev KV := List (ByteArray × Value)
def ks (a b : ByteArray) : Bool := a == b
theorem ks_iff {a b : ByteArray} : ks a b = true ↔ a = b := by
  unfold ks
  constructor
  · intro h
    obtain ⟨a⟩ := a
    obtain ⟨b⟩ := b
    have : (a == b) = true := h
    rw [beq_iff_eq] at this
    rw [this]
  · rintro rfl
    obtain ⟨a⟩ := a
    show (a == a) = true
    exact beq_self_eq_true a
theorem ks_self (a : ByteArray) : ks a a = true := ks_iff.2 rfl
def dget : KV → ByteArray → Option Value
  | [], _ => none
  | p :: d, k => match ks k p.1 with | true => some p.2 | false => dget d k
def dset : KV → ByteArray → Value → KV
  | [], k, v => [(k, v)]
  | p :: d, k, v => match ks k p.1 with | true => (k, v) :: d | false => p :: dset d k v
def ddel : KV → ByteArray → KV
  | [], _ => []
  | p :: d, k => match ks k p.1 with | true => d | false => p :: ddel d k
structure Ent where
  k : ByteArray
  v : Value
  t : Nat
def Ent.raw (e : Ent) : MapEntry := ⟨.string e.k, e.v, e.t⟩
def Ent.kv (e : Ent) : ByteArray × Value := (e.k, e.v)
/-- A map's entries and stamps. -/
structure MapAt (W : World) (b : Nat) (es : List Ent) (c : Nat) : Prop where
  at_ : W.heap[b]? = some (.map ⟨es.map Ent.raw⟩ c)
  nodup : (es.map (·.t)).Nodup
  lt : ∀ e ∈ es, e.t < c
/-- A map's block. -/
def MapOf (b : Nat) (d : KV) : Res where
  ok F W := F b ∧ ∃ es c, MapAt W b es c ∧ es.map Ent.kv = d
  loc F W W' h := fun ⟨h1, es, c, h2, h3⟩ => ⟨h1, es, c, ⟨(h b h1).trans h2.at_, h2.nodup, h2.lt⟩, h3⟩

def fidx : List Ent → ByteArray → Nat → Option (Nat × Value)
  | [], _, _ => none
  | e :: es, k, i => match ks k e.k with | true => some (i, e.v) | false => fidx es k (i + 1)
theorem findNow_s (k : ByteArray) : ∀ (es : List Ent) (i : Nat), Instr.findNow .string (.string k) (es.map Ent.raw) i = some (fidx es k i)
  | [], _ => rfl
  | e :: es, i => by
    simp only [List.map_cons, Instr.findNow, Ent.raw, Instr.sameNow, fidx]
    rw [show (k == e.k) = ks k e.k from rfl]
    cases ks k e.k with
    | true => rfl
    | false => exact findNow_s k es (i + 1)
theorem fidx_none {k : ByteArray} : ∀ {es : List Ent} {i : Nat}, fidx es k i = none → dget (es.map Ent.kv) k = none ∧ (∀ v, dset (es.map Ent.kv) k v = es.map Ent.kv ++ [(k, v)]) ∧ ddel (es.map Ent.kv) k = es.map Ent.kv
  | [], _, _ => ⟨rfl, fun _ => rfl, rfl⟩
  | e :: es, i, h => by
    simp only [fidx] at h
    cases hk : ks k e.k with
    | true => rw [hk] at h; cases h
    | false =>
      rw [hk] at h
      obtain ⟨h1, h2, h3⟩ := fidx_none (es := es) (i := i + 1) h
      simp only [List.map_cons, dget, dset, ddel, Ent.kv, hk]
      exact ⟨h1, fun v => by rw [h2 v]; rfl, by rw [h3]⟩
theorem fidx_some {k : ByteArray} : ∀ {es : List Ent} {i j : Nat} {v0 : Value}, fidx es k i = some (j, v0) → dget (es.map Ent.kv) k = some v0 ∧ ∃ m e, j = i + m ∧ es[m]? = some e ∧ e.k = k ∧
    (∀ v, dset (es.map Ent.kv) k v = (es.modify m fun e => ⟨k, v, e.t⟩).map Ent.kv) ∧ ddel (es.map Ent.kv) k = (es.eraseIdx m).map Ent.kv
  | [], _, _, _, h => by simp [fidx] at h
  | e :: es, i, j, v0, h => by
    simp only [fidx] at h
    cases hk : ks k e.k with
    | true =>
      rw [hk] at h
      injection h with h
      injection h with h1 h2
      subst h1 h2
      simp only [List.map_cons, dget, dset, ddel, Ent.kv, hk]
      exact ⟨trivial, 0, e, rfl, rfl, (ks_iff.1 hk).symm, fun v => by simp [Ent.kv], by simp⟩
    | false =>
      rw [hk] at h
      obtain ⟨h1, m, e', h2, h3, h4, h5, h6⟩ := fidx_some (es := es) (i := i + 1) h
      simp only [List.map_cons, dget, dset, ddel, Ent.kv, hk]
      refine ⟨h1, m + 1, e', by omega, h3, h4, fun v => ?_, ?_⟩
      · rw [h5 v]; simp [Ent.kv]
      · rw [h6]; simp [Ent.kv]

section
variable {P : Program} {W : World} {T K E : TypeId}
/-- A map's type, its keys texts. -/
class Mp (P : Program) (T : TypeId) (K E : outParam TypeId) : Prop where
  out : P.underlying T = some (.map K E)
  key : P.underlying K = some .string
theorem run_checkKey_s (hK : P.underlying K = some .string) (em : Bool) (k : ByteArray) (W : World) : (Instr.checkKey em 10000 K (.string k)).run P W = .ok () W := by
  show (Instr.checkKey em (9999 + 1) K (.string k)).run P W = .ok () W
  unfold Instr.checkKey
  simp [run_underlying hK]
theorem run_findKey_s (hK : P.underlying K = some .string) (k : ByteArray) (es : List Ent) (W : World) : (Instr.findKey K (.string k) (es.map Ent.raw)).run P W = .ok (fidx es k 0) W := by
  unfold Instr.findKey
  simp only [Sem.run_bind, run_underlying hK, Result.andThen_ok, findNow_s]
  rfl
theorem MapAt.get {b : Nat} {es : List Ent} {c : Nat} (h : MapAt W b es c) : (getObj b).run P W = .ok (.map ⟨es.map Ent.raw⟩ c) W := MapKept.run_getObj_map h.at_
theorem run_lookup_s [m : Mp P T K E] {b : Nat} {es : List Ent} {c : Nat} {k : ByteArray} {zv : Value} (h : MapAt W b es c) (hz : (zeroValue E).run P W = .ok zv W) :
    (Instr.lookup T (.map (some b)) (.string k) false).run P W = .ok ((dget (es.map Ent.kv) k).getD zv) W := by
  unfold Instr.lookup
  simp only [Sem.run_bind, run_underlying m.out, Result.andThen_ok, h.get, run_checkKey_s m.key, run_findKey_s m.key, Sem.run_pure]
  cases hf : fidx es k 0 with
  | none =>
    simp only [(fidx_none hf).1, Sem.run_bind, hz, Result.andThen_ok, Sem.run_pure]
    rfl
  | some p =>
    obtain ⟨j, v⟩ := p
    simp only [(fidx_some hf).1, Sem.run_bind, Result.andThen_ok, Sem.run_pure]
    rfl
theorem run_lookup_ok_s [m : Mp P T K E] {b : Nat} {es : List Ent} {c : Nat} {k : ByteArray} {zv : Value} (h : MapAt W b es c) (hz : (zeroValue E).run P W = .ok zv W) :
    (Instr.lookup T (.map (some b)) (.string k) true).run P W = .ok (.tuple #[(dget (es.map Ent.kv) k).getD zv, .bool (dget (es.map Ent.kv) k).isSome]) W := by
  unfold Instr.lookup
  simp only [Sem.run_bind, run_underlying m.out, Result.andThen_ok, h.get, run_checkKey_s m.key, run_findKey_s m.key, Sem.run_pure]
  cases hf : fidx es k 0 with
  | none =>
    simp only [(fidx_none hf).1, Sem.run_bind, hz, Result.andThen_ok, Sem.run_pure]
    rfl
  | some p =>
    obtain ⟨j, v⟩ := p
    simp only [(fidx_some hf).1, Sem.run_bind, Result.andThen_ok, Sem.run_pure]
    rfl
theorem run_setObj_s {b : Nat} {es : List Ent} {c : Nat} (h : MapAt W b es c) (o' : Obj) : (setObj b o').run P W = .ok () (ChangeMaps.setBlock W b o') := by
  simp [setObj, Sem.run, h.at_, ChangeMaps.setBlock]
theorem setBlock_at {b : Nat} {o : Obj} (h : b < W.heap.size) : (ChangeMaps.setBlock W b o).heap[b]? = some o := by
  simp [ChangeMaps.setBlock, h]
theorem setBlock_ne {b r : Nat} {o : Obj} (h : r ≠ b) : (ChangeMaps.setBlock W b o).heap[r]? = W.heap[r]? := by
  simp only [ChangeMaps.setBlock, Array.getElem?_setIfInBounds]
  rw [if_neg (Ne.symm h)]
theorem MapAt.size {b : Nat} {es : List Ent} {c : Nat} (h : MapAt W b es c) : b < W.heap.size := by
  have := h.at_
  exact (Array.getElem?_eq_some_iff.1 this).1
theorem raw_modify (es : List Ent) (m : Nat) (k : ByteArray) (v : Value) : (es.map Ent.raw).modify m (fun e => { e with key := .string k, val := v }) = (es.modify m fun e => ⟨k, v, e.t⟩).map Ent.raw := by
  induction es generalizing m with
  | nil => simp
  | cons e es ih =>
    cases m with
    | zero => simp [Ent.raw]
    | succ m => simp [ih]
theorem t_modify (es : List Ent) (m : Nat) (k : ByteArray) (v : Value) : (es.modify m fun e => ⟨k, v, e.t⟩).map (·.t) = es.map (·.t) := by
  induction es generalizing m with
  | nil => simp
  | cons e es ih =>
    cases m with
    | zero => simp
    | succ m => simp [ih]
theorem raw_erase (es : List Ent) (m : Nat) : (es.map Ent.raw).eraseIdx m = (es.eraseIdx m).map Ent.raw := by
  induction es generalizing m with
  | nil => simp
  | cons e es ih =>
    cases m with
    | zero => simp
    | succ m => simp [ih]
/-- m[k] = v. -/
theorem run_update_s [m : Mp P T K E] {b : Nat} {es : List Ent} {c : Nat} {k : ByteArray} {v : Value} (h : MapAt W b es c) :
    ∃ W' es' c', (Instr.mapUpdate T (.map (some b)) (.string k) v).run P W = .ok () W' ∧ MapAt W' b es' c' ∧ es'.map Ent.kv = dset (es.map Ent.kv) k v ∧ ∃ o, W' = ChangeMaps.setBlock W b o := by
  unfold Instr.mapUpdate
  simp only [Sem.run_bind, run_underlying m.out, Result.andThen_ok, h.get, run_checkKey_s m.key, run_findKey_s m.key]
  cases hf : fidx es k 0 with
  | none =>
    obtain ⟨h1, h2, h3⟩ := fidx_none hf
    refine ⟨_, es ++ [⟨k, v, c⟩], c + 1, run_setObj_s h _, ⟨?_, ?_, ?_⟩, ?_, _, rfl⟩
    · rw [setBlock_at h.size]
      simp [Ent.raw]
    · rw [List.map_append, List.nodup_append]
      refine ⟨h.nodup, by simp, fun a ha b hb => ?_⟩
      obtain ⟨e, he, rfl⟩ := List.mem_map.1 ha
      simp only [List.map_cons, List.map_nil, List.mem_singleton] at hb
      have := h.lt e he
      omega
    · intro e he
      rcases List.mem_append.1 he with he | he
      · have := h.lt e he; omega
      · rw [List.mem_singleton] at he; subst he; exact Nat.lt_succ_self c
    · rw [h2 v]; simp [Ent.kv]
  | some p =>
    obtain ⟨j, v0⟩ := p
    obtain ⟨h1, i, e, h2, h3, h4, h5, h6⟩ := fidx_some hf
    rw [Nat.zero_add] at h2
    subst h2
    have hkey : (((⟨es.map Ent.raw⟩ : Array MapEntry)[j]?).map (·.key)).getD (.string k) = .string k := by
      simp [h3, Ent.raw, h4]
    have hstay : (Instr.keyThatStays (.string k) (.string k)).run P W = .ok (.string k) W := by
      unfold Instr.keyThatStays
      have : Instr.sameBits 10000 (.string k) (.string k) = true := by
        show Instr.sameBits (9999 + 1) (.string k) (.string k) = true
        unfold Instr.sameBits
        exact ks_self k
      simp [this]
    refine ⟨ChangeMaps.setBlock W b (.map (Array.modify ⟨es.map Ent.raw⟩ j fun e => { e with key := .string k, val := v }) c), es.modify j fun e => ⟨k, v, e.t⟩, c, ?_, ⟨?_, ?_, ?_⟩, (h5 v).symm, _, rfl⟩
    · simp only [Sem.run_bind, hkey, hstay, Result.andThen_ok]
      exact run_setObj_s h _
    · rw [setBlock_at h.size]
      congr 2
      apply Array.ext'
      rw [Array.toList_modify]
      exact raw_modify es j k v
    · rw [t_modify]; exact h.nodup
    · intro e' he'
      have : e'.t ∈ (es.modify j fun e => ⟨k, v, e.t⟩).map (·.t) := List.mem_map_of_mem he'
      rw [t_modify] at this
      obtain ⟨e2, he2, h7⟩ := List.mem_map.1 this
      rw [← h7]; exact h.lt e2 he2
/-- delete(m, k). -/
theorem run_delete_s [m : Mp P T K E] {b : Nat} {es : List Ent} {c : Nat} {k : ByteArray} {ty : TypeId} (h : MapAt W b es c) :
    ∃ W' es' c', (Builtin.delete_ #[T, K] ty #[.map (some b), .string k]).run P W = .ok (.tuple #[]) W' ∧ MapAt W' b es' c' ∧ es'.map Ent.kv = ddel (es.map Ent.kv) k ∧ ∃ o, W' = ChangeMaps.setBlock W b o := by
  unfold Builtin.delete_
  simp only [List.getElem?_toArray, List.getElem?_cons_zero, List.getElem?_cons_succ, Sem.run_bind, run_underlying m.out, Result.andThen_ok, h.get, run_checkKey_s m.key, run_findKey_s m.key]
  cases hf : fidx es k 0 with
  | none =>
    obtain ⟨h1, h2, h3⟩ := fidx_none hf
    refine ⟨_, es, c, ?_, ⟨setBlock_at h.size, h.nodup, h.lt⟩, h3.symm, _, rfl⟩
    simp only [Sem.run_bind, run_setObj_s h, Result.andThen_ok]
    rfl
  | some p =>
    obtain ⟨j, v0⟩ := p
    obtain ⟨h1, i, e, h2, h3, h4, h5, h6⟩ := fidx_some hf
    rw [Nat.zero_add] at h2
    subst h2
    refine ⟨ChangeMaps.setBlock W b (.map (Array.eraseIdxIfInBounds ⟨es.map Ent.raw⟩ j) c), es.eraseIdx j, c, ?_, ⟨?_, ?_, ?_⟩, h6.symm, _, rfl⟩
    · simp only [Sem.run_bind, run_setObj_s h, Result.andThen_ok]
      rfl
    · rw [setBlock_at h.size]
      congr 2
      apply Array.ext'
      rw [Array.toList_eraseIdxIfInBounds]
      exact raw_erase es j
    · exact h.nodup.sublist ((List.eraseIdx_sublist _ _).map _)
    · exact fun e he => h.lt e (List.mem_of_mem_eraseIdx he)
end

section
variable {G : Nat} {w W W' : World} {L L' R R' : List Res} {b : Nat} {d d' : KV}
theorem Has.setMap (h : Has G w W L) (u : Upd (MapOf b d) L (MapOf b d') L') {o : Obj} (hW : W' = ChangeMaps.setBlock W b o) (hd : ∃ es c, MapAt W' b es c ∧ es.map Ent.kv = d') : Has G w W' L' := by
  obtain ⟨F1, h1, h2, h3⟩ := h.has.upd u
  have hbG := (h1 b h2.1).1
  have hbl := (h1 b h2.1).2
  subst hW
  have hx : (ChangeMaps.setBlock W b o).heap.size = W.heap.size := by simp [ChangeMaps.setBlock]
  refine ⟨h.ext.trans ⟨rfl, rfl, rfl, by omega, fun c hc => setBlock_ne (by omega)⟩, h.glob, h3 _ _ (fun c => c = b) (fun c hc => ⟨hc.1, by omega⟩) ?_ ?_ ⟨rfl, hd⟩⟩
  · rintro c rfl
    exact ⟨⟨hbG, by omega⟩, fun _ => h2.1⟩
  · intro c hc hn
    refine setBlock_ne fun e => hn ?_
    rw [e]; exact h2.1
theorem Has.map_at (h : Has G w W L) (i : In (MapOf b d) L) : ∃ es c, MapAt W b es c ∧ es.map Ent.kv = d := by
  obtain ⟨F, _, h2⟩ := h.of_in i
  exact h2.2
theorem Has.newObj (h : Has G w W L) {o : Obj} {r : Res} (hr : r.ok (fun b => b = W.heap.size) (W.alloc o)) : Has G w (W.alloc o) (r :: L) := by
  have hb : Below W.heap.size W (W.alloc o) := (Below.refl _ _).alloc (Nat.le_refl _) _
  have h1 := h.below hb
  refine ⟨h1.ext, h1.glob, fun b => b = W.heap.size, ?_, hr, ?_⟩
  · rintro b rfl
    exact ⟨h.globW, by simp⟩
  · refine (h.has.loc fun b hb' => hb.block b hb'.2).mono fun b hb' => ⟨⟨hb'.1, Nat.lt_of_lt_of_le hb'.2 hb.size⟩, by omega⟩
theorem Has.newMap (h : Has G w W L) : Has G w (W.alloc (.map #[] 0)) (MapOf W.heap.size [] :: L) :=
  h.newObj ⟨rfl, [], 0, ⟨heap_alloc_new _ _, by simp, by simp⟩, rfl⟩
end

section
variable {P : Program} {ops : Array Oper} {rest : List Oper} {Q : Exit → Act → World → Prop} {a : Act} {n G : Nat} {L : List (Nat × Value)} {w W : World} {R R' : List Res} {dst b : Nat} {T K E ty : TypeId} {p : String} {e : Array Edge} {x y z : Operand} {k : ByteArray} {v zv : Value} {d : KV}
theorem st_makeMap (hs : Slots a n L) (hw : Has G w W R) (hd : Nat.blt dst n = true := by with_unfolding_all exact rfl)
    (c : ∀ a' b W', Has G w W' (MapOf b [] :: R) → Slots a' n ((dst, .map (some b)) :: L) → wpList P ops Q rest a' W') : wpList P ops Q (⟨some dst, .makeMap T none, ty, p, e, none⟩ :: rest) a W := by
  refine st_value hs hd (v := .map (some W.heap.size)) (W' := W.alloc (.map #[] 0)) ?_ fun a' hs' => c a' W.heap.size _ hw.newMap hs'
  simp only [execOp, Option.map_none, Sem.run_bind, run_makeMap, Result.andThen_ok]
  rfl
theorem st_lookup [m : Mp P T K E] (hs : Slots a n L) (hx : ev L x = some (.map (some b)) := by with_unfolding_all exact rfl) (hy : ev L y = some (.string k) := by with_unfolding_all exact rfl) (hw : Has G w W R) (hi : In (MapOf b d) R := by repeat (first | exact In.hd | apply In.tl)) (hz : ∀ W, (zeroValue E).run P W = .ok zv W) (hd : Nat.blt dst n = true := by with_unfolding_all exact rfl)
    (c : ∀ a', Slots a' n ((dst, (dget d k).getD zv) :: L) → wpList P ops Q rest a' W) : wpList P ops Q (⟨some dst, .lookup T x y false, ty, p, e, none⟩ :: rest) a W := by
  obtain ⟨es, ck, h1, rfl⟩ := hw.map_at hi
  refine st_value hs hd (W' := W) ?_ c
  simp only [execOp, hs.ev hx, hs.ev hy, Sem.run_bind, run_lookup_s h1 (hz W), Result.andThen_ok]
  rfl
theorem st_update [m : Mp P T K E] (hs : Slots a n L) (hx : ev L x = some (.map (some b)) := by with_unfolding_all exact rfl) (hy : ev L y = some (.string k) := by with_unfolding_all exact rfl) (hz : ev L z = some v := by with_unfolding_all exact rfl) (hw : Has G w W R) (hu : Upd (MapOf b d) R (MapOf b (dset d k v)) R' := by repeat (first | exact Upd.hd | apply Upd.tl))
    (c : ∀ W', Slots a n L → Has G w W' R' → wpList P ops Q rest a W') : wpList P ops Q (⟨none, .mapUpdate T x y z, ty, p, e, none⟩ :: rest) a W := by
  obtain ⟨F1, -, h2, -⟩ := hw.has.upd hu
  obtain ⟨-, es, ck, h1, rfl⟩ := h2
  obtain ⟨W', es', c', g1, g2, g3, o, g4⟩ := run_update_s (P := P) (T := T) (k := k) (v := v) h1
  refine st_skip hs (W' := W') ?_ fun hs' => c W' hs' (hw.setMap hu g4 ⟨es', c', g2, g3⟩)
  simp only [execOp, hs.ev hx, hs.ev hy, hs.ev hz, Sem.run_bind, g1, Result.andThen_ok]
  rfl
theorem st_value0 {op : Op} {W' : World} (hs : Slots a n L) (he : (execOp a.eval ⟨none, op, ty, p, e, none⟩).run P W = .ok (.value v) W')
    (c : Slots a n L → wpList P ops Q rest a W') : wpList P ops Q (⟨none, op, ty, p, e, none⟩ :: rest) a W := by
  refine wpList_plain rfl fun K hK => ?_
  simp only [Oper.wp, he, Oper.upon_value]
  exact hK _ _ (c hs)
theorem st_delete [m : Mp P T K E] (hs : Slots a n L) (hx : ev L x = some (.map (some b)) := by with_unfolding_all exact rfl) (hy : ev L y = some (.string k) := by with_unfolding_all exact rfl) (hw : Has G w W R) (hu : Upd (MapOf b d) R (MapOf b (ddel d k)) R' := by repeat (first | exact Upd.hd | apply Upd.tl))
    (c : ∀ W', Slots a n L → Has G w W' R' → wpList P ops Q rest a W') : wpList P ops Q (⟨none, .call { callee := .builtin .delete, args := #[x, y], argTypes := #[T, K] }, ty, p, e, none⟩ :: rest) a W := by
  obtain ⟨F1, -, h2, -⟩ := hw.has.upd hu
  obtain ⟨-, es, ck, h1, rfl⟩ := h2
  obtain ⟨W', es', c', g1, g2, g3, o, g4⟩ := run_delete_s (P := P) (T := T) (k := k) (ty := ty) h1
  refine st_value0 hs (v := .tuple #[]) (W' := W') ?_ fun hs' => c W' hs' (hw.setMap hu g4 ⟨es', c', g2, g3⟩)
  simp only [execOp, resolve, invoke, builtin, Sem.run_bind, Sem.run_pure, Result.andThen_ok, List.map_toArray, List.map_cons, List.map_nil, hs.ev hx, hs.ev hy, g1]
theorem st_len_map [m : Mp P T K E] (hs : Slots a n L) (hx : ev L x = some (.map (some b)) := by with_unfolding_all exact rfl) (hw : Has G w W R) (hi : In (MapOf b d) R := by repeat (first | exact In.hd | apply In.tl)) (hd : Nat.blt dst n = true := by with_unfolding_all exact rfl)
    (c : ∀ a', Slots a' n ((dst, .int .i64 (d.length : Int)) :: L) → wpList P ops Q rest a' W) : wpList P ops Q (⟨some dst, .call { callee := .builtin .len, args := #[x], argTypes := #[T] }, ty, p, e, none⟩ :: rest) a W := by
  obtain ⟨es, ck, h1, rfl⟩ := hw.map_at hi
  refine st_value hs hd (W' := W) ?_ c
  simp only [execOp, resolve, invoke, builtin, Builtin.len_, List.map_toArray, List.map_cons, List.map_nil, hs.ev hx, Sem.run_bind, Sem.run_pure, Result.andThen_ok]
  simp [Sem.run_bind, run_underlying m.out, goInt, h1.get]
end
/-- A map that is ranged over, and its iterator; what is still to come. -/
def Ranged (b it : Nat) (d left : KV) (cur : Option (ByteArray × Value)) : Res where
  ok F W := F b ∧ F it ∧ b ≠ it ∧ ∃ (es : List Ent) (c since : Nat) (seen : List Nat) (c0 : Nat), MapAt W b es c ∧ es.map Ent.kv = d ∧ W.heap[it]? = some (.mapIter (some b) since ⟨seen⟩ c0) ∧ (∀ e ∈ es, e.t < since) ∧ since ≤ c0 ∧ since ≤ c ∧ (es.filter fun e => !seen.contains e.t).map Ent.kv = left ∧ ∀ p, cur = some p → c0 = c ∧ ∃ (s : List Nat) (e : Ent), seen = s ++ [e.t] ∧ e ∈ es ∧ e.kv = p
  loc F W W' h := fun ⟨h1, h2, hn, es, c, since, seen, c0, h3, h4, h5, h6⟩ => ⟨h1, h2, hn, es, c, since, seen, c0, ⟨(h b h1).trans h3.at_, h3.nodup, h3.lt⟩, h4, (h it h2).trans h5, h6⟩
section
variable {G : Nat} {w W W' : World} {L L' R R' : List Res} {b it : Nat} {d left : KV} {cur : Option (ByteArray × Value)}
theorem Has.ranged (h : Has G w W (MapOf b d :: L)) : ∃ c, (∃ es, MapAt W b es c) ∧ Has G w (W.alloc (.mapIter (some b) c #[] c)) (Ranged b W.heap.size d d none :: L) := by
  obtain ⟨F1, h1, ⟨h2, es, c, h3, rfl⟩, h4⟩ := h.has
  have hb : Below W.heap.size W (W.alloc (.mapIter (some b) c #[] c)) := (Below.refl _ _).alloc (Nat.le_refl _) _
  have he := h.below hb
  refine ⟨c, ⟨es, h3⟩, he.ext, he.glob, fun x => F1 x ∨ x = W.heap.size, ?_, ⟨.inl h2, .inr rfl, ?_, es, c, c, [], c, ⟨?_, h3.nodup, h3.lt⟩, rfl, heap_alloc_new _ _, h3.lt, Nat.le_refl _, Nat.le_refl _, congrArg (List.map Ent.kv) (List.filter_eq_self.2 fun e _ => by simp), fun p h => by cases h⟩, ?_⟩
  · rintro x (hx | rfl)
    · exact ⟨(h1 x hx).1, Nat.lt_of_lt_of_le (h1 x hx).2 hb.size⟩
    · exact ⟨h.globW, by simp⟩
  · have := h3.size; omega
  · exact (heap_alloc_old W _ h3.size).trans h3.at_
  · refine (h4.loc fun x hx => hb.block x hx.1.2).mono fun x hx => ⟨⟨hx.1.1, Nat.lt_of_lt_of_le hx.1.2 hb.size⟩, ?_⟩
    rintro (h | h)
    · exact hx.2 h
    · have := hx.1.2; omega
theorem Has.unranged (h : Has G w W (Ranged b it d left cur :: L)) : Has G w W (MapOf b d :: L) := by
  obtain ⟨F1, h1, ⟨h2, h3, hn, es, c, since, seen, c0, h4, h5, h6⟩, h7⟩ := h.has
  exact ⟨h.ext, h.glob, F1, h1, ⟨h2, es, c, h4, h5⟩, h7⟩
theorem left_list (es : List Ent) (seen : List Nat) : (leftOf ⟨es.map Ent.raw⟩ ⟨seen⟩).toList = (es.filter fun e => !seen.contains e.t).map Ent.raw := by
  unfold leftOf
  simp only [Array.toList_filter, List.filter_map]
  congr 1
  apply List.filter_congr
  intro e _
  simp [Ent.raw]
  exact decide_eq_decide.2 Iff.rfl
theorem perm_take {es : List Ent} {seen : List Nat} {e : Ent} (hd : (es.map (·.t)).Nodup) (he : e ∈ es.filter fun e => !seen.contains e.t) :
    (es.filter fun e => !seen.contains e.t).Perm (e :: es.filter fun x => !(seen ++ [e.t]).contains x.t) := by
  have e1 : (es.filter fun x => !(seen ++ [e.t]).contains x.t) = (es.filter fun e => !seen.contains e.t).filter fun x => !(x.t == e.t) := by
    rw [List.filter_filter]
    apply List.filter_congr
    intro x _
    simp only [List.contains_eq_mem, List.mem_append, List.mem_singleton]
    by_cases h1 : x.t ∈ seen <;> by_cases h2 : x.t = e.t <;> simp [h1, h2]
  rw [e1]
  have hd' : ((es.filter fun e => !seen.contains e.t).map (·.t)).Nodup := hd.sublist (List.filter_sublist.map _)
  generalize (es.filter fun e => !seen.contains e.t) = l at *
  clear e1 hd
  induction l with
  | nil => simp at he
  | cons x l ih =>
    rw [List.map_cons, List.nodup_cons] at hd'
    rcases List.mem_cons.1 he with rfl | he
    · rw [List.filter_cons]
      simp only [beq_self_eq_true, Bool.not_true, Bool.false_eq_true, if_false]
      have : l.filter (fun x => !(x.t == e.t)) = l := by
        rw [List.filter_eq_self]
        intro y hy
        have : y.t ≠ e.t := fun h => hd'.1 (by rw [← h]; exact List.mem_map_of_mem hy)
        simpa using this
      rw [this]
    · have hne : x.t ≠ e.t := fun h => hd'.1 (by rw [h]; exact List.mem_map_of_mem he)
      rw [List.filter_cons]
      have : (x.t == e.t) = false := by simpa using hne
      simp only [this, Bool.not_false, if_true]
      exact ((ih he hd'.2).cons x).trans (List.Perm.swap _ _ _)
end
section
variable {P : Program} {ops : Array Oper} {rest : List Oper} {Q : Exit → Act → World → Prop} {a : Act} {n G : Nat} {L : List (Nat × Value)} {w W : World} {R R' : List Res} {dst b it : Nat} {T K E ty : TypeId} {p : String} {e : Array Edge} {x : Operand} {d left : KV} {cur : Option (ByteArray × Value)}
theorem st_range [m : Mp P T K E] (hs : Slots a n L) (hx : ev L x = some (.map (some b)) := by with_unfolding_all exact rfl) (hw : Has G w W (MapOf b d :: R)) (hd : Nat.blt dst n = true := by with_unfolding_all exact rfl)
    (c : ∀ a' it W', Has G w W' (Ranged b it d d none :: R) → Slots a' n ((dst, .pointer (some ⟨it, 0, none⟩)) :: L) → wpList P ops Q rest a' W') : wpList P ops Q (⟨some dst, .range T x, ty, p, e, none⟩ :: rest) a W := by
  obtain ⟨ck, ⟨es, h1⟩, hw'⟩ := hw.ranged
  refine st_value hs hd (v := .pointer (some ⟨W.heap.size, 0, none⟩)) (W' := W.alloc (.mapIter (some b) ck #[] ck)) ?_ fun a' hs' => c a' W.heap.size _ hw' hs'
  simp only [execOp, hs.ev hx, Sem.run_bind, run_range_map W T K E b _ _ m.out h1.at_, Result.andThen_ok]
  rfl
theorem st_next (hs : Slots a n L) (hx : ev L x = some (.pointer (some ⟨it, 0, none⟩)) := by with_unfolding_all exact rfl) (hw : Has G w W (Ranged b it d left cur :: R)) (hd : Nat.blt dst n = true := by with_unfolding_all exact rfl)
    (c1 : ∀ a', left = [] → Slots a' n ((dst, .tuple #[.bool false]) :: L) → wpList P ops Q rest a' W)
    (c2 : ∀ a' W' kv left', left.Perm (kv :: left') → Has G w W' (Ranged b it d left' (some kv) :: R) → Slots a' n ((dst, .tuple #[.bool true, .string kv.1, kv.2]) :: L) → wpList P ops Q rest a' W') : wpList P ops Q (⟨some dst, .next x false, ty, p, e, none⟩ :: rest) a W := by
  have hW := hw
  obtain ⟨F1, h1, ⟨h2, h3, hn, es, ck, since, seen, c0, h4, h5, h6, h7, h8, h9, h10, -⟩, h11⟩ := hw.has
  have hold : ∀ x ∈ (⟨es.map Ent.raw⟩ : Array MapEntry).toList, x.born < since := by
    intro x hx
    obtain ⟨e, he, rfl⟩ := List.mem_map.1 hx
    exact h7 e he
  rcases run_next_at (P := P) W ty it b since c0 ⟨seen⟩ ⟨es.map Ent.raw⟩ ck h6 h4.at_ hold h8 with ⟨g1, g2⟩ | ⟨en, g1, w1, g2, g3⟩
  · refine st_value hs hd (W' := W) ?_ fun a' hs' => c1 a' ?_ hs'
    · simp only [execOp, hs.ev hx, Sem.run_bind, g2, Result.andThen_ok]
      rfl
    · have : (leftOf ⟨es.map Ent.raw⟩ ⟨seen⟩).toList.length = 0 := by rw [Array.length_toList]; exact g1
      rw [left_list] at this
      rw [← h10]
      simpa using this
  · rw [left_list] at g1
    obtain ⟨e', he', rfl⟩ := List.mem_map.1 g1
    have hp := perm_take h4.nodup he'
    refine st_value hs hd (W' := ChangeMaps.setBlock w1 it (.mapIter (some b) since ((⟨seen⟩ : Array Nat).push e'.t) ck)) ?_ fun a' hs' => c2 a' _ e'.kv _ (by rw [← h10]; exact hp.map Ent.kv) ?_ hs'
    · simp only [execOp, hs.ev hx, Sem.run_bind, Ent.raw, g3, Result.andThen_ok]
      rfl
    · have hbl := (h1 it h3)
      have hw1 : w1.heap = W.heap ∧ w1.os = W.os ∧ w1.tape = W.tape ∧ w1.output = W.output := by rcases g2 with rfl | rfl <;> exact ⟨rfl, rfl, rfl, rfl⟩
      have hsz : w1.heap.size = W.heap.size := by rw [hw1.1]
      have hoth : ∀ r, r ≠ it → (ChangeMaps.setBlock w1 it (.mapIter (some b) since ((⟨seen⟩ : Array Nat).push e'.t) ck)).heap[r]? = W.heap[r]? := fun r hr => by
        rw [setBlock_ne hr, hw1.1]
      have hx2 : (ChangeMaps.setBlock w1 it (.mapIter (some b) since ((⟨seen⟩ : Array Nat).push e'.t) ck)).heap.size = W.heap.size := by simp [ChangeMaps.setBlock, hsz]
      refine ⟨hW.ext.trans ⟨hw1.2.1, hw1.2.2.1, hw1.2.2.2, by omega, fun r hr => hoth r (by omega)⟩, hW.glob, F1, ?_, ⟨h2, h3, hn, es, ck, since, seen ++ [e'.t], ck, ⟨(hoth b hn).trans h4.at_, h4.nodup, h4.lt⟩, h5, ?_, h7, h9, h9, rfl, fun p hp => ⟨rfl, seen, e', rfl, (List.mem_filter.1 he').1, Option.some.inj hp⟩⟩, ?_⟩
      · intro r hr
        rw [hx2]; exact h1 r hr
      · rw [setBlock_at (by omega)]
        simp
      · refine (h11.loc fun r hr => hoth r fun h => hr.2 (h ▸ h3)).mono fun r hr => ?_
        rw [hx2]; exact hr
theorem st_entry {kv : ByteArray × Value} (hs : Slots a n L) (hx : ev L x = some (.pointer (some ⟨it, 0, none⟩)) := by with_unfolding_all exact rfl) (hw : Has G w W R) (hi : In (Ranged b it d left (some kv)) R := by repeat (first | exact In.hd | apply In.tl)) (hd : Nat.blt dst n = true := by with_unfolding_all exact rfl)
    (c : ∀ a', Slots a' n ((dst, .tuple #[.string kv.1, kv.2]) :: L) → wpList P ops Q rest a' W) : wpList P ops Q (⟨some dst, .entry x, ty, p, e, none⟩ :: rest) a W := by
  obtain ⟨F, -, h2, h3, hn, es, ck, since, seen, c0, h4, h5, h6, h7, h8, h9, h10, h11⟩ := hw.of_in hi
  obtain ⟨rfl, s, e', rfl, he, rfl⟩ := h11 kv rfl
  refine st_value hs hd (W' := W) ?_ c
  have hr : W.heap[it]? = some (.mapIter (some b) since ((⟨s⟩ : Array Nat).push e'.raw.born) c0) := by rw [h6]; simp [Ent.raw]
  have := run_entry_at (P := P) W it b since ⟨s⟩ ⟨es.map Ent.raw⟩ c0 e'.raw hr h4.at_ (List.mem_map_of_mem he) (by simpa [Ent.raw, Function.comp_def] using h4.nodup)
  simp only [execOp, hs.ev hx, Sem.run_bind, this, Result.andThen_ok]
  rfl
end
/-! lists of entries -/
theorem dset_new : ∀ {d : KV} {k : ByteArray} (v : Value), k ∉ d.map (·.1) → dset d k v = d ++ [(k, v)]
  | [], _, _, _ => rfl
  | p :: d, k, v, h => by
    rw [List.map_cons, List.mem_cons, not_or] at h
    have : ks k p.1 = false := by
      cases hk : ks k p.1 with
      | false => rfl
      | true => exact absurd (ks_iff.1 hk) h.1
    simp only [dset, this]
    rw [dset_new v h.2]; rfl
theorem dget_none : ∀ {d : KV} {k : ByteArray}, dget d k = none ↔ k ∉ d.map (·.1)
  | [], _ => by simp [dget]
  | p :: d, k => by
    simp only [dget, List.map_cons, List.mem_cons, not_or]
    cases hk : ks k p.1 with
    | true => simp [ks_iff.1 hk]
    | false =>
      have : k ≠ p.1 := fun h => by rw [ks_iff.2 h] at hk; cases hk
      simp only [this, not_false_eq_true, true_and]
      exact dget_none
theorem dget_mem : ∀ {d : KV} {k : ByteArray} {v : Value}, (d.map (·.1)).Nodup → (dget d k = some v ↔ (k, v) ∈ d)
  | [], _, _, _ => by simp [dget]
  | p :: d, k, v, h => by
    rw [List.map_cons, List.nodup_cons] at h
    simp only [dget, List.mem_cons]
    cases hk : ks k p.1 with
    | true =>
      have e := ks_iff.1 hk
      constructor
      · intro h'
        injection h' with h'
        exact .inl (by rw [e, ← h'])
      · rintro (h' | h')
        · rw [← h']
        · exact absurd (List.mem_map_of_mem (f := (·.1)) h') (by rw [e]; exact h.1)
    | false =>
      have : k ≠ p.1 := fun h => by rw [ks_iff.2 h] at hk; cases hk
      simp only
      rw [dget_mem h.2]
      constructor
      · exact .inr
      · rintro (h' | h')
        · exact absurd (by rw [← h']) this
        · exact h'
theorem dget_perm {d d' : KV} (p : d.Perm d') (h : (d.map (·.1)).Nodup) (k : ByteArray) : dget d k = dget d' k := by
  have h' : (d'.map (·.1)).Nodup := (p.map _).nodup_iff.1 h
  cases hd : dget d k with
  | some v => exact ((dget_mem h').2 (p.mem_iff.1 ((dget_mem h).1 hd))).symm
  | none =>
    rw [dget_none] at hd
    exact (dget_none.2 fun hm => hd ((p.map _).mem_iff.2 hm)).symm
end Go.Sx

/-
  Sx, more: pieces in another order; a place that is free, and filled.
-/
set_option linter.unusedVariables false
namespace Go.Sx
theorem HasIn.under {W : World} {r : Res} {A B : List Res} (f : ∀ F, HasIn W A F → HasIn W B F) {F : Nat → Prop} : HasIn W (r :: A) F → HasIn W (r :: B) F :=
  fun ⟨F1, h1, h2, h3⟩ => ⟨F1, h1, h2, f _ h3⟩
theorem HasIn.perm {W : World} {A B : List Res} (p : A.Perm B) : ∀ {F : Nat → Prop}, HasIn W A F → HasIn W B F := by
  induction p with
  | nil => exact fun h => h
  | cons x _ ih => exact fun h => HasIn.under (fun F => ih) h
  | swap x y l => exact fun h => HasIn.swap h
  | trans _ _ ih1 ih2 => exact fun h => ih2 (ih1 h)
theorem Has.perm {G : Nat} {w W : World} {A B : List Res} (h : Has G w W A) (p : A.Perm B) : Has G w W B := ⟨h.ext, h.glob, h.has.perm p⟩
/-- A free place. -/
def Free : Res where
  ok _ _ := True
  loc _ _ _ _ h := h
theorem Has.free {G : Nat} {w W : World} {A : List Res} (h : Has G w W A) : Has G w W (Free :: A) :=
  ⟨h.ext, h.glob, fun _ => False, fun _ h => h.elim, trivial, h.has.mono fun b hb => ⟨hb, fun h => h⟩⟩
/-- The first piece takes another's place. -/
theorem HasIn.fill {W : World} {r q : Res} {L L' : List Res} (u : Upd q L r L') : ∀ {F : Nat → Prop}, HasIn W (r :: L) F → HasIn W L' F := by
  induction u with
  | hd =>
    rintro F ⟨F1, h1, h2, F2, h3, h4, h5⟩
    exact ⟨F1, h1, h2, h5.mono fun b hb => hb.1⟩
  | tl u ih => exact fun h => HasIn.under (fun F => ih) (HasIn.swap h)
theorem Has.fill {G : Nat} {w W : World} {r q : Res} {L L' : List Res} (h : Has G w W (r :: L)) (u : Upd q L r L') : Has G w W L' := ⟨h.ext, h.glob, h.has.fill u⟩
/-- A fact that goes along. -/
def Fact (p : Prop) : Res where
  ok _ _ := p
  loc _ _ _ _ h := h
theorem Has.fact {G : Nat} {w W : World} {A : List Res} {p : Prop} (h : Has G w W A) (hp : p) : Has G w W (Fact p :: A) :=
  ⟨h.ext, h.glob, fun _ => False, fun _ h => h.elim, hp, h.has.mono fun b hb => ⟨hb, fun h => h⟩⟩
theorem Has.told {G : Nat} {w W : World} {A : List Res} {p : Prop} (h : Has G w W A) (i : In (Fact p) A) : p := by
  obtain ⟨F, _, h2⟩ := h.of_in i
  exact h2
section
variable {P : Program} {ops : Array Oper} {rest : List Oper} {Q : Exit → Act → World → Prop} {a : Act} {n G : Nat} {L : List (Nat × Value)} {w W W' : World} {R : List Res} {d k cap : Nat} {T S S' E : TypeId} {p : String} {e : Array Edge} {x y : Operand} {ad : Option Addr}
/-- A slice against nil. -/
theorem st_eqnil [sl : Sl P S E] (hs : Slots a n L) (hx : ev L x = some (.slice ad k cap) := by with_unfolding_all exact rfl) (hd : Nat.blt d n = true := by with_unfolding_all exact rfl)
    (c : ∀ a', Slots a' n ((d, .bool ad.isNone) :: L) → wpList P ops Q rest a' W) : wpList P ops Q (⟨some d, .binOp .eql S x (.const (.slice none 0 0)) S', T, p, e, none⟩ :: rest) a W := by
  refine st_value hs hd (W' := W) ?_ c
  have h1 : ∀ d, (Op.equalIn (d + 1) S (.slice ad k cap) (.slice none 0 0)).run P W = .ok ad.isNone W := fun d => by
    cases ad <;> simp [Op.equalIn, run_underlying sl.out]
  have h2 : (binOp .eql S (.slice ad k cap) (.slice none 0 0)).run P W = .ok (.bool ad.isNone) W := by
    simp only [binOp, Op.equal, Sem.run_bind]
    rw [show Op.maxDepth = 9999 + 1 from rfl, h1 9999]
    rfl
  have h3 : a.eval (.const (.slice none 0 0)) = .slice none 0 0 := rfl
  simp only [execOp, hs.ev hx, h3, Sem.run_bind]
  simp [eqGuard, h2]
/-- A text's first bytes. -/
theorem st_slice_str_hi {s : ByteArray} {q : IntKind} {i : Int} {hi : Operand} [t : StrTy P S] (hs : Slots a n L) (hx : ev L x = some (.string s) := by with_unfolding_all exact rfl) (hh : ev L hi = some (.int q i) := by with_unfolding_all exact rfl) (h0 : 0 ≤ i) (h1 : i ≤ s.size) (hd : Nat.blt d n = true := by with_unfolding_all exact rfl)
    (c : ∀ a', Slots a' n ((d, .string (s.extract 0 i.toNat)) :: L) → wpList P ops Q rest a' W) : wpList P ops Q (⟨some d, .slice S x none (some hi) none, T, p, e, none⟩ :: rest) a W := by
  refine st_value hs hd (W' := W) ?_ c
  simp only [execOp, Option.map_some, Option.map_none, hs.ev hx, hs.ev hh]
  simp only [Sem.run_bind, run_sliceAt_string (h := t.out), run_slice_string_h (ht := t.out) (h0 := h0) (h2 := h1), Result.andThen_ok]
  rfl
end
end Go.Sx

/-
  Sx, memory that is not written any more; pieces made of pieces.
-/
set_option linter.unusedVariables false
namespace Go.Sx
open Go.RowKit
theorem perm_pick {r : Res} {L L' K : List Res} (p : Pick r L L') (h : L'.Perm K) : L.Perm (r :: K) := by
  induction p generalizing K with
  | hd => exact h.cons r
  | tl p ih => exact ((ih (List.Perm.refl _)).cons _).trans ((List.Perm.swap _ _ _).trans (h.cons r))
/-- What is frozen: each block with what it holds. -/
abbrev Fh := Nat → Option Obj
def Fz (H : Fh) : Res where
  ok F W := ∀ b o, H b = some o → F b ∧ W.heap[b]? = some o
  loc F W W' h k := fun b o hb => ⟨(k b o hb).1, (h b (k b o hb).1).trans (k b o hb).2⟩
/-- More is frozen. -/
def Fh.le (H H' : Fh) : Prop := ∀ b o, H b = some o → H' b = some o
theorem Fh.le.refl (H : Fh) : H.le H := fun _ _ h => h
theorem Fh.le.trans {H H' H'' : Fh} (h : H.le H') (k : H'.le H'') : H.le H'' := fun b o e => k b o (h b o e)
/-- A world's blocks. -/
def fr (w : World) : Fh := fun b => w.heap[b]?
section
variable {G : Nat} {w W W' : World} {L L' R : List Res} {H H' : Fh}
theorem Has.startF (w : World) : Has 0 w w [Fz (fr w)] :=
  ⟨Ext.refl _ _, Nat.zero_le _, fun b => 0 ≤ b ∧ b < w.heap.size, fun _ h => h, fun b o hb => ⟨⟨Nat.zero_le _, (Array.getElem?_eq_some_iff.1 hb).1⟩, hb⟩, trivial⟩
theorem Has.endF (h : Has 0 w W L) (i : In (Fz H) L) (hH : (fr w).le H) : Below w.heap.size w W := by
  obtain ⟨F, _, h2⟩ := h.of_in i
  refine ⟨h.ext.os, h.ext.tape, h.ext.output, h.ext.size, fun b hb => ?_⟩
  obtain ⟨o, ho⟩ : ∃ o, w.heap[b]? = some o := ⟨w.heap[b], Array.getElem?_eq_getElem hb⟩
  rw [ho]
  exact (h2 b o (hH b o ho)).2
/-- Read in what is frozen. -/
def RdH (H : Fh) (size : Nat) (v : Value) (n : Nat) (xs : List Value) : Prop :=
  xs.length = n * size ∧ ∃ ad cap, v = .slice ad n cap ∧ n ≤ cap ∧ cap ≤ 9223372036854775807 ∧ (n = 0 ∨ ∃ b o cs T z, ad = some ⟨b, o, none⟩ ∧ H b = some (.cells cs T z) ∧ ∀ j x, xs[j]? = some x → cs[o + j]? = some x)
theorem RdH.le {size n : Nat} {v : Value} {xs : List Value} (r : RdH H size v n xs) (h : H.le H') : RdH H' size v n xs := by
  obtain ⟨h1, ad, cap, h2, h3, h4, h5⟩ := r
  refine ⟨h1, ad, cap, h2, h3, h4, h5.imp id ?_⟩
  rintro ⟨b, o, cs, T, z, e, hb, hc⟩
  exact ⟨b, o, cs, T, z, e, h _ _ hb, hc⟩
theorem RdH.len {size n : Nat} {v : Value} {xs : List Value} (r : RdH H size v n xs) : n ≤ 9223372036854775807 := by
  obtain ⟨_, _, cap, _, h3, h4, _⟩ := r; omega
theorem RdH.slice {size n : Nat} {v : Value} {xs : List Value} (r : RdH H size v n xs) : ∃ ad cap, v = .slice ad n cap := by
  obtain ⟨_, ad, cap, e, _⟩ := r; exact ⟨ad, cap, e⟩
theorem RdH.nil (H : Fh) (size c : Nat) (hc : c ≤ 9223372036854775807) : RdH H size (.slice none 0 c) 0 [] := ⟨by simp, none, c, rfl, by omega, hc, .inl rfl⟩
theorem RdH.of_rd {size n : Nat} {v : Value} {xs : List Value} (r : Rd W size v n xs) (hH : (fr W).le H) (h0 : 0 < size) : RdH H size v n xs := by
  obtain ⟨h1, ad, cap, h2, h3, h4, h5⟩ := r
  refine ⟨h1, ad, cap, h2, h3, h4, ?_⟩
  rcases h5 with h5 | ⟨b, o, e, hlt, hc⟩
  · exact .inl h5
  · rcases Nat.eq_zero_or_pos n with hn | hn
    · exact .inl hn
    · right
      have hx : 0 < xs.length := by rw [h1]; exact Nat.mul_pos hn h0
      have hc0 := hc 0 xs[0] (by simp [hx])
      unfold World.cell? at hc0
      cases hb : W.heap[b]? with
      | none => simp [hb] at hc0
      | some ob =>
        cases ob with
        | cells cs T z =>
          refine ⟨b, o, cs, T, z, e, hH b _ hb, fun j x hj => ?_⟩
          have := hc j x hj
          unfold World.cell? at this
          simpa [hb] using this
        | _ => simp [hb] at hc0
/-- What is frozen can be read. -/
theorem Has.rdH {w0 : World} {size n : Nat} {v : Value} {xs : List Value} (h : Has G w0 W L) (i : In (Fz H) L) (r : RdH H size v n xs) : Rd W size v n xs := by
  obtain ⟨F, hF, h2⟩ := h.of_in i
  obtain ⟨h1, ad, cap, e2, h3, h4, h5⟩ := r
  refine ⟨h1, ad, cap, e2, h3, h4, h5.imp id ?_⟩
  rintro ⟨b, o, cs, T, z, e, hb, hc⟩
  have hw := h2 b _ hb
  refine ⟨b, o, e, (hF b hw.1).2, fun j x hx => ?_⟩
  unfold World.cell?
  rw [hw.2]
  simpa using hc j x hx
/-- A piece is frozen. -/
theorem Has.freeze {r : Res} {R' : List Res} (h : Has G w W (r :: Fz H :: R)) : ∃ H', H.le H' ∧ Has G w W (Fz H' :: R) ∧ ∃ F, r.ok F W ∧ ∀ b o, F b → W.heap[b]? = some o → H' b = some o := by
  classical
  obtain ⟨F1, h1, h2, F2, h3, h4, h5⟩ := h.has
  refine ⟨fun b => if F1 b then W.heap[b]? else H b, fun b o hb => ?_, ⟨h.ext, h.glob, fun b => F1 b ∨ F2 b, ?_, fun b o hb => ?_, ?_⟩, F1, h2, fun b o hb ho => ?_⟩
  · have := (h3 b (h4 b o hb).1).2
    simp only [if_neg this]
    exact hb
  · rintro b (hb | hb)
    · exact h1 b hb
    · exact (h3 b hb).1
  · by_cases hf : F1 b
    · simp only [if_pos hf] at hb
      exact ⟨.inl hf, hb⟩
    · simp only [if_neg hf] at hb
      exact ⟨.inr (h4 b o hb).1, (h4 b o hb).2⟩
  · refine h5.mono fun b hb => ⟨hb.1.1, ?_⟩
    rintro (h | h)
    · exact hb.1.2 h
    · exact hb.2 h
  · simp only [if_pos hb]; exact ho
/-- A row of one's own is frozen. -/
theorem Has.freeze_own {E : TypeId} {size n : Nat} {v : Value} {xs : List Value} (h : Has G w W (Own E size v n xs :: Fz H :: R)) : ∃ H', H.le H' ∧ Has G w W (Fz H' :: R) ∧ RdH H' size v n xs := by
  obtain ⟨H', h1, h2, F, h3, h4⟩ := h.freeze (R' := [])
  refine ⟨H', h1, h2, ?_⟩
  obtain ⟨hl, ⟨rfl, rfl⟩ | ⟨g, cap, cur, rfl, hF, hg, hnc, hcm, hcs, ht⟩⟩ := h3
  · exact ⟨hl, none, 0, rfl, by omega, by omega, .inl rfl⟩
  · refine ⟨hl, some ⟨g, 0, none⟩, cap, rfl, hnc, by unfold maxLen at hcm; omega, .inr ⟨g, 0, ⟨cur⟩, E, (0, 0), rfl, h4 g _ hF hg, fun j x hx => ?_⟩⟩
    rw [← ht, List.getElem?_take] at hx
    split at hx
    · simpa using hx
    · cases hx
end

/-- A piece made of pieces that hang on what is not told. -/
def Ex {α : Type} (Ls : α → List Res) : Res where
  ok F W := ∃ x, HasIn W (Ls x) F
  loc F W W' h := fun ⟨x, k⟩ => ⟨x, k.loc h⟩
theorem HasIn.append {W : World} : ∀ {A B : List Res} {F F1 : Nat → Prop}, HasIn W A F1 → (∀ b, F1 b → F b) → HasIn W B (fun b => F b ∧ ¬ F1 b) → HasIn W (A ++ B) F
  | [], B, F, F1, _, _, h => h.mono fun b hb => hb.1
  | r :: A, B, F, F1, ⟨F2, h1, h2, h3⟩, hF, h => by
    refine ⟨F2, fun b hb => hF b (h1 b hb), h2, HasIn.append (F1 := fun b => F1 b ∧ ¬ F2 b) h3 (fun b hb => ⟨hF b hb.1, hb.2⟩) ?_⟩
    exact h.mono fun b hb => ⟨⟨hb.1, fun h2 => hb.2 (h1 b h2)⟩, fun h2 => hb.2 h2.1⟩
theorem HasIn.unappend {W : World} : ∀ {A B : List Res} {F : Nat → Prop}, HasIn W (A ++ B) F → ∃ F1, (∀ b, F1 b → F b) ∧ HasIn W A F1 ∧ HasIn W B (fun b => F b ∧ ¬ F1 b)
  | [], B, F, h => ⟨fun _ => False, fun _ h => h.elim, trivial, h.mono fun b hb => ⟨hb, fun h => h⟩⟩
  | r :: A, B, F, ⟨F2, h1, h2, h3⟩ => by
    obtain ⟨F1, g1, g2, g3⟩ := HasIn.unappend h3
    refine ⟨fun b => F2 b ∨ F1 b, ?_, ⟨F2, fun b hb => .inl hb, h2, g2.mono fun b hb => ⟨.inr hb, (g1 b hb).2⟩⟩, g3.mono fun b hb => ⟨hb.1.1, ?_⟩⟩
    · rintro b (hb | hb)
      · exact h1 b hb
      · exact (g1 b hb).1
    · rintro (h | h)
      · exact hb.1.2 h
      · exact hb.2 h
section
variable {α : Type} {Ls : α → List Res} {G : Nat} {w W : World} {R : List Res}
theorem Has.shut (x : α) (h : Has G w W (Ls x ++ R)) : Has G w W (Ex Ls :: R) := by
  obtain ⟨F1, h1, h2, h3⟩ := HasIn.unappend h.has
  exact ⟨h.ext, h.glob, F1, h1, ⟨x, h2⟩, h3⟩
theorem Has.open (h : Has G w W (Ex Ls :: R)) : ∃ x, Has G w W (Ls x ++ R) := by
  obtain ⟨F1, h1, ⟨x, h2⟩, h3⟩ := h.has
  exact ⟨x, h.ext, h.glob, HasIn.append h2 h1 h3⟩
end
section
variable {P : Program} {ops : Array Oper} {rest : List Oper} {Q : Exit → Act → World → Prop} {a : Act} {n G : Nat} {L : List (Nat × Value)} {w W W' : World} {R : List Res} {d : Nat} {T S S' E : TypeId} {p : String} {e : Array Edge} {x : Operand} {ad : Addr}
/-- A pointer against nil. -/
theorem st_ptrSome (hs : Slots a n L) (hx : ev L x = some (.pointer (some ad)) := by with_unfolding_all exact rfl) (ht : P.underlying S = some (.pointer (P.pointee S)) := by kernel_rfl) (hd : Nat.blt d n = true := by with_unfolding_all exact rfl)
    (k : ∀ a', Slots a' n ((d, .bool false) :: L) → wpList P ops Q rest a' W) : wpList P ops Q (⟨some d, .binOp .eql S x (.const (.pointer none)) S', T, p, e, none⟩ :: rest) a W := by
  refine st_value hs hd (W' := W) ?_ k
  have h2 : (binOp .eql S (.pointer (some ad)) (.pointer none)).run P W = .ok (.bool false) W := by
    have := run_eql_pointer_nil (P := P) W S (some ad) ht
    simpa using this
  have h3 : a.eval (.const (.pointer none)) = .pointer none := rfl
  simp only [execOp, hs.ev hx, h3, Sem.run_bind]
  simp [eqGuard, h2]
theorem st_ptrNone (hs : Slots a n L) (hx : ev L x = some (.pointer none) := by with_unfolding_all exact rfl) (ht : P.underlying S = some (.pointer (P.pointee S)) := by kernel_rfl) (hd : Nat.blt d n = true := by with_unfolding_all exact rfl)
    (k : ∀ a', Slots a' n ((d, .bool true) :: L) → wpList P ops Q rest a' W) : wpList P ops Q (⟨some d, .binOp .eql S x (.const (.pointer none)) S', T, p, e, none⟩ :: rest) a W := by
  refine st_value hs hd (W' := W) ?_ k
  have h2 : (binOp .eql S (.pointer none) (.pointer none)).run P W = .ok (.bool true) W := by
    have := run_eql_pointer_nil (P := P) W S none ht
    simpa using this
  have h3 : a.eval (.const (.pointer none)) = .pointer none := rfl
  simp only [execOp, hs.ev hx, h3, Sem.run_bind]
  simp [eqGuard, h2]
end
/-- An array's type. -/
class Ar (P : Program) (S : TypeId) (len : outParam Nat) (E : outParam TypeId) : Prop where
  out : P.underlying S = some (.array len E)
section
variable {P : Program} {ops : Array Oper} {rest : List Oper} {Q : Exit → Act → World → Prop} {a : Act} {n G : Nat} {L : List (Nat × Value)} {w W W' : World} {R : List Res} {d k b o len : Nat} {T S S' E : TypeId} {p : String} {e : Array Edge} {x y : Operand} {z : List Value} {q : IntKind} {j : Int}
/-- An empty literal: a row of one's own. -/
theorem st_buildSlice0 {agg : Bool} [sl : Sl P S E] [t : Ty P E agg z] (hs : Slots a n L) (hw : Has G w W R) (hd : Nat.blt d n = true := by with_unfolding_all exact rfl)
    (c : ∀ a' ad W', Has G w W' (Own E z.length (.slice ad 0 0) 0 [] :: R) → Slots a' n ((d, .slice ad 0 0) :: L) → wpList P ops Q rest a' W') : wpList P ops Q (⟨some d, .buildSlice S 0 #[], T, p, e, none⟩ :: rest) a W := by
  have hr : (Instr.buildSlice S 0 #[]).run P W = .ok (.slice (some ⟨W.heap.size, 0, none⟩) 0 0) (W.alloc (.cells ⟨[]⟩ E)) := by
    have hf : ∀ (f : Nat → Option (Nat × Nat)) (cs : Array Value), Instr.fill f cs [] = some cs := fun f cs => rfl
    have h0 : ∀ g : Nat → Value, (Array.range 0).map g = ⟨[]⟩ := fun g => by simp
    simp only [Instr.buildSlice, Sem.run_bind, run_underlying sl.out, Result.andThen_ok, t.sizeOf, Nat.zero_mul, if_true, hf, h0, newRow]
    rfl
  refine st_value hs hd (v := .slice (some ⟨W.heap.size, 0, none⟩) 0 0) (W' := W.alloc (.cells ⟨[]⟩ E)) ?_ fun a' hs' => c a' _ _ ?_ hs'
  · simp only [execOp, Sem.run_bind, List.map_toArray, List.map_nil]
    rw [hr]
    rfl
  · obtain ⟨F1, h1, ⟨h2, h3⟩, h4⟩ := (hw.new [] E).has
    exact ⟨(hw.new [] E).ext, hw.glob, F1, h1, ⟨by simp, .inr ⟨W.heap.size, 0, [], rfl, h2, h3, Nat.le_refl _, Nat.zero_le _, by simp, by simp⟩⟩, h4⟩
/-- An array's element, its address. -/
theorem st_index_arr {agg : Bool} [ar : Ar P S len E] [t : Ty P E agg z] (hs : Slots a n L) (hx : ev L x = some (.pointer (some ⟨b, o, none⟩)) := by with_unfolding_all exact rfl) (hy : ev L y = some (.int q j) := by with_unfolding_all exact rfl) (h0 : 0 ≤ j) (h1 : j < len) (hd : Nat.blt d n = true := by with_unfolding_all exact rfl)
    (c : ∀ a', Slots a' n ((d, .pointer (some ⟨b, o + j.toNat * z.length, none⟩)) :: L) → wpList P ops Q rest a' W) : wpList P ops Q (⟨some d, .indexAddr S x y, T, p, e, none⟩ :: rest) a W := by
  refine st_value hs hd (W' := W) ?_ c
  simp only [execOp, hs.ev hx, hs.ev hy, Instr.indexAt, asIntOf, Sem.run_bind, Sem.run_pure, Result.andThen_ok, run_underlying ar.out, Instr.sureAddr]
  rw [if_pos ⟨h0, h1⟩]
  simp only [Sem.run_bind, t.sizeOf, Result.andThen_ok, Sem.run_pure, addr_add]
end
end Go.Sx

/-
  What is known of the seat's types: an instance each (printed by gen_types.py).
-/
namespace Go.Proofs.YthpenehgfogloaaDoor
open Go.Sx
instance ty1 : Ty Tryd.prog 1 false [Value.nilFunc] := .mk' (v := Value.nilFunc) (k := 1) (by kernel_rfl) (by kernel_rfl) rfl rfl
instance ty2 : Ty Tryd.prog 2 false [Value.int .i64 0] := .mk' (v := Value.int .i64 0) (k := 1) (by kernel_rfl) (by kernel_rfl) rfl rfl
instance ty3 : Ty Tryd.prog 3 false [Value.int .i64 0] := .mk' (v := Value.int .i64 0) (k := 1) (by kernel_rfl) (by kernel_rfl) rfl rfl
instance ty4 : Ty Tryd.prog 4 false [Value.bool false] := .mk' (v := Value.bool false) (k := 1) (by kernel_rfl) (by kernel_rfl) rfl rfl
instance ty5 : Ty Tryd.prog 5 false [Value.int .u8 0] := .mk' (v := Value.int .u8 0) (k := 1) (by kernel_rfl) (by kernel_rfl) rfl rfl
instance ty6 : Ty Tryd.prog 6 false [Value.int .u8 0] := .mk' (v := Value.int .u8 0) (k := 1) (by kernel_rfl) (by kernel_rfl) rfl rfl
instance ty7 : Ty Tryd.prog 7 true [Value.int .i64 0, Value.int .i64 0, Value.bool false, Value.int .u8 0] := .mk' (v := .agg #[Value.int .i64 0, Value.int .i64 0, Value.bool false, Value.int .u8 0]) (k := 4) (by kernel_rfl) (by kernel_rfl) rfl rfl
instance ty8 : Ty Tryd.prog 8 true [Value.int .i64 0, Value.int .i64 0, Value.bool false, Value.int .u8 0] := .mk' (v := .agg #[Value.int .i64 0, Value.int .i64 0, Value.bool false, Value.int .u8 0]) (k := 4) (by kernel_rfl) (by kernel_rfl) rfl rfl
instance ty9 : Ty Tryd.prog 9 false [Value.string ⟨#[]⟩] := .mk' (v := Value.string ⟨#[]⟩) (k := 1) (by kernel_rfl) (by kernel_rfl) rfl rfl
instance ty10 : Ty Tryd.prog 10 false [Value.string ⟨#[]⟩] := .mk' (v := Value.string ⟨#[]⟩) (k := 1) (by kernel_rfl) (by kernel_rfl) rfl rfl
instance ty11 : Ty Tryd.prog 11 false [Value.string ⟨#[]⟩] := .mk' (v := Value.string ⟨#[]⟩) (k := 1) (by kernel_rfl) (by kernel_rfl) rfl rfl
instance ty12 : Ty Tryd.prog 12 false [Value.int .u64 0] := .mk' (v := Value.int .u64 0) (k := 1) (by kernel_rfl) (by kernel_rfl) rfl rfl
instance ty13 : Ty Tryd.prog 13 true [Value.string ⟨#[]⟩, Value.int .u64 0] := .mk' (v := .agg #[Value.string ⟨#[]⟩, Value.int .u64 0]) (k := 2) (by kernel_rfl) (by kernel_rfl) rfl rfl
instance ty14 : Ty Tryd.prog 14 true [Value.string ⟨#[]⟩, Value.int .u64 0] := .mk' (v := .agg #[Value.string ⟨#[]⟩, Value.int .u64 0]) (k := 2) (by kernel_rfl) (by kernel_rfl) rfl rfl
instance ty15 : Ty Tryd.prog 15 false [Value.pointer none] := .mk' (v := Value.pointer none) (k := 1) (by kernel_rfl) (by kernel_rfl) rfl rfl
instance ty16 : Ty Tryd.prog 16 false [Value.pointer none] := .mk' (v := Value.pointer none) (k := 1) (by kernel_rfl) (by kernel_rfl) rfl rfl
instance ty17 : Ty Tryd.prog 17 false [Value.pointer none] := .mk' (v := Value.pointer none) (k := 1) (by kernel_rfl) (by kernel_rfl) rfl rfl
instance ty18 : Ty Tryd.prog 18 true [Value.pointer none] := .mk' (v := .agg #[Value.pointer none]) (k := 1) (by kernel_rfl) (by kernel_rfl) rfl rfl
instance ty19 : Ty Tryd.prog 19 true [Value.pointer none] := .mk' (v := .agg #[Value.pointer none]) (k := 1) (by kernel_rfl) (by kernel_rfl) rfl rfl
instance ty20 : Ty Tryd.prog 20 false [Value.nilIface] := .mk' (v := Value.nilIface) (k := 1) (by kernel_rfl) (by kernel_rfl) rfl rfl
instance ty21 : Ty Tryd.prog 21 false [Value.int .i32 0] := .mk' (v := Value.int .i32 0) (k := 1) (by kernel_rfl) (by kernel_rfl) rfl rfl
instance ty22 : Ty Tryd.prog 22 false [Value.pointer none] := .mk' (v := Value.pointer none) (k := 1) (by kernel_rfl) (by kernel_rfl) rfl rfl
instance ty23 : Ty Tryd.prog 23 false [Value.nilFunc] := .mk' (v := Value.nilFunc) (k := 1) (by kernel_rfl) (by kernel_rfl) rfl rfl
instance ty24 : Ty Tryd.prog 24 true [Value.int .i64 0, Value.int .i64 0, Value.string ⟨#[]⟩] := .mk' (v := .agg #[Value.int .i64 0, Value.int .i64 0, Value.string ⟨#[]⟩]) (k := 3) (by kernel_rfl) (by kernel_rfl) rfl rfl
instance ty25 : Ty Tryd.prog 25 true [Value.int .i64 0, Value.int .i64 0, Value.string ⟨#[]⟩] := .mk' (v := .agg #[Value.int .i64 0, Value.int .i64 0, Value.string ⟨#[]⟩]) (k := 3) (by kernel_rfl) (by kernel_rfl) rfl rfl
instance ty27 : Ty Tryd.prog 27 false [Value.nilFunc] := .mk' (v := Value.nilFunc) (k := 1) (by kernel_rfl) (by kernel_rfl) rfl rfl
instance ty28 : Ty Tryd.prog 28 false [Value.nilFunc] := .mk' (v := Value.nilFunc) (k := 1) (by kernel_rfl) (by kernel_rfl) rfl rfl
instance ty29 : Ty Tryd.prog 29 false [Value.slice none 0 0] := .mk' (v := Value.slice none 0 0) (k := 1) (by kernel_rfl) (by kernel_rfl) rfl rfl
instance ty30 : Ty Tryd.prog 30 false [Value.nilFunc] := .mk' (v := Value.nilFunc) (k := 1) (by kernel_rfl) (by kernel_rfl) rfl rfl
instance ty31 : Ty Tryd.prog 31 false [Value.slice none 0 0] := .mk' (v := Value.slice none 0 0) (k := 1) (by kernel_rfl) (by kernel_rfl) rfl rfl
instance ty32 : Ty Tryd.prog 32 false [Value.pointer none] := .mk' (v := Value.pointer none) (k := 1) (by kernel_rfl) (by kernel_rfl) rfl rfl
instance ty33 : Ty Tryd.prog 33 false [Value.nilFunc] := .mk' (v := Value.nilFunc) (k := 1) (by kernel_rfl) (by kernel_rfl) rfl rfl
instance ty34 : Ty Tryd.prog 34 false [Value.nilFunc] := .mk' (v := Value.nilFunc) (k := 1) (by kernel_rfl) (by kernel_rfl) rfl rfl
instance ty35 : Ty Tryd.prog 35 false [Value.slice none 0 0] := .mk' (v := Value.slice none 0 0) (k := 1) (by kernel_rfl) (by kernel_rfl) rfl rfl
instance ty36 : Ty Tryd.prog 36 false [Value.slice none 0 0] := .mk' (v := Value.slice none 0 0) (k := 1) (by kernel_rfl) (by kernel_rfl) rfl rfl
instance ty37 : Ty Tryd.prog 37 true [Value.int .i64 0, Value.int .i64 0, Value.slice none 0 0] := .mk' (v := .agg #[Value.int .i64 0, Value.int .i64 0, Value.slice none 0 0]) (k := 3) (by kernel_rfl) (by kernel_rfl) rfl rfl
instance ty38 : Ty Tryd.prog 38 true [Value.int .i64 0, Value.int .i64 0, Value.slice none 0 0] := .mk' (v := .agg #[Value.int .i64 0, Value.int .i64 0, Value.slice none 0 0]) (k := 3) (by kernel_rfl) (by kernel_rfl) rfl rfl
instance ty39 : Ty Tryd.prog 39 false [Value.nilFunc] := .mk' (v := Value.nilFunc) (k := 1) (by kernel_rfl) (by kernel_rfl) rfl rfl
instance ty40 : Ty Tryd.prog 40 false [Value.int .i64 0] := .mk' (v := Value.int .i64 0) (k := 1) (by kernel_rfl) (by kernel_rfl) rfl rfl
instance ty41 : Ty Tryd.prog 41 false [Value.nilFunc] := .mk' (v := Value.nilFunc) (k := 1) (by kernel_rfl) (by kernel_rfl) rfl rfl
instance ty42 : Ty Tryd.prog 42 false [Value.nilFunc] := .mk' (v := Value.nilFunc) (k := 1) (by kernel_rfl) (by kernel_rfl) rfl rfl
instance ty43 : Ty Tryd.prog 43 false [Value.nilFunc] := .mk' (v := Value.nilFunc) (k := 1) (by kernel_rfl) (by kernel_rfl) rfl rfl
instance ty44 : Ty Tryd.prog 44 false [Value.slice none 0 0] := .mk' (v := Value.slice none 0 0) (k := 1) (by kernel_rfl) (by kernel_rfl) rfl rfl
instance ty45 : Ty Tryd.prog 45 false [Value.nilFunc] := .mk' (v := Value.nilFunc) (k := 1) (by kernel_rfl) (by kernel_rfl) rfl rfl
instance ty46 : Ty Tryd.prog 46 true [Value.int .i64 0, Value.string ⟨#[]⟩, Value.int .i64 0, Value.int .i64 0, Value.string ⟨#[]⟩, Value.int .i64 0, Value.int .i64 0, Value.string ⟨#[]⟩, Value.int .i64 0] := .mk' (v := .agg #[Value.int .i64 0, Value.string ⟨#[]⟩, Value.int .i64 0, Value.int .i64 0, Value.string ⟨#[]⟩, Value.int .i64 0, Value.int .i64 0, Value.string ⟨#[]⟩, Value.int .i64 0]) (k := 9) (by kernel_rfl) (by kernel_rfl) rfl rfl
instance ty47 : Ty Tryd.prog 47 true [Value.int .i64 0, Value.string ⟨#[]⟩, Value.int .i64 0, Value.int .i64 0, Value.string ⟨#[]⟩, Value.int .i64 0, Value.int .i64 0, Value.string ⟨#[]⟩, Value.int .i64 0] := .mk' (v := .agg #[Value.int .i64 0, Value.string ⟨#[]⟩, Value.int .i64 0, Value.int .i64 0, Value.string ⟨#[]⟩, Value.int .i64 0, Value.int .i64 0, Value.string ⟨#[]⟩, Value.int .i64 0]) (k := 9) (by kernel_rfl) (by kernel_rfl) rfl rfl
instance ty48 : Ty Tryd.prog 48 false [Value.nilFunc] := .mk' (v := Value.nilFunc) (k := 1) (by kernel_rfl) (by kernel_rfl) rfl rfl
instance ty49 : Ty Tryd.prog 49 false [Value.slice none 0 0] := .mk' (v := Value.slice none 0 0) (k := 1) (by kernel_rfl) (by kernel_rfl) rfl rfl
instance ty50 : Ty Tryd.prog 50 false [Value.slice none 0 0] := .mk' (v := Value.slice none 0 0) (k := 1) (by kernel_rfl) (by kernel_rfl) rfl rfl
instance ty51 : Ty Tryd.prog 51 true [Value.slice none 0 0] := .mk' (v := .agg #[Value.slice none 0 0]) (k := 1) (by kernel_rfl) (by kernel_rfl) rfl rfl
instance ty52 : Ty Tryd.prog 52 true [Value.slice none 0 0] := .mk' (v := .agg #[Value.slice none 0 0]) (k := 1) (by kernel_rfl) (by kernel_rfl) rfl rfl
instance ty53 : Ty Tryd.prog 53 false [Value.nilFunc] := .mk' (v := Value.nilFunc) (k := 1) (by kernel_rfl) (by kernel_rfl) rfl rfl
instance ty55 : Ty Tryd.prog 55 false [Value.nilFunc] := .mk' (v := Value.nilFunc) (k := 1) (by kernel_rfl) (by kernel_rfl) rfl rfl
instance ty57 : Ty Tryd.prog 57 false [Value.nilFunc] := .mk' (v := Value.nilFunc) (k := 1) (by kernel_rfl) (by kernel_rfl) rfl rfl
instance ty58 : Ty Tryd.prog 58 false [Value.nilFunc] := .mk' (v := Value.nilFunc) (k := 1) (by kernel_rfl) (by kernel_rfl) rfl rfl
instance ty59 : Ty Tryd.prog 59 false [Value.nilFunc] := .mk' (v := Value.nilFunc) (k := 1) (by kernel_rfl) (by kernel_rfl) rfl rfl
instance ty60 : Ty Tryd.prog 60 false [Value.nilFunc] := .mk' (v := Value.nilFunc) (k := 1) (by kernel_rfl) (by kernel_rfl) rfl rfl
instance ty61 : Ty Tryd.prog 61 false [Value.nilFunc] := .mk' (v := Value.nilFunc) (k := 1) (by kernel_rfl) (by kernel_rfl) rfl rfl
instance ty62 : Ty Tryd.prog 62 false [Value.nilFunc] := .mk' (v := Value.nilFunc) (k := 1) (by kernel_rfl) (by kernel_rfl) rfl rfl
instance ty63 : Ty Tryd.prog 63 false [Value.nilFunc] := .mk' (v := Value.nilFunc) (k := 1) (by kernel_rfl) (by kernel_rfl) rfl rfl
instance ty64 : Ty Tryd.prog 64 false [Value.nilFunc] := .mk' (v := Value.nilFunc) (k := 1) (by kernel_rfl) (by kernel_rfl) rfl rfl
instance ty65 : Ty Tryd.prog 65 false [Value.nilFunc] := .mk' (v := Value.nilFunc) (k := 1) (by kernel_rfl) (by kernel_rfl) rfl rfl
instance ty66 : Ty Tryd.prog 66 true [Value.pointer none, Value.slice none 0 0] := .mk' (v := .agg #[Value.pointer none, Value.slice none 0 0]) (k := 2) (by kernel_rfl) (by kernel_rfl) rfl rfl
instance ty67 : Ty Tryd.prog 67 true [Value.pointer none, Value.slice none 0 0] := .mk' (v := .agg #[Value.pointer none, Value.slice none 0 0]) (k := 2) (by kernel_rfl) (by kernel_rfl) rfl rfl
instance ty68 : Ty Tryd.prog 68 false [Value.nilFunc] := .mk' (v := Value.nilFunc) (k := 1) (by kernel_rfl) (by kernel_rfl) rfl rfl
instance ty69 : Ty Tryd.prog 69 false [Value.nilFunc] := .mk' (v := Value.nilFunc) (k := 1) (by kernel_rfl) (by kernel_rfl) rfl rfl
instance ty70 : Ty Tryd.prog 70 false [Value.nilFunc] := .mk' (v := Value.nilFunc) (k := 1) (by kernel_rfl) (by kernel_rfl) rfl rfl
instance ty71 : Ty Tryd.prog 71 false [Value.nilFunc] := .mk' (v := Value.nilFunc) (k := 1) (by kernel_rfl) (by kernel_rfl) rfl rfl
instance ty72 : Ty Tryd.prog 72 false [Value.nilFunc] := .mk' (v := Value.nilFunc) (k := 1) (by kernel_rfl) (by kernel_rfl) rfl rfl
instance ty73 : Ty Tryd.prog 73 false [Value.map none] := .mk' (v := Value.map none) (k := 1) (by kernel_rfl) (by kernel_rfl) rfl rfl
instance ty74 : Ty Tryd.prog 74 false [Value.nilIface] := .mk' (v := Value.nilIface) (k := 1) (by kernel_rfl) (by kernel_rfl) rfl rfl
instance ty75 : Ty Tryd.prog 75 false [Value.nilIface] := .mk' (v := Value.nilIface) (k := 1) (by kernel_rfl) (by kernel_rfl) rfl rfl
instance ty76 : Ty Tryd.prog 76 true [Value.nilIface] := .mk' (v := .agg #[Value.nilIface]) (k := 1) (by kernel_rfl) (by kernel_rfl) rfl rfl
instance ty77 : Ty Tryd.prog 77 true [Value.nilIface] := .mk' (v := .agg #[Value.nilIface]) (k := 1) (by kernel_rfl) (by kernel_rfl) rfl rfl
instance ty78 : Ty Tryd.prog 78 true [Value.map none] := .mk' (v := .agg #[Value.map none]) (k := 1) (by kernel_rfl) (by kernel_rfl) rfl rfl
instance ty79 : Ty Tryd.prog 79 true [Value.map none] := .mk' (v := .agg #[Value.map none]) (k := 1) (by kernel_rfl) (by kernel_rfl) rfl rfl
instance ty80 : Ty Tryd.prog 80 false [Value.nilFunc] := .mk' (v := Value.nilFunc) (k := 1) (by kernel_rfl) (by kernel_rfl) rfl rfl
instance ty81 : Ty Tryd.prog 81 false [Value.nilFunc] := .mk' (v := Value.nilFunc) (k := 1) (by kernel_rfl) (by kernel_rfl) rfl rfl
instance ty82 : Ty Tryd.prog 82 false [Value.nilFunc] := .mk' (v := Value.nilFunc) (k := 1) (by kernel_rfl) (by kernel_rfl) rfl rfl
instance ty83 : Ty Tryd.prog 83 false [Value.nilFunc] := .mk' (v := Value.nilFunc) (k := 1) (by kernel_rfl) (by kernel_rfl) rfl rfl
instance ty84 : Ty Tryd.prog 84 false [Value.nilFunc] := .mk' (v := Value.nilFunc) (k := 1) (by kernel_rfl) (by kernel_rfl) rfl rfl
instance ty85 : Ty Tryd.prog 85 false [Value.nilFunc] := .mk' (v := Value.nilFunc) (k := 1) (by kernel_rfl) (by kernel_rfl) rfl rfl
instance ty86 : Ty Tryd.prog 86 false [Value.nilFunc] := .mk' (v := Value.nilFunc) (k := 1) (by kernel_rfl) (by kernel_rfl) rfl rfl
instance ty87 : Ty Tryd.prog 87 false [Value.nilFunc] := .mk' (v := Value.nilFunc) (k := 1) (by kernel_rfl) (by kernel_rfl) rfl rfl
instance ty88 : Ty Tryd.prog 88 false [Value.nilFunc] := .mk' (v := Value.nilFunc) (k := 1) (by kernel_rfl) (by kernel_rfl) rfl rfl
instance ty89 : Ty Tryd.prog 89 false [Value.nilFunc] := .mk' (v := Value.nilFunc) (k := 1) (by kernel_rfl) (by kernel_rfl) rfl rfl
instance ty90 : Ty Tryd.prog 90 false [Value.nilFunc] := .mk' (v := Value.nilFunc) (k := 1) (by kernel_rfl) (by kernel_rfl) rfl rfl
instance ty91 : Ty Tryd.prog 91 false [Value.nilFunc] := .mk' (v := Value.nilFunc) (k := 1) (by kernel_rfl) (by kernel_rfl) rfl rfl
instance ty92 : Ty Tryd.prog 92 false [Value.nilFunc] := .mk' (v := Value.nilFunc) (k := 1) (by kernel_rfl) (by kernel_rfl) rfl rfl
instance ty93 : Ty Tryd.prog 93 false [Value.nilFunc] := .mk' (v := Value.nilFunc) (k := 1) (by kernel_rfl) (by kernel_rfl) rfl rfl
instance ty94 : Ty Tryd.prog 94 false [Value.nilFunc] := .mk' (v := Value.nilFunc) (k := 1) (by kernel_rfl) (by kernel_rfl) rfl rfl
instance ty96 : Ty Tryd.prog 96 false [Value.nilFunc] := .mk' (v := Value.nilFunc) (k := 1) (by kernel_rfl) (by kernel_rfl) rfl rfl
instance ty98 : Ty Tryd.prog 98 false [Value.nilFunc] := .mk' (v := Value.nilFunc) (k := 1) (by kernel_rfl) (by kernel_rfl) rfl rfl
instance ty100 : Ty Tryd.prog 100 false [Value.nilFunc] := .mk' (v := Value.nilFunc) (k := 1) (by kernel_rfl) (by kernel_rfl) rfl rfl
instance ty102 : Ty Tryd.prog 102 false [Value.nilFunc] := .mk' (v := Value.nilFunc) (k := 1) (by kernel_rfl) (by kernel_rfl) rfl rfl
instance ty103 : Ty Tryd.prog 103 false [Value.nilFunc] := .mk' (v := Value.nilFunc) (k := 1) (by kernel_rfl) (by kernel_rfl) rfl rfl
instance ty104 : Ty Tryd.prog 104 false [Value.nilFunc] := .mk' (v := Value.nilFunc) (k := 1) (by kernel_rfl) (by kernel_rfl) rfl rfl
instance ty105 : Ty Tryd.prog 105 false [Value.nilFunc] := .mk' (v := Value.nilFunc) (k := 1) (by kernel_rfl) (by kernel_rfl) rfl rfl
instance ty106 : Ty Tryd.prog 106 false [Value.nilFunc] := .mk' (v := Value.nilFunc) (k := 1) (by kernel_rfl) (by kernel_rfl) rfl rfl
instance ty107 : Ty Tryd.prog 107 true [Value.string ⟨#[]⟩, Value.int .i64 0, Value.int .i64 0, Value.string ⟨#[]⟩] := .mk' (v := .agg #[Value.string ⟨#[]⟩, Value.int .i64 0, Value.int .i64 0, Value.string ⟨#[]⟩]) (k := 4) (by kernel_rfl) (by kernel_rfl) rfl rfl
instance ty108 : Ty Tryd.prog 108 true [Value.string ⟨#[]⟩, Value.int .i64 0, Value.int .i64 0, Value.string ⟨#[]⟩] := .mk' (v := .agg #[Value.string ⟨#[]⟩, Value.int .i64 0, Value.int .i64 0, Value.string ⟨#[]⟩]) (k := 4) (by kernel_rfl) (by kernel_rfl) rfl rfl
instance ty109 : Ty Tryd.prog 109 false [Value.nilFunc] := .mk' (v := Value.nilFunc) (k := 1) (by kernel_rfl) (by kernel_rfl) rfl rfl
instance ty110 : Ty Tryd.prog 110 false [Value.slice none 0 0] := .mk' (v := Value.slice none 0 0) (k := 1) (by kernel_rfl) (by kernel_rfl) rfl rfl
instance ty111 : Ty Tryd.prog 111 false [Value.slice none 0 0] := .mk' (v := Value.slice none 0 0) (k := 1) (by kernel_rfl) (by kernel_rfl) rfl rfl
instance ty113 : Ty Tryd.prog 113 false [Value.nilFunc] := .mk' (v := Value.nilFunc) (k := 1) (by kernel_rfl) (by kernel_rfl) rfl rfl
instance ty114 : Ty Tryd.prog 114 false [Value.nilFunc] := .mk' (v := Value.nilFunc) (k := 1) (by kernel_rfl) (by kernel_rfl) rfl rfl
instance ty115 : Ty Tryd.prog 115 false [Value.nilFunc] := .mk' (v := Value.nilFunc) (k := 1) (by kernel_rfl) (by kernel_rfl) rfl rfl
instance ty116 : Ty Tryd.prog 116 false [Value.nilFunc] := .mk' (v := Value.nilFunc) (k := 1) (by kernel_rfl) (by kernel_rfl) rfl rfl
instance ty118 : Ty Tryd.prog 118 false [Value.nilFunc] := .mk' (v := Value.nilFunc) (k := 1) (by kernel_rfl) (by kernel_rfl) rfl rfl
instance ty119 : Ty Tryd.prog 119 false [Value.nilFunc] := .mk' (v := Value.nilFunc) (k := 1) (by kernel_rfl) (by kernel_rfl) rfl rfl
instance ty121 : Ty Tryd.prog 121 false [Value.nilFunc] := .mk' (v := Value.nilFunc) (k := 1) (by kernel_rfl) (by kernel_rfl) rfl rfl
instance ty122 : Ty Tryd.prog 122 false [Value.nilFunc] := .mk' (v := Value.nilFunc) (k := 1) (by kernel_rfl) (by kernel_rfl) rfl rfl
instance ty123 : Ty Tryd.prog 123 false [Value.int .u64 0] := .mk' (v := Value.int .u64 0) (k := 1) (by kernel_rfl) (by kernel_rfl) rfl rfl
instance ty124 : Ty Tryd.prog 124 false [Value.int .u64 0] := .mk' (v := Value.int .u64 0) (k := 1) (by kernel_rfl) (by kernel_rfl) rfl rfl
instance ty125 : Ty Tryd.prog 125 false [Value.int .i64 0] := .mk' (v := Value.int .i64 0) (k := 1) (by kernel_rfl) (by kernel_rfl) rfl rfl
instance ty126 : Ty Tryd.prog 126 false [Value.string ⟨#[]⟩] := .mk' (v := Value.string ⟨#[]⟩) (k := 1) (by kernel_rfl) (by kernel_rfl) rfl rfl
instance ty127 : Ty Tryd.prog 127 false [Value.nilFunc] := .mk' (v := Value.nilFunc) (k := 1) (by kernel_rfl) (by kernel_rfl) rfl rfl
instance ty128 : Ty Tryd.prog 128 false [Value.nilFunc] := .mk' (v := Value.nilFunc) (k := 1) (by kernel_rfl) (by kernel_rfl) rfl rfl
instance ty129 : Ty Tryd.prog 129 false [Value.nilFunc] := .mk' (v := Value.nilFunc) (k := 1) (by kernel_rfl) (by kernel_rfl) rfl rfl
instance ty131 : Ty Tryd.prog 131 false [Value.nilFunc] := .mk' (v := Value.nilFunc) (k := 1) (by kernel_rfl) (by kernel_rfl) rfl rfl
instance ty132 : Ty Tryd.prog 132 false [Value.int .i64 0] := .mk' (v := Value.int .i64 0) (k := 1) (by kernel_rfl) (by kernel_rfl) rfl rfl
instance ty134 : Ty Tryd.prog 134 false [Value.nilFunc] := .mk' (v := Value.nilFunc) (k := 1) (by kernel_rfl) (by kernel_rfl) rfl rfl
instance ty135 : Ty Tryd.prog 135 false [Value.nilFunc] := .mk' (v := Value.nilFunc) (k := 1) (by kernel_rfl) (by kernel_rfl) rfl rfl
instance ty136 : Ty Tryd.prog 136 false [Value.nilFunc] := .mk' (v := Value.nilFunc) (k := 1) (by kernel_rfl) (by kernel_rfl) rfl rfl
instance ty138 : Ty Tryd.prog 138 false [Value.nilFunc] := .mk' (v := Value.nilFunc) (k := 1) (by kernel_rfl) (by kernel_rfl) rfl rfl
instance ty139 : Ty Tryd.prog 139 false [Value.nilFunc] := .mk' (v := Value.nilFunc) (k := 1) (by kernel_rfl) (by kernel_rfl) rfl rfl
instance ty140 : Ty Tryd.prog 140 false [Value.int .u32 0] := .mk' (v := Value.int .u32 0) (k := 1) (by kernel_rfl) (by kernel_rfl) rfl rfl
instance ty141 : Ty Tryd.prog 141 false [Value.nilFunc] := .mk' (v := Value.nilFunc) (k := 1) (by kernel_rfl) (by kernel_rfl) rfl rfl
instance ty142 : Ty Tryd.prog 142 false [Value.nilFunc] := .mk' (v := Value.nilFunc) (k := 1) (by kernel_rfl) (by kernel_rfl) rfl rfl
instance ty144 : Ty Tryd.prog 144 true [Value.int .u8 0, Value.int .u8 0] := .mk' (v := .agg #[Value.int .u8 0, Value.int .u8 0]) (k := 2) (by kernel_rfl) (by kernel_rfl) rfl rfl
instance ty145 : Ty Tryd.prog 145 true [Value.int .u8 0, Value.int .u8 0] := .mk' (v := .agg #[Value.int .u8 0, Value.int .u8 0]) (k := 2) (by kernel_rfl) (by kernel_rfl) rfl rfl
instance ty146 : Ty Tryd.prog 146 true [Value.int .u8 0, Value.int .u8 0, Value.int .u8 0, Value.int .u8 0, Value.int .u8 0, Value.int .u8 0, Value.int .u8 0, Value.int .u8 0, Value.int .u8 0, Value.int .u8 0, Value.int .u8 0, Value.int .u8 0, Value.int .u8 0, Value.int .u8 0, Value.int .u8 0, Value.int .u8 0, Value.int .u8 0, Value.int .u8 0, Value.int .u8 0, Value.int .u8 0, Value.int .u8 0, Value.int .u8 0, Value.int .u8 0, Value.int .u8 0, Value.int .u8 0, Value.int .u8 0, Value.int .u8 0, Value.int .u8 0, Value.int .u8 0, Value.int .u8 0, Value.int .u8 0, Value.int .u8 0] := .mk' (v := .agg #[Value.int .u8 0, Value.int .u8 0, Value.int .u8 0, Value.int .u8 0, Value.int .u8 0, Value.int .u8 0, Value.int .u8 0, Value.int .u8 0, Value.int .u8 0, Value.int .u8 0, Value.int .u8 0, Value.int .u8 0, Value.int .u8 0, Value.int .u8 0, Value.int .u8 0, Value.int .u8 0, Value.int .u8 0, Value.int .u8 0, Value.int .u8 0, Value.int .u8 0, Value.int .u8 0, Value.int .u8 0, Value.int .u8 0, Value.int .u8 0, Value.int .u8 0, Value.int .u8 0, Value.int .u8 0, Value.int .u8 0, Value.int .u8 0, Value.int .u8 0, Value.int .u8 0, Value.int .u8 0]) (k := 32) (by kernel_rfl) (by kernel_rfl) rfl rfl
instance ty147 : Ty Tryd.prog 147 false [Value.int .u64 0] := .mk' (v := Value.int .u64 0) (k := 1) (by kernel_rfl) (by kernel_rfl) rfl rfl
instance ty148 : Ty Tryd.prog 148 false [Value.nilFunc] := .mk' (v := Value.nilFunc) (k := 1) (by kernel_rfl) (by kernel_rfl) rfl rfl
instance ty149 : Ty Tryd.prog 149 false [Value.nilFunc] := .mk' (v := Value.nilFunc) (k := 1) (by kernel_rfl) (by kernel_rfl) rfl rfl
instance ty150 : Ty Tryd.prog 150 false [Value.nilFunc] := .mk' (v := Value.nilFunc) (k := 1) (by kernel_rfl) (by kernel_rfl) rfl rfl
instance ty151 : Ty Tryd.prog 151 false [Value.pointer none] := .mk' (v := Value.pointer none) (k := 1) (by kernel_rfl) (by kernel_rfl) rfl rfl
instance ty152 : Ty Tryd.prog 152 false [Value.nilFunc] := .mk' (v := Value.nilFunc) (k := 1) (by kernel_rfl) (by kernel_rfl) rfl rfl
instance ty153 : Ty Tryd.prog 153 false [Value.pointer none] := .mk' (v := Value.pointer none) (k := 1) (by kernel_rfl) (by kernel_rfl) rfl rfl
instance ty155 : Ty Tryd.prog 155 false [Value.nilFunc] := .mk' (v := Value.nilFunc) (k := 1) (by kernel_rfl) (by kernel_rfl) rfl rfl
instance ty156 : Ty Tryd.prog 156 false [Value.nilFunc] := .mk' (v := Value.nilFunc) (k := 1) (by kernel_rfl) (by kernel_rfl) rfl rfl
instance ty157 : Ty Tryd.prog 157 true [Value.pointer none, Value.pointer none, Value.pointer none, Value.string ⟨#[]⟩] := .mk' (v := .agg #[Value.pointer none, Value.pointer none, Value.pointer none, Value.string ⟨#[]⟩]) (k := 4) (by kernel_rfl) (by kernel_rfl) rfl rfl
instance ty158 : Ty Tryd.prog 158 true [Value.pointer none, Value.pointer none, Value.pointer none, Value.string ⟨#[]⟩] := .mk' (v := .agg #[Value.pointer none, Value.pointer none, Value.pointer none, Value.string ⟨#[]⟩]) (k := 4) (by kernel_rfl) (by kernel_rfl) rfl rfl
instance ty159 : Ty Tryd.prog 159 true [] := .mk' (v := .agg #[]) (k := 0) (by kernel_rfl) (by kernel_rfl) rfl rfl
instance ty160 : Ty Tryd.prog 160 true [] := .mk' (v := .agg #[]) (k := 0) (by kernel_rfl) (by kernel_rfl) rfl rfl
instance ty161 : Ty Tryd.prog 161 true [] := .mk' (v := .agg #[]) (k := 0) (by kernel_rfl) (by kernel_rfl) rfl rfl
instance ty162 : Ty Tryd.prog 162 false [Value.int .u8 0] := .mk' (v := Value.int .u8 0) (k := 1) (by kernel_rfl) (by kernel_rfl) rfl rfl
instance ty163 : Ty Tryd.prog 163 false [Value.int .u8 0] := .mk' (v := Value.int .u8 0) (k := 1) (by kernel_rfl) (by kernel_rfl) rfl rfl
instance ty164 : Ty Tryd.prog 164 false [Value.nilFunc] := .mk' (v := Value.nilFunc) (k := 1) (by kernel_rfl) (by kernel_rfl) rfl rfl
instance ty165 : Ty Tryd.prog 165 false [Value.pointer none] := .mk' (v := Value.pointer none) (k := 1) (by kernel_rfl) (by kernel_rfl) rfl rfl
instance ty166 : Ty Tryd.prog 166 false [Value.int .i32 0] := .mk' (v := Value.int .i32 0) (k := 1) (by kernel_rfl) (by kernel_rfl) rfl rfl
instance ty167 : Ty Tryd.prog 167 false [Value.int .i32 0] := .mk' (v := Value.int .i32 0) (k := 1) (by kernel_rfl) (by kernel_rfl) rfl rfl
instance ty168 : Ty Tryd.prog 168 true [Value.int .u64 0, Value.int .u64 0, Value.int .u32 0, Value.int .u8 0, Value.int .u8 0, Value.int .u8 0, Value.int .u8 0, Value.nilFunc, Value.pointer none, Value.int .i32 0, Value.int .i32 0] := .mk' (v := .agg #[Value.int .u64 0, Value.int .u64 0, Value.int .u32 0, Value.int .u8 0, Value.int .u8 0, Value.int .u8 0, Value.int .u8 0, Value.nilFunc, Value.pointer none, Value.int .i32 0, Value.int .i32 0]) (k := 11) (by kernel_rfl) (by kernel_rfl) rfl rfl
instance ty169 : Ty Tryd.prog 169 true [Value.int .u64 0, Value.int .u64 0, Value.int .u32 0, Value.int .u8 0, Value.int .u8 0, Value.int .u8 0, Value.int .u8 0, Value.nilFunc, Value.pointer none, Value.int .i32 0, Value.int .i32 0] := .mk' (v := .agg #[Value.int .u64 0, Value.int .u64 0, Value.int .u32 0, Value.int .u8 0, Value.int .u8 0, Value.int .u8 0, Value.int .u8 0, Value.nilFunc, Value.pointer none, Value.int .i32 0, Value.int .i32 0]) (k := 11) (by kernel_rfl) (by kernel_rfl) rfl rfl
instance ty170 : Ty Tryd.prog 170 false [Value.pointer none] := .mk' (v := Value.pointer none) (k := 1) (by kernel_rfl) (by kernel_rfl) rfl rfl
instance el1 : El Tryd.prog 1 1 8 := .mk' (z := Value.nilFunc) (by kernel_rfl) rfl
instance it2 : IntTy Tryd.prog 2 .i64 := ⟨by kernel_rfl⟩
instance el2 : El Tryd.prog 2 1 8 := .mk' (z := Value.int .i64 0) (by kernel_rfl) rfl
instance it3 : IntTy Tryd.prog 3 .i64 := ⟨by kernel_rfl⟩
instance el3 : El Tryd.prog 3 1 8 := .mk' (z := Value.int .i64 0) (by kernel_rfl) rfl
instance el4 : El Tryd.prog 4 1 1 := .mk' (z := Value.bool false) (by kernel_rfl) rfl
instance it5 : IntTy Tryd.prog 5 .u8 := ⟨by kernel_rfl⟩
instance el5 : El Tryd.prog 5 1 1 := .mk' (z := Value.int .u8 0) (by kernel_rfl) rfl
instance it6 : IntTy Tryd.prog 6 .u8 := ⟨by kernel_rfl⟩
instance el6 : El Tryd.prog 6 1 1 := .mk' (z := Value.int .u8 0) (by kernel_rfl) rfl
instance el7 : El Tryd.prog 7 4 24 := .mk' (z := .agg #[Value.int .i64 0, Value.int .i64 0, Value.bool false, Value.int .u8 0]) (by kernel_rfl) rfl
instance fl7_0 : Fld Tryd.prog 7 0 0 2 := .mk' (by kernel_rfl) (by kernel_rfl)
instance fl7_1 : Fld Tryd.prog 7 1 1 3 := .mk' (by kernel_rfl) (by kernel_rfl)
instance fl7_2 : Fld Tryd.prog 7 2 2 4 := .mk' (by kernel_rfl) (by kernel_rfl)
instance fl7_3 : Fld Tryd.prog 7 3 3 6 := .mk' (by kernel_rfl) (by kernel_rfl)
instance su7 : St Tryd.prog 7 [(0, 1), (1, 1), (2, 1), (3, 1)] := ⟨by kernel_rfl⟩
instance el8 : El Tryd.prog 8 4 24 := .mk' (z := .agg #[Value.int .i64 0, Value.int .i64 0, Value.bool false, Value.int .u8 0]) (by kernel_rfl) rfl
instance fl8_0 : Fld Tryd.prog 8 0 0 2 := .mk' (by kernel_rfl) (by kernel_rfl)
instance fl8_1 : Fld Tryd.prog 8 1 1 3 := .mk' (by kernel_rfl) (by kernel_rfl)
instance fl8_2 : Fld Tryd.prog 8 2 2 4 := .mk' (by kernel_rfl) (by kernel_rfl)
instance fl8_3 : Fld Tryd.prog 8 3 3 6 := .mk' (by kernel_rfl) (by kernel_rfl)
instance su8 : St Tryd.prog 8 [(0, 1), (1, 1), (2, 1), (3, 1)] := ⟨by kernel_rfl⟩
instance st9 : StrTy Tryd.prog 9 := ⟨by kernel_rfl⟩
instance el9 : El Tryd.prog 9 1 16 := .mk' (z := Value.string ⟨#[]⟩) (by kernel_rfl) rfl
instance st10 : StrTy Tryd.prog 10 := ⟨by kernel_rfl⟩
instance el10 : El Tryd.prog 10 1 16 := .mk' (z := Value.string ⟨#[]⟩) (by kernel_rfl) rfl
instance st11 : StrTy Tryd.prog 11 := ⟨by kernel_rfl⟩
instance el11 : El Tryd.prog 11 1 16 := .mk' (z := Value.string ⟨#[]⟩) (by kernel_rfl) rfl
instance it12 : IntTy Tryd.prog 12 .u64 := ⟨by kernel_rfl⟩
instance el12 : El Tryd.prog 12 1 8 := .mk' (z := Value.int .u64 0) (by kernel_rfl) rfl
instance el13 : El Tryd.prog 13 2 24 := .mk' (z := .agg #[Value.string ⟨#[]⟩, Value.int .u64 0]) (by kernel_rfl) rfl
instance fl13_0 : Fld Tryd.prog 13 0 0 9 := .mk' (by kernel_rfl) (by kernel_rfl)
instance fl13_1 : Fld Tryd.prog 13 1 1 12 := .mk' (by kernel_rfl) (by kernel_rfl)
instance su13 : St Tryd.prog 13 [(0, 1), (1, 1)] := ⟨by kernel_rfl⟩
instance el14 : El Tryd.prog 14 2 24 := .mk' (z := .agg #[Value.string ⟨#[]⟩, Value.int .u64 0]) (by kernel_rfl) rfl
instance fl14_0 : Fld Tryd.prog 14 0 0 9 := .mk' (by kernel_rfl) (by kernel_rfl)
instance fl14_1 : Fld Tryd.prog 14 1 1 12 := .mk' (by kernel_rfl) (by kernel_rfl)
instance su14 : St Tryd.prog 14 [(0, 1), (1, 1)] := ⟨by kernel_rfl⟩
instance el15 : El Tryd.prog 15 1 8 := .mk' (z := Value.pointer none) (by kernel_rfl) rfl
instance el16 : El Tryd.prog 16 1 8 := .mk' (z := Value.pointer none) (by kernel_rfl) rfl
instance el17 : El Tryd.prog 17 1 8 := .mk' (z := Value.pointer none) (by kernel_rfl) rfl
instance el18 : El Tryd.prog 18 1 8 := .mk' (z := .agg #[Value.pointer none]) (by kernel_rfl) rfl
instance fl18_0 : Fld Tryd.prog 18 0 0 17 := .mk' (by kernel_rfl) (by kernel_rfl)
instance su18 : St Tryd.prog 18 [(0, 1)] := ⟨by kernel_rfl⟩
instance el19 : El Tryd.prog 19 1 8 := .mk' (z := .agg #[Value.pointer none]) (by kernel_rfl) rfl
instance fl19_0 : Fld Tryd.prog 19 0 0 17 := .mk' (by kernel_rfl) (by kernel_rfl)
instance su19 : St Tryd.prog 19 [(0, 1)] := ⟨by kernel_rfl⟩
instance el20 : El Tryd.prog 20 1 16 := .mk' (z := Value.nilIface) (by kernel_rfl) rfl
instance it21 : IntTy Tryd.prog 21 .i32 := ⟨by kernel_rfl⟩
instance el21 : El Tryd.prog 21 1 4 := .mk' (z := Value.int .i32 0) (by kernel_rfl) rfl
instance el22 : El Tryd.prog 22 1 8 := .mk' (z := Value.pointer none) (by kernel_rfl) rfl
instance el23 : El Tryd.prog 23 1 8 := .mk' (z := Value.nilFunc) (by kernel_rfl) rfl
instance el24 : El Tryd.prog 24 3 32 := .mk' (z := .agg #[Value.int .i64 0, Value.int .i64 0, Value.string ⟨#[]⟩]) (by kernel_rfl) rfl
instance fl24_0 : Fld Tryd.prog 24 0 0 3 := .mk' (by kernel_rfl) (by kernel_rfl)
instance fl24_1 : Fld Tryd.prog 24 1 1 2 := .mk' (by kernel_rfl) (by kernel_rfl)
instance fl24_2 : Fld Tryd.prog 24 2 2 9 := .mk' (by kernel_rfl) (by kernel_rfl)
instance su24 : St Tryd.prog 24 [(0, 1), (1, 1), (2, 1)] := ⟨by kernel_rfl⟩
instance el25 : El Tryd.prog 25 3 32 := .mk' (z := .agg #[Value.int .i64 0, Value.int .i64 0, Value.string ⟨#[]⟩]) (by kernel_rfl) rfl
instance fl25_0 : Fld Tryd.prog 25 0 0 3 := .mk' (by kernel_rfl) (by kernel_rfl)
instance fl25_1 : Fld Tryd.prog 25 1 1 2 := .mk' (by kernel_rfl) (by kernel_rfl)
instance fl25_2 : Fld Tryd.prog 25 2 2 9 := .mk' (by kernel_rfl) (by kernel_rfl)
instance su25 : St Tryd.prog 25 [(0, 1), (1, 1), (2, 1)] := ⟨by kernel_rfl⟩
instance el27 : El Tryd.prog 27 1 8 := .mk' (z := Value.nilFunc) (by kernel_rfl) rfl
instance el28 : El Tryd.prog 28 1 8 := .mk' (z := Value.nilFunc) (by kernel_rfl) rfl
instance el29 : El Tryd.prog 29 1 24 := .mk' (z := Value.slice none 0 0) (by kernel_rfl) rfl
instance sl29 : Sl Tryd.prog 29 40 := ⟨by kernel_rfl⟩
instance el30 : El Tryd.prog 30 1 8 := .mk' (z := Value.nilFunc) (by kernel_rfl) rfl
instance el31 : El Tryd.prog 31 1 24 := .mk' (z := Value.slice none 0 0) (by kernel_rfl) rfl
instance sl31 : Sl Tryd.prog 31 9 := ⟨by kernel_rfl⟩
instance el32 : El Tryd.prog 32 1 8 := .mk' (z := Value.pointer none) (by kernel_rfl) rfl
instance el33 : El Tryd.prog 33 1 8 := .mk' (z := Value.nilFunc) (by kernel_rfl) rfl
instance el34 : El Tryd.prog 34 1 8 := .mk' (z := Value.nilFunc) (by kernel_rfl) rfl
instance el35 : El Tryd.prog 35 1 24 := .mk' (z := Value.slice none 0 0) (by kernel_rfl) rfl
instance sl35 : Sl Tryd.prog 35 38 := ⟨by kernel_rfl⟩
instance el36 : El Tryd.prog 36 1 24 := .mk' (z := Value.slice none 0 0) (by kernel_rfl) rfl
instance sl36 : Sl Tryd.prog 36 47 := ⟨by kernel_rfl⟩
instance el37 : El Tryd.prog 37 3 40 := .mk' (z := .agg #[Value.int .i64 0, Value.int .i64 0, Value.slice none 0 0]) (by kernel_rfl) rfl
instance fl37_0 : Fld Tryd.prog 37 0 0 3 := .mk' (by kernel_rfl) (by kernel_rfl)
instance fl37_1 : Fld Tryd.prog 37 1 1 2 := .mk' (by kernel_rfl) (by kernel_rfl)
instance fl37_2 : Fld Tryd.prog 37 2 2 36 := .mk' (by kernel_rfl) (by kernel_rfl)
instance su37 : St Tryd.prog 37 [(0, 1), (1, 1), (2, 1)] := ⟨by kernel_rfl⟩
instance el38 : El Tryd.prog 38 3 40 := .mk' (z := .agg #[Value.int .i64 0, Value.int .i64 0, Value.slice none 0 0]) (by kernel_rfl) rfl
instance fl38_0 : Fld Tryd.prog 38 0 0 3 := .mk' (by kernel_rfl) (by kernel_rfl)
instance fl38_1 : Fld Tryd.prog 38 1 1 2 := .mk' (by kernel_rfl) (by kernel_rfl)
instance fl38_2 : Fld Tryd.prog 38 2 2 36 := .mk' (by kernel_rfl) (by kernel_rfl)
instance su38 : St Tryd.prog 38 [(0, 1), (1, 1), (2, 1)] := ⟨by kernel_rfl⟩
instance el39 : El Tryd.prog 39 1 8 := .mk' (z := Value.nilFunc) (by kernel_rfl) rfl
instance it40 : IntTy Tryd.prog 40 .i64 := ⟨by kernel_rfl⟩
instance el40 : El Tryd.prog 40 1 8 := .mk' (z := Value.int .i64 0) (by kernel_rfl) rfl
instance el41 : El Tryd.prog 41 1 8 := .mk' (z := Value.nilFunc) (by kernel_rfl) rfl
instance el42 : El Tryd.prog 42 1 8 := .mk' (z := Value.nilFunc) (by kernel_rfl) rfl
instance el43 : El Tryd.prog 43 1 8 := .mk' (z := Value.nilFunc) (by kernel_rfl) rfl
instance el44 : El Tryd.prog 44 1 24 := .mk' (z := Value.slice none 0 0) (by kernel_rfl) rfl
instance sl44 : Sl Tryd.prog 44 5 := ⟨by kernel_rfl⟩
instance el45 : El Tryd.prog 45 1 8 := .mk' (z := Value.nilFunc) (by kernel_rfl) rfl
instance el46 : El Tryd.prog 46 9 96 := .mk' (z := .agg #[Value.int .i64 0, Value.string ⟨#[]⟩, Value.int .i64 0, Value.int .i64 0, Value.string ⟨#[]⟩, Value.int .i64 0, Value.int .i64 0, Value.string ⟨#[]⟩, Value.int .i64 0]) (by kernel_rfl) rfl
instance fl46_0 : Fld Tryd.prog 46 0 0 3 := .mk' (by kernel_rfl) (by kernel_rfl)
instance fl46_1 : Fld Tryd.prog 46 1 1 9 := .mk' (by kernel_rfl) (by kernel_rfl)
instance fl46_2 : Fld Tryd.prog 46 2 2 25 := .mk' (by kernel_rfl) (by kernel_rfl)
instance fl46_3 : Fld Tryd.prog 46 3 5 25 := .mk' (by kernel_rfl) (by kernel_rfl)
instance fl46_4 : Fld Tryd.prog 46 4 8 2 := .mk' (by kernel_rfl) (by kernel_rfl)
instance su46 : St Tryd.prog 46 [(0, 1), (1, 1), (2, 3), (5, 3), (8, 1)] := ⟨by kernel_rfl⟩
instance el47 : El Tryd.prog 47 9 96 := .mk' (z := .agg #[Value.int .i64 0, Value.string ⟨#[]⟩, Value.int .i64 0, Value.int .i64 0, Value.string ⟨#[]⟩, Value.int .i64 0, Value.int .i64 0, Value.string ⟨#[]⟩, Value.int .i64 0]) (by kernel_rfl) rfl
instance fl47_0 : Fld Tryd.prog 47 0 0 3 := .mk' (by kernel_rfl) (by kernel_rfl)
instance fl47_1 : Fld Tryd.prog 47 1 1 9 := .mk' (by kernel_rfl) (by kernel_rfl)
instance fl47_2 : Fld Tryd.prog 47 2 2 25 := .mk' (by kernel_rfl) (by kernel_rfl)
instance fl47_3 : Fld Tryd.prog 47 3 5 25 := .mk' (by kernel_rfl) (by kernel_rfl)
instance fl47_4 : Fld Tryd.prog 47 4 8 2 := .mk' (by kernel_rfl) (by kernel_rfl)
instance su47 : St Tryd.prog 47 [(0, 1), (1, 1), (2, 3), (5, 3), (8, 1)] := ⟨by kernel_rfl⟩
instance el48 : El Tryd.prog 48 1 8 := .mk' (z := Value.nilFunc) (by kernel_rfl) rfl
instance el49 : El Tryd.prog 49 1 24 := .mk' (z := Value.slice none 0 0) (by kernel_rfl) rfl
instance sl49 : Sl Tryd.prog 49 36 := ⟨by kernel_rfl⟩
instance el50 : El Tryd.prog 50 1 24 := .mk' (z := Value.slice none 0 0) (by kernel_rfl) rfl
instance sl50 : Sl Tryd.prog 50 108 := ⟨by kernel_rfl⟩
instance el51 : El Tryd.prog 51 1 24 := .mk' (z := .agg #[Value.slice none 0 0]) (by kernel_rfl) rfl
instance fl51_0 : Fld Tryd.prog 51 0 0 50 := .mk' (by kernel_rfl) (by kernel_rfl)
instance su51 : St Tryd.prog 51 [(0, 1)] := ⟨by kernel_rfl⟩
instance el52 : El Tryd.prog 52 1 24 := .mk' (z := .agg #[Value.slice none 0 0]) (by kernel_rfl) rfl
instance fl52_0 : Fld Tryd.prog 52 0 0 50 := .mk' (by kernel_rfl) (by kernel_rfl)
instance su52 : St Tryd.prog 52 [(0, 1)] := ⟨by kernel_rfl⟩
instance el53 : El Tryd.prog 53 1 8 := .mk' (z := Value.nilFunc) (by kernel_rfl) rfl
instance el55 : El Tryd.prog 55 1 8 := .mk' (z := Value.nilFunc) (by kernel_rfl) rfl
instance el57 : El Tryd.prog 57 1 8 := .mk' (z := Value.nilFunc) (by kernel_rfl) rfl
instance el58 : El Tryd.prog 58 1 8 := .mk' (z := Value.nilFunc) (by kernel_rfl) rfl
instance el59 : El Tryd.prog 59 1 8 := .mk' (z := Value.nilFunc) (by kernel_rfl) rfl
instance el60 : El Tryd.prog 60 1 8 := .mk' (z := Value.nilFunc) (by kernel_rfl) rfl
instance el61 : El Tryd.prog 61 1 8 := .mk' (z := Value.nilFunc) (by kernel_rfl) rfl
instance el62 : El Tryd.prog 62 1 8 := .mk' (z := Value.nilFunc) (by kernel_rfl) rfl
instance el63 : El Tryd.prog 63 1 8 := .mk' (z := Value.nilFunc) (by kernel_rfl) rfl
instance el64 : El Tryd.prog 64 1 8 := .mk' (z := Value.nilFunc) (by kernel_rfl) rfl
instance el65 : El Tryd.prog 65 1 8 := .mk' (z := Value.nilFunc) (by kernel_rfl) rfl
instance el66 : El Tryd.prog 66 2 32 := .mk' (z := .agg #[Value.pointer none, Value.slice none 0 0]) (by kernel_rfl) rfl
instance fl66_0 : Fld Tryd.prog 66 0 0 32 := .mk' (by kernel_rfl) (by kernel_rfl)
instance fl66_1 : Fld Tryd.prog 66 1 1 29 := .mk' (by kernel_rfl) (by kernel_rfl)
instance su66 : St Tryd.prog 66 [(0, 1), (1, 1)] := ⟨by kernel_rfl⟩
instance el67 : El Tryd.prog 67 2 32 := .mk' (z := .agg #[Value.pointer none, Value.slice none 0 0]) (by kernel_rfl) rfl
instance fl67_0 : Fld Tryd.prog 67 0 0 32 := .mk' (by kernel_rfl) (by kernel_rfl)
instance fl67_1 : Fld Tryd.prog 67 1 1 29 := .mk' (by kernel_rfl) (by kernel_rfl)
instance su67 : St Tryd.prog 67 [(0, 1), (1, 1)] := ⟨by kernel_rfl⟩
instance el68 : El Tryd.prog 68 1 8 := .mk' (z := Value.nilFunc) (by kernel_rfl) rfl
instance el69 : El Tryd.prog 69 1 8 := .mk' (z := Value.nilFunc) (by kernel_rfl) rfl
instance el70 : El Tryd.prog 70 1 8 := .mk' (z := Value.nilFunc) (by kernel_rfl) rfl
instance el71 : El Tryd.prog 71 1 8 := .mk' (z := Value.nilFunc) (by kernel_rfl) rfl
instance el72 : El Tryd.prog 72 1 8 := .mk' (z := Value.nilFunc) (by kernel_rfl) rfl
instance el73 : El Tryd.prog 73 1 8 := .mk' (z := Value.map none) (by kernel_rfl) rfl
instance el74 : El Tryd.prog 74 1 16 := .mk' (z := Value.nilIface) (by kernel_rfl) rfl
instance el75 : El Tryd.prog 75 1 16 := .mk' (z := Value.nilIface) (by kernel_rfl) rfl
instance el76 : El Tryd.prog 76 1 16 := .mk' (z := .agg #[Value.nilIface]) (by kernel_rfl) rfl
instance fl76_0 : Fld Tryd.prog 76 0 0 75 := .mk' (by kernel_rfl) (by kernel_rfl)
instance su76 : St Tryd.prog 76 [(0, 1)] := ⟨by kernel_rfl⟩
instance el77 : El Tryd.prog 77 1 16 := .mk' (z := .agg #[Value.nilIface]) (by kernel_rfl) rfl
instance fl77_0 : Fld Tryd.prog 77 0 0 75 := .mk' (by kernel_rfl) (by kernel_rfl)
instance su77 : St Tryd.prog 77 [(0, 1)] := ⟨by kernel_rfl⟩
instance el78 : El Tryd.prog 78 1 8 := .mk' (z := .agg #[Value.map none]) (by kernel_rfl) rfl
instance fl78_0 : Fld Tryd.prog 78 0 0 73 := .mk' (by kernel_rfl) (by kernel_rfl)
instance su78 : St Tryd.prog 78 [(0, 1)] := ⟨by kernel_rfl⟩
instance el79 : El Tryd.prog 79 1 8 := .mk' (z := .agg #[Value.map none]) (by kernel_rfl) rfl
instance fl79_0 : Fld Tryd.prog 79 0 0 73 := .mk' (by kernel_rfl) (by kernel_rfl)
instance su79 : St Tryd.prog 79 [(0, 1)] := ⟨by kernel_rfl⟩
instance el80 : El Tryd.prog 80 1 8 := .mk' (z := Value.nilFunc) (by kernel_rfl) rfl
instance el81 : El Tryd.prog 81 1 8 := .mk' (z := Value.nilFunc) (by kernel_rfl) rfl
instance el82 : El Tryd.prog 82 1 8 := .mk' (z := Value.nilFunc) (by kernel_rfl) rfl
instance el83 : El Tryd.prog 83 1 8 := .mk' (z := Value.nilFunc) (by kernel_rfl) rfl
instance el84 : El Tryd.prog 84 1 8 := .mk' (z := Value.nilFunc) (by kernel_rfl) rfl
instance el85 : El Tryd.prog 85 1 8 := .mk' (z := Value.nilFunc) (by kernel_rfl) rfl
instance el86 : El Tryd.prog 86 1 8 := .mk' (z := Value.nilFunc) (by kernel_rfl) rfl
instance el87 : El Tryd.prog 87 1 8 := .mk' (z := Value.nilFunc) (by kernel_rfl) rfl
instance el88 : El Tryd.prog 88 1 8 := .mk' (z := Value.nilFunc) (by kernel_rfl) rfl
instance el89 : El Tryd.prog 89 1 8 := .mk' (z := Value.nilFunc) (by kernel_rfl) rfl
instance el90 : El Tryd.prog 90 1 8 := .mk' (z := Value.nilFunc) (by kernel_rfl) rfl
instance el91 : El Tryd.prog 91 1 8 := .mk' (z := Value.nilFunc) (by kernel_rfl) rfl
instance el92 : El Tryd.prog 92 1 8 := .mk' (z := Value.nilFunc) (by kernel_rfl) rfl
instance el93 : El Tryd.prog 93 1 8 := .mk' (z := Value.nilFunc) (by kernel_rfl) rfl
instance el94 : El Tryd.prog 94 1 8 := .mk' (z := Value.nilFunc) (by kernel_rfl) rfl
instance el96 : El Tryd.prog 96 1 8 := .mk' (z := Value.nilFunc) (by kernel_rfl) rfl
instance el98 : El Tryd.prog 98 1 8 := .mk' (z := Value.nilFunc) (by kernel_rfl) rfl
instance el100 : El Tryd.prog 100 1 8 := .mk' (z := Value.nilFunc) (by kernel_rfl) rfl
instance el102 : El Tryd.prog 102 1 8 := .mk' (z := Value.nilFunc) (by kernel_rfl) rfl
instance el103 : El Tryd.prog 103 1 8 := .mk' (z := Value.nilFunc) (by kernel_rfl) rfl
instance el104 : El Tryd.prog 104 1 8 := .mk' (z := Value.nilFunc) (by kernel_rfl) rfl
instance el105 : El Tryd.prog 105 1 8 := .mk' (z := Value.nilFunc) (by kernel_rfl) rfl
instance el106 : El Tryd.prog 106 1 8 := .mk' (z := Value.nilFunc) (by kernel_rfl) rfl
instance el107 : El Tryd.prog 107 4 48 := .mk' (z := .agg #[Value.string ⟨#[]⟩, Value.int .i64 0, Value.int .i64 0, Value.string ⟨#[]⟩]) (by kernel_rfl) rfl
instance fl107_0 : Fld Tryd.prog 107 0 0 9 := .mk' (by kernel_rfl) (by kernel_rfl)
instance fl107_1 : Fld Tryd.prog 107 1 1 25 := .mk' (by kernel_rfl) (by kernel_rfl)
instance su107 : St Tryd.prog 107 [(0, 1), (1, 3)] := ⟨by kernel_rfl⟩
instance el108 : El Tryd.prog 108 4 48 := .mk' (z := .agg #[Value.string ⟨#[]⟩, Value.int .i64 0, Value.int .i64 0, Value.string ⟨#[]⟩]) (by kernel_rfl) rfl
instance fl108_0 : Fld Tryd.prog 108 0 0 9 := .mk' (by kernel_rfl) (by kernel_rfl)
instance fl108_1 : Fld Tryd.prog 108 1 1 25 := .mk' (by kernel_rfl) (by kernel_rfl)
instance su108 : St Tryd.prog 108 [(0, 1), (1, 3)] := ⟨by kernel_rfl⟩
instance el109 : El Tryd.prog 109 1 8 := .mk' (z := Value.nilFunc) (by kernel_rfl) rfl
instance el110 : El Tryd.prog 110 1 24 := .mk' (z := Value.slice none 0 0) (by kernel_rfl) rfl
instance sl110 : Sl Tryd.prog 110 21 := ⟨by kernel_rfl⟩
instance el111 : El Tryd.prog 111 1 24 := .mk' (z := Value.slice none 0 0) (by kernel_rfl) rfl
instance sl111 : Sl Tryd.prog 111 3 := ⟨by kernel_rfl⟩
instance el113 : El Tryd.prog 113 1 8 := .mk' (z := Value.nilFunc) (by kernel_rfl) rfl
instance el114 : El Tryd.prog 114 1 8 := .mk' (z := Value.nilFunc) (by kernel_rfl) rfl
instance el115 : El Tryd.prog 115 1 8 := .mk' (z := Value.nilFunc) (by kernel_rfl) rfl
instance el116 : El Tryd.prog 116 1 8 := .mk' (z := Value.nilFunc) (by kernel_rfl) rfl
instance el118 : El Tryd.prog 118 1 8 := .mk' (z := Value.nilFunc) (by kernel_rfl) rfl
instance el119 : El Tryd.prog 119 1 8 := .mk' (z := Value.nilFunc) (by kernel_rfl) rfl
instance el121 : El Tryd.prog 121 1 8 := .mk' (z := Value.nilFunc) (by kernel_rfl) rfl
instance el122 : El Tryd.prog 122 1 8 := .mk' (z := Value.nilFunc) (by kernel_rfl) rfl
instance it123 : IntTy Tryd.prog 123 .u64 := ⟨by kernel_rfl⟩
instance el123 : El Tryd.prog 123 1 8 := .mk' (z := Value.int .u64 0) (by kernel_rfl) rfl
instance it124 : IntTy Tryd.prog 124 .u64 := ⟨by kernel_rfl⟩
instance el124 : El Tryd.prog 124 1 8 := .mk' (z := Value.int .u64 0) (by kernel_rfl) rfl
instance it125 : IntTy Tryd.prog 125 .i64 := ⟨by kernel_rfl⟩
instance el125 : El Tryd.prog 125 1 8 := .mk' (z := Value.int .i64 0) (by kernel_rfl) rfl
instance st126 : StrTy Tryd.prog 126 := ⟨by kernel_rfl⟩
instance el126 : El Tryd.prog 126 1 16 := .mk' (z := Value.string ⟨#[]⟩) (by kernel_rfl) rfl
instance el127 : El Tryd.prog 127 1 8 := .mk' (z := Value.nilFunc) (by kernel_rfl) rfl
instance el128 : El Tryd.prog 128 1 8 := .mk' (z := Value.nilFunc) (by kernel_rfl) rfl
instance el129 : El Tryd.prog 129 1 8 := .mk' (z := Value.nilFunc) (by kernel_rfl) rfl
instance el131 : El Tryd.prog 131 1 8 := .mk' (z := Value.nilFunc) (by kernel_rfl) rfl
instance it132 : IntTy Tryd.prog 132 .i64 := ⟨by kernel_rfl⟩
instance el132 : El Tryd.prog 132 1 8 := .mk' (z := Value.int .i64 0) (by kernel_rfl) rfl
instance el134 : El Tryd.prog 134 1 8 := .mk' (z := Value.nilFunc) (by kernel_rfl) rfl
instance el135 : El Tryd.prog 135 1 8 := .mk' (z := Value.nilFunc) (by kernel_rfl) rfl
instance el136 : El Tryd.prog 136 1 8 := .mk' (z := Value.nilFunc) (by kernel_rfl) rfl
instance el138 : El Tryd.prog 138 1 8 := .mk' (z := Value.nilFunc) (by kernel_rfl) rfl
instance el139 : El Tryd.prog 139 1 8 := .mk' (z := Value.nilFunc) (by kernel_rfl) rfl
instance it140 : IntTy Tryd.prog 140 .u32 := ⟨by kernel_rfl⟩
instance el140 : El Tryd.prog 140 1 4 := .mk' (z := Value.int .u32 0) (by kernel_rfl) rfl
instance el141 : El Tryd.prog 141 1 8 := .mk' (z := Value.nilFunc) (by kernel_rfl) rfl
instance el142 : El Tryd.prog 142 1 8 := .mk' (z := Value.nilFunc) (by kernel_rfl) rfl
instance el144 : El Tryd.prog 144 2 2 := .mk' (z := .agg #[Value.int .u8 0, Value.int .u8 0]) (by kernel_rfl) rfl
instance fl144_0 : Fld Tryd.prog 144 0 0 5 := .mk' (by kernel_rfl) (by kernel_rfl)
instance fl144_1 : Fld Tryd.prog 144 1 1 5 := .mk' (by kernel_rfl) (by kernel_rfl)
instance su144 : St Tryd.prog 144 [(0, 1), (1, 1)] := ⟨by kernel_rfl⟩
instance el145 : El Tryd.prog 145 2 2 := .mk' (z := .agg #[Value.int .u8 0, Value.int .u8 0]) (by kernel_rfl) rfl
instance fl145_0 : Fld Tryd.prog 145 0 0 5 := .mk' (by kernel_rfl) (by kernel_rfl)
instance fl145_1 : Fld Tryd.prog 145 1 1 5 := .mk' (by kernel_rfl) (by kernel_rfl)
instance su145 : St Tryd.prog 145 [(0, 1), (1, 1)] := ⟨by kernel_rfl⟩
instance el146 : El Tryd.prog 146 32 32 := .mk' (z := .agg #[Value.int .u8 0, Value.int .u8 0, Value.int .u8 0, Value.int .u8 0, Value.int .u8 0, Value.int .u8 0, Value.int .u8 0, Value.int .u8 0, Value.int .u8 0, Value.int .u8 0, Value.int .u8 0, Value.int .u8 0, Value.int .u8 0, Value.int .u8 0, Value.int .u8 0, Value.int .u8 0, Value.int .u8 0, Value.int .u8 0, Value.int .u8 0, Value.int .u8 0, Value.int .u8 0, Value.int .u8 0, Value.int .u8 0, Value.int .u8 0, Value.int .u8 0, Value.int .u8 0, Value.int .u8 0, Value.int .u8 0, Value.int .u8 0, Value.int .u8 0, Value.int .u8 0, Value.int .u8 0]) (by kernel_rfl) rfl
instance it147 : IntTy Tryd.prog 147 .u64 := ⟨by kernel_rfl⟩
instance el147 : El Tryd.prog 147 1 8 := .mk' (z := Value.int .u64 0) (by kernel_rfl) rfl
instance el148 : El Tryd.prog 148 1 8 := .mk' (z := Value.nilFunc) (by kernel_rfl) rfl
instance el149 : El Tryd.prog 149 1 8 := .mk' (z := Value.nilFunc) (by kernel_rfl) rfl
instance el150 : El Tryd.prog 150 1 8 := .mk' (z := Value.nilFunc) (by kernel_rfl) rfl
instance el151 : El Tryd.prog 151 1 8 := .mk' (z := Value.pointer none) (by kernel_rfl) rfl
instance el152 : El Tryd.prog 152 1 8 := .mk' (z := Value.nilFunc) (by kernel_rfl) rfl
instance el153 : El Tryd.prog 153 1 8 := .mk' (z := Value.pointer none) (by kernel_rfl) rfl
instance el155 : El Tryd.prog 155 1 8 := .mk' (z := Value.nilFunc) (by kernel_rfl) rfl
instance el156 : El Tryd.prog 156 1 8 := .mk' (z := Value.nilFunc) (by kernel_rfl) rfl
instance el157 : El Tryd.prog 157 4 40 := .mk' (z := .agg #[Value.pointer none, Value.pointer none, Value.pointer none, Value.string ⟨#[]⟩]) (by kernel_rfl) rfl
instance fl157_0 : Fld Tryd.prog 157 0 0 17 := .mk' (by kernel_rfl) (by kernel_rfl)
instance fl157_1 : Fld Tryd.prog 157 1 1 17 := .mk' (by kernel_rfl) (by kernel_rfl)
instance fl157_2 : Fld Tryd.prog 157 2 2 17 := .mk' (by kernel_rfl) (by kernel_rfl)
instance fl157_3 : Fld Tryd.prog 157 3 3 9 := .mk' (by kernel_rfl) (by kernel_rfl)
instance su157 : St Tryd.prog 157 [(0, 1), (1, 1), (2, 1), (3, 1)] := ⟨by kernel_rfl⟩
instance el158 : El Tryd.prog 158 4 40 := .mk' (z := .agg #[Value.pointer none, Value.pointer none, Value.pointer none, Value.string ⟨#[]⟩]) (by kernel_rfl) rfl
instance fl158_0 : Fld Tryd.prog 158 0 0 17 := .mk' (by kernel_rfl) (by kernel_rfl)
instance fl158_1 : Fld Tryd.prog 158 1 1 17 := .mk' (by kernel_rfl) (by kernel_rfl)
instance fl158_2 : Fld Tryd.prog 158 2 2 17 := .mk' (by kernel_rfl) (by kernel_rfl)
instance fl158_3 : Fld Tryd.prog 158 3 3 9 := .mk' (by kernel_rfl) (by kernel_rfl)
instance su158 : St Tryd.prog 158 [(0, 1), (1, 1), (2, 1), (3, 1)] := ⟨by kernel_rfl⟩
instance su160 : St Tryd.prog 160 [(0, 0)] := ⟨by kernel_rfl⟩
instance su161 : St Tryd.prog 161 [(0, 0)] := ⟨by kernel_rfl⟩
instance it162 : IntTy Tryd.prog 162 .u8 := ⟨by kernel_rfl⟩
instance el162 : El Tryd.prog 162 1 1 := .mk' (z := Value.int .u8 0) (by kernel_rfl) rfl
instance it163 : IntTy Tryd.prog 163 .u8 := ⟨by kernel_rfl⟩
instance el163 : El Tryd.prog 163 1 1 := .mk' (z := Value.int .u8 0) (by kernel_rfl) rfl
instance el164 : El Tryd.prog 164 1 8 := .mk' (z := Value.nilFunc) (by kernel_rfl) rfl
instance el165 : El Tryd.prog 165 1 8 := .mk' (z := Value.pointer none) (by kernel_rfl) rfl
instance it166 : IntTy Tryd.prog 166 .i32 := ⟨by kernel_rfl⟩
instance el166 : El Tryd.prog 166 1 4 := .mk' (z := Value.int .i32 0) (by kernel_rfl) rfl
instance it167 : IntTy Tryd.prog 167 .i32 := ⟨by kernel_rfl⟩
instance el167 : El Tryd.prog 167 1 4 := .mk' (z := Value.int .i32 0) (by kernel_rfl) rfl
instance el168 : El Tryd.prog 168 11 48 := .mk' (z := .agg #[Value.int .u64 0, Value.int .u64 0, Value.int .u32 0, Value.int .u8 0, Value.int .u8 0, Value.int .u8 0, Value.int .u8 0, Value.nilFunc, Value.pointer none, Value.int .i32 0, Value.int .i32 0]) (by kernel_rfl) rfl
instance fl168_0 : Fld Tryd.prog 168 0 0 12 := .mk' (by kernel_rfl) (by kernel_rfl)
instance fl168_1 : Fld Tryd.prog 168 1 1 12 := .mk' (by kernel_rfl) (by kernel_rfl)
instance fl168_2 : Fld Tryd.prog 168 2 2 140 := .mk' (by kernel_rfl) (by kernel_rfl)
instance fl168_3 : Fld Tryd.prog 168 3 3 162 := .mk' (by kernel_rfl) (by kernel_rfl)
instance fl168_4 : Fld Tryd.prog 168 4 4 5 := .mk' (by kernel_rfl) (by kernel_rfl)
instance fl168_5 : Fld Tryd.prog 168 5 5 5 := .mk' (by kernel_rfl) (by kernel_rfl)
instance fl168_6 : Fld Tryd.prog 168 6 6 163 := .mk' (by kernel_rfl) (by kernel_rfl)
instance fl168_7 : Fld Tryd.prog 168 7 7 164 := .mk' (by kernel_rfl) (by kernel_rfl)
instance fl168_8 : Fld Tryd.prog 168 8 8 165 := .mk' (by kernel_rfl) (by kernel_rfl)
instance fl168_9 : Fld Tryd.prog 168 9 9 166 := .mk' (by kernel_rfl) (by kernel_rfl)
instance fl168_10 : Fld Tryd.prog 168 10 10 167 := .mk' (by kernel_rfl) (by kernel_rfl)
instance su168 : St Tryd.prog 168 [(0, 1), (1, 1), (2, 1), (3, 1), (4, 1), (5, 1), (6, 1), (7, 1), (8, 1), (9, 1), (10, 1)] := ⟨by kernel_rfl⟩
instance el169 : El Tryd.prog 169 11 48 := .mk' (z := .agg #[Value.int .u64 0, Value.int .u64 0, Value.int .u32 0, Value.int .u8 0, Value.int .u8 0, Value.int .u8 0, Value.int .u8 0, Value.nilFunc, Value.pointer none, Value.int .i32 0, Value.int .i32 0]) (by kernel_rfl) rfl
instance fl169_0 : Fld Tryd.prog 169 0 0 12 := .mk' (by kernel_rfl) (by kernel_rfl)
instance fl169_1 : Fld Tryd.prog 169 1 1 12 := .mk' (by kernel_rfl) (by kernel_rfl)
instance fl169_2 : Fld Tryd.prog 169 2 2 140 := .mk' (by kernel_rfl) (by kernel_rfl)
instance fl169_3 : Fld Tryd.prog 169 3 3 162 := .mk' (by kernel_rfl) (by kernel_rfl)
instance fl169_4 : Fld Tryd.prog 169 4 4 5 := .mk' (by kernel_rfl) (by kernel_rfl)
instance fl169_5 : Fld Tryd.prog 169 5 5 5 := .mk' (by kernel_rfl) (by kernel_rfl)
instance fl169_6 : Fld Tryd.prog 169 6 6 163 := .mk' (by kernel_rfl) (by kernel_rfl)
instance fl169_7 : Fld Tryd.prog 169 7 7 164 := .mk' (by kernel_rfl) (by kernel_rfl)
instance fl169_8 : Fld Tryd.prog 169 8 8 165 := .mk' (by kernel_rfl) (by kernel_rfl)
instance fl169_9 : Fld Tryd.prog 169 9 9 166 := .mk' (by kernel_rfl) (by kernel_rfl)
instance fl169_10 : Fld Tryd.prog 169 10 10 167 := .mk' (by kernel_rfl) (by kernel_rfl)
instance su169 : St Tryd.prog 169 [(0, 1), (1, 1), (2, 1), (3, 1), (4, 1), (5, 1), (6, 1), (7, 1), (8, 1), (9, 1), (10, 1)] := ⟨by kernel_rfl⟩
instance el170 : El Tryd.prog 170 1 8 := .mk' (z := Value.pointer none) (by kernel_rfl) rfl
end Go.Proofs.YthpenehgfogloaaDoor

/-
  What the walks of all statements share: worlds joined; a text that is cut.
-/
set_option linter.unusedVariables false
namespace Go.Proofs.YthpenehgfogloaaDoor
open Go.RowKit

theorem bjoin {w w1 w2 : World} (h : Below w.heap.size w w1) (k : Below w1.heap.size w1 w2) : Below w.heap.size w w2 := h.trans (k.mono h.size)

/-- A text that is not too long. -/
def cutS (s : ByteArray) (n : Nat) : ByteArray := if n < s.size then s.extract 0 n else s
theorem cutS_size (s : ByteArray) (n : Nat) : (cutS s n).size ≤ n := by
  unfold cutS; split
  · simp; omega
  · omega

theorem law1_Cut (s : ByteArray) (n : Int) (w : World) (hs : s.size ≤ 9223372036854775807) (h0 : 0 ≤ n) :
    Calls Tryd.prog 46 #[.string s, .int .i64 n] w fun e w' => e = .returned (.string (cutS s n.toNat)) ∧ w = w' := by
  obtain ⟨m, rfl⟩ := Int.eq_ofNat_of_zero_le h0
  by_cases h : m < s.size
  · have HC : Hid (cutS s m = s.extract 0 m) := by unfold Hid cutS; rw [if_pos h]
    have h' : (m : Int) < (s.size : Int) := by omega
    go_enter Tryd.func46, Tryd.ntmps46
    go_wp2
    go_ret
    exact ⟨ret_str (by rw [Int.toNat_natCast, HC.out]), rfl⟩
  · have HC : Hid (cutS s m = s) := by unfold Hid cutS; rw [if_neg h]
    have h' : (s.size : Int) ≤ (m : Int) := by omega
    go_enter Tryd.func46, Tryd.ntmps46
    go_wp2
    go_ret
    exact ⟨ret_str (by rw [Int.toNat_natCast, HC.out]), rfl⟩

end Go.Proofs.YthpenehgfogloaaDoor

/-
  The walks of package value: Of, Kind, Raw, AsInt, MustInt, Eq; and of the reference's Eq, May.
-/
set_option linter.unusedVariables false
namespace Go.Proofs.YthpenehgfogloaaDoor
open Go.RowKit

/-- A value: none, a number, a text; as the program holds it. -/
def vCell : Option (Int ⊕ ByteArray) → Value
  | none => .nilIface
  | some (.inl n) => .iface 125 (.int .i64 n)
  | some (.inr s) => .iface 126 (.string s)
/-- What Of makes of data. -/
def ofRaw (k n : Int) (s : ByteArray) : Option (Int ⊕ ByteArray) × Int :=
  if k = 0 ∧ n = 0 ∧ s.size = 0 then (none, 0)
  else if k = 1 ∧ s.size = 0 then (some (.inl n), 0)
  else if k = 2 ∧ n = 0 ∧ s.size ≤ 200 ∧ Lib.validD s.data.toList = true then (some (.inr s), 0)
  else (none, 1)

set_option maxRecDepth 100000 in
set_option maxHeartbeats 1000000 in
theorem of_none (s : ByteArray) (h : ¬ 0 < s.size) (w : World) (hs : s.size ≤ 9223372036854775807) :
    Calls Tryd.prog 57 #[.agg #[.int .i64 0, .int .i64 0, .string s]] w fun e w' => e = .returned (.tuple #[.agg #[vCell (ofRaw 0 0 s).1], .int .i64 (ofRaw 0 0 s).2]) ∧ Below w.heap.size w w' := by
  have HF : Hid (ofRaw 0 0 s = (none, 0)) := by
    show _ = _
    unfold ofRaw; rw [if_pos ⟨rfl, rfl, by omega⟩]
  have ex := Ph.empty_yes h
  go_enter Tryd.func57, Tryd.ntmps57
  go_wp2
  refine bodyPost_ret (v := .tuple #[.agg #[.nilIface], .int .i64 0]) (by simp [results, Tryd.results57, go_sem]) rfl ⟨?_, ?_⟩
  · rw [HF.out]
    rfl
  · exact ((Below.refl _ _).alloc (Nat.le_refl _) _).alloc (by simp) _

set_option maxRecDepth 100000 in
set_option maxHeartbeats 1000000 in
theorem of_int (n : Int) (s : ByteArray) (h : ¬ 0 < s.size) (w : World) (hs : s.size ≤ 9223372036854775807) :
    Calls Tryd.prog 57 #[.agg #[.int .i64 1, .int .i64 n, .string s]] w fun e w' => e = .returned (.tuple #[.agg #[vCell (ofRaw 1 n s).1], .int .i64 (ofRaw 1 n s).2]) ∧ Below w.heap.size w w' := by
  have HF : Hid (ofRaw 1 n s = (some (.inl n), 0)) := by
    show _ = _
    unfold ofRaw; rw [if_neg (by omega), if_pos ⟨rfl, by omega⟩]
  have ex := Ph.empty_yes h
  go_enter Tryd.func57, Tryd.ntmps57
  go_wp2
  refine bodyPost_ret (v := .tuple #[.agg #[.iface 125 (.int .i64 n)], .int .i64 0]) (by simp [results, Tryd.results57, go_sem]) rfl ⟨?_, ?_⟩
  · rw [HF.out]
    rfl
  · exact ((Below.refl _ _).alloc (Nat.le_refl _) _).alloc (by simp) _

set_option maxRecDepth 100000 in
set_option maxHeartbeats 1000000 in
theorem of_nonum (n : Int) (s : ByteArray) (h : n ≠ 0) (w : World) (hs : s.size ≤ 9223372036854775807) :
    Calls Tryd.prog 57 #[.agg #[.int .i64 0, .int .i64 n, .string s]] w fun e w' => e = .returned (.tuple #[.agg #[vCell (ofRaw 0 n s).1], .int .i64 (ofRaw 0 n s).2]) ∧ Below w.heap.size w w' := by
  have HF : Hid (ofRaw 0 n s = (none, 1)) := by
    show _ = _
    unfold ofRaw; rw [if_neg (by omega), if_neg (by omega), if_neg (by omega)]
  have h' : (n == 0) = false := by simpa using h
  clear h
  go_enter Tryd.func57, Tryd.ntmps57
  go_wp2
  refine bodyPost_ret (v := .tuple #[.agg #[.nilIface], .int .i64 1]) (by simp [results, Tryd.results57, go_sem]) rfl ⟨?_, ?_⟩
  · rw [HF.out]
    rfl
  · exact ((Below.refl _ _).alloc (Nat.le_refl _) _).alloc (by simp) _

set_option maxRecDepth 100000 in
set_option maxHeartbeats 1000000 in
theorem of_notext (s : ByteArray) (h : 0 < s.size) (w : World) (hs : s.size ≤ 9223372036854775807) :
    Calls Tryd.prog 57 #[.agg #[.int .i64 0, .int .i64 0, .string s]] w fun e w' => e = .returned (.tuple #[.agg #[vCell (ofRaw 0 0 s).1], .int .i64 (ofRaw 0 0 s).2]) ∧ Below w.heap.size w w' := by
  have HF : Hid (ofRaw 0 0 s = (none, 1)) := by
    show _ = _
    unfold ofRaw; rw [if_neg (by omega), if_neg (by omega), if_neg (by omega)]
  have ex := Ph.empty_no h
  go_enter Tryd.func57, Tryd.ntmps57
  go_wp2
  refine bodyPost_ret (v := .tuple #[.agg #[.nilIface], .int .i64 1]) (by simp [results, Tryd.results57, go_sem]) rfl ⟨?_, ?_⟩
  · rw [HF.out]
    rfl
  · exact ((Below.refl _ _).alloc (Nat.le_refl _) _).alloc (by simp) _

set_option maxRecDepth 100000 in
set_option maxHeartbeats 1000000 in
theorem of_intno (n : Int) (s : ByteArray) (h : 0 < s.size) (w : World) (hs : s.size ≤ 9223372036854775807) :
    Calls Tryd.prog 57 #[.agg #[.int .i64 1, .int .i64 n, .string s]] w fun e w' => e = .returned (.tuple #[.agg #[vCell (ofRaw 1 n s).1], .int .i64 (ofRaw 1 n s).2]) ∧ Below w.heap.size w w' := by
  have HF : Hid (ofRaw 1 n s = (none, 1)) := by
    show _ = _
    unfold ofRaw; rw [if_neg (by omega), if_neg (by omega), if_neg (by omega)]
  have ex := Ph.empty_no h
  go_enter Tryd.func57, Tryd.ntmps57
  go_wp2
  refine bodyPost_ret (v := .tuple #[.agg #[.nilIface], .int .i64 1]) (by simp [results, Tryd.results57, go_sem]) rfl ⟨?_, ?_⟩
  · rw [HF.out]
    rfl
  · exact ((Below.refl _ _).alloc (Nat.le_refl _) _).alloc (by simp) _

set_option maxRecDepth 100000 in
set_option maxHeartbeats 1000000 in
theorem of_textnum (n : Int) (s : ByteArray) (h : n ≠ 0) (w : World) (hs : s.size ≤ 9223372036854775807) :
    Calls Tryd.prog 57 #[.agg #[.int .i64 2, .int .i64 n, .string s]] w fun e w' => e = .returned (.tuple #[.agg #[vCell (ofRaw 2 n s).1], .int .i64 (ofRaw 2 n s).2]) ∧ Below w.heap.size w w' := by
  have HF : Hid (ofRaw 2 n s = (none, 1)) := by
    show _ = _
    unfold ofRaw; rw [if_neg (by omega), if_neg (by omega), if_neg (by omega)]
  have h' : (n == 0) = false := by simpa using h
  clear h
  go_enter Tryd.func57, Tryd.ntmps57
  go_wp2
  refine bodyPost_ret (v := .tuple #[.agg #[.nilIface], .int .i64 1]) (by simp [results, Tryd.results57, go_sem]) rfl ⟨?_, ?_⟩
  · rw [HF.out]
    rfl
  · exact ((Below.refl _ _).alloc (Nat.le_refl _) _).alloc (by simp) _

set_option maxRecDepth 100000 in
set_option maxHeartbeats 1000000 in
theorem of_textlong (s : ByteArray) (h : 200 < s.size) (w : World) (hs : s.size ≤ 9223372036854775807) :
    Calls Tryd.prog 57 #[.agg #[.int .i64 2, .int .i64 0, .string s]] w fun e w' => e = .returned (.tuple #[.agg #[vCell (ofRaw 2 0 s).1], .int .i64 (ofRaw 2 0 s).2]) ∧ Below w.heap.size w w' := by
  have HF : Hid (ofRaw 2 0 s = (none, 1)) := by
    show _ = _
    unfold ofRaw; rw [if_neg (by omega), if_neg (by omega), if_neg (by omega)]
  have h' : (200 : Int) < (s.size : Int) := by omega
  go_enter Tryd.func57, Tryd.ntmps57
  go_wp2
  refine bodyPost_ret (v := .tuple #[.agg #[.nilIface], .int .i64 1]) (by simp [results, Tryd.results57, go_sem]) rfl ⟨?_, ?_⟩
  · rw [HF.out]
    rfl
  · exact ((Below.refl _ _).alloc (Nat.le_refl _) _).alloc (by simp) _

set_option maxRecDepth 100000 in
set_option maxHeartbeats 1000000 in
theorem of_textbad (s : ByteArray) (h : s.size ≤ 200) (hv : Lib.validD s.data.toList = false) (w : World) (hs : s.size ≤ 9223372036854775807) (hT : Tabs w) :
    Calls Tryd.prog 57 #[.agg #[.int .i64 2, .int .i64 0, .string s]] w fun e w' => e = .returned (.tuple #[.agg #[vCell (ofRaw 2 0 s).1], .int .i64 (ofRaw 2 0 s).2]) ∧ Below w.heap.size w w' := by
  have HF : Hid (ofRaw 2 0 s = (none, 1)) := by
    show _ = _
    unfold ofRaw; rw [if_neg (by omega), if_neg (by omega), if_neg (by rw [hv]; simp)]
  have h' : (s.size : Int) ≤ 200 := by omega
  go_enter Tryd.func57, Tryd.ntmps57
  go_wp2_with fail
  refine (runes_Valid _ _ hs (hT.keep (((Below.refl _ _).alloc (Nat.le_refl _) _).alloc (by simp) _))).mono ?_
  rintro e w1 ⟨rfl, hb⟩
  rw [hv]
  clear hv
  have hz := hb.size
  have h1 : w1.cell? ⟨w.heap.size, 0, none⟩ = some (.int .i64 2) := by rw [hb.cell (p := ⟨w.heap.size, 0, none⟩) (by simp; omega)]; simp [go_sem]
  have h2 : w1.cell? ⟨w.heap.size, 2, none⟩ = some (.string s) := by rw [hb.cell (p := ⟨w.heap.size, 2, none⟩) (by simp; omega)]; simp [go_sem]
  have h3 : w1.cell? ⟨w.heap.size + 1, 0, none⟩ = some .nilIface := by rw [hb.cell (p := ⟨w.heap.size + 1, 0, none⟩) (by simp)]; simp [go_sem]
  have h4 : w1.frozen? ⟨w.heap.size + 1, 0, none⟩ = false := by rw [hb.frozen (p := ⟨w.heap.size + 1, 0, none⟩) (by simp)]; simp [go_sem]
  have h6 : ∀ u, (w1.setCell ⟨w.heap.size + 1, 0, none⟩ u).cell? ⟨w.heap.size + 1, 0, none⟩ = some u := fun u => World.cell?_setCell_same _ _ _ h3
  have h5 : w.heap.size + 1 < w1.heap.size := by simp at hz; omega
  go_wp2
  refine bodyPost_ret (v := .tuple #[.agg #[.nilIface], .int .i64 1]) (by simp [results, Tryd.results57, go_sem, h6]) rfl ⟨?_, ?_⟩
  · rw [HF.out]
    rfl
  · exact ((((Below.refl w.heap.size w).alloc (Nat.le_refl _) _).alloc (by simp) _).trans (hb.mono (by simp; omega))).setCell (by simp) _

set_option maxRecDepth 100000 in
set_option maxHeartbeats 1000000 in
theorem of_text (s : ByteArray) (h : s.size ≤ 200) (hv : Lib.validD s.data.toList = true) (w : World) (hs : s.size ≤ 9223372036854775807) (hT : Tabs w) :
    Calls Tryd.prog 57 #[.agg #[.int .i64 2, .int .i64 0, .string s]] w fun e w' => e = .returned (.tuple #[.agg #[vCell (ofRaw 2 0 s).1], .int .i64 (ofRaw 2 0 s).2]) ∧ Below w.heap.size w w' := by
  have HF : Hid (ofRaw 2 0 s = (some (.inr s), 0)) := by
    show _ = _
    unfold ofRaw; rw [if_neg (by omega), if_neg (by omega), if_pos ⟨rfl, rfl, h, hv⟩]
  have h' : (s.size : Int) ≤ 200 := by omega
  go_enter Tryd.func57, Tryd.ntmps57
  go_wp2_with fail
  refine (runes_Valid _ _ hs (hT.keep (((Below.refl _ _).alloc (Nat.le_refl _) _).alloc (by simp) _))).mono ?_
  rintro e w1 ⟨rfl, hb⟩
  rw [hv]
  clear hv
  have hz := hb.size
  have h1 : w1.cell? ⟨w.heap.size, 0, none⟩ = some (.int .i64 2) := by rw [hb.cell (p := ⟨w.heap.size, 0, none⟩) (by simp; omega)]; simp [go_sem]
  have h2 : w1.cell? ⟨w.heap.size, 2, none⟩ = some (.string s) := by rw [hb.cell (p := ⟨w.heap.size, 2, none⟩) (by simp; omega)]; simp [go_sem]
  have h3 : w1.cell? ⟨w.heap.size + 1, 0, none⟩ = some .nilIface := by rw [hb.cell (p := ⟨w.heap.size + 1, 0, none⟩) (by simp)]; simp [go_sem]
  have h4 : w1.frozen? ⟨w.heap.size + 1, 0, none⟩ = false := by rw [hb.frozen (p := ⟨w.heap.size + 1, 0, none⟩) (by simp)]; simp [go_sem]
  have h6 : ∀ u, (w1.setCell ⟨w.heap.size + 1, 0, none⟩ u).cell? ⟨w.heap.size + 1, 0, none⟩ = some u := fun u => World.cell?_setCell_same _ _ _ h3
  have h5 : w.heap.size + 1 < w1.heap.size := by simp at hz; omega
  go_wp2
  refine bodyPost_ret (v := .tuple #[.agg #[.iface 126 (.string s)], .int .i64 0]) (by simp [results, Tryd.results57, go_sem, h6]) rfl ⟨?_, ?_⟩
  · rw [HF.out]
    rfl
  · exact ((((Below.refl w.heap.size w).alloc (Nat.le_refl _) _).alloc (by simp) _).trans (hb.mono (by simp; omega))).setCell (by simp) _

set_option maxRecDepth 100000 in
set_option maxHeartbeats 1000000 in
theorem of_other (k n : Int) (s : ByteArray) (h0 : k ≠ 0) (h1 : k ≠ 1) (h2 : k ≠ 2) (w : World) (hs : s.size ≤ 9223372036854775807) :
    Calls Tryd.prog 57 #[.agg #[.int .i64 k, .int .i64 n, .string s]] w fun e w' => e = .returned (.tuple #[.agg #[vCell (ofRaw k n s).1], .int .i64 (ofRaw k n s).2]) ∧ Below w.heap.size w w' := by
  have HF : Hid (ofRaw k n s = (none, 1)) := by
    show _ = _
    unfold ofRaw; rw [if_neg (by omega), if_neg (by omega), if_neg (by omega)]
  have h0' : (k == 0) = false := by simpa using h0
  have h1' : (k == 1) = false := by simpa using h1
  have h2' : (k == 2) = false := by simpa using h2
  clear h0 h1 h2
  go_enter Tryd.func57, Tryd.ntmps57
  go_wp2
  refine bodyPost_ret (v := .tuple #[.agg #[.nilIface], .int .i64 1]) (by simp [results, Tryd.results57, go_sem]) rfl ⟨?_, ?_⟩
  · rw [HF.out]
    rfl
  · exact ((Below.refl _ _).alloc (Nat.le_refl _) _).alloc (by simp) _

/-- OF, at any data. -/
theorem value_Of (k n : Int) (s : ByteArray) (w : World) (hs : s.size ≤ 9223372036854775807) (hT : Tabs w) :
    Calls Tryd.prog 57 #[.agg #[.int .i64 k, .int .i64 n, .string s]] w fun e w' => e = .returned (.tuple #[.agg #[vCell (ofRaw k n s).1], .int .i64 (ofRaw k n s).2]) ∧ Below w.heap.size w w' := by
  by_cases k0 : k = 0
  · subst k0
    by_cases n0 : n = 0
    · subst n0
      by_cases s0 : 0 < s.size
      · exact of_notext s s0 w hs
      · exact of_none s s0 w hs
    · exact of_nonum n s n0 w hs
  by_cases k1 : k = 1
  · subst k1
    by_cases s0 : 0 < s.size
    · exact of_intno n s s0 w hs
    · exact of_int n s s0 w hs
  by_cases k2 : k = 2
  · subst k2
    by_cases n0 : n = 0
    · subst n0
      by_cases sl : s.size ≤ 200
      · cases hv : Lib.validD s.data.toList
        · exact of_textbad s sl hv w hs hT
        · exact of_text s sl hv w hs hT
      · exact of_textlong s (by omega) w hs
    · exact of_textnum n s n0 w hs
  exact of_other k n s k0 k1 k2 w hs

end Go.Proofs.YthpenehgfogloaaDoor

/-
  The walks of package value: Kind, AsInt, Raw.
-/
set_option linter.unusedVariables false
namespace Go.Proofs.YthpenehgfogloaaDoor
open Go.RowKit

def kindOf : Option (Int ⊕ ByteArray) → Int
  | none => 0
  | some (.inl _) => 1
  | some (.inr _) => 2
def intIn : Option (Int ⊕ ByteArray) → Int
  | some (.inl n) => n
  | _ => 0
def isInt : Option (Int ⊕ ByteArray) → Bool
  | some (.inl _) => true
  | _ => false
def textIn : Option (Int ⊕ ByteArray) → ByteArray
  | some (.inr s) => s
  | _ => ⟨#[]⟩

/-! what the program's tables say of the two dynamic types -/
theorem ta1 (w : World) : (Instr.typeAssert .nilIface 75 125 true).run Tryd.prog w = .ok (.tuple #[.int .i64 0, .bool false]) w := by kernel_rfl
theorem ta2 (n : Int) (w : World) : (Instr.typeAssert (.iface 125 (.int .i64 n)) 75 125 true).run Tryd.prog w = .ok (.tuple #[.int .i64 n, .bool true]) w := by kernel_rfl
theorem ta3 (s : ByteArray) (w : World) : (Instr.typeAssert (.iface 126 (.string s)) 75 125 true).run Tryd.prog w = .ok (.tuple #[.int .i64 0, .bool false]) w := by kernel_rfl
theorem tb1 (w : World) : (Instr.typeAssert .nilIface 75 126 true).run Tryd.prog w = .ok (.tuple #[.string ⟨#[]⟩, .bool false]) w := by kernel_rfl
theorem tb2 (n : Int) (w : World) : (Instr.typeAssert (.iface 125 (.int .i64 n)) 75 126 true).run Tryd.prog w = .ok (.tuple #[.string ⟨#[]⟩, .bool false]) w := by kernel_rfl
theorem tb3 (s : ByteArray) (w : World) : (Instr.typeAssert (.iface 126 (.string s)) 75 126 true).run Tryd.prog w = .ok (.tuple #[.string s, .bool true]) w := by kernel_rfl
theorem me1 (n : Int) (w : World) : (method 271 125 (.int .i64 n) "packhorse/value.kind").run Tryd.prog w = .ok (115, .int .i64 n) w := by kernel_rfl
theorem me2 (s : ByteArray) (w : World) : (method 271 126 (.string s) "packhorse/value.kind").run Tryd.prog w = .ok (116, .string s) w := by kernel_rfl

theorem kind_number (n : Int) (w : World) : Calls Tryd.prog 115 #[.int .i64 n] w fun e w' => e = .returned (.int .i64 1) ∧ w = w' := by
  go_enter Tryd.func115, Tryd.ntmps115
  go_wp2
  go_ret
  exact ⟨rfl, rfl⟩
theorem kind_text (s : ByteArray) (w : World) : Calls Tryd.prog 116 #[.string s] w fun e w' => e = .returned (.int .i64 2) ∧ w = w' := by
  go_enter Tryd.func116, Tryd.ntmps116
  go_wp2
  go_ret
  exact ⟨rfl, rfl⟩

set_option maxHeartbeats 1000000 in
theorem Kind_none (w : World) :
    Calls Tryd.prog 58 #[.agg #[.nilIface]] w fun e w' => e = .returned (.int .i64 0) ∧ Below w.heap.size w w' := by
  have t1 := ta1
  have t2 := tb1
  go_enter Tryd.func58, Tryd.ntmps58
  go_wp2_with fail
  go_ret
  exact ⟨rfl, (Below.refl _ _).alloc (Nat.le_refl _) _⟩

set_option maxHeartbeats 1000000 in
theorem AsInt_none (w : World) :
    Calls Tryd.prog 71 #[.agg #[.nilIface]] w fun e w' => e = .returned (.tuple #[.int .i64 0, .bool false]) ∧ Below w.heap.size w w' := by
  have t1 := ta1
  have t2 := tb1
  go_enter Tryd.func71, Tryd.ntmps71
  go_wp2
  go_ret2
  exact ⟨rfl, (Below.refl _ _).alloc (Nat.le_refl _) _⟩

set_option maxHeartbeats 1000000 in
theorem Raw_none (w : World) :
    Calls Tryd.prog 45 #[.agg #[.nilIface]] w fun e w' => e = .returned (.agg #[.int .i64 0, .int .i64 0, .string ⟨#[]⟩]) ∧ Below w.heap.size w w' := by
  have t1 := ta1
  have t2 := tb1
  go_enter Tryd.func45, Tryd.ntmps45
  go_wp2
  refine bodyPost_ret (v := .agg #[.int .i64 0, .int .i64 0, .string ⟨#[]⟩]) (by simp [results, Tryd.results45, go_sem]) rfl ⟨rfl, ?_⟩
  exact ((Below.refl _ _).alloc (Nat.le_refl _) _).alloc (by simp) _

set_option maxHeartbeats 1000000 in
theorem Kind_int (n : Int) (w : World) :
    Calls Tryd.prog 58 #[.agg #[.iface 125 (.int .i64 n)]] w fun e w' => e = .returned (.int .i64 1) ∧ Below w.heap.size w w' := by
  have t1 := ta2 n
  have t2 := tb2 n
  have t3 := me1 n
  go_enter Tryd.func58, Tryd.ntmps58
  go_wp2_with (go_at_call 115; refine (kind_number _ _).mono ?_; rintro e w' ⟨rfl, rfl⟩)
  go_ret
  exact ⟨rfl, (Below.refl _ _).alloc (Nat.le_refl _) _⟩

set_option maxHeartbeats 1000000 in
theorem AsInt_int (n : Int) (w : World) :
    Calls Tryd.prog 71 #[.agg #[.iface 125 (.int .i64 n)]] w fun e w' => e = .returned (.tuple #[.int .i64 n, .bool true]) ∧ Below w.heap.size w w' := by
  have t1 := ta2 n
  have t2 := tb2 n
  have t3 := me1 n
  go_enter Tryd.func71, Tryd.ntmps71
  go_wp2
  go_ret2
  exact ⟨rfl, (Below.refl _ _).alloc (Nat.le_refl _) _⟩

set_option maxHeartbeats 1000000 in
theorem Raw_int (n : Int) (w : World) :
    Calls Tryd.prog 45 #[.agg #[.iface 125 (.int .i64 n)]] w fun e w' => e = .returned (.agg #[.int .i64 1, .int .i64 n, .string ⟨#[]⟩]) ∧ Below w.heap.size w w' := by
  have t1 := ta2 n
  have t2 := tb2 n
  have t3 := me1 n
  go_enter Tryd.func45, Tryd.ntmps45
  go_wp2
  refine bodyPost_ret (v := .agg #[.int .i64 1, .int .i64 n, .string ⟨#[]⟩]) (by simp [results, Tryd.results45, go_sem]) rfl ⟨rfl, ?_⟩
  exact ((Below.refl _ _).alloc (Nat.le_refl _) _).alloc (by simp) _

set_option maxHeartbeats 1000000 in
theorem Kind_text (s : ByteArray) (w : World) :
    Calls Tryd.prog 58 #[.agg #[.iface 126 (.string s)]] w fun e w' => e = .returned (.int .i64 2) ∧ Below w.heap.size w w' := by
  have t1 := ta3 s
  have t2 := tb3 s
  have t3 := me2 s
  go_enter Tryd.func58, Tryd.ntmps58
  go_wp2_with (go_at_call 116; refine (kind_text _ _).mono ?_; rintro e w' ⟨rfl, rfl⟩)
  go_ret
  exact ⟨rfl, (Below.refl _ _).alloc (Nat.le_refl _) _⟩

set_option maxHeartbeats 1000000 in
theorem AsInt_text (s : ByteArray) (w : World) :
    Calls Tryd.prog 71 #[.agg #[.iface 126 (.string s)]] w fun e w' => e = .returned (.tuple #[.int .i64 0, .bool false]) ∧ Below w.heap.size w w' := by
  have t1 := ta3 s
  have t2 := tb3 s
  have t3 := me2 s
  go_enter Tryd.func71, Tryd.ntmps71
  go_wp2
  go_ret2
  exact ⟨rfl, (Below.refl _ _).alloc (Nat.le_refl _) _⟩

set_option maxHeartbeats 1000000 in
theorem Raw_text (s : ByteArray) (w : World) :
    Calls Tryd.prog 45 #[.agg #[.iface 126 (.string s)]] w fun e w' => e = .returned (.agg #[.int .i64 2, .int .i64 0, .string s]) ∧ Below w.heap.size w w' := by
  have t1 := ta3 s
  have t2 := tb3 s
  have t3 := me2 s
  go_enter Tryd.func45, Tryd.ntmps45
  go_wp2
  refine bodyPost_ret (v := .agg #[.int .i64 2, .int .i64 0, .string s]) (by simp [results, Tryd.results45, go_sem]) rfl ⟨rfl, ?_⟩
  exact ((Below.refl _ _).alloc (Nat.le_refl _) _).alloc (by simp) _

end Go.Proofs.YthpenehgfogloaaDoor

/-
  The walks of package value: Raw, Kind, AsInt, Eq (of whatever value).
-/
set_option linter.unusedVariables false
namespace Go.Proofs.YthpenehgfogloaaDoor
open Go.RowKit

theorem eq_raw (k n : Int) (s : ByteArray) (k' n' : Int) (s' : ByteArray) (w : World) :
    (binOp .eql 25 (.agg #[.int .i64 k, .int .i64 n, .string s]) (.agg #[.int .i64 k', .int .i64 n', .string s'])).run Tryd.prog w
      = .ok (.bool ((k == k') && (n == n') && (s.toList == s'.toList))) w := by
  have f1 : Tryd.prog.stoodInHeld 25 = false := by kernel_rfl
  have f2 : Tryd.prog.underlying 25 = some (.struct (Tryd.prog.fieldsOf 25)) := by kernel_rfl
  rw [run_eql_struct, run_equalIn_struct _ _ _ _ _ f2 f1]
  simp only [Program.fieldsOf]
  cases hk : k == k' <;> cases hn : n == n' <;> cases hs : s.toList == s'.toList <;> simp [go_sem, Op.eqFields, part, hk, hn, hs]

theorem Raw_any (x : Option (Int ⊕ ByteArray)) (w : World) :
    Calls Tryd.prog 45 #[.agg #[vCell x]] w fun e w' => e = .returned (.agg #[.int .i64 (kindOf x), .int .i64 (intIn x), .string (textIn x)]) ∧ Below w.heap.size w w' := by
  rcases x with _ | n | s
  · exact Raw_none w
  · exact Raw_int n w
  · exact Raw_text s w
theorem Kind_any (x : Option (Int ⊕ ByteArray)) (w : World) :
    Calls Tryd.prog 58 #[.agg #[vCell x]] w fun e w' => e = .returned (.int .i64 (kindOf x)) ∧ Below w.heap.size w w' := by
  rcases x with _ | n | s
  · exact Kind_none w
  · exact Kind_int n w
  · exact Kind_text s w
theorem AsInt_any (x : Option (Int ⊕ ByteArray)) (w : World) :
    Calls Tryd.prog 71 #[.agg #[vCell x]] w fun e w' => e = .returned (.tuple #[.int .i64 (intIn x), .bool (isInt x)]) ∧ Below w.heap.size w w' := by
  rcases x with _ | n | s
  · exact AsInt_none w
  · exact AsInt_int n w
  · exact AsInt_text s w

/-- two values the same. -/
def eqV (x y : Option (Int ⊕ ByteArray)) : Bool := (kindOf x == kindOf y) && (intIn x == intIn y) && ((textIn x).toList == (textIn y).toList)

set_option maxRecDepth 100000 in
set_option maxHeartbeats 4000000 in
theorem value_Eq (x y : Option (Int ⊕ ByteArray)) (w : World) :
    Calls Tryd.prog 41 #[.agg #[vCell x], .agg #[vCell y]] w fun e w' => e = .returned (.bool (eqV x y)) ∧ Below w.heap.size w w' := by
  have hv := fun (x : Option (Int ⊕ ByteArray)) (W : World) => Raw_any x W
  have he := eq_raw (kindOf x) (intIn x) (textIn x) (kindOf y) (intIn y) (textIn y)
  unfold eqV
  generalize kindOf = KK at *
  generalize intIn = NN at *
  generalize textIn = SS at *
  generalize vCell = V at *
  have HV := Lib.hid hv
  clear hv
  go_enter Tryd.func41, Tryd.ntmps41
  go_wp2_with fail
  have hb0 : Below w.heap.size w ((w.alloc (Obj.cells #[V x] 77)).alloc (Obj.cells #[V y] 77)) := ((Below.refl _ _).alloc (Nat.le_refl _) _).alloc (by simp) _
  have hc1 : ((w.alloc (Obj.cells #[V x] 77)).alloc (Obj.cells #[V y] 77)).cell? ⟨w.heap.size, 0, none⟩ = some (V x) := by simp [go_sem]
  have hc2 : ((w.alloc (Obj.cells #[V x] 77)).alloc (Obj.cells #[V y] 77)).cell? ⟨w.heap.size + 1, 0, none⟩ = some (V y) := by simp [go_sem]
  have hsz : w.heap.size + 1 < ((w.alloc (Obj.cells #[V x] 77)).alloc (Obj.cells #[V y] 77)).heap.size := by simp
  generalize (w.alloc (Obj.cells #[V x] 77)).alloc (Obj.cells #[V y] 77) = w1 at *
  have keepB : ∀ (W W' : World), (W.cell? ⟨w.heap.size, 0, none⟩ = some (V x) ∧ W.cell? ⟨w.heap.size + 1, 0, none⟩ = some (V y) ∧ w.heap.size + 1 < W.heap.size ∧ Below w.heap.size w W) → Below W.heap.size W W' → (W'.cell? ⟨w.heap.size, 0, none⟩ = some (V x) ∧ W'.cell? ⟨w.heap.size + 1, 0, none⟩ = some (V y) ∧ w.heap.size + 1 < W'.heap.size ∧ Below w.heap.size w W') := by
    rintro W W' ⟨a, b, c, d⟩ h
    have := h.size
    exact ⟨(h.cell (by simp; omega)).trans a, (h.cell (by simp; omega)).trans b, by omega, bjoin d h⟩
  have HK := Lib.hid keepB
  clear keepB
  go_region_held3 (fun W => W.cell? ⟨w.heap.size, 0, none⟩ = some (V x) ∧ W.cell? ⟨w.heap.size + 1, 0, none⟩ = some (V y) ∧ w.heap.size + 1 < W.heap.size ∧ Below w.heap.size w W)
    (first | (refine HK.out _ _ ?_ hb9; assumption) | assumption | exact ⟨by assumption, by assumption, by assumption, by assumption⟩ | exact ⟨by assumption, by assumption, by assumption, Below.drew (by assumption)⟩)
    (first | (go_at_call 45; refine (HV.out _ _).mono ?_; rintro e w9 ⟨rfl, hb9⟩))
  rename_i hHeld
  go_wp2
  go_ret
  exact ⟨rfl, hHeld.2.2.2⟩

end Go.Proofs.YthpenehgfogloaaDoor

/-
  Plain law: the reference's decoder, lead byte by lead byte, is the model's decoder.
-/
set_option linter.unusedVariables false
namespace Ph
open Go Go.Lib

/-- What the reference has reckoned at byte k. -/
def Rk (r0 : Int) (b : Nat → Nat) : Nat → Int
  | 0 => r0
  | 1 => r0
  | k + 2 => Rk r0 b (k + 1) * 64 + b (k + 1) - 128

/-- The bytes of a text, as numbers. -/
def bt (s : ByteArray) (k : Nat) : Nat := (s.data.toList.getD k 0).toNat
theorem bt_lt (s : ByteArray) (k : Nat) : bt s k < 256 := UInt8.toNat_lt _
theorem bt_at (s : ByteArray) (k : Nat) (h : k < s.size) : bt s k = (s[k]'h).toNat := by
  have hl := len_toList s
  unfold bt
  rw [List.getD_eq_getElem?_getD, List.getElem?_eq_getElem (by omega)]
  simp
  rfl
theorem decZ_bt (s : ByteArray) (h : 0 < s.size) : decZ s.data.toList = decodeN s.size (bt s 0) (bt s 1) (bt s 2) (bt s 3) := by
  rw [(decZ_ne h).1, decodeL_N, len_toList]
  rfl

theorem d1 (n b0 b1 b2 b3 : Nat) (h : b0 < 128) : decodeN n b0 b1 b2 b3 = (b0, 1) := by unfold decodeN; rw [if_pos h]
theorem d0 (n b0 b1 b2 b3 : Nat) (h : 128 ≤ b0 ∧ b0 < 192 ∨ 248 ≤ b0) (h' : b0 < 256) : decodeN n b0 b1 b2 b3 = (65533, 1) := decodeN_bad _ _ _ _ _ (by omega)

theorem d2s (n b0 b1 b2 b3 : Nat) (h : 192 ≤ b0 ∧ b0 < 224) (hn : n < 2) : decodeN n b0 b1 b2 b3 = (65533, 1) := by
  unfold decodeN; rw [if_neg (by omega), if_neg (by omega), if_neg (by omega), if_neg (by omega)]
theorem d2b (n : Nat) (b : Nat → Nat) (hb : ∀ k, b k < 256) (h : 192 ≤ b 0 ∧ b 0 < 224) (k : Nat) (h1 : 1 ≤ k) (h2 : k < 2) (hk : b k < 128 ∨ 191 < b k) : decodeN n (b 0) (b 1) (b 2) (b 3) = (65533, 1) := by
  obtain rfl : k = 1 := by omega
  have := hb 1
  unfold decodeN; rw [if_neg (by omega), if_neg (by omega), if_neg (by omega), if_neg (by omega)]
theorem d2e (n : Nat) (b : Nat → Nat) (h : 192 ≤ b 0 ∧ b 0 < 224) (hn : 2 ≤ n) (h1 : ∀ j, 1 ≤ j → j < 2 → 128 ≤ b j ∧ b j ≤ 191) (hr : Rk (b 0 - 192) b 2 < 128) : decodeN n (b 0) (b 1) (b 2) (b 3) = (65533, 1) := by
  have j1 := h1 1 (by omega) (by omega)
  simp only [Rk, Nat.reduceAdd] at hr
  unfold decodeN; rw [if_neg (by omega), if_pos ⟨by omega, by omega, by omega⟩, if_neg (by omega)]
theorem d2o (n : Nat) (b : Nat → Nat) (h : 192 ≤ b 0 ∧ b 0 < 224) (hn : 2 ≤ n) (h1 : ∀ j, 1 ≤ j → j < 2 → 128 ≤ b j ∧ b j ≤ 191) (hr : ¬ Rk (b 0 - 192) b 2 < 128) :
    ((decodeN n (b 0) (b 1) (b 2) (b 3)).1 : Int) = Rk (b 0 - 192) b 2 ∧ (decodeN n (b 0) (b 1) (b 2) (b 3)).2 = 2 ∧ Rk (b 0 - 192) b 2 < 55296 := by
  have j1 := h1 1 (by omega) (by omega)
  simp only [Rk, Nat.reduceAdd] at hr ⊢
  unfold decodeN; rw [if_neg (by omega), if_pos ⟨by omega, by omega, by omega⟩, if_pos (by omega)]
  exact ⟨by simp only; omega, rfl, by omega⟩

theorem d3s (n b0 b1 b2 b3 : Nat) (h : 224 ≤ b0 ∧ b0 < 240) (hn : n < 3) : decodeN n b0 b1 b2 b3 = (65533, 1) := by
  unfold decodeN; rw [if_neg (by omega), if_neg (by omega), if_neg (by omega), if_neg (by omega)]
theorem d3b (n : Nat) (b : Nat → Nat) (hb : ∀ k, b k < 256) (h : 224 ≤ b 0 ∧ b 0 < 240) (k : Nat) (h1 : 1 ≤ k) (h2 : k < 3) (hk : b k < 128 ∨ 191 < b k) : decodeN n (b 0) (b 1) (b 2) (b 3) = (65533, 1) := by
  have := hb 1
  have := hb 2
  unfold decodeN
  rcases (show k = 1 ∨ k = 2 by omega) with rfl | rfl
  · rw [if_neg (by omega), if_neg (by omega), if_neg (by omega), if_neg (by omega)]
  · rw [if_neg (by omega), if_neg (by omega), if_neg (by omega), if_neg (by omega)]
theorem d3e (n : Nat) (b : Nat → Nat) (h : 224 ≤ b 0 ∧ b 0 < 240) (hn : 3 ≤ n) (h1 : ∀ j, 1 ≤ j → j < 3 → 128 ≤ b j ∧ b j ≤ 191) (hr : Rk (b 0 - 224) b 3 < 2048 ∨ (55296 ≤ Rk (b 0 - 224) b 3 ∧ Rk (b 0 - 224) b 3 < 57344)) : decodeN n (b 0) (b 1) (b 2) (b 3) = (65533, 1) := by
  have j1 := h1 1 (by omega) (by omega)
  have j2 := h1 2 (by omega) (by omega)
  simp only [Rk, Nat.reduceAdd] at hr
  unfold decodeN; rw [if_neg (by omega), if_neg (by omega), if_pos ⟨by omega, ⟨by omega, by omega⟩, by omega, by omega⟩, if_neg (by omega)]
theorem d3o (n : Nat) (b : Nat → Nat) (h : 224 ≤ b 0 ∧ b 0 < 240) (hn : 3 ≤ n) (h1 : ∀ j, 1 ≤ j → j < 3 → 128 ≤ b j ∧ b j ≤ 191) (hr : ¬ (Rk (b 0 - 224) b 3 < 2048 ∨ (55296 ≤ Rk (b 0 - 224) b 3 ∧ Rk (b 0 - 224) b 3 < 57344))) :
    ((decodeN n (b 0) (b 1) (b 2) (b 3)).1 : Int) = Rk (b 0 - 224) b 3 ∧ (decodeN n (b 0) (b 1) (b 2) (b 3)).2 = 3 ∧ Rk (b 0 - 224) b 3 ≤ 1114111 := by
  have j1 := h1 1 (by omega) (by omega)
  have j2 := h1 2 (by omega) (by omega)
  simp only [Rk, Nat.reduceAdd] at hr ⊢
  unfold decodeN; rw [if_neg (by omega), if_neg (by omega), if_pos ⟨by omega, ⟨by omega, by omega⟩, by omega, by omega⟩, if_pos (by omega)]
  exact ⟨by simp only; omega, rfl, by omega⟩

theorem d4s (n b0 b1 b2 b3 : Nat) (h : 240 ≤ b0 ∧ b0 < 248) (hn : n < 4) : decodeN n b0 b1 b2 b3 = (65533, 1) := by
  unfold decodeN; rw [if_neg (by omega), if_neg (by omega), if_neg (by omega), if_neg (by omega)]
theorem d4b (n : Nat) (b : Nat → Nat) (hb : ∀ k, b k < 256) (h : 240 ≤ b 0 ∧ b 0 < 248) (k : Nat) (h1 : 1 ≤ k) (h2 : k < 4) (hk : b k < 128 ∨ 191 < b k) : decodeN n (b 0) (b 1) (b 2) (b 3) = (65533, 1) := by
  have := hb 1
  have := hb 2
  have := hb 3
  unfold decodeN
  rcases (show k = 1 ∨ k = 2 ∨ k = 3 by omega) with rfl | rfl | rfl
  · rw [if_neg (by omega), if_neg (by omega), if_neg (by omega), if_neg (by omega)]
  · rw [if_neg (by omega), if_neg (by omega), if_neg (by omega), if_neg (by omega)]
  · rw [if_neg (by omega), if_neg (by omega), if_neg (by omega), if_neg (by omega)]
theorem d4e (n : Nat) (b : Nat → Nat) (h : 240 ≤ b 0 ∧ b 0 < 248) (hn : 4 ≤ n) (h1 : ∀ j, 1 ≤ j → j < 4 → 128 ≤ b j ∧ b j ≤ 191) (hr : Rk (b 0 - 240) b 4 < 65536 ∨ 1114111 < Rk (b 0 - 240) b 4 ∨ (55296 ≤ Rk (b 0 - 240) b 4 ∧ Rk (b 0 - 240) b 4 < 57344)) : decodeN n (b 0) (b 1) (b 2) (b 3) = (65533, 1) := by
  have j1 := h1 1 (by omega) (by omega)
  have j2 := h1 2 (by omega) (by omega)
  have j3 := h1 3 (by omega) (by omega)
  simp only [Rk, Nat.reduceAdd] at hr
  unfold decodeN; rw [if_neg (by omega), if_neg (by omega), if_neg (by omega), if_pos ⟨by omega, ⟨by omega, by omega⟩, ⟨by omega, by omega⟩, by omega, by omega⟩, if_neg (by omega)]
theorem d4o (n : Nat) (b : Nat → Nat) (h : 240 ≤ b 0 ∧ b 0 < 248) (hn : 4 ≤ n) (h1 : ∀ j, 1 ≤ j → j < 4 → 128 ≤ b j ∧ b j ≤ 191) (hr : ¬ (Rk (b 0 - 240) b 4 < 65536 ∨ 1114111 < Rk (b 0 - 240) b 4 ∨ (55296 ≤ Rk (b 0 - 240) b 4 ∧ Rk (b 0 - 240) b 4 < 57344))) :
    ((decodeN n (b 0) (b 1) (b 2) (b 3)).1 : Int) = Rk (b 0 - 240) b 4 ∧ (decodeN n (b 0) (b 1) (b 2) (b 3)).2 = 4 := by
  have j1 := h1 1 (by omega) (by omega)
  have j2 := h1 2 (by omega) (by omega)
  have j3 := h1 3 (by omega) (by omega)
  simp only [Rk, Nat.reduceAdd] at hr ⊢
  unfold decodeN; rw [if_neg (by omega), if_neg (by omega), if_neg (by omega), if_pos ⟨by omega, ⟨by omega, by omega⟩, ⟨by omega, by omega⟩, by omega, by omega⟩, if_pos (by omega)]
  exact ⟨by simp only; omega, rfl⟩

/-- What has been reckoned stays small. -/
theorem Rk_bd (r0 : Int) (b : Nat → Nat) (h0 : 0 ≤ r0) (h1 : r0 < 32) : ∀ k, k ≤ 4 → (∀ j, 1 ≤ j → j < k → 128 ≤ b j ∧ b j ≤ 191) → 0 ≤ Rk r0 b k ∧ Rk r0 b k < 8388608
  | 0, _, _ => by simp only [Rk]; omega
  | 1, _, _ => by simp only [Rk]; omega
  | 2, _, h => by have := h 1 (by omega) (by omega); simp only [Rk, Nat.reduceAdd]; omega
  | 3, _, h => by have := h 1 (by omega) (by omega); have := h 2 (by omega) (by omega); simp only [Rk, Nat.reduceAdd]; omega
  | 4, _, h => by have := h 1 (by omega) (by omega); have := h 2 (by omega) (by omega); have := h 3 (by omega) (by omega); simp only [Rk, Nat.reduceAdd]; omega
theorem Rk_succ (r0 : Int) (b : Nat → Nat) (k : Nat) (h : 1 ≤ k) : Rk r0 b (k + 1) = Rk r0 b k * 64 + b k - 128 := by
  obtain ⟨j, rfl⟩ : ∃ j, k = j + 1 := ⟨k - 1, by omega⟩
  rfl
end Ph

/-
  The walk of the reference's decoder: it is the model's.
-/
set_option linter.unusedVariables false
namespace Go.Proofs.YthpenehgfogloaaDoor
open Go.RowKit

-- pieces

theorem ret_dec {s : ByteArray} {a b : Int} (h1 : a = (Ph.decZ s.data.toList).1) (h2 : b = (Ph.decZ s.data.toList).2) : Ending.returned (.tuple #[.int .i32 a, .int .i64 b]) = .returned (.tuple #[.int .i32 (Ph.decZ s.data.toList).1, .int .i64 (Ph.decZ s.data.toList).2]) := by rw [h1, h2]

theorem ret_dec_err {s : ByteArray} (h : Ph.decZ s.data.toList = (65533, 1)) : Ending.returned (.tuple #[.int .i32 65533, .int .i64 1]) = .returned (.tuple #[.int .i32 (Ph.decZ s.data.toList).1, .int .i64 (Ph.decZ s.data.toList).2]) := by rw [h]; rfl

set_option maxRecDepth 100000 in
set_option maxHeartbeats 400000 in
theorem dec_short (s : ByteArray) (w : World) (hp : ¬ 0 < s.size) :
    Calls Tryd.prog 77 #[.string s] w fun e w' => e = .returned (.tuple #[.int .i32 (Ph.decZ s.data.toList).1, .int .i64 (Ph.decZ s.data.toList).2]) ∧ w = w' := by
  have ex := Ph.empty_yes hp
  have HD := Lib.hid (Ph.decZ_empty s hp)
  go_enter Tryd.func77, Tryd.ntmps77
  go_wp2
  go_ret2
  exact ⟨by rw [HD.out]; rfl, rfl⟩

set_option maxRecDepth 100000 in
set_option maxHeartbeats 400000 in
theorem dec_ascii (s : ByteArray) (w : World) (hp : 0 < s.size) (h0 : (s[0]'hp).toNat < 128) :
    Calls Tryd.prog 77 #[.string s] w fun e w' => e = .returned (.tuple #[.int .i32 (Ph.decZ s.data.toList).1, .int .i64 (Ph.decZ s.data.toList).2]) ∧ w = w' := by
  have ex := Ph.empty_no hp
  have HD : Hid (Ph.decZ s.data.toList = ((s[0]'hp).toNat, 1)) := by
    show _ = _
    rw [Ph.decZ_bt s hp, Ph.bt_at s 0 hp, Ph.d1 _ _ _ _ _ h0]
  have h0' : ((s[0]'hp).toNat : Int) < 128 := by omega
  have h0'' := (s[0]'hp).toNat_lt
  go_enter Tryd.func77, Tryd.ntmps77
  go_wp2
  go_ret2
  exact ⟨by rw [HD.out]; rfl, rfl⟩

set_option maxRecDepth 100000 in
set_option maxHeartbeats 400000 in
theorem dec_none (s : ByteArray) (w : World) (hp : 0 < s.size) (h0 : 128 ≤ (s[0]'hp).toNat ∧ (s[0]'hp).toNat < 192 ∨ 248 ≤ (s[0]'hp).toNat) :
    Calls Tryd.prog 77 #[.string s] w fun e w' => e = .returned (.tuple #[.int .i32 (Ph.decZ s.data.toList).1, .int .i64 (Ph.decZ s.data.toList).2]) ∧ w = w' := by
  have ex := Ph.empty_no hp
  have h0'' := (s[0]'hp).toNat_lt
  have HD : Hid (Ph.decZ s.data.toList = (65533, 1)) := by
    show _ = _
    rw [Ph.decZ_bt s hp, Ph.bt_at s 0 hp, Ph.d0 _ _ _ _ _ h0 (by omega)]
  rcases h0 with ⟨h1, h2⟩ | h1
  · have h1' : (128 : Int) ≤ ((s[0]'hp).toNat : Int) := by omega
    have h2' : ((s[0]'hp).toNat : Int) < 192 := by omega
    go_enter Tryd.func77, Tryd.ntmps77
    go_wp2
    go_ret2
    exact ⟨ret_dec_err HD.out, rfl⟩
  · have h1' : (248 : Int) ≤ ((s[0]'hp).toNat : Int) := by omega
    go_enter Tryd.func77, Tryd.ntmps77
    go_wp2
    go_ret2
    exact ⟨ret_dec_err HD.out, rfl⟩

set_option maxRecDepth 100000 in
set_option maxHeartbeats 800000 in
theorem dec_2 (s : ByteArray) (w : World) (hs : s.size ≤ 9223372036854775807) (hp : 0 < s.size) (h0 : 192 ≤ (s[0]'hp).toNat) (h1 : (s[0]'hp).toNat < 224) :
    Calls Tryd.prog 77 #[.string s] w fun e w' => e = .returned (.tuple #[.int .i32 (Ph.decZ s.data.toList).1, .int .i64 (Ph.decZ s.data.toList).2]) ∧ w = w' := by
  have ex := Ph.empty_no hp
  have hd := Ph.decZ_bt s hp
  have h0' : (192 : Int) ≤ ((s[0]'hp).toNat : Int) := by omega
  have h1' : ((s[0]'hp).toNat : Int) < 224 := by omega
  have HB : Hid (192 ≤ Ph.bt s 0 ∧ Ph.bt s 0 < 224) := by rw [Ph.bt_at s 0 hp]; exact ⟨h0, h1⟩
  have HZ : Hid (((s[0]'hp).toNat : Int) = Ph.bt s 0) := by show _ = _; rw [Ph.bt_at s 0 hp]
  by_cases hn : s.size < 2
  · have HD : Hid (Ph.decZ s.data.toList = (65533, 1)) := by
      show _ = _
      rw [hd, Ph.d2s _ _ _ _ _ HB.out hn]
    have hn' : (s.size : Int) < 2 := by omega
    clear hd
    go_enter Tryd.func77, Tryd.ntmps77
    go_wp2
    go_ret2
    exact ⟨ret_dec_err HD.out, rfl⟩
  · have hn' : (2 : Int) ≤ (s.size : Int) := by omega
    have HD := Lib.hid hd
    clear hd
    go_enter Tryd.func77, Tryd.ntmps77
    go_wp2
    go_loop [7, 8] (fun r i => ∃ k : Nat, 1 ≤ k ∧ k ≤ 2 ∧ i = .int .i64 k ∧ r = .int .i32 (Ph.Rk ((Ph.bt s 0 : Int) - 192) (Ph.bt s) k) ∧ Hid (∀ j, 1 ≤ j → j < k → 128 ≤ Ph.bt s j ∧ Ph.bt s j ≤ 191)) (fun _ i => 2 - (intOf i).toNat)
    case atStart => exact ⟨1, by omega, by omega, rfl, by rw [HZ.out]; rfl, fun j h1 h2 => by omega⟩
    case round =>
      obtain ⟨k, hk1, hk2, rfl, rfl, HJ⟩ := hrel
      have hR := Ph.Rk_bd ((Ph.bt s 0 : Int) - 192) (Ph.bt s) (by have := HB.out; omega) (by have := HB.out; omega) k (by omega) HJ.out
      obtain ⟨hR0, hR1⟩ := hR
      by_cases hk : k < 2
      · have hks : k < s.size := by omega
        have hbk := Ph.bt_at s k hks
        have hk' : (k : Int) < 2 := by omega
        have hbl := (s[k]'hks).toNat_lt
        have HK : Hid (Ph.bt s k = (s[k]'hks).toNat) := hbk
        clear hbk
        have bad : Ph.bt s k < 128 ∨ 191 < Ph.bt s k → Ph.decZ s.data.toList = (65533, 1) := fun h => by rw [HD.out, Ph.d2b _ _ (Ph.bt_lt s) HB.out k hk1 hk h]
        have BAD := Lib.hid bad
        clear bad
        by_cases hc1 : (s[k]'hks).toNat < 128
        · have hc1' : ((s[k]'hks).toNat : Int) < 128 := by omega
          go_wp2
          go_ret2
          exact ⟨ret_dec_err (BAD.out (.inl (by rw [HK.out]; exact hc1))), rfl⟩
        · have hc1' : (128 : Int) ≤ ((s[k]'hks).toNat : Int) := by omega
          by_cases hc2 : 191 < (s[k]'hks).toNat
          · have hc2' : (191 : Int) < ((s[k]'hks).toNat : Int) := by omega
            go_wp2
            go_ret2
            exact ⟨ret_dec_err (BAD.out (.inr (by rw [HK.out]; exact hc2))), rfl⟩
          · have hc2' : ((s[k]'hks).toNat : Int) ≤ 191 := by omega
            have HS : Hid (Ph.Rk ((Ph.bt s 0 : Int) - 192) (Ph.bt s) (k + 1) = Ph.Rk ((Ph.bt s 0 : Int) - 192) (Ph.bt s) k * 64 + ((s[k]'hks).toNat : Int) - 128) := by
              show _ = _
              rw [Ph.Rk_succ _ _ _ hk1, HK.out]
            go_wp2
            go_round
            case rel =>
              refine ⟨k + 1, by omega, by omega, by go_num, by rw [HS.out], fun j h1 h2 => ?_⟩
              by_cases hj : j < k
              · exact HJ.out j h1 hj
              · obtain rfl : j = k := by omega
                rw [HK.out]; omega
            case measure => simp [intOf]; omega
      · obtain rfl : k = 2 := by omega
        have hk' : ¬ ((2 : Nat) : Int) < 2 := by omega
        have bad := fun h => Ph.d2e s.size (Ph.bt s) HB.out (by omega) HJ.out h
        have good := fun h => Ph.d2o s.size (Ph.bt s) HB.out (by omega) HJ.out h
        rw [← HD.out] at bad good
        have BAD := Lib.hid bad
        have GOOD := Lib.hid good
        clear bad good
        generalize Ph.Rk ((Ph.bt s 0 : Int) - 192) (Ph.bt s) 2 = R at *
        go_wp2
        all_goals
          go_ret2
          refine ⟨?_, rfl⟩
          first
            | exact ret_dec_err (BAD.out (by omega))
            | (have G := GOOD.out (by omega); exact ret_dec G.1.symm (by rw [G.2.1]; rfl))
            | (exfalso; have G := GOOD.out (by omega); omega)

set_option maxRecDepth 100000 in
set_option maxHeartbeats 800000 in
theorem dec_3 (s : ByteArray) (w : World) (hs : s.size ≤ 9223372036854775807) (hp : 0 < s.size) (h0 : 224 ≤ (s[0]'hp).toNat) (h1 : (s[0]'hp).toNat < 240) :
    Calls Tryd.prog 77 #[.string s] w fun e w' => e = .returned (.tuple #[.int .i32 (Ph.decZ s.data.toList).1, .int .i64 (Ph.decZ s.data.toList).2]) ∧ w = w' := by
  have ex := Ph.empty_no hp
  have hd := Ph.decZ_bt s hp
  have h0' : (224 : Int) ≤ ((s[0]'hp).toNat : Int) := by omega
  have h1' : ((s[0]'hp).toNat : Int) < 240 := by omega
  have HB : Hid (224 ≤ Ph.bt s 0 ∧ Ph.bt s 0 < 240) := by rw [Ph.bt_at s 0 hp]; exact ⟨h0, h1⟩
  have HZ : Hid (((s[0]'hp).toNat : Int) = Ph.bt s 0) := by show _ = _; rw [Ph.bt_at s 0 hp]
  by_cases hn : s.size < 3
  · have HD : Hid (Ph.decZ s.data.toList = (65533, 1)) := by
      show _ = _
      rw [hd, Ph.d3s _ _ _ _ _ HB.out hn]
    have hn' : (s.size : Int) < 3 := by omega
    clear hd
    go_enter Tryd.func77, Tryd.ntmps77
    go_wp2
    go_ret2
    exact ⟨ret_dec_err HD.out, rfl⟩
  · have hn' : (3 : Int) ≤ (s.size : Int) := by omega
    have HD := Lib.hid hd
    clear hd
    go_enter Tryd.func77, Tryd.ntmps77
    go_wp2
    go_loop [7, 8] (fun r i => ∃ k : Nat, 1 ≤ k ∧ k ≤ 3 ∧ i = .int .i64 k ∧ r = .int .i32 (Ph.Rk ((Ph.bt s 0 : Int) - 224) (Ph.bt s) k) ∧ Hid (∀ j, 1 ≤ j → j < k → 128 ≤ Ph.bt s j ∧ Ph.bt s j ≤ 191)) (fun _ i => 3 - (intOf i).toNat)
    case atStart => exact ⟨1, by omega, by omega, rfl, by rw [HZ.out]; rfl, fun j h1 h2 => by omega⟩
    case round =>
      obtain ⟨k, hk1, hk2, rfl, rfl, HJ⟩ := hrel
      have hR := Ph.Rk_bd ((Ph.bt s 0 : Int) - 224) (Ph.bt s) (by have := HB.out; omega) (by have := HB.out; omega) k (by omega) HJ.out
      obtain ⟨hR0, hR1⟩ := hR
      by_cases hk : k < 3
      · have hks : k < s.size := by omega
        have hbk := Ph.bt_at s k hks
        have hk' : (k : Int) < 3 := by omega
        have hbl := (s[k]'hks).toNat_lt
        have HK : Hid (Ph.bt s k = (s[k]'hks).toNat) := hbk
        clear hbk
        have bad : Ph.bt s k < 128 ∨ 191 < Ph.bt s k → Ph.decZ s.data.toList = (65533, 1) := fun h => by rw [HD.out, Ph.d3b _ _ (Ph.bt_lt s) HB.out k hk1 hk h]
        have BAD := Lib.hid bad
        clear bad
        by_cases hc1 : (s[k]'hks).toNat < 128
        · have hc1' : ((s[k]'hks).toNat : Int) < 128 := by omega
          go_wp2
          go_ret2
          exact ⟨ret_dec_err (BAD.out (.inl (by rw [HK.out]; exact hc1))), rfl⟩
        · have hc1' : (128 : Int) ≤ ((s[k]'hks).toNat : Int) := by omega
          by_cases hc2 : 191 < (s[k]'hks).toNat
          · have hc2' : (191 : Int) < ((s[k]'hks).toNat : Int) := by omega
            go_wp2
            go_ret2
            exact ⟨ret_dec_err (BAD.out (.inr (by rw [HK.out]; exact hc2))), rfl⟩
          · have hc2' : ((s[k]'hks).toNat : Int) ≤ 191 := by omega
            have HS : Hid (Ph.Rk ((Ph.bt s 0 : Int) - 224) (Ph.bt s) (k + 1) = Ph.Rk ((Ph.bt s 0 : Int) - 224) (Ph.bt s) k * 64 + ((s[k]'hks).toNat : Int) - 128) := by
              show _ = _
              rw [Ph.Rk_succ _ _ _ hk1, HK.out]
            go_wp2
            go_round
            case rel =>
              refine ⟨k + 1, by omega, by omega, by go_num, by rw [HS.out], fun j h1 h2 => ?_⟩
              by_cases hj : j < k
              · exact HJ.out j h1 hj
              · obtain rfl : j = k := by omega
                rw [HK.out]; omega
            case measure => simp [intOf]; omega
      · obtain rfl : k = 3 := by omega
        have hk' : ¬ ((3 : Nat) : Int) < 3 := by omega
        have bad := fun h => Ph.d3e s.size (Ph.bt s) HB.out (by omega) HJ.out h
        have good := fun h => Ph.d3o s.size (Ph.bt s) HB.out (by omega) HJ.out h
        rw [← HD.out] at bad good
        have BAD := Lib.hid bad
        have GOOD := Lib.hid good
        clear bad good
        generalize Ph.Rk ((Ph.bt s 0 : Int) - 224) (Ph.bt s) 3 = R at *
        go_wp2
        all_goals
          go_ret2
          refine ⟨?_, rfl⟩
          first
            | exact ret_dec_err (BAD.out (by omega))
            | (have G := GOOD.out (by omega); exact ret_dec G.1.symm (by rw [G.2.1]; rfl))
            | (exfalso; have G := GOOD.out (by omega); omega)

set_option maxRecDepth 100000 in
set_option maxHeartbeats 800000 in
theorem dec_4 (s : ByteArray) (w : World) (hs : s.size ≤ 9223372036854775807) (hp : 0 < s.size) (h0 : 240 ≤ (s[0]'hp).toNat) (h1 : (s[0]'hp).toNat < 248) :
    Calls Tryd.prog 77 #[.string s] w fun e w' => e = .returned (.tuple #[.int .i32 (Ph.decZ s.data.toList).1, .int .i64 (Ph.decZ s.data.toList).2]) ∧ w = w' := by
  have ex := Ph.empty_no hp
  have hd := Ph.decZ_bt s hp
  have h0' : (240 : Int) ≤ ((s[0]'hp).toNat : Int) := by omega
  have h1' : ((s[0]'hp).toNat : Int) < 248 := by omega
  have HB : Hid (240 ≤ Ph.bt s 0 ∧ Ph.bt s 0 < 248) := by rw [Ph.bt_at s 0 hp]; exact ⟨h0, h1⟩
  have HZ : Hid (((s[0]'hp).toNat : Int) = Ph.bt s 0) := by show _ = _; rw [Ph.bt_at s 0 hp]
  by_cases hn : s.size < 4
  · have HD : Hid (Ph.decZ s.data.toList = (65533, 1)) := by
      show _ = _
      rw [hd, Ph.d4s _ _ _ _ _ HB.out hn]
    have hn' : (s.size : Int) < 4 := by omega
    clear hd
    go_enter Tryd.func77, Tryd.ntmps77
    go_wp2
    go_ret2
    exact ⟨ret_dec_err HD.out, rfl⟩
  · have hn' : (4 : Int) ≤ (s.size : Int) := by omega
    have HD := Lib.hid hd
    clear hd
    go_enter Tryd.func77, Tryd.ntmps77
    go_wp2
    go_loop [7, 8] (fun r i => ∃ k : Nat, 1 ≤ k ∧ k ≤ 4 ∧ i = .int .i64 k ∧ r = .int .i32 (Ph.Rk ((Ph.bt s 0 : Int) - 240) (Ph.bt s) k) ∧ Hid (∀ j, 1 ≤ j → j < k → 128 ≤ Ph.bt s j ∧ Ph.bt s j ≤ 191)) (fun _ i => 4 - (intOf i).toNat)
    case atStart => exact ⟨1, by omega, by omega, rfl, by rw [HZ.out]; rfl, fun j h1 h2 => by omega⟩
    case round =>
      obtain ⟨k, hk1, hk2, rfl, rfl, HJ⟩ := hrel
      have hR := Ph.Rk_bd ((Ph.bt s 0 : Int) - 240) (Ph.bt s) (by have := HB.out; omega) (by have := HB.out; omega) k (by omega) HJ.out
      obtain ⟨hR0, hR1⟩ := hR
      by_cases hk : k < 4
      · have hks : k < s.size := by omega
        have hbk := Ph.bt_at s k hks
        have hk' : (k : Int) < 4 := by omega
        have hbl := (s[k]'hks).toNat_lt
        have HK : Hid (Ph.bt s k = (s[k]'hks).toNat) := hbk
        clear hbk
        have bad : Ph.bt s k < 128 ∨ 191 < Ph.bt s k → Ph.decZ s.data.toList = (65533, 1) := fun h => by rw [HD.out, Ph.d4b _ _ (Ph.bt_lt s) HB.out k hk1 hk h]
        have BAD := Lib.hid bad
        clear bad
        by_cases hc1 : (s[k]'hks).toNat < 128
        · have hc1' : ((s[k]'hks).toNat : Int) < 128 := by omega
          go_wp2
          go_ret2
          exact ⟨ret_dec_err (BAD.out (.inl (by rw [HK.out]; exact hc1))), rfl⟩
        · have hc1' : (128 : Int) ≤ ((s[k]'hks).toNat : Int) := by omega
          by_cases hc2 : 191 < (s[k]'hks).toNat
          · have hc2' : (191 : Int) < ((s[k]'hks).toNat : Int) := by omega
            go_wp2
            go_ret2
            exact ⟨ret_dec_err (BAD.out (.inr (by rw [HK.out]; exact hc2))), rfl⟩
          · have hc2' : ((s[k]'hks).toNat : Int) ≤ 191 := by omega
            have HS : Hid (Ph.Rk ((Ph.bt s 0 : Int) - 240) (Ph.bt s) (k + 1) = Ph.Rk ((Ph.bt s 0 : Int) - 240) (Ph.bt s) k * 64 + ((s[k]'hks).toNat : Int) - 128) := by
              show _ = _
              rw [Ph.Rk_succ _ _ _ hk1, HK.out]
            go_wp2
            go_round
            case rel =>
              refine ⟨k + 1, by omega, by omega, by go_num, by rw [HS.out], fun j h1 h2 => ?_⟩
              by_cases hj : j < k
              · exact HJ.out j h1 hj
              · obtain rfl : j = k := by omega
                rw [HK.out]; omega
            case measure => simp [intOf]; omega
      · obtain rfl : k = 4 := by omega
        have hk' : ¬ ((4 : Nat) : Int) < 4 := by omega
        have bad := fun h => Ph.d4e s.size (Ph.bt s) HB.out (by omega) HJ.out h
        have good := fun h => Ph.d4o s.size (Ph.bt s) HB.out (by omega) HJ.out h
        rw [← HD.out] at bad good
        have BAD := Lib.hid bad
        have GOOD := Lib.hid good
        clear bad good
        generalize Ph.Rk ((Ph.bt s 0 : Int) - 240) (Ph.bt s) 4 = R at *
        go_wp2
        all_goals
          go_ret2
          refine ⟨?_, rfl⟩
          first
            | exact ret_dec_err (BAD.out (by omega))
            | (have G := GOOD.out (by omega); exact ret_dec G.1.symm (by rw [G.2]; rfl))
            | (exfalso; have G := GOOD.out (by omega); omega)

/-- THE REFERENCE's DECODER, at every text. -/
theorem ref_Decode (s : ByteArray) (w : World) (hs : s.size ≤ 9223372036854775807) :
    Calls Tryd.prog 77 #[.string s] w fun e w' => e = .returned (.tuple #[.int .i32 (Ph.decZ s.data.toList).1, .int .i64 (Ph.decZ s.data.toList).2]) ∧ w = w' := by
  by_cases hp : 0 < s.size
  · have hl := (s[0]'hp).toNat_lt
    by_cases h1 : (s[0]'hp).toNat < 128
    · exact dec_ascii s w hp h1
    · by_cases h2 : (s[0]'hp).toNat < 192
      · exact dec_none s w hp (.inl ⟨by omega, h2⟩)
      · by_cases h3 : (s[0]'hp).toNat < 224
        · exact dec_2 s w hs hp (by omega) h3
        · by_cases h4 : (s[0]'hp).toNat < 240
          · exact dec_3 s w hs hp (by omega) h4
          · by_cases h5 : (s[0]'hp).toNat < 248
            · exact dec_4 s w hs hp (by omega) h5
            · exact dec_none s w hp (.inr (by omega))
  · exact dec_short s w hp

end Go.Proofs.YthpenehgfogloaaDoor
