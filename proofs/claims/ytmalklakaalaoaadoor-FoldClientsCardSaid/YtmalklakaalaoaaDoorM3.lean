/-
  Texts of the proof, one behind the other (part 3).
-/
import Derived.Test.YtmalklakaalaoaaDoorM2
import Derived.Maps.RangeRun
import Derived.Test.YtmalklakaalaoaaDoorProg
import Derived.Deep.RegionHeld3
import Derived.WalkKit
import Derived.WalkLawsBesides
import Derived.Laws.IdiomStrings
import Derived.Lib.UnsafeStr
import Derived.Lib.RuneBytes
import Derived.Deep.AppendLies
import Derived.Deep.Draws
import Derived.WalkSpells
import Derived.Lib.Hide
import Derived.Deep.QuietTactic
import Derived.BigQuiet
import Derived.Laws.StructEq
import Derived.Laws.Bits64
import Derived.Laws.Bits64b
import Derived.Laws.BitsLemmas
import Derived.Laws.DeepNot64
import Derived.WalkSmall
import Derived.Test.YtmalklakaalaoaaDoorChecked
set_option linter.unusedVariables false
namespace Go.Sx
open Go.RowKit
abbrev KV := List (ByteArray × Value)
def ks (a b : ByteArray) : Bool := a == b
theorem ks_iff {a b : ByteArray} : ks a b = true ↔ a = b := by
  unfold ks
  constructor
  · intro h
    obtain ⟨a⟩ := a
    obtain ⟨b⟩ := b
    have : (a == b) = true := h
    rw [beq_iff_eq] at this
    rw [this]
  · rintro rfl
    obtain ⟨a⟩ := a
    show (a == a) = true
    exact beq_self_eq_true a
theorem ks_self (a : ByteArray) : ks a a = true := ks_iff.2 rfl
def dget : KV → ByteArray → Option Value
  | [], _ => none
  | p :: d, k => match ks k p.1 with | true => some p.2 | false => dget d k
def dset : KV → ByteArray → Value → KV
  | [], k, v => [(k, v)]
  | p :: d, k, v => match ks k p.1 with | true => (k, v) :: d | false => p :: dset d k v
def ddel : KV → ByteArray → KV
  | [], _ => []
  | p :: d, k => match ks k p.1 with | true => d | false => p :: ddel d k
structure Ent where
  k : ByteArray
  v : Value
  t : Nat
def Ent.raw (e : Ent) : MapEntry := ⟨.string e.k, e.v, e.t⟩
def Ent.kv (e : Ent) : ByteArray × Value := (e.k, e.v)
structure MapAt (W : World) (b : Nat) (es : List Ent) (c : Nat) : Prop where
  at_ : W.heap[b]? = some (.map ⟨es.map Ent.raw⟩ c)
  nodup : (es.map (·.t)).Nodup
  lt : ∀ e ∈ es, e.t < c
def MapOf (b : Nat) (d : KV) : Res where
  ok F W := F b ∧ ∃ es c, MapAt W b es c ∧ es.map Ent.kv = d
  loc F W W' h := fun ⟨h1, es, c, h2, h3⟩ => ⟨h1, es, c, ⟨(h b h1).trans h2.at_, h2.nodup, h2.lt⟩, h3⟩
def fidx : List Ent → ByteArray → Nat → Option (Nat × Value)
  | [], _, _ => none
  | e :: es, k, i => match ks k e.k with | true => some (i, e.v) | false => fidx es k (i + 1)
theorem findNow_s (k : ByteArray) : ∀ (es : List Ent) (i : Nat), Instr.findNow .string (.string k) (es.map Ent.raw) i = some (fidx es k i)
  | [], _ => rfl
  | e :: es, i => by
    simp only [List.map_cons, Instr.findNow, Ent.raw, Instr.sameNow, fidx]
    rw [show (k == e.k) = ks k e.k from rfl]
    cases ks k e.k with
    | true => rfl
    | false => exact findNow_s k es (i + 1)
theorem fidx_none {k : ByteArray} : ∀ {es : List Ent} {i : Nat}, fidx es k i = none → dget (es.map Ent.kv) k = none ∧ (∀ v, dset (es.map Ent.kv) k v = es.map Ent.kv ++ [(k, v)]) ∧ ddel (es.map Ent.kv) k = es.map Ent.kv
  | [], _, _ => ⟨rfl, fun _ => rfl, rfl⟩
  | e :: es, i, h => by
    simp only [fidx] at h
    cases hk : ks k e.k with
    | true => rw [hk] at h; cases h
    | false =>
      rw [hk] at h
      obtain ⟨h1, h2, h3⟩ := fidx_none (es := es) (i := i + 1) h
      simp only [List.map_cons, dget, dset, ddel, Ent.kv, hk]
      exact ⟨h1, fun v => by rw [h2 v]; rfl, by rw [h3]⟩
theorem fidx_some {k : ByteArray} : ∀ {es : List Ent} {i j : Nat} {v0 : Value}, fidx es k i = some (j, v0) → dget (es.map Ent.kv) k = some v0 ∧ ∃ m e, j = i + m ∧ es[m]? = some e ∧ e.k = k ∧
    (∀ v, dset (es.map Ent.kv) k v = (es.modify m fun e => ⟨k, v, e.t⟩).map Ent.kv) ∧ ddel (es.map Ent.kv) k = (es.eraseIdx m).map Ent.kv
  | [], _, _, _, h => by simp [fidx] at h
  | e :: es, i, j, v0, h => by
    simp only [fidx] at h
    cases hk : ks k e.k with
    | true =>
      rw [hk] at h
      injection h with h
      injection h with h1 h2
      subst h1 h2
      simp only [List.map_cons, dget, dset, ddel, Ent.kv, hk]
      exact ⟨trivial, 0, e, rfl, rfl, (ks_iff.1 hk).symm, fun v => by simp [Ent.kv], by simp⟩
    | false =>
      rw [hk] at h
      obtain ⟨h1, m, e', h2, h3, h4, h5, h6⟩ := fidx_some (es := es) (i := i + 1) h
      simp only [List.map_cons, dget, dset, ddel, Ent.kv, hk]
      refine ⟨h1, m + 1, e', by omega, h3, h4, fun v => ?_, ?_⟩
      · rw [h5 v]; simp [Ent.kv]
      · rw [h6]; simp [Ent.kv]
section
variable {P : Program} {W : World} {T K E : TypeId}
class Mp (P : Program) (T : TypeId) (K E : outParam TypeId) : Prop where
  out : P.underlying T = some (.map K E)
  key : P.underlying K = some .string
theorem run_checkKey_s (hK : P.underlying K = some .string) (em : Bool) (k : ByteArray) (W : World) : (Instr.checkKey em 10000 K (.string k)).run P W = .ok () W := by
  show (Instr.checkKey em (9999 + 1) K (.string k)).run P W = .ok () W
  unfold Instr.checkKey
  simp [run_underlying hK]
theorem run_findKey_s (hK : P.underlying K = some .string) (k : ByteArray) (es : List Ent) (W : World) : (Instr.findKey K (.string k) (es.map Ent.raw)).run P W = .ok (fidx es k 0) W := by
  unfold Instr.findKey
  simp only [Sem.run_bind, run_underlying hK, Result.andThen_ok, findNow_s]
  rfl
theorem MapAt.get {b : Nat} {es : List Ent} {c : Nat} (h : MapAt W b es c) : (getObj b).run P W = .ok (.map ⟨es.map Ent.raw⟩ c) W := MapKept.run_getObj_map h.at_
theorem run_lookup_s [m : Mp P T K E] {b : Nat} {es : List Ent} {c : Nat} {k : ByteArray} {zv : Value} (h : MapAt W b es c) (hz : (zeroValue E).run P W = .ok zv W) :
    (Instr.lookup T (.map (some b)) (.string k) false).run P W = .ok ((dget (es.map Ent.kv) k).getD zv) W := by
  unfold Instr.lookup
  simp only [Sem.run_bind, run_underlying m.out, Result.andThen_ok, h.get, run_checkKey_s m.key, run_findKey_s m.key, Sem.run_pure]
  cases hf : fidx es k 0 with
  | none =>
    simp only [(fidx_none hf).1, Sem.run_bind, hz, Result.andThen_ok, Sem.run_pure]
    rfl
  | some p =>
    obtain ⟨j, v⟩ := p
    simp only [(fidx_some hf).1, Sem.run_bind, Result.andThen_ok, Sem.run_pure]
    rfl
theorem run_setObj_s {b : Nat} {es : List Ent} {c : Nat} (h : MapAt W b es c) (o' : Obj) : (setObj b o').run P W = .ok () (ChangeMaps.setBlock W b o') := by
  simp [setObj, Sem.run, h.at_, ChangeMaps.setBlock]
theorem setBlock_at {b : Nat} {o : Obj} (h : b < W.heap.size) : (ChangeMaps.setBlock W b o).heap[b]? = some o := by
  simp [ChangeMaps.setBlock, h]
theorem setBlock_ne {b r : Nat} {o : Obj} (h : r ≠ b) : (ChangeMaps.setBlock W b o).heap[r]? = W.heap[r]? := by
  simp only [ChangeMaps.setBlock, Array.getElem?_setIfInBounds]
  rw [if_neg (Ne.symm h)]
theorem MapAt.size {b : Nat} {es : List Ent} {c : Nat} (h : MapAt W b es c) : b < W.heap.size := by
  have := h.at_
  exact (Array.getElem?_eq_some_iff.1 this).1
theorem raw_modify (es : List Ent) (m : Nat) (k : ByteArray) (v : Value) : (es.map Ent.raw).modify m (fun e => { e with key := .string k, val := v }) = (es.modify m fun e => ⟨k, v, e.t⟩).map Ent.raw := by
  induction es generalizing m with
  | nil => simp
  | cons e es ih =>
    cases m with
    | zero => simp [Ent.raw]
    | succ m => simp [ih]
theorem t_modify (es : List Ent) (m : Nat) (k : ByteArray) (v : Value) : (es.modify m fun e => ⟨k, v, e.t⟩).map (·.t) = es.map (·.t) := by
  induction es generalizing m with
  | nil => simp
  | cons e es ih =>
    cases m with
    | zero => simp
    | succ m => simp [ih]
theorem raw_erase (es : List Ent) (m : Nat) : (es.map Ent.raw).eraseIdx m = (es.eraseIdx m).map Ent.raw := by
  induction es generalizing m with
  | nil => simp
  | cons e es ih =>
    cases m with
    | zero => simp
    | succ m => simp [ih]
theorem run_update_s [m : Mp P T K E] {b : Nat} {es : List Ent} {c : Nat} {k : ByteArray} {v : Value} (h : MapAt W b es c) :
    ∃ W' es' c', (Instr.mapUpdate T (.map (some b)) (.string k) v).run P W = .ok () W' ∧ MapAt W' b es' c' ∧ es'.map Ent.kv = dset (es.map Ent.kv) k v ∧ ∃ o, W' = ChangeMaps.setBlock W b o := by
  unfold Instr.mapUpdate
  simp only [Sem.run_bind, run_underlying m.out, Result.andThen_ok, h.get, run_checkKey_s m.key, run_findKey_s m.key]
  cases hf : fidx es k 0 with
  | none =>
    obtain ⟨h1, h2, h3⟩ := fidx_none hf
    refine ⟨_, es ++ [⟨k, v, c⟩], c + 1, run_setObj_s h _, ⟨?_, ?_, ?_⟩, ?_, _, rfl⟩
    · rw [setBlock_at h.size]
      simp [Ent.raw]
    · rw [List.map_append, List.nodup_append]
      refine ⟨h.nodup, by simp, fun a ha b hb => ?_⟩
      obtain ⟨e, he, rfl⟩ := List.mem_map.1 ha
      simp only [List.map_cons, List.map_nil, List.mem_singleton] at hb
      have := h.lt e he
      omega
    · intro e he
      rcases List.mem_append.1 he with he | he
      · have := h.lt e he; omega
      · rw [List.mem_singleton] at he; subst he; exact Nat.lt_succ_self c
    · rw [h2 v]; simp [Ent.kv]
  | some p =>
    obtain ⟨j, v0⟩ := p
    obtain ⟨h1, i, e, h2, h3, h4, h5, h6⟩ := fidx_some hf
    rw [Nat.zero_add] at h2
    subst h2
    have hkey : (((⟨es.map Ent.raw⟩ : Array MapEntry)[j]?).map (·.key)).getD (.string k) = .string k := by
      simp [h3, Ent.raw, h4]
    have hstay : (Instr.keyThatStays (.string k) (.string k)).run P W = .ok (.string k) W := by
      unfold Instr.keyThatStays
      have : Instr.sameBits 10000 (.string k) (.string k) = true := by
        show Instr.sameBits (9999 + 1) (.string k) (.string k) = true
        unfold Instr.sameBits
        exact ks_self k
      simp [this]
    refine ⟨ChangeMaps.setBlock W b (.map (Array.modify ⟨es.map Ent.raw⟩ j fun e => { e with key := .string k, val := v }) c), es.modify j fun e => ⟨k, v, e.t⟩, c, ?_, ⟨?_, ?_, ?_⟩, (h5 v).symm, _, rfl⟩
    · simp only [Sem.run_bind, hkey, hstay, Result.andThen_ok]
      exact run_setObj_s h _
    · rw [setBlock_at h.size]
      congr 2
      apply Array.ext'
      rw [Array.toList_modify]
      exact raw_modify es j k v
    · rw [t_modify]; exact h.nodup
    · intro e' he'
      have : e'.t ∈ (es.modify j fun e => ⟨k, v, e.t⟩).map (·.t) := List.mem_map_of_mem he'
      rw [t_modify] at this
      obtain ⟨e2, he2, h7⟩ := List.mem_map.1 this
      rw [← h7]; exact h.lt e2 he2
theorem run_delete_s [m : Mp P T K E] {b : Nat} {es : List Ent} {c : Nat} {k : ByteArray} {ty : TypeId} (h : MapAt W b es c) :
    ∃ W' es' c', (Builtin.delete_ #[T, K] ty #[.map (some b), .string k]).run P W = .ok (.tuple #[]) W' ∧ MapAt W' b es' c' ∧ es'.map Ent.kv = ddel (es.map Ent.kv) k ∧ ∃ o, W' = ChangeMaps.setBlock W b o := by
  unfold Builtin.delete_
  simp only [List.getElem?_toArray, List.getElem?_cons_zero, List.getElem?_cons_succ, Sem.run_bind, run_underlying m.out, Result.andThen_ok, h.get, run_checkKey_s m.key, run_findKey_s m.key]
  cases hf : fidx es k 0 with
  | none =>
    obtain ⟨h1, h2, h3⟩ := fidx_none hf
    refine ⟨_, es, c, ?_, ⟨setBlock_at h.size, h.nodup, h.lt⟩, h3.symm, _, rfl⟩
    simp only [Sem.run_bind, run_setObj_s h, Result.andThen_ok]
    rfl
  | some p =>
    obtain ⟨j, v0⟩ := p
    obtain ⟨h1, i, e, h2, h3, h4, h5, h6⟩ := fidx_some hf
    rw [Nat.zero_add] at h2
    subst h2
    refine ⟨ChangeMaps.setBlock W b (.map (Array.eraseIdxIfInBounds ⟨es.map Ent.raw⟩ j) c), es.eraseIdx j, c, ?_, ⟨?_, ?_, ?_⟩, h6.symm, _, rfl⟩
    · simp only [Sem.run_bind, run_setObj_s h, Result.andThen_ok]
      rfl
    · rw [setBlock_at h.size]
      congr 2
      apply Array.ext'
      rw [Array.toList_eraseIdxIfInBounds]
      exact raw_erase es j
    · exact h.nodup.sublist ((List.eraseIdx_sublist _ _).map _)
    · exact fun e he => h.lt e (List.mem_of_mem_eraseIdx he)
end
section
variable {G : Nat} {w W W' : World} {L L' R R' : List Res} {b : Nat} {d d' : KV}
theorem Has.setMap (h : Has G w W L) (u : Upd (MapOf b d) L (MapOf b d') L') {o : Obj} (hW : W' = ChangeMaps.setBlock W b o) (hd : ∃ es c, MapAt W' b es c ∧ es.map Ent.kv = d') : Has G w W' L' := by
  obtain ⟨F1, h1, h2, h3⟩ := h.has.upd u
  have hbG := (h1 b h2.1).1
  have hbl := (h1 b h2.1).2
  subst hW
  have hx : (ChangeMaps.setBlock W b o).heap.size = W.heap.size := by simp [ChangeMaps.setBlock]
  refine ⟨h.ext.trans ⟨rfl, rfl, rfl, by omega, fun c hc => setBlock_ne (by omega)⟩, h.glob, h3 _ _ (fun c => c = b) (fun c hc => ⟨hc.1, by omega⟩) ?_ ?_ ⟨rfl, hd⟩⟩
  · rintro c rfl
    exact ⟨⟨hbG, by omega⟩, fun _ => h2.1⟩
  · intro c hc hn
    refine setBlock_ne fun e => hn ?_
    rw [e]; exact h2.1
theorem Has.map_at (h : Has G w W L) (i : In (MapOf b d) L) : ∃ es c, MapAt W b es c ∧ es.map Ent.kv = d := by
  obtain ⟨F, _, h2⟩ := h.of_in i
  exact h2.2
theorem Has.newObj (h : Has G w W L) {o : Obj} {r : Res} (hr : r.ok (fun b => b = W.heap.size) (W.alloc o)) : Has G w (W.alloc o) (r :: L) := by
  have hb : Below W.heap.size W (W.alloc o) := (Below.refl _ _).alloc (Nat.le_refl _) _
  have h1 := h.below hb
  refine ⟨h1.ext, h1.glob, fun b => b = W.heap.size, ?_, hr, ?_⟩
  · rintro b rfl
    exact ⟨h.globW, by simp⟩
  · refine (h.has.loc fun b hb' => hb.block b hb'.2).mono fun b hb' => ⟨⟨hb'.1, Nat.lt_of_lt_of_le hb'.2 hb.size⟩, by omega⟩
theorem Has.newMap (h : Has G w W L) : Has G w (W.alloc (.map #[] 0)) (MapOf W.heap.size [] :: L) :=
  h.newObj ⟨rfl, [], 0, ⟨heap_alloc_new _ _, by simp, by simp⟩, rfl⟩
end
section
variable {P : Program} {ops : Array Oper} {rest : List Oper} {Q : Exit → Act → World → Prop} {a : Act} {n G : Nat} {L : List (Nat × Value)} {w W : World} {R R' : List Res} {dst b : Nat} {T K E ty : TypeId} {p : String} {e : Array Edge} {x y z : Operand} {k : ByteArray} {v zv : Value} {d : KV}
theorem st_makeMap (hs : Slots a n L) (hw : Has G w W R) (hd : Nat.blt dst n = true := by with_unfolding_all exact rfl)
    (c : ∀ a' b W', Has G w W' (MapOf b [] :: R) → Slots a' n ((dst, .map (some b)) :: L) → wpList P ops Q rest a' W') : wpList P ops Q (⟨some dst, .makeMap T none, ty, p, e, none⟩ :: rest) a W := by
  refine st_value hs hd (v := .map (some W.heap.size)) (W' := W.alloc (.map #[] 0)) ?_ fun a' hs' => c a' W.heap.size _ hw.newMap hs'
  simp only [execOp, Option.map_none, Sem.run_bind, run_makeMap, Result.andThen_ok]
  rfl
theorem st_lookup [m : Mp P T K E] (hs : Slots a n L) (hx : ev L x = some (.map (some b)) := by with_unfolding_all exact rfl) (hy : ev L y = some (.string k) := by with_unfolding_all exact rfl) (hw : Has G w W R) (hi : In (MapOf b d) R := by repeat (first | exact In.hd | apply In.tl)) (hz : ∀ W, (zeroValue E).run P W = .ok zv W) (hd : Nat.blt dst n = true := by with_unfolding_all exact rfl)
    (c : ∀ a', Slots a' n ((dst, (dget d k).getD zv) :: L) → wpList P ops Q rest a' W) : wpList P ops Q (⟨some dst, .lookup T x y false, ty, p, e, none⟩ :: rest) a W := by
  obtain ⟨es, ck, h1, rfl⟩ := hw.map_at hi
  refine st_value hs hd (W' := W) ?_ c
  simp only [execOp, hs.ev hx, hs.ev hy, Sem.run_bind, run_lookup_s h1 (hz W), Result.andThen_ok]
  rfl
theorem st_update [m : Mp P T K E] (hs : Slots a n L) (hx : ev L x = some (.map (some b)) := by with_unfolding_all exact rfl) (hy : ev L y = some (.string k) := by with_unfolding_all exact rfl) (hz : ev L z = some v := by with_unfolding_all exact rfl) (hw : Has G w W R) (hu : Upd (MapOf b d) R (MapOf b (dset d k v)) R' := by repeat (first | exact Upd.hd | apply Upd.tl))
    (c : ∀ W', Slots a n L → Has G w W' R' → wpList P ops Q rest a W') : wpList P ops Q (⟨none, .mapUpdate T x y z, ty, p, e, none⟩ :: rest) a W := by
  obtain ⟨F1, -, h2, -⟩ := hw.has.upd hu
  obtain ⟨-, es, ck, h1, rfl⟩ := h2
  obtain ⟨W', es', c', g1, g2, g3, o, g4⟩ := run_update_s (P := P) (T := T) (k := k) (v := v) h1
  refine st_skip hs (W' := W') ?_ fun hs' => c W' hs' (hw.setMap hu g4 ⟨es', c', g2, g3⟩)
  simp only [execOp, hs.ev hx, hs.ev hy, hs.ev hz, Sem.run_bind, g1, Result.andThen_ok]
  rfl
theorem st_value0 {op : Op} {W' : World} (hs : Slots a n L) (he : (execOp a.eval ⟨none, op, ty, p, e, none⟩).run P W = .ok (.value v) W')
    (c : Slots a n L → wpList P ops Q rest a W') : wpList P ops Q (⟨none, op, ty, p, e, none⟩ :: rest) a W := by
  refine wpList_plain rfl fun K hK => ?_
  simp only [Oper.wp, he, Oper.upon_value]
  exact hK _ _ (c hs)
theorem st_delete [m : Mp P T K E] (hs : Slots a n L) (hx : ev L x = some (.map (some b)) := by with_unfolding_all exact rfl) (hy : ev L y = some (.string k) := by with_unfolding_all exact rfl) (hw : Has G w W R) (hu : Upd (MapOf b d) R (MapOf b (ddel d k)) R' := by repeat (first | exact Upd.hd | apply Upd.tl))
    (c : ∀ W', Slots a n L → Has G w W' R' → wpList P ops Q rest a W') : wpList P ops Q (⟨none, .call { callee := .builtin .delete, args := #[x, y], argTypes := #[T, K] }, ty, p, e, none⟩ :: rest) a W := by
  obtain ⟨F1, -, h2, -⟩ := hw.has.upd hu
  obtain ⟨-, es, ck, h1, rfl⟩ := h2
  obtain ⟨W', es', c', g1, g2, g3, o, g4⟩ := run_delete_s (P := P) (T := T) (k := k) (ty := ty) h1
  refine st_value0 hs (v := .tuple #[]) (W' := W') ?_ fun hs' => c W' hs' (hw.setMap hu g4 ⟨es', c', g2, g3⟩)
  simp only [execOp, resolve, invoke, builtin, Sem.run_bind, Sem.run_pure, Result.andThen_ok, List.map_toArray, List.map_cons, List.map_nil, hs.ev hx, hs.ev hy, g1]
theorem st_len_map [m : Mp P T K E] (hs : Slots a n L) (hx : ev L x = some (.map (some b)) := by with_unfolding_all exact rfl) (hw : Has G w W R) (hi : In (MapOf b d) R := by repeat (first | exact In.hd | apply In.tl)) (hd : Nat.blt dst n = true := by with_unfolding_all exact rfl)
    (c : ∀ a', Slots a' n ((dst, .int .i64 (d.length : Int)) :: L) → wpList P ops Q rest a' W) : wpList P ops Q (⟨some dst, .call { callee := .builtin .len, args := #[x], argTypes := #[T] }, ty, p, e, none⟩ :: rest) a W := by
  obtain ⟨es, ck, h1, rfl⟩ := hw.map_at hi
  refine st_value hs hd (W' := W) ?_ c
  simp only [execOp, resolve, invoke, builtin, Builtin.len_, List.map_toArray, List.map_cons, List.map_nil, hs.ev hx, Sem.run_bind, Sem.run_pure, Result.andThen_ok]
  simp [Sem.run_bind, run_underlying m.out, goInt, h1.get]
end
def Ranged (b it : Nat) (d left : KV) (cur : Option (ByteArray × Value)) : Res where
  ok F W := F b ∧ F it ∧ b ≠ it ∧ ∃ (es : List Ent) (c since : Nat) (seen : List Nat) (c0 : Nat), MapAt W b es c ∧ es.map Ent.kv = d ∧ W.heap[it]? = some (.mapIter (some b) since ⟨seen⟩ c0) ∧ (∀ e ∈ es, e.t < since) ∧ since ≤ c0 ∧ since ≤ c ∧ (es.filter fun e => !seen.contains e.t).map Ent.kv = left ∧ ∀ p, cur = some p → c0 = c ∧ ∃ (s : List Nat) (e : Ent), seen = s ++ [e.t] ∧ e ∈ es ∧ e.kv = p
  loc F W W' h := fun ⟨h1, h2, hn, es, c, since, seen, c0, h3, h4, h5, h6⟩ => ⟨h1, h2, hn, es, c, since, seen, c0, ⟨(h b h1).trans h3.at_, h3.nodup, h3.lt⟩, h4, (h it h2).trans h5, h6⟩
section
variable {G : Nat} {w W W' : World} {L L' R R' : List Res} {b it : Nat} {d left : KV} {cur : Option (ByteArray × Value)}
theorem Has.ranged (h : Has G w W (MapOf b d :: L)) : ∃ c, (∃ es, MapAt W b es c) ∧ Has G w (W.alloc (.mapIter (some b) c #[] c)) (Ranged b W.heap.size d d none :: L) := by
  obtain ⟨F1, h1, ⟨h2, es, c, h3, rfl⟩, h4⟩ := h.has
  have hb : Below W.heap.size W (W.alloc (.mapIter (some b) c #[] c)) := (Below.refl _ _).alloc (Nat.le_refl _) _
  have he := h.below hb
  refine ⟨c, ⟨es, h3⟩, he.ext, he.glob, fun x => F1 x ∨ x = W.heap.size, ?_, ⟨.inl h2, .inr rfl, ?_, es, c, c, [], c, ⟨?_, h3.nodup, h3.lt⟩, rfl, heap_alloc_new _ _, h3.lt, Nat.le_refl _, Nat.le_refl _, congrArg (List.map Ent.kv) (List.filter_eq_self.2 fun e _ => by simp), fun p h => by cases h⟩, ?_⟩
  · rintro x (hx | rfl)
    · exact ⟨(h1 x hx).1, Nat.lt_of_lt_of_le (h1 x hx).2 hb.size⟩
    · exact ⟨h.globW, by simp⟩
  · have := h3.size; omega
  · exact (heap_alloc_old W _ h3.size).trans h3.at_
  · refine (h4.loc fun x hx => hb.block x hx.1.2).mono fun x hx => ⟨⟨hx.1.1, Nat.lt_of_lt_of_le hx.1.2 hb.size⟩, ?_⟩
    rintro (h | h)
    · exact hx.2 h
    · have := hx.1.2; omega
theorem Has.unranged (h : Has G w W (Ranged b it d left cur :: L)) : Has G w W (MapOf b d :: L) := by
  obtain ⟨F1, h1, ⟨h2, h3, hn, es, c, since, seen, c0, h4, h5, h6⟩, h7⟩ := h.has
  exact ⟨h.ext, h.glob, F1, h1, ⟨h2, es, c, h4, h5⟩, h7⟩
theorem left_list (es : List Ent) (seen : List Nat) : (leftOf ⟨es.map Ent.raw⟩ ⟨seen⟩).toList = (es.filter fun e => !seen.contains e.t).map Ent.raw := by
  unfold leftOf
  simp only [Array.toList_filter, List.filter_map]
  congr 1
  apply List.filter_congr
  intro e _
  simp [Ent.raw]
  exact decide_eq_decide.2 Iff.rfl
theorem perm_take {es : List Ent} {seen : List Nat} {e : Ent} (hd : (es.map (·.t)).Nodup) (he : e ∈ es.filter fun e => !seen.contains e.t) :
    (es.filter fun e => !seen.contains e.t).Perm (e :: es.filter fun x => !(seen ++ [e.t]).contains x.t) := by
  have e1 : (es.filter fun x => !(seen ++ [e.t]).contains x.t) = (es.filter fun e => !seen.contains e.t).filter fun x => !(x.t == e.t) := by
    rw [List.filter_filter]
    apply List.filter_congr
    intro x _
    simp only [List.contains_eq_mem, List.mem_append, List.mem_singleton]
    by_cases h1 : x.t ∈ seen <;> by_cases h2 : x.t = e.t <;> simp [h1, h2]
  rw [e1]
  have hd' : ((es.filter fun e => !seen.contains e.t).map (·.t)).Nodup := hd.sublist (List.filter_sublist.map _)
  generalize (es.filter fun e => !seen.contains e.t) = l at *
  clear e1 hd
  induction l with
  | nil => simp at he
  | cons x l ih =>
    rw [List.map_cons, List.nodup_cons] at hd'
    rcases List.mem_cons.1 he with rfl | he
    · rw [List.filter_cons]
      simp only [beq_self_eq_true, Bool.not_true, Bool.false_eq_true, if_false]
      have : l.filter (fun x => !(x.t == e.t)) = l := by
        rw [List.filter_eq_self]
        intro y hy
        have : y.t ≠ e.t := fun h => hd'.1 (by rw [← h]; exact List.mem_map_of_mem hy)
        simpa using this
      rw [this]
    · have hne : x.t ≠ e.t := fun h => hd'.1 (by rw [h]; exact List.mem_map_of_mem he)
      rw [List.filter_cons]
      have : (x.t == e.t) = false := by simpa using hne
      simp only [this, Bool.not_false, if_true]
      exact ((ih he hd'.2).cons x).trans (List.Perm.swap _ _ _)
end
section
variable {P : Program} {ops : Array Oper} {rest : List Oper} {Q : Exit → Act → World → Prop} {a : Act} {n G : Nat} {L : List (Nat × Value)} {w W : World} {R R' : List Res} {dst b it : Nat} {T K E ty : TypeId} {p : String} {e : Array Edge} {x : Operand} {d left : KV} {cur : Option (ByteArray × Value)}
theorem st_range [m : Mp P T K E] (hs : Slots a n L) (hx : ev L x = some (.map (some b)) := by with_unfolding_all exact rfl) (hw : Has G w W (MapOf b d :: R)) (hd : Nat.blt dst n = true := by with_unfolding_all exact rfl)
    (c : ∀ a' it W', Has G w W' (Ranged b it d d none :: R) → Slots a' n ((dst, .pointer (some ⟨it, 0, none⟩)) :: L) → wpList P ops Q rest a' W') : wpList P ops Q (⟨some dst, .range T x, ty, p, e, none⟩ :: rest) a W := by
  obtain ⟨ck, ⟨es, h1⟩, hw'⟩ := hw.ranged
  refine st_value hs hd (v := .pointer (some ⟨W.heap.size, 0, none⟩)) (W' := W.alloc (.mapIter (some b) ck #[] ck)) ?_ fun a' hs' => c a' W.heap.size _ hw' hs'
  simp only [execOp, hs.ev hx, Sem.run_bind, run_range_map W T K E b _ _ m.out h1.at_, Result.andThen_ok]
  rfl
theorem st_next (hs : Slots a n L) (hx : ev L x = some (.pointer (some ⟨it, 0, none⟩)) := by with_unfolding_all exact rfl) (hw : Has G w W (Ranged b it d left cur :: R)) (hd : Nat.blt dst n = true := by with_unfolding_all exact rfl)
    (c1 : ∀ a', left = [] → Slots a' n ((dst, .tuple #[.bool false]) :: L) → wpList P ops Q rest a' W)
    (c2 : ∀ a' W' kv left', left.Perm (kv :: left') → Has G w W' (Ranged b it d left' (some kv) :: R) → Slots a' n ((dst, .tuple #[.bool true, .string kv.1, kv.2]) :: L) → wpList P ops Q rest a' W') : wpList P ops Q (⟨some dst, .next x false, ty, p, e, none⟩ :: rest) a W := by
  have hW := hw
  obtain ⟨F1, h1, ⟨h2, h3, hn, es, ck, since, seen, c0, h4, h5, h6, h7, h8, h9, h10, -⟩, h11⟩ := hw.has
  have hold : ∀ x ∈ (⟨es.map Ent.raw⟩ : Array MapEntry).toList, x.born < since := by
    intro x hx
    obtain ⟨e, he, rfl⟩ := List.mem_map.1 hx
    exact h7 e he
  rcases run_next_at (P := P) W ty it b since c0 ⟨seen⟩ ⟨es.map Ent.raw⟩ ck h6 h4.at_ hold h8 with ⟨g1, g2⟩ | ⟨en, g1, w1, g2, g3⟩
  · refine st_value hs hd (W' := W) ?_ fun a' hs' => c1 a' ?_ hs'
    · simp only [execOp, hs.ev hx, Sem.run_bind, g2, Result.andThen_ok]
      rfl
    · have : (leftOf ⟨es.map Ent.raw⟩ ⟨seen⟩).toList.length = 0 := by rw [Array.length_toList]; exact g1
      rw [left_list] at this
      rw [← h10]
      simpa using this
  · rw [left_list] at g1
    obtain ⟨e', he', rfl⟩ := List.mem_map.1 g1
    have hp := perm_take h4.nodup he'
    refine st_value hs hd (W' := ChangeMaps.setBlock w1 it (.mapIter (some b) since ((⟨seen⟩ : Array Nat).push e'.t) ck)) ?_ fun a' hs' => c2 a' _ e'.kv _ (by rw [← h10]; exact hp.map Ent.kv) ?_ hs'
    · simp only [execOp, hs.ev hx, Sem.run_bind, Ent.raw, g3, Result.andThen_ok]
      rfl
    · have hbl := (h1 it h3)
      have hw1 : w1.heap = W.heap ∧ w1.os = W.os ∧ w1.tape = W.tape ∧ w1.output = W.output := by rcases g2 with rfl | rfl <;> exact ⟨rfl, rfl, rfl, rfl⟩
      have hsz : w1.heap.size = W.heap.size := by rw [hw1.1]
      have hoth : ∀ r, r ≠ it → (ChangeMaps.setBlock w1 it (.mapIter (some b) since ((⟨seen⟩ : Array Nat).push e'.t) ck)).heap[r]? = W.heap[r]? := fun r hr => by
        rw [setBlock_ne hr, hw1.1]
      have hx2 : (ChangeMaps.setBlock w1 it (.mapIter (some b) since ((⟨seen⟩ : Array Nat).push e'.t) ck)).heap.size = W.heap.size := by simp [ChangeMaps.setBlock, hsz]
      refine ⟨hW.ext.trans ⟨hw1.2.1, hw1.2.2.1, hw1.2.2.2, by omega, fun r hr => hoth r (by omega)⟩, hW.glob, F1, ?_, ⟨h2, h3, hn, es, ck, since, seen ++ [e'.t], ck, ⟨(hoth b hn).trans h4.at_, h4.nodup, h4.lt⟩, h5, ?_, h7, h9, h9, rfl, fun p hp => ⟨rfl, seen, e', rfl, (List.mem_filter.1 he').1, Option.some.inj hp⟩⟩, ?_⟩
      · intro r hr
        rw [hx2]; exact h1 r hr
      · rw [setBlock_at (by omega)]
        simp
      · refine (h11.loc fun r hr => hoth r fun h => hr.2 (h ▸ h3)).mono fun r hr => ?_
        rw [hx2]; exact hr
theorem st_entry {kv : ByteArray × Value} (hs : Slots a n L) (hx : ev L x = some (.pointer (some ⟨it, 0, none⟩)) := by with_unfolding_all exact rfl) (hw : Has G w W R) (hi : In (Ranged b it d left (some kv)) R := by repeat (first | exact In.hd | apply In.tl)) (hd : Nat.blt dst n = true := by with_unfolding_all exact rfl)
    (c : ∀ a', Slots a' n ((dst, .tuple #[.string kv.1, kv.2]) :: L) → wpList P ops Q rest a' W) : wpList P ops Q (⟨some dst, .entry x, ty, p, e, none⟩ :: rest) a W := by
  obtain ⟨F, -, h2, h3, hn, es, ck, since, seen, c0, h4, h5, h6, h7, h8, h9, h10, h11⟩ := hw.of_in hi
  obtain ⟨rfl, s, e', rfl, he, rfl⟩ := h11 kv rfl
  refine st_value hs hd (W' := W) ?_ c
  have hr : W.heap[it]? = some (.mapIter (some b) since ((⟨s⟩ : Array Nat).push e'.raw.born) c0) := by rw [h6]; simp [Ent.raw]
  have := run_entry_at (P := P) W it b since ⟨s⟩ ⟨es.map Ent.raw⟩ c0 e'.raw hr h4.at_ (List.mem_map_of_mem he) (by simpa [Ent.raw, Function.comp_def] using h4.nodup)
  simp only [execOp, hs.ev hx, Sem.run_bind, this, Result.andThen_ok]
  rfl
end
theorem dset_new : ∀ {d : KV} {k : ByteArray} (v : Value), k ∉ d.map (·.1) → dset d k v = d ++ [(k, v)]
  | [], _, _, _ => rfl
  | p :: d, k, v, h => by
    rw [List.map_cons, List.mem_cons, not_or] at h
    have : ks k p.1 = false := by
      cases hk : ks k p.1 with
      | false => rfl
      | true => exact absurd (ks_iff.1 hk) h.1
    simp only [dset, this]
    rw [dset_new v h.2]; rfl
end Go.Sx

set_option linter.unusedVariables false
namespace Go.Sx
theorem HasIn.under {W : World} {r : Res} {A B : List Res} (f : ∀ F, HasIn W A F → HasIn W B F) {F : Nat → Prop} : HasIn W (r :: A) F → HasIn W (r :: B) F :=
  fun ⟨F1, h1, h2, h3⟩ => ⟨F1, h1, h2, f _ h3⟩
theorem HasIn.perm {W : World} {A B : List Res} (p : A.Perm B) : ∀ {F : Nat → Prop}, HasIn W A F → HasIn W B F := by
  induction p with
  | nil => exact fun h => h
  | cons x _ ih => exact fun h => HasIn.under (fun F => ih) h
  | swap x y l => exact fun h => HasIn.swap h
  | trans _ _ ih1 ih2 => exact fun h => ih2 (ih1 h)
theorem Has.perm {G : Nat} {w W : World} {A B : List Res} (h : Has G w W A) (p : A.Perm B) : Has G w W B := ⟨h.ext, h.glob, h.has.perm p⟩
def Free : Res where
  ok _ _ := True
  loc _ _ _ _ h := h
theorem Has.free {G : Nat} {w W : World} {A : List Res} (h : Has G w W A) : Has G w W (Free :: A) :=
  ⟨h.ext, h.glob, fun _ => False, fun _ h => h.elim, trivial, h.has.mono fun b hb => ⟨hb, fun h => h⟩⟩
theorem HasIn.fill {W : World} {r q : Res} {L L' : List Res} (u : Upd q L r L') : ∀ {F : Nat → Prop}, HasIn W (r :: L) F → HasIn W L' F := by
  induction u with
  | hd =>
    rintro F ⟨F1, h1, h2, F2, h3, h4, h5⟩
    exact ⟨F1, h1, h2, h5.mono fun b hb => hb.1⟩
  | tl u ih => exact fun h => HasIn.under (fun F => ih) (HasIn.swap h)
theorem Has.fill {G : Nat} {w W : World} {r q : Res} {L L' : List Res} (h : Has G w W (r :: L)) (u : Upd q L r L') : Has G w W L' := ⟨h.ext, h.glob, h.has.fill u⟩
def Fact (p : Prop) : Res where
  ok _ _ := p
  loc _ _ _ _ h := h
theorem Has.fact {G : Nat} {w W : World} {A : List Res} {p : Prop} (h : Has G w W A) (hp : p) : Has G w W (Fact p :: A) :=
  ⟨h.ext, h.glob, fun _ => False, fun _ h => h.elim, hp, h.has.mono fun b hb => ⟨hb, fun h => h⟩⟩
theorem Has.told {G : Nat} {w W : World} {A : List Res} {p : Prop} (h : Has G w W A) (i : In (Fact p) A) : p := by
  obtain ⟨F, _, h2⟩ := h.of_in i
  exact h2
section
variable {P : Program} {ops : Array Oper} {rest : List Oper} {Q : Exit → Act → World → Prop} {a : Act} {n G : Nat} {L : List (Nat × Value)} {w W W' : World} {R : List Res} {d k cap : Nat} {T S S' E : TypeId} {p : String} {e : Array Edge} {x y : Operand} {ad : Option Addr}
theorem st_eqnil [sl : Sl P S E] (hs : Slots a n L) (hx : ev L x = some (.slice ad k cap) := by with_unfolding_all exact rfl) (hd : Nat.blt d n = true := by with_unfolding_all exact rfl)
    (c : ∀ a', Slots a' n ((d, .bool ad.isNone) :: L) → wpList P ops Q rest a' W) : wpList P ops Q (⟨some d, .binOp .eql S x (.const (.slice none 0 0)) S', T, p, e, none⟩ :: rest) a W := by
  refine st_value hs hd (W' := W) ?_ c
  have h1 : ∀ d, (Op.equalIn (d + 1) S (.slice ad k cap) (.slice none 0 0)).run P W = .ok ad.isNone W := fun d => by
    cases ad <;> simp [Op.equalIn, run_underlying sl.out]
  have h2 : (binOp .eql S (.slice ad k cap) (.slice none 0 0)).run P W = .ok (.bool ad.isNone) W := by
    simp only [binOp, Op.equal, Sem.run_bind]
    rw [show Op.maxDepth = 9999 + 1 from rfl, h1 9999]
    rfl
  have h3 : a.eval (.const (.slice none 0 0)) = .slice none 0 0 := rfl
  simp only [execOp, hs.ev hx, h3, Sem.run_bind]
  simp [eqGuard, h2]
end
end Go.Sx

set_option linter.unusedVariables false
namespace Go.Sx
open Go.RowKit
theorem perm_pick {r : Res} {L L' K : List Res} (p : Pick r L L') (h : L'.Perm K) : L.Perm (r :: K) := by
  induction p generalizing K with
  | hd => exact h.cons r
  | tl p ih => exact ((ih (List.Perm.refl _)).cons _).trans ((List.Perm.swap _ _ _).trans (h.cons r))
abbrev Fh := Nat → Option Obj
def Fz (H : Fh) : Res where
  ok F W := ∀ b o, H b = some o → F b ∧ W.heap[b]? = some o
  loc F W W' h k := fun b o hb => ⟨(k b o hb).1, (h b (k b o hb).1).trans (k b o hb).2⟩
def Fh.le (H H' : Fh) : Prop := ∀ b o, H b = some o → H' b = some o
theorem Fh.le.refl (H : Fh) : H.le H := fun _ _ h => h
theorem Fh.le.trans {H H' H'' : Fh} (h : H.le H') (k : H'.le H'') : H.le H'' := fun b o e => k b o (h b o e)
def fr (w : World) : Fh := fun b => w.heap[b]?
section
variable {G : Nat} {w W W' : World} {L L' R : List Res} {H H' : Fh}
theorem Has.startF (w : World) : Has 0 w w [Fz (fr w)] :=
  ⟨Ext.refl _ _, Nat.zero_le _, fun b => 0 ≤ b ∧ b < w.heap.size, fun _ h => h, fun b o hb => ⟨⟨Nat.zero_le _, (Array.getElem?_eq_some_iff.1 hb).1⟩, hb⟩, trivial⟩
theorem Has.endF (h : Has 0 w W L) (i : In (Fz H) L) (hH : (fr w).le H) : Below w.heap.size w W := by
  obtain ⟨F, _, h2⟩ := h.of_in i
  refine ⟨h.ext.os, h.ext.tape, h.ext.output, h.ext.size, fun b hb => ?_⟩
  obtain ⟨o, ho⟩ : ∃ o, w.heap[b]? = some o := ⟨w.heap[b], Array.getElem?_eq_getElem hb⟩
  rw [ho]
  exact (h2 b o (hH b o ho)).2
def RdH (H : Fh) (size : Nat) (v : Value) (n : Nat) (xs : List Value) : Prop :=
  xs.length = n * size ∧ ∃ ad cap, v = .slice ad n cap ∧ n ≤ cap ∧ cap ≤ 9223372036854775807 ∧ (n = 0 ∨ ∃ b o cs T z, ad = some ⟨b, o, none⟩ ∧ H b = some (.cells cs T z) ∧ ∀ j x, xs[j]? = some x → cs[o + j]? = some x)
theorem RdH.le {size n : Nat} {v : Value} {xs : List Value} (r : RdH H size v n xs) (h : H.le H') : RdH H' size v n xs := by
  obtain ⟨h1, ad, cap, h2, h3, h4, h5⟩ := r
  refine ⟨h1, ad, cap, h2, h3, h4, h5.imp id ?_⟩
  rintro ⟨b, o, cs, T, z, e, hb, hc⟩
  exact ⟨b, o, cs, T, z, e, h _ _ hb, hc⟩
theorem RdH.len {size n : Nat} {v : Value} {xs : List Value} (r : RdH H size v n xs) : n ≤ 9223372036854775807 := by
  obtain ⟨_, _, cap, _, h3, h4, _⟩ := r; omega
theorem RdH.slice {size n : Nat} {v : Value} {xs : List Value} (r : RdH H size v n xs) : ∃ ad cap, v = .slice ad n cap := by
  obtain ⟨_, ad, cap, e, _⟩ := r; exact ⟨ad, cap, e⟩
theorem RdH.nil (H : Fh) (size c : Nat) (hc : c ≤ 9223372036854775807) : RdH H size (.slice none 0 c) 0 [] := ⟨by simp, none, c, rfl, by omega, hc, .inl rfl⟩
theorem RdH.of_rd {size n : Nat} {v : Value} {xs : List Value} (r : Rd W size v n xs) (hH : (fr W).le H) (h0 : 0 < size) : RdH H size v n xs := by
  obtain ⟨h1, ad, cap, h2, h3, h4, h5⟩ := r
  refine ⟨h1, ad, cap, h2, h3, h4, ?_⟩
  rcases h5 with h5 | ⟨b, o, e, hlt, hc⟩
  · exact .inl h5
  · rcases Nat.eq_zero_or_pos n with hn | hn
    · exact .inl hn
    · right
      have hx : 0 < xs.length := by rw [h1]; exact Nat.mul_pos hn h0
      have hc0 := hc 0 xs[0] (by simp [hx])
      unfold World.cell? at hc0
      cases hb : W.heap[b]? with
      | none => simp [hb] at hc0
      | some ob =>
        cases ob with
        | cells cs T z =>
          refine ⟨b, o, cs, T, z, e, hH b _ hb, fun j x hj => ?_⟩
          have := hc j x hj
          unfold World.cell? at this
          simpa [hb] using this
        | _ => simp [hb] at hc0
theorem Has.rdH {w0 : World} {size n : Nat} {v : Value} {xs : List Value} (h : Has G w0 W L) (i : In (Fz H) L) (r : RdH H size v n xs) : Rd W size v n xs := by
  obtain ⟨F, hF, h2⟩ := h.of_in i
  obtain ⟨h1, ad, cap, e2, h3, h4, h5⟩ := r
  refine ⟨h1, ad, cap, e2, h3, h4, h5.imp id ?_⟩
  rintro ⟨b, o, cs, T, z, e, hb, hc⟩
  have hw := h2 b _ hb
  refine ⟨b, o, e, (hF b hw.1).2, fun j x hx => ?_⟩
  unfold World.cell?
  rw [hw.2]
  simpa using hc j x hx
theorem Has.freeze {r : Res} {R' : List Res} (h : Has G w W (r :: Fz H :: R)) : ∃ H', H.le H' ∧ Has G w W (Fz H' :: R) ∧ ∃ F, r.ok F W ∧ ∀ b o, F b → W.heap[b]? = some o → H' b = some o := by
  classical
  obtain ⟨F1, h1, h2, F2, h3, h4, h5⟩ := h.has
  refine ⟨fun b => if F1 b then W.heap[b]? else H b, fun b o hb => ?_, ⟨h.ext, h.glob, fun b => F1 b ∨ F2 b, ?_, fun b o hb => ?_, ?_⟩, F1, h2, fun b o hb ho => ?_⟩
  · have := (h3 b (h4 b o hb).1).2
    simp only [if_neg this]
    exact hb
  · rintro b (hb | hb)
    · exact h1 b hb
    · exact (h3 b hb).1
  · by_cases hf : F1 b
    · simp only [if_pos hf] at hb
      exact ⟨.inl hf, hb⟩
    · simp only [if_neg hf] at hb
      exact ⟨.inr (h4 b o hb).1, (h4 b o hb).2⟩
  · refine h5.mono fun b hb => ⟨hb.1.1, ?_⟩
    rintro (h | h)
    · exact hb.1.2 h
    · exact hb.2 h
  · simp only [if_pos hb]; exact ho
theorem Has.freeze_own {E : TypeId} {size n : Nat} {v : Value} {xs : List Value} (h : Has G w W (Own E size v n xs :: Fz H :: R)) : ∃ H', H.le H' ∧ Has G w W (Fz H' :: R) ∧ RdH H' size v n xs := by
  obtain ⟨H', h1, h2, F, h3, h4⟩ := h.freeze (R' := [])
  refine ⟨H', h1, h2, ?_⟩
  obtain ⟨hl, ⟨rfl, rfl⟩ | ⟨g, cap, cur, rfl, hF, hg, hnc, hcm, hcs, ht⟩⟩ := h3
  · exact ⟨hl, none, 0, rfl, by omega, by omega, .inl rfl⟩
  · refine ⟨hl, some ⟨g, 0, none⟩, cap, rfl, hnc, by unfold maxLen at hcm; omega, .inr ⟨g, 0, ⟨cur⟩, E, (0, 0), rfl, h4 g _ hF hg, fun j x hx => ?_⟩⟩
    rw [← ht, List.getElem?_take] at hx
    split at hx
    · simpa using hx
    · cases hx
end
def Ex {α : Type} (Ls : α → List Res) : Res where
  ok F W := ∃ x, HasIn W (Ls x) F
  loc F W W' h := fun ⟨x, k⟩ => ⟨x, k.loc h⟩
theorem HasIn.append {W : World} : ∀ {A B : List Res} {F F1 : Nat → Prop}, HasIn W A F1 → (∀ b, F1 b → F b) → HasIn W B (fun b => F b ∧ ¬ F1 b) → HasIn W (A ++ B) F
  | [], B, F, F1, _, _, h => h.mono fun b hb => hb.1
  | r :: A, B, F, F1, ⟨F2, h1, h2, h3⟩, hF, h => by
    refine ⟨F2, fun b hb => hF b (h1 b hb), h2, HasIn.append (F1 := fun b => F1 b ∧ ¬ F2 b) h3 (fun b hb => ⟨hF b hb.1, hb.2⟩) ?_⟩
    exact h.mono fun b hb => ⟨⟨hb.1, fun h2 => hb.2 (h1 b h2)⟩, fun h2 => hb.2 h2.1⟩
theorem HasIn.unappend {W : World} : ∀ {A B : List Res} {F : Nat → Prop}, HasIn W (A ++ B) F → ∃ F1, (∀ b, F1 b → F b) ∧ HasIn W A F1 ∧ HasIn W B (fun b => F b ∧ ¬ F1 b)
  | [], B, F, h => ⟨fun _ => False, fun _ h => h.elim, trivial, h.mono fun b hb => ⟨hb, fun h => h⟩⟩
  | r :: A, B, F, ⟨F2, h1, h2, h3⟩ => by
    obtain ⟨F1, g1, g2, g3⟩ := HasIn.unappend h3
    refine ⟨fun b => F2 b ∨ F1 b, ?_, ⟨F2, fun b hb => .inl hb, h2, g2.mono fun b hb => ⟨.inr hb, (g1 b hb).2⟩⟩, g3.mono fun b hb => ⟨hb.1.1, ?_⟩⟩
    · rintro b (hb | hb)
      · exact h1 b hb
      · exact (g1 b hb).1
    · rintro (h | h)
      · exact hb.1.2 h
      · exact hb.2 h
section
variable {α : Type} {Ls : α → List Res} {G : Nat} {w W : World} {R : List Res}
theorem Has.shut (x : α) (h : Has G w W (Ls x ++ R)) : Has G w W (Ex Ls :: R) := by
  obtain ⟨F1, h1, h2, h3⟩ := HasIn.unappend h.has
  exact ⟨h.ext, h.glob, F1, h1, ⟨x, h2⟩, h3⟩
theorem Has.open (h : Has G w W (Ex Ls :: R)) : ∃ x, Has G w W (Ls x ++ R) := by
  obtain ⟨F1, h1, ⟨x, h2⟩, h3⟩ := h.has
  exact ⟨x, h.ext, h.glob, HasIn.append h2 h1 h3⟩
end
section
variable {P : Program} {ops : Array Oper} {rest : List Oper} {Q : Exit → Act → World → Prop} {a : Act} {n G : Nat} {L : List (Nat × Value)} {w W W' : World} {R : List Res} {d : Nat} {T S S' E : TypeId} {p : String} {e : Array Edge} {x : Operand} {ad : Addr}
theorem st_ptrSome (hs : Slots a n L) (hx : ev L x = some (.pointer (some ad)) := by with_unfolding_all exact rfl) (ht : P.underlying S = some (.pointer (P.pointee S)) := by kernel_rfl) (hd : Nat.blt d n = true := by with_unfolding_all exact rfl)
    (k : ∀ a', Slots a' n ((d, .bool false) :: L) → wpList P ops Q rest a' W) : wpList P ops Q (⟨some d, .binOp .eql S x (.const (.pointer none)) S', T, p, e, none⟩ :: rest) a W := by
  refine st_value hs hd (W' := W) ?_ k
  have h2 : (binOp .eql S (.pointer (some ad)) (.pointer none)).run P W = .ok (.bool false) W := by
    have := run_eql_pointer_nil (P := P) W S (some ad) ht
    simpa using this
  have h3 : a.eval (.const (.pointer none)) = .pointer none := rfl
  simp only [execOp, hs.ev hx, h3, Sem.run_bind]
  simp [eqGuard, h2]
theorem st_ptrNone (hs : Slots a n L) (hx : ev L x = some (.pointer none) := by with_unfolding_all exact rfl) (ht : P.underlying S = some (.pointer (P.pointee S)) := by kernel_rfl) (hd : Nat.blt d n = true := by with_unfolding_all exact rfl)
    (k : ∀ a', Slots a' n ((d, .bool true) :: L) → wpList P ops Q rest a' W) : wpList P ops Q (⟨some d, .binOp .eql S x (.const (.pointer none)) S', T, p, e, none⟩ :: rest) a W := by
  refine st_value hs hd (W' := W) ?_ k
  have h2 : (binOp .eql S (.pointer none) (.pointer none)).run P W = .ok (.bool true) W := by
    have := run_eql_pointer_nil (P := P) W S none ht
    simpa using this
  have h3 : a.eval (.const (.pointer none)) = .pointer none := rfl
  simp only [execOp, hs.ev hx, h3, Sem.run_bind]
  simp [eqGuard, h2]
end
class Ar (P : Program) (S : TypeId) (len : outParam Nat) (E : outParam TypeId) : Prop where
  out : P.underlying S = some (.array len E)
section
variable {P : Program} {ops : Array Oper} {rest : List Oper} {Q : Exit → Act → World → Prop} {a : Act} {n G : Nat} {L : List (Nat × Value)} {w W W' : World} {R : List Res} {d k b o len : Nat} {T S S' E : TypeId} {p : String} {e : Array Edge} {x y : Operand} {z : List Value} {q : IntKind} {j : Int}
theorem st_buildSlice0 {agg : Bool} [sl : Sl P S E] [t : Ty P E agg z] (hs : Slots a n L) (hw : Has G w W R) (hd : Nat.blt d n = true := by with_unfolding_all exact rfl)
    (c : ∀ a' ad W', Has G w W' (Own E z.length (.slice ad 0 0) 0 [] :: R) → Slots a' n ((d, .slice ad 0 0) :: L) → wpList P ops Q rest a' W') : wpList P ops Q (⟨some d, .buildSlice S 0 #[], T, p, e, none⟩ :: rest) a W := by
  have hr : (Instr.buildSlice S 0 #[]).run P W = .ok (.slice (some ⟨W.heap.size, 0, none⟩) 0 0) (W.alloc (.cells ⟨[]⟩ E)) := by
    have hf : ∀ (f : Nat → Option (Nat × Nat)) (cs : Array Value), Instr.fill f cs [] = some cs := fun f cs => rfl
    have h0 : ∀ g : Nat → Value, (Array.range 0).map g = ⟨[]⟩ := fun g => by simp
    simp only [Instr.buildSlice, Sem.run_bind, run_underlying sl.out, Result.andThen_ok, t.sizeOf, Nat.zero_mul, if_true, hf, h0, newRow]
    rfl
  refine st_value hs hd (v := .slice (some ⟨W.heap.size, 0, none⟩) 0 0) (W' := W.alloc (.cells ⟨[]⟩ E)) ?_ fun a' hs' => c a' _ _ ?_ hs'
  · simp only [execOp, Sem.run_bind, List.map_toArray, List.map_nil]
    rw [hr]
    rfl
  · obtain ⟨F1, h1, ⟨h2, h3⟩, h4⟩ := (hw.new [] E).has
    exact ⟨(hw.new [] E).ext, hw.glob, F1, h1, ⟨by simp, .inr ⟨W.heap.size, 0, [], rfl, h2, h3, Nat.le_refl _, Nat.zero_le _, by simp, by simp⟩⟩, h4⟩
theorem st_index_arr {agg : Bool} [ar : Ar P S len E] [t : Ty P E agg z] (hs : Slots a n L) (hx : ev L x = some (.pointer (some ⟨b, o, none⟩)) := by with_unfolding_all exact rfl) (hy : ev L y = some (.int q j) := by with_unfolding_all exact rfl) (h0 : 0 ≤ j) (h1 : j < len) (hd : Nat.blt d n = true := by with_unfolding_all exact rfl)
    (c : ∀ a', Slots a' n ((d, .pointer (some ⟨b, o + j.toNat * z.length, none⟩)) :: L) → wpList P ops Q rest a' W) : wpList P ops Q (⟨some d, .indexAddr S x y, T, p, e, none⟩ :: rest) a W := by
  refine st_value hs hd (W' := W) ?_ c
  simp only [execOp, hs.ev hx, hs.ev hy, Instr.indexAt, asIntOf, Sem.run_bind, Sem.run_pure, Result.andThen_ok, run_underlying ar.out, Instr.sureAddr]
  rw [if_pos ⟨h0, h1⟩]
  simp only [Sem.run_bind, t.sizeOf, Result.andThen_ok, Sem.run_pure, addr_add]
end
end Go.Sx

namespace Go.Proofs.YtmalklakaalaoaaDoor
open Go.Sx
instance ty2 : Ty Tryd.prog 2 false [Value.int .i64 0] := .mk' (v := Value.int .i64 0) (k := 1) (by kernel_rfl) (by kernel_rfl) rfl rfl
instance ty3 : Ty Tryd.prog 3 false [Value.int .i64 0] := .mk' (v := Value.int .i64 0) (k := 1) (by kernel_rfl) (by kernel_rfl) rfl rfl
instance ty4 : Ty Tryd.prog 4 false [Value.bool false] := .mk' (v := Value.bool false) (k := 1) (by kernel_rfl) (by kernel_rfl) rfl rfl
instance ty5 : Ty Tryd.prog 5 false [Value.int .u8 0] := .mk' (v := Value.int .u8 0) (k := 1) (by kernel_rfl) (by kernel_rfl) rfl rfl
instance ty9 : Ty Tryd.prog 9 false [Value.string ⟨#[]⟩] := .mk' (v := Value.string ⟨#[]⟩) (k := 1) (by kernel_rfl) (by kernel_rfl) rfl rfl
instance ty22 : Ty Tryd.prog 22 false [Value.slice none 0 0] := .mk' (v := Value.slice none 0 0) (k := 1) (by kernel_rfl) (by kernel_rfl) rfl rfl
instance ty27 : Ty Tryd.prog 27 false [Value.slice none 0 0] := .mk' (v := Value.slice none 0 0) (k := 1) (by kernel_rfl) (by kernel_rfl) rfl rfl
instance ty29 : Ty Tryd.prog 29 true [Value.int .i64 0, Value.int .i64 0, Value.slice none 0 0] := .mk' (v := .agg #[Value.int .i64 0, Value.int .i64 0, Value.slice none 0 0]) (k := 3) (by kernel_rfl) (by kernel_rfl) rfl rfl
instance ty30 : Ty Tryd.prog 30 false [Value.int .i64 0] := .mk' (v := Value.int .i64 0) (k := 1) (by kernel_rfl) (by kernel_rfl) rfl rfl
instance ty32 : Ty Tryd.prog 32 true [Value.int .i64 0, Value.int .i64 0, Value.int .i64 0, Value.slice none 0 0, Value.int .i64 0] := .mk' (v := .agg #[Value.int .i64 0, Value.int .i64 0, Value.int .i64 0, Value.slice none 0 0, Value.int .i64 0]) (k := 5) (by kernel_rfl) (by kernel_rfl) rfl rfl
instance ty36 : Ty Tryd.prog 36 true [Value.int .i64 0, Value.int .i64 0, Value.string ⟨#[]⟩] := .mk' (v := .agg #[Value.int .i64 0, Value.int .i64 0, Value.string ⟨#[]⟩]) (k := 3) (by kernel_rfl) (by kernel_rfl) rfl rfl
instance ty38 : Ty Tryd.prog 38 true [Value.int .i64 0, Value.string ⟨#[]⟩, Value.int .i64 0, Value.int .i64 0, Value.string ⟨#[]⟩, Value.int .i64 0, Value.int .i64 0, Value.string ⟨#[]⟩, Value.int .i64 0] := .mk' (v := .agg #[Value.int .i64 0, Value.string ⟨#[]⟩, Value.int .i64 0, Value.int .i64 0, Value.string ⟨#[]⟩, Value.int .i64 0, Value.int .i64 0, Value.string ⟨#[]⟩, Value.int .i64 0]) (k := 9) (by kernel_rfl) (by kernel_rfl) rfl rfl
instance ty47 : Ty Tryd.prog 47 true [Value.int .i64 0, Value.int .i64 0, Value.int .i64 0, Value.int .i64 0, Value.int .i64 0, Value.int .i64 0] := .mk' (v := .agg #[Value.int .i64 0, Value.int .i64 0, Value.int .i64 0, Value.int .i64 0, Value.int .i64 0, Value.int .i64 0]) (k := 6) (by kernel_rfl) (by kernel_rfl) rfl rfl
instance ty49 : Ty Tryd.prog 49 false [Value.pointer none] := .mk' (v := Value.pointer none) (k := 1) (by kernel_rfl) (by kernel_rfl) rfl rfl
instance ty58 : Ty Tryd.prog 58 true [Value.int .i64 0, Value.int .i64 0, Value.int .i64 0, Value.int .i64 0, Value.slice none 0 0, Value.int .i64 0] := .mk' (v := .agg #[Value.int .i64 0, Value.int .i64 0, Value.int .i64 0, Value.int .i64 0, Value.slice none 0 0, Value.int .i64 0]) (k := 6) (by kernel_rfl) (by kernel_rfl) rfl rfl
instance ty61 : Ty Tryd.prog 61 true [Value.int .i64 0, Value.pointer none, Value.int .i64 0, Value.int .i64 0, Value.int .i64 0, Value.int .i64 0, Value.slice none 0 0, Value.int .i64 0, Value.int .i64 0, Value.int .i64 0, Value.int .i64 0, Value.int .i64 0, Value.slice none 0 0, Value.int .i64 0, Value.int .i64 0, Value.int .i64 0, Value.int .i64 0, Value.int .i64 0, Value.slice none 0 0, Value.int .i64 0, Value.int .i64 0, Value.int .i64 0, Value.int .i64 0, Value.int .i64 0, Value.slice none 0 0, Value.int .i64 0, Value.int .i64 0, Value.int .i64 0, Value.int .i64 0, Value.int .i64 0, Value.slice none 0 0, Value.int .i64 0, Value.int .i64 0, Value.int .i64 0, Value.int .i64 0, Value.int .i64 0, Value.slice none 0 0, Value.int .i64 0] := .mk' (v := .agg #[Value.int .i64 0, Value.pointer none, Value.int .i64 0, Value.int .i64 0, Value.int .i64 0, Value.int .i64 0, Value.slice none 0 0, Value.int .i64 0, Value.int .i64 0, Value.int .i64 0, Value.int .i64 0, Value.int .i64 0, Value.slice none 0 0, Value.int .i64 0, Value.int .i64 0, Value.int .i64 0, Value.int .i64 0, Value.int .i64 0, Value.slice none 0 0, Value.int .i64 0, Value.int .i64 0, Value.int .i64 0, Value.int .i64 0, Value.int .i64 0, Value.slice none 0 0, Value.int .i64 0, Value.int .i64 0, Value.int .i64 0, Value.int .i64 0, Value.int .i64 0, Value.slice none 0 0, Value.int .i64 0, Value.int .i64 0, Value.int .i64 0, Value.int .i64 0, Value.int .i64 0, Value.slice none 0 0, Value.int .i64 0]) (k := 38) (by kernel_rfl) (by kernel_rfl) rfl rfl
instance ty66 : Ty Tryd.prog 66 true [Value.slice none 0 0, Value.bool false] := .mk' (v := .agg #[Value.slice none 0 0, Value.bool false]) (k := 2) (by kernel_rfl) (by kernel_rfl) rfl rfl
instance ty82 : Ty Tryd.prog 82 true [Value.nilIface] := .mk' (v := .agg #[Value.nilIface]) (k := 1) (by kernel_rfl) (by kernel_rfl) rfl rfl
instance ty83 : Ty Tryd.prog 83 false [Value.map none] := .mk' (v := Value.map none) (k := 1) (by kernel_rfl) (by kernel_rfl) rfl rfl
instance ty85 : Ty Tryd.prog 85 true [Value.map none] := .mk' (v := .agg #[Value.map none]) (k := 1) (by kernel_rfl) (by kernel_rfl) rfl rfl
instance ty109 : Ty Tryd.prog 109 true [Value.slice none 0 0, Value.bool false] := .mk' (v := .agg #[Value.slice none 0 0, Value.bool false]) (k := 2) (by kernel_rfl) (by kernel_rfl) rfl rfl
instance it2 : IntTy Tryd.prog 2 .i64 := ⟨by kernel_rfl⟩
instance el2 : El Tryd.prog 2 1 8 := .mk' (z := Value.int .i64 0) (by kernel_rfl) rfl
instance it3 : IntTy Tryd.prog 3 .i64 := ⟨by kernel_rfl⟩
instance it5 : IntTy Tryd.prog 5 .u8 := ⟨by kernel_rfl⟩
instance el5 : El Tryd.prog 5 1 1 := .mk' (z := Value.int .u8 0) (by kernel_rfl) rfl
instance st9 : StrTy Tryd.prog 9 := ⟨by kernel_rfl⟩
instance sl22 : Sl Tryd.prog 22 5 := ⟨by kernel_rfl⟩
instance sl27 : Sl Tryd.prog 27 38 := ⟨by kernel_rfl⟩
instance fl29_0 : Fld Tryd.prog 29 0 0 3 := .mk' (by kernel_rfl) (by kernel_rfl)
instance fl29_1 : Fld Tryd.prog 29 1 1 2 := .mk' (by kernel_rfl) (by kernel_rfl)
instance fl29_2 : Fld Tryd.prog 29 2 2 27 := .mk' (by kernel_rfl) (by kernel_rfl)
instance su29 : St Tryd.prog 29 [(0, 1), (1, 1), (2, 1)] := ⟨by kernel_rfl⟩
instance fl32_0 : Fld Tryd.prog 32 0 0 2 := .mk' (by kernel_rfl) (by kernel_rfl)
instance fl32_1 : Fld Tryd.prog 32 1 1 29 := .mk' (by kernel_rfl) (by kernel_rfl)
instance fl32_2 : Fld Tryd.prog 32 2 4 30 := .mk' (by kernel_rfl) (by kernel_rfl)
instance su32 : St Tryd.prog 32 [(0, 1), (1, 3), (4, 1)] := ⟨by kernel_rfl⟩
instance fl36_0 : Fld Tryd.prog 36 0 0 3 := .mk' (by kernel_rfl) (by kernel_rfl)
instance fl36_1 : Fld Tryd.prog 36 1 1 2 := .mk' (by kernel_rfl) (by kernel_rfl)
instance fl36_2 : Fld Tryd.prog 36 2 2 9 := .mk' (by kernel_rfl) (by kernel_rfl)
instance su36 : St Tryd.prog 36 [(0, 1), (1, 1), (2, 1)] := ⟨by kernel_rfl⟩
instance el38 : El Tryd.prog 38 9 96 := .mk' (z := .agg #[Value.int .i64 0, Value.string ⟨#[]⟩, Value.int .i64 0, Value.int .i64 0, Value.string ⟨#[]⟩, Value.int .i64 0, Value.int .i64 0, Value.string ⟨#[]⟩, Value.int .i64 0]) (by kernel_rfl) rfl
instance fl38_0 : Fld Tryd.prog 38 0 0 3 := .mk' (by kernel_rfl) (by kernel_rfl)
instance fl38_1 : Fld Tryd.prog 38 1 1 9 := .mk' (by kernel_rfl) (by kernel_rfl)
instance fl38_2 : Fld Tryd.prog 38 2 2 36 := .mk' (by kernel_rfl) (by kernel_rfl)
instance fl38_3 : Fld Tryd.prog 38 3 5 36 := .mk' (by kernel_rfl) (by kernel_rfl)
instance fl38_4 : Fld Tryd.prog 38 4 8 2 := .mk' (by kernel_rfl) (by kernel_rfl)
instance su38 : St Tryd.prog 38 [(0, 1), (1, 1), (2, 3), (5, 3), (8, 1)] := ⟨by kernel_rfl⟩
instance sl46 : Sl Tryd.prog 46 3 := ⟨by kernel_rfl⟩
instance sl54 : Sl Tryd.prog 54 9 := ⟨by kernel_rfl⟩
instance fl58_0 : Fld Tryd.prog 58 0 0 2 := .mk' (by kernel_rfl) (by kernel_rfl)
instance fl58_1 : Fld Tryd.prog 58 1 1 32 := .mk' (by kernel_rfl) (by kernel_rfl)
instance su58 : St Tryd.prog 58 [(0, 1), (1, 5)] := ⟨by kernel_rfl⟩
instance fl61_0 : Fld Tryd.prog 61 0 0 2 := .mk' (by kernel_rfl) (by kernel_rfl)
instance fl61_1 : Fld Tryd.prog 61 1 1 49 := .mk' (by kernel_rfl) (by kernel_rfl)
instance fl61_2 : Fld Tryd.prog 61 2 2 59 := .mk' (by kernel_rfl) (by kernel_rfl)
instance su61 : St Tryd.prog 61 [(0, 1), (1, 1), (2, 36)] := ⟨by kernel_rfl⟩
instance fl66_0 : Fld Tryd.prog 66 0 0 22 := .mk' (by kernel_rfl) (by kernel_rfl)
instance fl66_1 : Fld Tryd.prog 66 1 1 4 := .mk' (by kernel_rfl) (by kernel_rfl)
instance su66 : St Tryd.prog 66 [(0, 1), (1, 1)] := ⟨by kernel_rfl⟩
instance sl70 : Sl Tryd.prog 70 2 := ⟨by kernel_rfl⟩
instance fl85_0 : Fld Tryd.prog 85 0 0 83 := .mk' (by kernel_rfl) (by kernel_rfl)
instance su85 : St Tryd.prog 85 [(0, 1)] := ⟨by kernel_rfl⟩
instance fl109_0 : Fld Tryd.prog 109 0 0 22 := .mk' (by kernel_rfl) (by kernel_rfl)
instance fl109_1 : Fld Tryd.prog 109 1 1 4 := .mk' (by kernel_rfl) (by kernel_rfl)
instance su109 : St Tryd.prog 109 [(0, 1), (1, 1)] := ⟨by kernel_rfl⟩
instance it115 : IntTy Tryd.prog 115 .u64 := ⟨by kernel_rfl⟩
end Go.Proofs.YtmalklakaalaoaaDoor

set_option linter.unusedVariables false
namespace Go.Proofs.YtmalklakaalaoaaDoor
open Go.RowKit
-- pieces
theorem bjoin {w w1 w2 : World} (h : Below w.heap.size w w1) (k : Below w1.heap.size w1 w2) : Below w.heap.size w w2 := h.trans (k.mono h.size)
end Go.Proofs.YtmalklakaalaoaaDoor

set_option linter.unusedVariables false
namespace Go.Proofs.YtmalklakaalaoaaDoor
open Go.RowKit
def vCell : Option (Int ⊕ ByteArray) → Value
  | none => .nilIface
  | some (.inl n) => .iface 113 (.int .i64 n)
  | some (.inr s) => .iface 114 (.string s)
def ofRaw (k n : Int) (s : ByteArray) : Option (Int ⊕ ByteArray) × Int :=
  if k = 0 ∧ n = 0 ∧ s.size = 0 then (none, 0)
  else if k = 1 ∧ s.size = 0 then (some (.inl n), 0)
  else if k = 2 ∧ n = 0 ∧ s.size ≤ 200 ∧ Lib.validD s.data.toList = true then (some (.inr s), 0)
  else (none, 1)
set_option maxRecDepth 100000 in
set_option maxHeartbeats 1000000 in
theorem of_none (s : ByteArray) (h : ¬ 0 < s.size) (w : World) (hs : s.size ≤ 9223372036854775807) :
    Calls Tryd.prog 51 #[.agg #[.int .i64 0, .int .i64 0, .string s]] w fun e w' => e = .returned (.tuple #[.agg #[vCell (ofRaw 0 0 s).1], .int .i64 (ofRaw 0 0 s).2]) ∧ Below w.heap.size w w' := by
  have HF : Hid (ofRaw 0 0 s = (none, 0)) := by
    show _ = _
    unfold ofRaw; rw [if_pos ⟨rfl, rfl, by omega⟩]
  have ex := Ph.empty_yes h
  go_enter Tryd.func51, Tryd.ntmps51
  go_wp2
  refine bodyPost_ret (v := .tuple #[.agg #[.nilIface], .int .i64 0]) (by simp [results, Tryd.results51, go_sem]) rfl ⟨?_, ?_⟩
  · rw [HF.out]
    rfl
  · exact ((Below.refl _ _).alloc (Nat.le_refl _) _).alloc (by simp) _
set_option maxRecDepth 100000 in
set_option maxHeartbeats 1000000 in
theorem of_int (n : Int) (s : ByteArray) (h : ¬ 0 < s.size) (w : World) (hs : s.size ≤ 9223372036854775807) :
    Calls Tryd.prog 51 #[.agg #[.int .i64 1, .int .i64 n, .string s]] w fun e w' => e = .returned (.tuple #[.agg #[vCell (ofRaw 1 n s).1], .int .i64 (ofRaw 1 n s).2]) ∧ Below w.heap.size w w' := by
  have HF : Hid (ofRaw 1 n s = (some (.inl n), 0)) := by
    show _ = _
    unfold ofRaw; rw [if_neg (by omega), if_pos ⟨rfl, by omega⟩]
  have ex := Ph.empty_yes h
  go_enter Tryd.func51, Tryd.ntmps51
  go_wp2
  refine bodyPost_ret (v := .tuple #[.agg #[.iface 113 (.int .i64 n)], .int .i64 0]) (by simp [results, Tryd.results51, go_sem]) rfl ⟨?_, ?_⟩
  · rw [HF.out]
    rfl
  · exact ((Below.refl _ _).alloc (Nat.le_refl _) _).alloc (by simp) _
set_option maxRecDepth 100000 in
set_option maxHeartbeats 1000000 in
theorem of_nonum (n : Int) (s : ByteArray) (h : n ≠ 0) (w : World) (hs : s.size ≤ 9223372036854775807) :
    Calls Tryd.prog 51 #[.agg #[.int .i64 0, .int .i64 n, .string s]] w fun e w' => e = .returned (.tuple #[.agg #[vCell (ofRaw 0 n s).1], .int .i64 (ofRaw 0 n s).2]) ∧ Below w.heap.size w w' := by
  have HF : Hid (ofRaw 0 n s = (none, 1)) := by
    show _ = _
    unfold ofRaw; rw [if_neg (by omega), if_neg (by omega), if_neg (by omega)]
  have h' : (n == 0) = false := by simpa using h
  clear h
  go_enter Tryd.func51, Tryd.ntmps51
  go_wp2
  refine bodyPost_ret (v := .tuple #[.agg #[.nilIface], .int .i64 1]) (by simp [results, Tryd.results51, go_sem]) rfl ⟨?_, ?_⟩
  · rw [HF.out]
    rfl
  · exact ((Below.refl _ _).alloc (Nat.le_refl _) _).alloc (by simp) _
set_option maxRecDepth 100000 in
set_option maxHeartbeats 1000000 in
theorem of_notext (s : ByteArray) (h : 0 < s.size) (w : World) (hs : s.size ≤ 9223372036854775807) :
    Calls Tryd.prog 51 #[.agg #[.int .i64 0, .int .i64 0, .string s]] w fun e w' => e = .returned (.tuple #[.agg #[vCell (ofRaw 0 0 s).1], .int .i64 (ofRaw 0 0 s).2]) ∧ Below w.heap.size w w' := by
  have HF : Hid (ofRaw 0 0 s = (none, 1)) := by
    show _ = _
    unfold ofRaw; rw [if_neg (by omega), if_neg (by omega), if_neg (by omega)]
  have ex := Ph.empty_no h
  go_enter Tryd.func51, Tryd.ntmps51
  go_wp2
  refine bodyPost_ret (v := .tuple #[.agg #[.nilIface], .int .i64 1]) (by simp [results, Tryd.results51, go_sem]) rfl ⟨?_, ?_⟩
  · rw [HF.out]
    rfl
  · exact ((Below.refl _ _).alloc (Nat.le_refl _) _).alloc (by simp) _
set_option maxRecDepth 100000 in
set_option maxHeartbeats 1000000 in
theorem of_intno (n : Int) (s : ByteArray) (h : 0 < s.size) (w : World) (hs : s.size ≤ 9223372036854775807) :
    Calls Tryd.prog 51 #[.agg #[.int .i64 1, .int .i64 n, .string s]] w fun e w' => e = .returned (.tuple #[.agg #[vCell (ofRaw 1 n s).1], .int .i64 (ofRaw 1 n s).2]) ∧ Below w.heap.size w w' := by
  have HF : Hid (ofRaw 1 n s = (none, 1)) := by
    show _ = _
    unfold ofRaw; rw [if_neg (by omega), if_neg (by omega), if_neg (by omega)]
  have ex := Ph.empty_no h
  go_enter Tryd.func51, Tryd.ntmps51
  go_wp2
  refine bodyPost_ret (v := .tuple #[.agg #[.nilIface], .int .i64 1]) (by simp [results, Tryd.results51, go_sem]) rfl ⟨?_, ?_⟩
  · rw [HF.out]
    rfl
  · exact ((Below.refl _ _).alloc (Nat.le_refl _) _).alloc (by simp) _
set_option maxRecDepth 100000 in
set_option maxHeartbeats 1000000 in
theorem of_textnum (n : Int) (s : ByteArray) (h : n ≠ 0) (w : World) (hs : s.size ≤ 9223372036854775807) :
    Calls Tryd.prog 51 #[.agg #[.int .i64 2, .int .i64 n, .string s]] w fun e w' => e = .returned (.tuple #[.agg #[vCell (ofRaw 2 n s).1], .int .i64 (ofRaw 2 n s).2]) ∧ Below w.heap.size w w' := by
  have HF : Hid (ofRaw 2 n s = (none, 1)) := by
    show _ = _
    unfold ofRaw; rw [if_neg (by omega), if_neg (by omega), if_neg (by omega)]
  have h' : (n == 0) = false := by simpa using h
  clear h
  go_enter Tryd.func51, Tryd.ntmps51
  go_wp2
  refine bodyPost_ret (v := .tuple #[.agg #[.nilIface], .int .i64 1]) (by simp [results, Tryd.results51, go_sem]) rfl ⟨?_, ?_⟩
  · rw [HF.out]
    rfl
  · exact ((Below.refl _ _).alloc (Nat.le_refl _) _).alloc (by simp) _
set_option maxRecDepth 100000 in
set_option maxHeartbeats 1000000 in
theorem of_textlong (s : ByteArray) (h : 200 < s.size) (w : World) (hs : s.size ≤ 9223372036854775807) :
    Calls Tryd.prog 51 #[.agg #[.int .i64 2, .int .i64 0, .string s]] w fun e w' => e = .returned (.tuple #[.agg #[vCell (ofRaw 2 0 s).1], .int .i64 (ofRaw 2 0 s).2]) ∧ Below w.heap.size w w' := by
  have HF : Hid (ofRaw 2 0 s = (none, 1)) := by
    show _ = _
    unfold ofRaw; rw [if_neg (by omega), if_neg (by omega), if_neg (by omega)]
  have h' : (200 : Int) < (s.size : Int) := by omega
  go_enter Tryd.func51, Tryd.ntmps51
  go_wp2
  refine bodyPost_ret (v := .tuple #[.agg #[.nilIface], .int .i64 1]) (by simp [results, Tryd.results51, go_sem]) rfl ⟨?_, ?_⟩
  · rw [HF.out]
    rfl
  · exact ((Below.refl _ _).alloc (Nat.le_refl _) _).alloc (by simp) _
set_option maxRecDepth 100000 in
set_option maxHeartbeats 1000000 in
theorem of_textbad (s : ByteArray) (h : s.size ≤ 200) (hv : Lib.validD s.data.toList = false) (w : World) (hs : s.size ≤ 9223372036854775807) (hT : Tabs w) :
    Calls Tryd.prog 51 #[.agg #[.int .i64 2, .int .i64 0, .string s]] w fun e w' => e = .returned (.tuple #[.agg #[vCell (ofRaw 2 0 s).1], .int .i64 (ofRaw 2 0 s).2]) ∧ Below w.heap.size w w' := by
  have HF : Hid (ofRaw 2 0 s = (none, 1)) := by
    show _ = _
    unfold ofRaw; rw [if_neg (by omega), if_neg (by omega), if_neg (by rw [hv]; simp)]
  have h' : (s.size : Int) ≤ 200 := by omega
  go_enter Tryd.func51, Tryd.ntmps51
  go_wp2_with fail
  refine (runes_Valid _ _ hs (hT.keep (((Below.refl _ _).alloc (Nat.le_refl _) _).alloc (by simp) _))).mono ?_
  rintro e w1 ⟨rfl, hb⟩
  rw [hv]
  clear hv
  have hz := hb.size
  have h1 : w1.cell? ⟨w.heap.size, 0, none⟩ = some (.int .i64 2) := by rw [hb.cell (p := ⟨w.heap.size, 0, none⟩) (by simp; omega)]; simp [go_sem]
  have h2 : w1.cell? ⟨w.heap.size, 2, none⟩ = some (.string s) := by rw [hb.cell (p := ⟨w.heap.size, 2, none⟩) (by simp; omega)]; simp [go_sem]
  have h3 : w1.cell? ⟨w.heap.size + 1, 0, none⟩ = some .nilIface := by rw [hb.cell (p := ⟨w.heap.size + 1, 0, none⟩) (by simp)]; simp [go_sem]
  have h4 : w1.frozen? ⟨w.heap.size + 1, 0, none⟩ = false := by rw [hb.frozen (p := ⟨w.heap.size + 1, 0, none⟩) (by simp)]; simp [go_sem]
  have h6 : ∀ u, (w1.setCell ⟨w.heap.size + 1, 0, none⟩ u).cell? ⟨w.heap.size + 1, 0, none⟩ = some u := fun u => World.cell?_setCell_same _ _ _ h3
  have h5 : w.heap.size + 1 < w1.heap.size := by simp at hz; omega
  go_wp2
  refine bodyPost_ret (v := .tuple #[.agg #[.nilIface], .int .i64 1]) (by simp [results, Tryd.results51, go_sem, h6]) rfl ⟨?_, ?_⟩
  · rw [HF.out]
    rfl
  · exact ((((Below.refl w.heap.size w).alloc (Nat.le_refl _) _).alloc (by simp) _).trans (hb.mono (by simp; omega))).setCell (by simp) _
set_option maxRecDepth 100000 in
set_option maxHeartbeats 1000000 in
theorem of_text (s : ByteArray) (h : s.size ≤ 200) (hv : Lib.validD s.data.toList = true) (w : World) (hs : s.size ≤ 9223372036854775807) (hT : Tabs w) :
    Calls Tryd.prog 51 #[.agg #[.int .i64 2, .int .i64 0, .string s]] w fun e w' => e = .returned (.tuple #[.agg #[vCell (ofRaw 2 0 s).1], .int .i64 (ofRaw 2 0 s).2]) ∧ Below w.heap.size w w' := by
  have HF : Hid (ofRaw 2 0 s = (some (.inr s), 0)) := by
    show _ = _
    unfold ofRaw; rw [if_neg (by omega), if_neg (by omega), if_pos ⟨rfl, rfl, h, hv⟩]
  have h' : (s.size : Int) ≤ 200 := by omega
  go_enter Tryd.func51, Tryd.ntmps51
  go_wp2_with fail
  refine (runes_Valid _ _ hs (hT.keep (((Below.refl _ _).alloc (Nat.le_refl _) _).alloc (by simp) _))).mono ?_
  rintro e w1 ⟨rfl, hb⟩
  rw [hv]
  clear hv
  have hz := hb.size
  have h1 : w1.cell? ⟨w.heap.size, 0, none⟩ = some (.int .i64 2) := by rw [hb.cell (p := ⟨w.heap.size, 0, none⟩) (by simp; omega)]; simp [go_sem]
  have h2 : w1.cell? ⟨w.heap.size, 2, none⟩ = some (.string s) := by rw [hb.cell (p := ⟨w.heap.size, 2, none⟩) (by simp; omega)]; simp [go_sem]
  have h3 : w1.cell? ⟨w.heap.size + 1, 0, none⟩ = some .nilIface := by rw [hb.cell (p := ⟨w.heap.size + 1, 0, none⟩) (by simp)]; simp [go_sem]
  have h4 : w1.frozen? ⟨w.heap.size + 1, 0, none⟩ = false := by rw [hb.frozen (p := ⟨w.heap.size + 1, 0, none⟩) (by simp)]; simp [go_sem]
  have h6 : ∀ u, (w1.setCell ⟨w.heap.size + 1, 0, none⟩ u).cell? ⟨w.heap.size + 1, 0, none⟩ = some u := fun u => World.cell?_setCell_same _ _ _ h3
  have h5 : w.heap.size + 1 < w1.heap.size := by simp at hz; omega
  go_wp2
  refine bodyPost_ret (v := .tuple #[.agg #[.iface 114 (.string s)], .int .i64 0]) (by simp [results, Tryd.results51, go_sem, h6]) rfl ⟨?_, ?_⟩
  · rw [HF.out]
    rfl
  · exact ((((Below.refl w.heap.size w).alloc (Nat.le_refl _) _).alloc (by simp) _).trans (hb.mono (by simp; omega))).setCell (by simp) _
set_option maxRecDepth 100000 in
set_option maxHeartbeats 1000000 in
theorem of_other (k n : Int) (s : ByteArray) (h0 : k ≠ 0) (h1 : k ≠ 1) (h2 : k ≠ 2) (w : World) (hs : s.size ≤ 9223372036854775807) :
    Calls Tryd.prog 51 #[.agg #[.int .i64 k, .int .i64 n, .string s]] w fun e w' => e = .returned (.tuple #[.agg #[vCell (ofRaw k n s).1], .int .i64 (ofRaw k n s).2]) ∧ Below w.heap.size w w' := by
  have HF : Hid (ofRaw k n s = (none, 1)) := by
    show _ = _
    unfold ofRaw; rw [if_neg (by omega), if_neg (by omega), if_neg (by omega)]
  have h0' : (k == 0) = false := by simpa using h0
  have h1' : (k == 1) = false := by simpa using h1
  have h2' : (k == 2) = false := by simpa using h2
  clear h0 h1 h2
  go_enter Tryd.func51, Tryd.ntmps51
  go_wp2
  refine bodyPost_ret (v := .tuple #[.agg #[.nilIface], .int .i64 1]) (by simp [results, Tryd.results51, go_sem]) rfl ⟨?_, ?_⟩
  · rw [HF.out]
    rfl
  · exact ((Below.refl _ _).alloc (Nat.le_refl _) _).alloc (by simp) _
theorem value_Of (k n : Int) (s : ByteArray) (w : World) (hs : s.size ≤ 9223372036854775807) (hT : Tabs w) :
    Calls Tryd.prog 51 #[.agg #[.int .i64 k, .int .i64 n, .string s]] w fun e w' => e = .returned (.tuple #[.agg #[vCell (ofRaw k n s).1], .int .i64 (ofRaw k n s).2]) ∧ Below w.heap.size w w' := by
  by_cases k0 : k = 0
  · subst k0
    by_cases n0 : n = 0
    · subst n0
      by_cases s0 : 0 < s.size
      · exact of_notext s s0 w hs
      · exact of_none s s0 w hs
    · exact of_nonum n s n0 w hs
  by_cases k1 : k = 1
  · subst k1
    by_cases s0 : 0 < s.size
    · exact of_intno n s s0 w hs
    · exact of_int n s s0 w hs
  by_cases k2 : k = 2
  · subst k2
    by_cases n0 : n = 0
    · subst n0
      by_cases sl : s.size ≤ 200
      · cases hv : Lib.validD s.data.toList
        · exact of_textbad s sl hv w hs hT
        · exact of_text s sl hv w hs hT
      · exact of_textlong s (by omega) w hs
    · exact of_textnum n s n0 w hs
  exact of_other k n s k0 k1 k2 w hs
end Go.Proofs.YtmalklakaalaoaaDoor

set_option linter.unusedVariables false
namespace Go.Proofs.YtmalklakaalaoaaDoor
open Go.RowKit
def kindOf : Option (Int ⊕ ByteArray) → Int
  | none => 0
  | some (.inl _) => 1
  | some (.inr _) => 2
def intIn : Option (Int ⊕ ByteArray) → Int
  | some (.inl n) => n
  | _ => 0
def isInt : Option (Int ⊕ ByteArray) → Bool
  | some (.inl _) => true
  | _ => false
def textIn : Option (Int ⊕ ByteArray) → ByteArray
  | some (.inr s) => s
  | _ => ⟨#[]⟩
theorem ta1 (w : World) : (Instr.typeAssert .nilIface 80 113 true).run Tryd.prog w = .ok (.tuple #[.int .i64 0, .bool false]) w := by kernel_rfl
theorem ta2 (n : Int) (w : World) : (Instr.typeAssert (.iface 113 (.int .i64 n)) 80 113 true).run Tryd.prog w = .ok (.tuple #[.int .i64 n, .bool true]) w := by kernel_rfl
theorem ta3 (s : ByteArray) (w : World) : (Instr.typeAssert (.iface 114 (.string s)) 80 113 true).run Tryd.prog w = .ok (.tuple #[.int .i64 0, .bool false]) w := by kernel_rfl
theorem tb1 (w : World) : (Instr.typeAssert .nilIface 80 114 true).run Tryd.prog w = .ok (.tuple #[.string ⟨#[]⟩, .bool false]) w := by kernel_rfl
theorem tb2 (n : Int) (w : World) : (Instr.typeAssert (.iface 113 (.int .i64 n)) 80 114 true).run Tryd.prog w = .ok (.tuple #[.string ⟨#[]⟩, .bool false]) w := by kernel_rfl
theorem tb3 (s : ByteArray) (w : World) : (Instr.typeAssert (.iface 114 (.string s)) 80 114 true).run Tryd.prog w = .ok (.tuple #[.string s, .bool true]) w := by kernel_rfl
theorem me1 (n : Int) (w : World) : (method 274 113 (.int .i64 n) "packhorse/value.kind").run Tryd.prog w = .ok (107, .int .i64 n) w := by kernel_rfl
theorem me2 (s : ByteArray) (w : World) : (method 274 114 (.string s) "packhorse/value.kind").run Tryd.prog w = .ok (108, .string s) w := by kernel_rfl
theorem kind_number (n : Int) (w : World) : Calls Tryd.prog 107 #[.int .i64 n] w fun e w' => e = .returned (.int .i64 1) ∧ w = w' := by
  go_enter Tryd.func107, Tryd.ntmps107
  go_wp2
  go_ret
  exact ⟨rfl, rfl⟩
theorem kind_text (s : ByteArray) (w : World) : Calls Tryd.prog 108 #[.string s] w fun e w' => e = .returned (.int .i64 2) ∧ w = w' := by
  go_enter Tryd.func108, Tryd.ntmps108
  go_wp2
  go_ret
  exact ⟨rfl, rfl⟩
set_option maxHeartbeats 1000000 in
theorem Kind_none (w : World) :
    Calls Tryd.prog 52 #[.agg #[.nilIface]] w fun e w' => e = .returned (.int .i64 0) ∧ Below w.heap.size w w' := by
  have t1 := ta1
  have t2 := tb1
  go_enter Tryd.func52, Tryd.ntmps52
  go_wp2_with fail
  go_ret
  exact ⟨rfl, (Below.refl _ _).alloc (Nat.le_refl _) _⟩
set_option maxHeartbeats 1000000 in
theorem AsInt_none (w : World) :
    Calls Tryd.prog 64 #[.agg #[.nilIface]] w fun e w' => e = .returned (.tuple #[.int .i64 0, .bool false]) ∧ Below w.heap.size w w' := by
  have t1 := ta1
  have t2 := tb1
  go_enter Tryd.func64, Tryd.ntmps64
  go_wp2
  go_ret2
  exact ⟨rfl, (Below.refl _ _).alloc (Nat.le_refl _) _⟩
set_option maxHeartbeats 1000000 in
theorem Raw_none (w : World) :
    Calls Tryd.prog 34 #[.agg #[.nilIface]] w fun e w' => e = .returned (.agg #[.int .i64 0, .int .i64 0, .string ⟨#[]⟩]) ∧ Below w.heap.size w w' := by
  have t1 := ta1
  have t2 := tb1
  go_enter Tryd.func34, Tryd.ntmps34
  go_wp2
  refine bodyPost_ret (v := .agg #[.int .i64 0, .int .i64 0, .string ⟨#[]⟩]) (by simp [results, Tryd.results34, go_sem]) rfl ⟨rfl, ?_⟩
  exact ((Below.refl _ _).alloc (Nat.le_refl _) _).alloc (by simp) _
set_option maxHeartbeats 1000000 in
theorem Kind_int (n : Int) (w : World) :
    Calls Tryd.prog 52 #[.agg #[.iface 113 (.int .i64 n)]] w fun e w' => e = .returned (.int .i64 1) ∧ Below w.heap.size w w' := by
  have t1 := ta2 n
  have t2 := tb2 n
  have t3 := me1 n
  go_enter Tryd.func52, Tryd.ntmps52
  go_wp2_with (go_at_call 107; refine (kind_number _ _).mono ?_; rintro e w' ⟨rfl, rfl⟩)
  go_ret
  exact ⟨rfl, (Below.refl _ _).alloc (Nat.le_refl _) _⟩
set_option maxHeartbeats 1000000 in
theorem AsInt_int (n : Int) (w : World) :
    Calls Tryd.prog 64 #[.agg #[.iface 113 (.int .i64 n)]] w fun e w' => e = .returned (.tuple #[.int .i64 n, .bool true]) ∧ Below w.heap.size w w' := by
  have t1 := ta2 n
  have t2 := tb2 n
  have t3 := me1 n
  go_enter Tryd.func64, Tryd.ntmps64
  go_wp2
  go_ret2
  exact ⟨rfl, (Below.refl _ _).alloc (Nat.le_refl _) _⟩
set_option maxHeartbeats 1000000 in
theorem Raw_int (n : Int) (w : World) :
    Calls Tryd.prog 34 #[.agg #[.iface 113 (.int .i64 n)]] w fun e w' => e = .returned (.agg #[.int .i64 1, .int .i64 n, .string ⟨#[]⟩]) ∧ Below w.heap.size w w' := by
  have t1 := ta2 n
  have t2 := tb2 n
  have t3 := me1 n
  go_enter Tryd.func34, Tryd.ntmps34
  go_wp2
  refine bodyPost_ret (v := .agg #[.int .i64 1, .int .i64 n, .string ⟨#[]⟩]) (by simp [results, Tryd.results34, go_sem]) rfl ⟨rfl, ?_⟩
  exact ((Below.refl _ _).alloc (Nat.le_refl _) _).alloc (by simp) _
set_option maxHeartbeats 1000000 in
theorem Kind_text (s : ByteArray) (w : World) :
    Calls Tryd.prog 52 #[.agg #[.iface 114 (.string s)]] w fun e w' => e = .returned (.int .i64 2) ∧ Below w.heap.size w w' := by
  have t1 := ta3 s
  have t2 := tb3 s
  have t3 := me2 s
  go_enter Tryd.func52, Tryd.ntmps52
  go_wp2_with (go_at_call 108; refine (kind_text _ _).mono ?_; rintro e w' ⟨rfl, rfl⟩)
  go_ret
  exact ⟨rfl, (Below.refl _ _).alloc (Nat.le_refl _) _⟩
set_option maxHeartbeats 1000000 in
theorem AsInt_text (s : ByteArray) (w : World) :
    Calls Tryd.prog 64 #[.agg #[.iface 114 (.string s)]] w fun e w' => e = .returned (.tuple #[.int .i64 0, .bool false]) ∧ Below w.heap.size w w' := by
  have t1 := ta3 s
  have t2 := tb3 s
  have t3 := me2 s
  go_enter Tryd.func64, Tryd.ntmps64
  go_wp2
  go_ret2
  exact ⟨rfl, (Below.refl _ _).alloc (Nat.le_refl _) _⟩
set_option maxHeartbeats 1000000 in
theorem Raw_text (s : ByteArray) (w : World) :
    Calls Tryd.prog 34 #[.agg #[.iface 114 (.string s)]] w fun e w' => e = .returned (.agg #[.int .i64 2, .int .i64 0, .string s]) ∧ Below w.heap.size w w' := by
  have t1 := ta3 s
  have t2 := tb3 s
  have t3 := me2 s
  go_enter Tryd.func34, Tryd.ntmps34
  go_wp2
  refine bodyPost_ret (v := .agg #[.int .i64 2, .int .i64 0, .string s]) (by simp [results, Tryd.results34, go_sem]) rfl ⟨rfl, ?_⟩
  exact ((Below.refl _ _).alloc (Nat.le_refl _) _).alloc (by simp) _
end Go.Proofs.YtmalklakaalaoaaDoor

set_option linter.unusedVariables false
namespace Go.Proofs.YtmalklakaalaoaaDoor
open Go.RowKit
theorem eq_raw (k n : Int) (s : ByteArray) (k' n' : Int) (s' : ByteArray) (w : World) :
    (binOp .eql 36 (.agg #[.int .i64 k, .int .i64 n, .string s]) (.agg #[.int .i64 k', .int .i64 n', .string s'])).run Tryd.prog w
      = .ok (.bool ((k == k') && (n == n') && (s.toList == s'.toList))) w := by
  have f1 : Tryd.prog.stoodInHeld 36 = false := by kernel_rfl
  have f2 : Tryd.prog.underlying 36 = some (.struct (Tryd.prog.fieldsOf 36)) := by kernel_rfl
  rw [run_eql_struct, run_equalIn_struct _ _ _ _ _ f2 f1]
  simp only [Program.fieldsOf]
  cases hk : k == k' <;> cases hn : n == n' <;> cases hs : s.toList == s'.toList <;> simp [go_sem, Op.eqFields, part, hk, hn, hs]
theorem Raw_any (x : Option (Int ⊕ ByteArray)) (w : World) :
    Calls Tryd.prog 34 #[.agg #[vCell x]] w fun e w' => e = .returned (.agg #[.int .i64 (kindOf x), .int .i64 (intIn x), .string (textIn x)]) ∧ Below w.heap.size w w' := by
  rcases x with _ | n | s
  · exact Raw_none w
  · exact Raw_int n w
  · exact Raw_text s w
theorem Kind_any (x : Option (Int ⊕ ByteArray)) (w : World) :
    Calls Tryd.prog 52 #[.agg #[vCell x]] w fun e w' => e = .returned (.int .i64 (kindOf x)) ∧ Below w.heap.size w w' := by
  rcases x with _ | n | s
  · exact Kind_none w
  · exact Kind_int n w
  · exact Kind_text s w
theorem AsInt_any (x : Option (Int ⊕ ByteArray)) (w : World) :
    Calls Tryd.prog 64 #[.agg #[vCell x]] w fun e w' => e = .returned (.tuple #[.int .i64 (intIn x), .bool (isInt x)]) ∧ Below w.heap.size w w' := by
  rcases x with _ | n | s
  · exact AsInt_none w
  · exact AsInt_int n w
  · exact AsInt_text s w
def eqV (x y : Option (Int ⊕ ByteArray)) : Bool := (kindOf x == kindOf y) && (intIn x == intIn y) && ((textIn x).toList == (textIn y).toList)
set_option maxRecDepth 100000 in
set_option maxHeartbeats 4000000 in
theorem value_Eq (x y : Option (Int ⊕ ByteArray)) (w : World) :
    Calls Tryd.prog 63 #[.agg #[vCell x], .agg #[vCell y]] w fun e w' => e = .returned (.bool (eqV x y)) ∧ Below w.heap.size w w' := by
  have hv := fun (x : Option (Int ⊕ ByteArray)) (W : World) => Raw_any x W
  have he := eq_raw (kindOf x) (intIn x) (textIn x) (kindOf y) (intIn y) (textIn y)
  unfold eqV
  generalize kindOf = KK at *
  generalize intIn = NN at *
  generalize textIn = SS at *
  generalize vCell = V at *
  have HV := Lib.hid hv
  clear hv
  go_enter Tryd.func63, Tryd.ntmps63
  go_wp2_with fail
  have hb0 : Below w.heap.size w ((w.alloc (Obj.cells #[V x] 82)).alloc (Obj.cells #[V y] 82)) := ((Below.refl _ _).alloc (Nat.le_refl _) _).alloc (by simp) _
  have hc1 : ((w.alloc (Obj.cells #[V x] 82)).alloc (Obj.cells #[V y] 82)).cell? ⟨w.heap.size, 0, none⟩ = some (V x) := by simp [go_sem]
  have hc2 : ((w.alloc (Obj.cells #[V x] 82)).alloc (Obj.cells #[V y] 82)).cell? ⟨w.heap.size + 1, 0, none⟩ = some (V y) := by simp [go_sem]
  have hsz : w.heap.size + 1 < ((w.alloc (Obj.cells #[V x] 82)).alloc (Obj.cells #[V y] 82)).heap.size := by simp
  generalize (w.alloc (Obj.cells #[V x] 82)).alloc (Obj.cells #[V y] 82) = w1 at *
  have keepB : ∀ (W W' : World), (W.cell? ⟨w.heap.size, 0, none⟩ = some (V x) ∧ W.cell? ⟨w.heap.size + 1, 0, none⟩ = some (V y) ∧ w.heap.size + 1 < W.heap.size ∧ Below w.heap.size w W) → Below W.heap.size W W' → (W'.cell? ⟨w.heap.size, 0, none⟩ = some (V x) ∧ W'.cell? ⟨w.heap.size + 1, 0, none⟩ = some (V y) ∧ w.heap.size + 1 < W'.heap.size ∧ Below w.heap.size w W') := by
    rintro W W' ⟨a, b, c, d⟩ h
    have := h.size
    exact ⟨(h.cell (by simp; omega)).trans a, (h.cell (by simp; omega)).trans b, by omega, bjoin d h⟩
  have HK := Lib.hid keepB
  clear keepB
  go_region_held3 (fun W => W.cell? ⟨w.heap.size, 0, none⟩ = some (V x) ∧ W.cell? ⟨w.heap.size + 1, 0, none⟩ = some (V y) ∧ w.heap.size + 1 < W.heap.size ∧ Below w.heap.size w W)
    (first | (refine HK.out _ _ ?_ hb9; assumption) | assumption | exact ⟨by assumption, by assumption, by assumption, by assumption⟩ | exact ⟨by assumption, by assumption, by assumption, Below.drew (by assumption)⟩)
    (first | (go_at_call 34; refine (HV.out _ _).mono ?_; rintro e w9 ⟨rfl, hb9⟩))
  rename_i hHeld
  go_wp2
  go_ret
  exact ⟨rfl, hHeld.2.2.2⟩
end Go.Proofs.YtmalklakaalaoaaDoor

set_option linter.unusedVariables false
namespace Ph
open Go Go.Lib
def bt (s : ByteArray) (k : Nat) : Nat := (s.data.toList.getD k 0).toNat
theorem d1 (n b0 b1 b2 b3 : Nat) (h : b0 < 128) : decodeN n b0 b1 b2 b3 = (b0, 1) := by unfold decodeN; rw [if_pos h]
end Ph

set_option linter.unusedVariables false
namespace Go.Proofs.YtmalklakaalaoaaDoor
open Go.RowKit
-- pieces
end Go.Proofs.YtmalklakaalaoaaDoor

set_option linter.unusedVariables false
namespace Go.Proofs.YtmalklakaalaoaaDoor
open Go.RowKit
section
variable {P : Program} {w w' : World} {base e : Nat} {v : Value} {l : List UInt8}
theorem byteCells_app (a b : List UInt8) : Lib.byteCells (a ++ b) = Lib.byteCells a ++ Lib.byteCells b := by simp [Lib.byteCells]
theorem own_slice {size n : Nat} {xs : List Value} (h : w.ownsRow base e size v n xs) : ∃ A c, v = .slice A n c ∧ n ≤ c ∧ c ≤ maxLen ∧ (0 < n → ∃ g, A = some ⟨g, 0, none⟩ ∧ ∀ j, j < n * size → w.cell? ⟨g, j, none⟩ = xs[j]?) := by
  rcases h.2 with ⟨rfl, rfl⟩ | ⟨g, cap, cur, rfl, hg, hh, hnc, hm, hsz, hx⟩
  · exact ⟨none, 0, rfl, by omega, by omega, fun h => by omega⟩
  · exact ⟨_, cap, rfl, hnc, hm, fun _ => ⟨g, rfl, fun j hj => h.cellAt j hj⟩⟩
theorem own_snoc {z : Int} {c : UInt8} (h : w.ownsRow base e 1 v (l.length + 1) (Lib.byteCells l ++ [.int .u8 z])) (hz : z = (c.toNat : Int)) : w.ownsRow base e 1 v (l ++ [c]).length (Lib.byteCells (l ++ [c])) := by
  subst hz
  rw [byteCells_app, List.length_append]
  exact h
end
end Go.Proofs.YtmalklakaalaoaaDoor

set_option linter.unusedVariables false
namespace Ph
open Go Go.Lib
end Ph

set_option linter.unusedVariables false
set_option maxRecDepth 10000
namespace Go.Proofs.YtmalklakaalaoaaDoor
open Go.RowKit
-- pieces
end Go.Proofs.YtmalklakaalaoaaDoor

set_option linter.unusedVariables false
set_option maxRecDepth 10000
namespace Go.Proofs.YtmalklakaalaoaaDoor.Sw
open Go.RowKit Go.Sx
-- pieces
end Go.Proofs.YtmalklakaalaoaaDoor.Sw

set_option linter.unusedVariables false
set_option maxRecDepth 10000
namespace Go.Proofs.YtmalklakaalaoaaDoor
open Go.RowKit
set_option maxHeartbeats 400000 in
theorem runes_Key (s : ByteArray) (w : World) (hs : s.size ≤ 9223372036854775807) (hT : Tabs w) :
    Calls Tryd.prog 49 #[.string s] w fun e w' => e = .returned (.bool (Ph.keyB s.data.toList)) ∧ Below w.heap.size w w' := by
  have hcl := Ph.count_le s
  go_enter Tryd.func49, Tryd.ntmps49
  go_wp2
  go_loopw [3] (fun n wr => ∃ pos k : Nat, wr = w.iter s pos ∧ n = .int .i64 k ∧ k ≤ s.size ∧ Hid (k + (Ph.rs (s.data.toList.drop pos)).length = Ph.count s.data.toList) ∧ Hid (Ph.plainB (Ph.rs s.data.toList) = Ph.plainB (Ph.rs (s.data.toList.drop pos)))) (fun _ wr => s.size - wr.iterPos w.heap.size)
  case atStart => exact ⟨0, 0, rfl, rfl, by omega, by unfold Hid; simp [Ph.count], by unfold Hid; simp⟩
  case round =>
    obtain ⟨pos, k, rfl, rfl, hkb, HK, HP⟩ := hrel
    by_cases hp : pos < s.size
    · have hnx := fun ty => run_next_any (P := Tryd.prog) w s pos ty hp
      have HR : Hid (Ph.rs (s.data.toList.drop pos) = Utf8.decode s pos :: Ph.rs (s.data.toList.drop (pos + (Utf8.decode s pos).2))) := Ph.rs_at s pos hp
      have hk1 : k + 1 ≤ s.size := by
        have h1 := HK.out
        rw [HR.out, List.length_cons] at h1
        omega
      have bad : (Utf8.decode s pos).1 < 32 ∨ (Utf8.decode s pos).1 = 127 → Ph.keyB s.data.toList = false := fun h => Ph.keyB_bad (by rw [HP.out, HR.out, Ph.plainB_bad h])
      have BAD := Lib.hid bad
      clear bad
      by_cases h32 : (Utf8.decode s pos).1 < 32
      · have h32' : ((Utf8.decode s pos).1 : Int) < 32 := by omega
        go_wp2
        go_ret
        exact ⟨ret_bool (BAD.out (.inl h32)).symm, (Below.refl _ _).alloc (Nat.le_refl _) _⟩
      · by_cases h127 : (Utf8.decode s pos).1 = 127
        · have h32' : (32 : Int) ≤ ((Utf8.decode s pos).1 : Int) := by omega
          have h127' : (((Utf8.decode s pos).1 : Int) == 127) = true := by rw [beq_iff_eq]; omega
          have HB : Hid (Ph.keyB s.data.toList = false) := BAD.out (.inr h127)
          clear h127
          go_wp2
          go_ret
          exact ⟨ret_bool HB.out.symm, (Below.refl _ _).alloc (Nat.le_refl _) _⟩
        · have h32' : (32 : Int) ≤ ((Utf8.decode s pos).1 : Int) := by omega
          have h127' : (((Utf8.decode s pos).1 : Int) == 127) = false := by rw [beq_eq_false_iff_ne]; omega
          have HG : Hid (¬ ((Utf8.decode s pos).1 < 32 ∨ (Utf8.decode s pos).1 = 127)) := by show ¬ _; omega
          clear h127
          go_wp2
          go_roundw
          case rel =>
            refine ⟨pos + (Utf8.decode s pos).2, k + 1, rfl, by go_num, hk1, ?_, ?_⟩
            · have h1 := HK.out
              rw [HR.out, List.length_cons] at h1
              show _ = _
              omega
            · show _ = _
              rw [HP.out, HR.out, Ph.plainB_good HG.out]
          case measure =>
            have := Ph.width_pos s pos
            rw [World.iterPos_iter, World.iterPos_iter]
            omega
    · have hnx := fun ty => run_next_end (P := Tryd.prog) w s pos ty hp
      have hT2 : Tabs (w.iter s pos) := hT.keep ((Below.refl _ _).alloc (Nat.le_refl _) _)
      have HK2 : Hid (k = Ph.count s.data.toList ∧ Ph.plainB (Ph.rs s.data.toList) = true) := by
        have h1 := HK.out
        have h2 := HP.out
        rw [Ph.rs_end s pos hp] at h1 h2
        exact ⟨h1, h2⟩
      by_cases h1 : 1 ≤ k ∧ k ≤ 40
      · obtain ⟨ha, hb'⟩ := h1
        have ha' : (1 : Int) ≤ (k : Int) := by omega
        have hb'' : (k : Int) ≤ 40 := by omega
        go_wp2_with (go_at_call 67; refine (runes_Valid _ _ hs hT2).mono ?_; rintro e w' ⟨rfl, hb⟩)
        go_ret
        refine ⟨ret_bool ?_, ((Below.refl _ _).alloc (Nat.le_refl _) (.stringIter s _)).trans (hb.mono (by simp [World.iter]))⟩
        rw [Ph.keyB_long HK2.out.2 (by rw [← HK2.out.1]; omega) (by rw [← HK2.out.1]; omega)]
      · have HS : Hid (Ph.keyB s.data.toList = false) := Ph.keyB_short (by rw [← HK2.out.1]; exact h1)
        by_cases ha : 1 ≤ k
        · have ha' : (1 : Int) ≤ (k : Int) := by omega
          have hb'' : (40 : Int) < (k : Int) := by omega
          clear h1
          go_wp2
          go_ret
          exact ⟨ret_bool HS.out.symm, (Below.refl _ _).alloc (Nat.le_refl _) _⟩
        · have ha' : (k : Int) < 1 := by omega
          clear h1
          go_wp2
          go_ret
          exact ⟨ret_bool HS.out.symm, (Below.refl _ _).alloc (Nat.le_refl _) _⟩
end Go.Proofs.YtmalklakaalaoaaDoor

set_option linter.unusedVariables false
set_option maxRecDepth 10000
namespace Go.Proofs.YtmalklakaalaoaaDoor
open Go.RowKit
-- pieces
end Go.Proofs.YtmalklakaalaoaaDoor

set_option linter.unusedVariables false
set_option maxRecDepth 10000
namespace Go.Sx
open Go.RowKit
theorem run_eqFields_cons {P : Program} {d : Nat} {xs ys : List Value} {f : Field} {fs : List Field} {W : World} {x y : Value} {b : Bool} {z : List Value} (u : Ty P f.type false z) (hn : (f.name != "_") = true) (hx : xs[f.offset]? = some x) (hy : ys[f.offset]? = some y) (he : (Op.equalIn d f.type x y).run P W = .ok b W) :
    (Op.eqFields d ⟨xs⟩ ⟨ys⟩ (f :: fs)).run P W = if b then (Op.eqFields d ⟨xs⟩ ⟨ys⟩ fs).run P W else .ok false W := by
  have hn' : f.name ≠ "_" := by simpa using hn
  simp only [Op.eqFields, if_pos hn', Sem.run_bind, part, u.isAgg, Result.andThen_ok, Bool.false_eq_true, if_false]
  simp only [List.getElem?_toArray, hx, hy, Sem.run_pure, Result.andThen_ok, he]
  cases b <;> simp
theorem run_eq3 {P : Program} {T TI TN TS : TypeId} {zi zn zs : List Value} [IntTy P TI .i64] [IntTy P TN .i64] [StrTy P TS] [ui : Ty P TI false zi] [un : Ty P TN false zn] [us : Ty P TS false zs] (ht : P.underlying T = some (.struct (P.fieldsOf T))) (hp : P.stoodInHeld T = false)
    (hF : (P.fieldsOf T).toList.map (fun f => (f.name != "_", f.offset, f.type)) = [(true, 0, TI), (true, 1, TN), (true, 2, TS)]) (k n : Int) (s : ByteArray) (k' n' : Int) (s' : ByteArray) (W : World) :
    (Op.equalIn 10000 T (.agg ⟨[.int .i64 k, .int .i64 n, .string s]⟩) (.agg ⟨[.int .i64 k', .int .i64 n', .string s']⟩)).run P W = .ok ((k == k') && (n == n') && (s.toList == s'.toList)) W := by
  rw [run_equalIn_agg W 9999 T _ _ ht hp]
  obtain ⟨f0, r0, e0, m0, hr0⟩ := List.map_eq_cons_iff.1 hF
  obtain ⟨f1, r1, e1, m1, hr1⟩ := List.map_eq_cons_iff.1 hr0
  obtain ⟨f2, r2, e2, m2, hr2⟩ := List.map_eq_cons_iff.1 hr1
  have hr3 := List.map_eq_nil_iff.1 hr2
  subst hr3 e2 e1
  rw [e0]
  simp only [Prod.mk.injEq] at m0 m1 m2
  obtain ⟨a0, b0, c0⟩ := m0
  obtain ⟨a1, b1, c1⟩ := m1
  obtain ⟨a2, b2, c2⟩ := m2
  rw [run_eqFields_cons (x := .int .i64 k) (y := .int .i64 k') (b := k == k') (z := zi) (by rw [c0]; exact ui) a0 (by rw [b0]; rfl) (by rw [b0]; rfl) (by rw [c0]; exact run_equalIn_int W 9998 TI .i64 .i64 k k' (IntTy.out))]
  rw [run_eqFields_cons (x := .int .i64 n) (y := .int .i64 n') (b := n == n') (z := zn) (by rw [c1]; exact un) a1 (by rw [b1]; rfl) (by rw [b1]; rfl) (by rw [c1]; exact run_equalIn_int W 9998 TN .i64 .i64 n n' (IntTy.out))]
  rw [run_eqFields_cons (x := .string s) (y := .string s') (b := s.toList == s'.toList) (z := zs) (by rw [c2]; exact us) a2 (by rw [b2]; rfl) (by rw [b2]; rfl) (by rw [c2]; exact run_equalIn_string W 9998 TS s s' (StrTy.out))]
  simp only [Op.eqFields, Sem.run_pure]
  cases k == k' <;> cases n == n' <;> cases s.toList == s'.toList <;> rfl
end Go.Sx
namespace Go.Proofs.YtmalklakaalaoaaDoor.Sw
open Go.RowKit Go.Sx
def rawEq (k n : Int) (s : ByteArray) (k' n' : Int) (s' : ByteArray) : Bool := (k == k') && (n == n') && (s.toList == s'.toList)
theorem run_rawEqIn (k n : Int) (s : ByteArray) (k' n' : Int) (s' : ByteArray) (W : World) :
    (Op.equalIn 10000 36 (.agg ⟨[.int .i64 k, .int .i64 n, .string s]⟩) (.agg ⟨[.int .i64 k', .int .i64 n', .string s']⟩)).run Tryd.prog W = .ok (rawEq k n s k' n' s') W :=
  run_eq3 Tryd.underlying36 (by kernel_rfl) (by kernel_rfl : _ = [(true, 0, 3), (true, 1, 2), (true, 2, 9)]) k n s k' n' s' W
section
variable {ops : Array Oper} {rest : List Oper} {Q : Exit → Act → World → Prop} {a : Act} {n : Nat} {L : List (Nat × Value)} {W : World} {d : Nat} {T S' : TypeId} {p : String} {e : Array Edge} {x y : Operand} {k m k' m' : Int} {s s' : ByteArray}
theorem st_rawEql (hs : Slots a n L) (hx : ev L x = some (.agg ⟨[.int .i64 k, .int .i64 m, .string s]⟩) := by with_unfolding_all exact rfl) (hy : ev L y = some (.agg ⟨[.int .i64 k', .int .i64 m', .string s']⟩) := by with_unfolding_all exact rfl) (hd : Nat.blt d n = true := by with_unfolding_all exact rfl)
    (c : ∀ a', Slots a' n ((d, .bool (rawEq k m s k' m' s')) :: L) → wpList Tryd.prog ops Q rest a' W) : wpList Tryd.prog ops Q (⟨some d, .binOp .eql 36 x y S', T, p, e, none⟩ :: rest) a W :=
  st_value hs hd (by simp only [execOp, hs.ev hx, hs.ev hy, Sem.run_bind]; rw [run_eqGuard_agg W .eql 36 x y _ _ (by kernel_rfl)]; simp only [Result.andThen_ok]; rw [run_eql_struct, run_rawEqIn]; rfl) c
theorem st_rawNeq (hs : Slots a n L) (hx : ev L x = some (.agg ⟨[.int .i64 k, .int .i64 m, .string s]⟩) := by with_unfolding_all exact rfl) (hy : ev L y = some (.agg ⟨[.int .i64 k', .int .i64 m', .string s']⟩) := by with_unfolding_all exact rfl) (hd : Nat.blt d n = true := by with_unfolding_all exact rfl)
    (c : ∀ a', Slots a' n ((d, .bool (!rawEq k m s k' m' s')) :: L) → wpList Tryd.prog ops Q rest a' W) : wpList Tryd.prog ops Q (⟨some d, .binOp .neq 36 x y S', T, p, e, none⟩ :: rest) a W :=
  st_value hs hd (by simp only [execOp, hs.ev hx, hs.ev hy, Sem.run_bind]; rw [run_eqGuard_agg W .neq 36 x y _ _ (by kernel_rfl)]; simp only [Result.andThen_ok]; rw [run_neq_struct, run_rawEqIn]; rfl) c
end
theorem one_cellX (x : Option (Int ⊕ ByteArray)) : [vCell x].all (·.oneCell') = true := by rcases x with _ | n | s <;> rfl
theorem op_may (k n : Int) (s : ByteArray) (w : World) (hs0 : s.size ≤ 9223372036854775807) (hT : Tabs w) :
    Calls Tryd.prog 62 ⟨[.agg #[.int .i64 k, .int .i64 n, .string s]]⟩ w fun e w' => e = .returned (.bool ((ofRaw k n s).2 == 0)) ∧ Below w.heap.size w w' := by
  have hw := Has.start (G := 0) (w := w) (Nat.zero_le _)
  refine enter Tryd.func62 Tryd.ntmps62 rfl rfl fun a hs => ?_
  repeat (first | (refine sxv hs hw ?_; clear hs; intro a hs) | refine sxc hs ?_ | (refine sxa hs hw ?_; clear hs hw; intro a b W hw hs) | (refine sxs hs hw ?_; clear hs hw; intro W hs hw))
  refine st_call hs (hc := value_Of k n s _ hs0 (hT.keep (hw.end (by repeat (first | exact In.hd | apply In.tl))))) (k := ?_); rintro e0 W1 ⟨rfl, hb⟩; refine ⟨_, rfl, ?_⟩; clear hs; intro a hs; replace hw := hw.below hb; clear hb
  repeat (first | (refine sxv hs hw ?_; clear hs; intro a hs) | refine sxc hs ?_ | (refine sxa hs hw ?_; clear hs hw; intro a b W hw hs) | (refine sxs hs hw ?_; clear hs hw; intro W hs hw))
  refine st_store hs (hw := hw) (h1 := one_cellX (ofRaw k n s).1) (k := ?_); clear hs hw; intro W hs hw
  repeat (first | (refine sxv hs hw ?_; clear hs; intro a hs) | refine sxc hs ?_ | (refine sxa hs hw ?_; clear hs hw; intro a b W hw hs) | (refine sxs hs hw ?_; clear hs hw; intro W hs hw))
  exact rt1 hs rfl rfl ⟨rfl, hw.end (by repeat (first | exact In.hd | apply In.tl))⟩
def mayOp (kind : Int) (key : ByteArray) (vk vn : Int) (vs : ByteArray) (ok on : Int) (os : ByteArray) (n : Int) : Bool :=
  Ph.keyB key.data.toList && ((ofRaw vk vn vs).2 == 0) && ((ofRaw ok on os).2 == 0) &&
    (if kind = 1 then !rawEq vk vn vs 0 0 ⟨#[]⟩ && rawEq ok on os 0 0 ⟨#[]⟩ && (n == 0)
     else if kind = 2 then rawEq vk vn vs 0 0 ⟨#[]⟩ && rawEq ok on os 0 0 ⟨#[]⟩ && (n == 0)
     else if kind = 3 then (!rawEq vk vn vs 0 0 ⟨#[]⟩ || !rawEq ok on os 0 0 ⟨#[]⟩) && (n == 0)
     else if kind = 4 then rawEq vk vn vs 0 0 ⟨#[]⟩ && rawEq ok on os 0 0 ⟨#[]⟩ && decide (n ≥ -1099511627776) && decide (n ≤ 1099511627776)
     else false)
set_option maxHeartbeats 8000000 in
theorem op_May (kind : Int) (key : ByteArray) (vk vn : Int) (vs : ByteArray) (ok on : Int) (os : ByteArray) (n : Int) (w : World) (hs0 : key.size ≤ 9223372036854775807) (hs1 : vs.size ≤ 9223372036854775807) (hs2 : os.size ≤ 9223372036854775807) (hT : Tabs w) :
    Calls Tryd.prog 43 ⟨[.agg #[.int .i64 kind, .string key, .int .i64 vk, .int .i64 vn, .string vs, .int .i64 ok, .int .i64 on, .string os, .int .i64 n]]⟩ w fun e w' => e = .returned (.bool (mayOp kind key vk vn vs ok on os n)) ∧ Below w.heap.size w w' := by
  have hw := Has.start (G := 0) (w := w) (Nat.zero_le _)
  refine enter Tryd.func43 Tryd.ntmps43 rfl rfl fun a hs => ?_
  repeat (first | (refine sxv hs hw ?_; clear hs; intro a hs) | refine sxc hs ?_ | (refine sxa hs hw ?_; clear hs hw; intro a b W hw hs) | (refine sxs hs hw ?_; clear hs hw; intro W hs hw))
  refine st_call hs (hc := runes_Key key _ hs0 (hT.keep (hw.end (by repeat (first | exact In.hd | apply In.tl))))) (k := ?_); rintro e0 W1 ⟨rfl, hb⟩; refine ⟨_, rfl, ?_⟩; clear hs; intro a hs; replace hw := hw.below hb; clear hb
  cases h1 : (Ph.keyB key.data.toList) with
  | false =>
    rw [h1] at hs
    repeat (first | (refine sxv hs hw ?_; clear hs; intro a hs) | refine sxc hs ?_ | (refine sxa hs hw ?_; clear hs hw; intro a b W hw hs) | (refine sxs hs hw ?_; clear hs hw; intro W hs hw))
    exact rt1 hs rfl rfl ⟨by simp [mayOp, h1], hw.end (by repeat (first | exact In.hd | apply In.tl))⟩
  | true =>
    rw [h1] at hs
    repeat (first | (refine sxv hs hw ?_; clear hs; intro a hs) | refine sxc hs ?_ | (refine sxa hs hw ?_; clear hs hw; intro a b W hw hs) | (refine sxs hs hw ?_; clear hs hw; intro W hs hw))
    refine st_call hs (hc := op_may vk vn vs _ hs1 (hT.keep (hw.end (by repeat (first | exact In.hd | apply In.tl))))) (k := ?_); rintro e0 W1 ⟨rfl, hb⟩; refine ⟨_, rfl, ?_⟩; clear hs; intro a hs; replace hw := hw.below hb; clear hb
    cases h2 : ((ofRaw vk vn vs).2 == 0) with
    | false =>
      rw [h2] at hs
      repeat (first | (refine sxv hs hw ?_; clear hs; intro a hs) | refine sxc hs ?_ | (refine sxa hs hw ?_; clear hs hw; intro a b W hw hs) | (refine sxs hs hw ?_; clear hs hw; intro W hs hw))
      exact rt1 hs rfl rfl ⟨by simp [mayOp, h1, h2], hw.end (by repeat (first | exact In.hd | apply In.tl))⟩
    | true =>
      rw [h2] at hs
      repeat (first | (refine sxv hs hw ?_; clear hs; intro a hs) | refine sxc hs ?_ | (refine sxa hs hw ?_; clear hs hw; intro a b W hw hs) | (refine sxs hs hw ?_; clear hs hw; intro W hs hw))
      refine st_call hs (hc := op_may ok on os _ hs2 (hT.keep (hw.end (by repeat (first | exact In.hd | apply In.tl))))) (k := ?_); rintro e0 W1 ⟨rfl, hb⟩; refine ⟨_, rfl, ?_⟩; clear hs; intro a hs; replace hw := hw.below hb; clear hb
      cases h3 : ((ofRaw ok on os).2 == 0) with
      | false =>
        rw [h3] at hs
        repeat (first | (refine sxv hs hw ?_; clear hs; intro a hs) | refine sxc hs ?_ | (refine sxa hs hw ?_; clear hs hw; intro a b W hw hs) | (refine sxs hs hw ?_; clear hs hw; intro W hs hw))
        exact rt1 hs rfl rfl ⟨by simp [mayOp, h1, h2, h3], hw.end (by repeat (first | exact In.hd | apply In.tl))⟩
      | true =>
        rw [h3] at hs
        repeat (first | (refine sxv hs hw ?_; clear hs; intro a hs) | refine sxc hs ?_ | (refine sxa hs hw ?_; clear hs hw; intro a b W hw hs) | (refine sxs hs hw ?_; clear hs hw; intro W hs hw))
        by_cases k1 : kind = 1
        · subst k1
          repeat (first | (refine sxv hs hw ?_; clear hs; intro a hs) | refine sxc hs ?_ | (refine sxa hs hw ?_; clear hs hw; intro a b W hw hs) | (refine sxs hs hw ?_; clear hs hw; intro W hs hw))
          repeat (first | (refine sxv hs hw ?_; clear hs; intro a hs) | refine sxc hs ?_ | (refine sxa hs hw ?_; clear hs hw; intro a b W hw hs) | (refine sxs hs hw ?_; clear hs hw; intro W hs hw))
          refine st_rawNeq hs (c := ?_); clear hs; intro a hs
          cases h4 : (rawEq vk vn vs 0 0 ⟨#[]⟩) with
          | false =>
            rw [h4] at hs
            repeat (first | (refine sxv hs hw ?_; clear hs; intro a hs) | refine sxc hs ?_ | (refine sxa hs hw ?_; clear hs hw; intro a b W hw hs) | (refine sxs hs hw ?_; clear hs hw; intro W hs hw))
            refine st_rawEql hs (c := ?_); clear hs; intro a hs
            cases h5 : (rawEq ok on os 0 0 ⟨#[]⟩) with
            | false =>
              rw [h5] at hs
              repeat (first | (refine sxv hs hw ?_; clear hs; intro a hs) | refine sxc hs ?_ | (refine sxa hs hw ?_; clear hs hw; intro a b W hw hs) | (refine sxs hs hw ?_; clear hs hw; intro W hs hw))
              exact rt1 hs rfl rfl ⟨by simp [mayOp, h1, h2, h3, h4, h5], hw.end (by repeat (first | exact In.hd | apply In.tl))⟩
            | true =>
              rw [h5] at hs
              repeat (first | (refine sxv hs hw ?_; clear hs; intro a hs) | refine sxc hs ?_ | (refine sxa hs hw ?_; clear hs hw; intro a b W hw hs) | (refine sxs hs hw ?_; clear hs hw; intro W hs hw))
              exact rt1 hs rfl rfl ⟨by simp [mayOp, h1, h2, h3, h4, h5], hw.end (by repeat (first | exact In.hd | apply In.tl))⟩
          | true =>
            rw [h4] at hs
            repeat (first | (refine sxv hs hw ?_; clear hs; intro a hs) | refine sxc hs ?_ | (refine sxa hs hw ?_; clear hs hw; intro a b W hw hs) | (refine sxs hs hw ?_; clear hs hw; intro W hs hw))
            exact rt1 hs rfl rfl ⟨by simp [mayOp, h1, h2, h3, h4], hw.end (by repeat (first | exact In.hd | apply In.tl))⟩
        have e1 : (kind == 1) = false := by simpa using k1
        rw [e1] at hs
        repeat (first | (refine sxv hs hw ?_; clear hs; intro a hs) | refine sxc hs ?_ | (refine sxa hs hw ?_; clear hs hw; intro a b W hw hs) | (refine sxs hs hw ?_; clear hs hw; intro W hs hw))
        by_cases k2 : kind = 2
        · subst k2
          repeat (first | (refine sxv hs hw ?_; clear hs; intro a hs) | refine sxc hs ?_ | (refine sxa hs hw ?_; clear hs hw; intro a b W hw hs) | (refine sxs hs hw ?_; clear hs hw; intro W hs hw))
          repeat (first | (refine sxv hs hw ?_; clear hs; intro a hs) | refine sxc hs ?_ | (refine sxa hs hw ?_; clear hs hw; intro a b W hw hs) | (refine sxs hs hw ?_; clear hs hw; intro W hs hw))
          refine st_rawEql hs (c := ?_); clear hs; intro a hs
          cases h4 : (rawEq vk vn vs 0 0 ⟨#[]⟩) with
          | false =>
            rw [h4] at hs
            repeat (first | (refine sxv hs hw ?_; clear hs; intro a hs) | refine sxc hs ?_ | (refine sxa hs hw ?_; clear hs hw; intro a b W hw hs) | (refine sxs hs hw ?_; clear hs hw; intro W hs hw))
            exact rt1 hs rfl rfl ⟨by simp [mayOp, h1, h2, h3, h4], hw.end (by repeat (first | exact In.hd | apply In.tl))⟩
          | true =>
            rw [h4] at hs
            repeat (first | (refine sxv hs hw ?_; clear hs; intro a hs) | refine sxc hs ?_ | (refine sxa hs hw ?_; clear hs hw; intro a b W hw hs) | (refine sxs hs hw ?_; clear hs hw; intro W hs hw))
            refine st_rawEql hs (c := ?_); clear hs; intro a hs
            cases h5 : (rawEq ok on os 0 0 ⟨#[]⟩) with
            | false =>
              rw [h5] at hs
              repeat (first | (refine sxv hs hw ?_; clear hs; intro a hs) | refine sxc hs ?_ | (refine sxa hs hw ?_; clear hs hw; intro a b W hw hs) | (refine sxs hs hw ?_; clear hs hw; intro W hs hw))
              exact rt1 hs rfl rfl ⟨by simp [mayOp, h1, h2, h3, h4, h5], hw.end (by repeat (first | exact In.hd | apply In.tl))⟩
            | true =>
              rw [h5] at hs
              repeat (first | (refine sxv hs hw ?_; clear hs; intro a hs) | refine sxc hs ?_ | (refine sxa hs hw ?_; clear hs hw; intro a b W hw hs) | (refine sxs hs hw ?_; clear hs hw; intro W hs hw))
              exact rt1 hs rfl rfl ⟨by simp [mayOp, h1, h2, h3, h4, h5], hw.end (by repeat (first | exact In.hd | apply In.tl))⟩
        have e2 : (kind == 2) = false := by simpa using k2
        rw [e2] at hs
        repeat (first | (refine sxv hs hw ?_; clear hs; intro a hs) | refine sxc hs ?_ | (refine sxa hs hw ?_; clear hs hw; intro a b W hw hs) | (refine sxs hs hw ?_; clear hs hw; intro W hs hw))
        by_cases k3 : kind = 3
        · subst k3
          repeat (first | (refine sxv hs hw ?_; clear hs; intro a hs) | refine sxc hs ?_ | (refine sxa hs hw ?_; clear hs hw; intro a b W hw hs) | (refine sxs hs hw ?_; clear hs hw; intro W hs hw))
          repeat (first | (refine sxv hs hw ?_; clear hs; intro a hs) | refine sxc hs ?_ | (refine sxa hs hw ?_; clear hs hw; intro a b W hw hs) | (refine sxs hs hw ?_; clear hs hw; intro W hs hw))
          refine st_rawNeq hs (c := ?_); clear hs; intro a hs
          cases h4 : (rawEq vk vn vs 0 0 ⟨#[]⟩) with
          | false =>
            rw [h4] at hs
            repeat (first | (refine sxv hs hw ?_; clear hs; intro a hs) | refine sxc hs ?_ | (refine sxa hs hw ?_; clear hs hw; intro a b W hw hs) | (refine sxs hs hw ?_; clear hs hw; intro W hs hw))
            exact rt1 hs rfl rfl ⟨by simp [mayOp, h1, h2, h3, h4], hw.end (by repeat (first | exact In.hd | apply In.tl))⟩
          | true =>
            rw [h4] at hs
            repeat (first | (refine sxv hs hw ?_; clear hs; intro a hs) | refine sxc hs ?_ | (refine sxa hs hw ?_; clear hs hw; intro a b W hw hs) | (refine sxs hs hw ?_; clear hs hw; intro W hs hw))
            refine st_rawNeq hs (c := ?_); clear hs; intro a hs
            cases h5 : (rawEq ok on os 0 0 ⟨#[]⟩) with
            | false =>
              rw [h5] at hs
              repeat (first | (refine sxv hs hw ?_; clear hs; intro a hs) | refine sxc hs ?_ | (refine sxa hs hw ?_; clear hs hw; intro a b W hw hs) | (refine sxs hs hw ?_; clear hs hw; intro W hs hw))
              exact rt1 hs rfl rfl ⟨by simp [mayOp, h1, h2, h3, h4, h5], hw.end (by repeat (first | exact In.hd | apply In.tl))⟩
            | true =>
              rw [h5] at hs
              repeat (first | (refine sxv hs hw ?_; clear hs; intro a hs) | refine sxc hs ?_ | (refine sxa hs hw ?_; clear hs hw; intro a b W hw hs) | (refine sxs hs hw ?_; clear hs hw; intro W hs hw))
              exact rt1 hs rfl rfl ⟨by simp [mayOp, h1, h2, h3, h4, h5], hw.end (by repeat (first | exact In.hd | apply In.tl))⟩
        have e3 : (kind == 3) = false := by simpa using k3
        rw [e3] at hs
        repeat (first | (refine sxv hs hw ?_; clear hs; intro a hs) | refine sxc hs ?_ | (refine sxa hs hw ?_; clear hs hw; intro a b W hw hs) | (refine sxs hs hw ?_; clear hs hw; intro W hs hw))
        by_cases k4 : kind = 4
        · subst k4
          repeat (first | (refine sxv hs hw ?_; clear hs; intro a hs) | refine sxc hs ?_ | (refine sxa hs hw ?_; clear hs hw; intro a b W hw hs) | (refine sxs hs hw ?_; clear hs hw; intro W hs hw))
          repeat (first | (refine sxv hs hw ?_; clear hs; intro a hs) | refine sxc hs ?_ | (refine sxa hs hw ?_; clear hs hw; intro a b W hw hs) | (refine sxs hs hw ?_; clear hs hw; intro W hs hw))
          refine st_rawEql hs (c := ?_); clear hs; intro a hs
          cases h4 : (rawEq vk vn vs 0 0 ⟨#[]⟩) with
          | false =>
            rw [h4] at hs
            repeat (first | (refine sxv hs hw ?_; clear hs; intro a hs) | refine sxc hs ?_ | (refine sxa hs hw ?_; clear hs hw; intro a b W hw hs) | (refine sxs hs hw ?_; clear hs hw; intro W hs hw))
            exact rt1 hs rfl rfl ⟨by simp [mayOp, h1, h2, h3, h4], hw.end (by repeat (first | exact In.hd | apply In.tl))⟩
          | true =>
            rw [h4] at hs
            repeat (first | (refine sxv hs hw ?_; clear hs; intro a hs) | refine sxc hs ?_ | (refine sxa hs hw ?_; clear hs hw; intro a b W hw hs) | (refine sxs hs hw ?_; clear hs hw; intro W hs hw))
            refine st_rawEql hs (c := ?_); clear hs; intro a hs
            cases h5 : (rawEq ok on os 0 0 ⟨#[]⟩) with
            | false =>
              rw [h5] at hs
              repeat (first | (refine sxv hs hw ?_; clear hs; intro a hs) | refine sxc hs ?_ | (refine sxa hs hw ?_; clear hs hw; intro a b W hw hs) | (refine sxs hs hw ?_; clear hs hw; intro W hs hw))
              exact rt1 hs rfl rfl ⟨by simp [mayOp, h1, h2, h3, h4, h5], hw.end (by repeat (first | exact In.hd | apply In.tl))⟩
            | true =>
              rw [h5] at hs
              repeat (first | (refine sxv hs hw ?_; clear hs; intro a hs) | refine sxc hs ?_ | (refine sxa hs hw ?_; clear hs hw; intro a b W hw hs) | (refine sxs hs hw ?_; clear hs hw; intro W hs hw))
              cases h6 : (decide (n ≥ -1099511627776)) with
              | false =>
                rw [h6] at hs
                repeat (first | (refine sxv hs hw ?_; clear hs; intro a hs) | refine sxc hs ?_ | (refine sxa hs hw ?_; clear hs hw; intro a b W hw hs) | (refine sxs hs hw ?_; clear hs hw; intro W hs hw))
                exact rt1 hs rfl rfl ⟨by simp [mayOp, h1, h2, h3, h4, h5, h6], hw.end (by repeat (first | exact In.hd | apply In.tl))⟩
              | true =>
                rw [h6] at hs
                repeat (first | (refine sxv hs hw ?_; clear hs; intro a hs) | refine sxc hs ?_ | (refine sxa hs hw ?_; clear hs hw; intro a b W hw hs) | (refine sxs hs hw ?_; clear hs hw; intro W hs hw))
                exact rt1 hs rfl rfl ⟨by simp [mayOp, h1, h2, h3, h4, h5, h6], hw.end (by repeat (first | exact In.hd | apply In.tl))⟩
        have e4 : (kind == 4) = false := by simpa using k4
        rw [e4] at hs
        repeat (first | (refine sxv hs hw ?_; clear hs; intro a hs) | refine sxc hs ?_ | (refine sxa hs hw ?_; clear hs hw; intro a b W hw hs) | (refine sxs hs hw ?_; clear hs hw; intro W hs hw))
        repeat (first | (refine sxv hs hw ?_; clear hs; intro a hs) | refine sxc hs ?_ | (refine sxa hs hw ?_; clear hs hw; intro a b W hw hs) | (refine sxs hs hw ?_; clear hs hw; intro W hs hw))
        exact rt1 hs rfl rfl ⟨by simp [mayOp, h1, h2, h3, k1, k2, k3, k4], hw.end (by repeat (first | exact In.hd | apply In.tl))⟩
end Go.Proofs.YtmalklakaalaoaaDoor.Sw

namespace Ph
def putN : Nat → Nat → List UInt8
  | 0, _ => []
  | f + 1, u => if u < 128 then [u.toUInt8] else (u % 128 + 128).toUInt8 :: putN f (u / 128)
def putU (u : Nat) : List UInt8 := putN 10 u
def zig (n : Int) : Nat := if 0 ≤ n then (2 * n).toNat else (-2 * n - 1).toNat
def unzig (u : Nat) : Int := if u % 2 = 1 then -((u / 2 : Nat) : Int) - 1 else ((u / 2 : Nat) : Int)
def putI (n : Int) : List UInt8 := putU (zig n)
def getN : Nat → Nat → List UInt8 → Int × Nat × Int
  | _, _, [] => (0, 0, 2)
  | i, u, c :: t =>
    if i = 9 ∧ 1 < c.toNat then (0, 0, 1)
    else if 128 ≤ c.toNat then getN (i + 1) (u + c.toNat % 128 * 128 ^ i) t
    else if 0 < i ∧ c.toNat = 0 then (0, 0, 1)
    else (unzig (u + c.toNat % 128 * 128 ^ i), i + 1, 0)
def getI (l : List UInt8) : Int × Nat × Int := getN 0 0 l
def putT (s : List UInt8) : List UInt8 := putI s.length ++ s
def getT (l : List UInt8) : List UInt8 × Nat × Int :=
  let g := getI l
  if g.2.2 ≠ 0 then ([], 0, g.2.2)
  else if g.1 < 0 ∨ 1048576 < g.1 then ([], 0, 1)
  else if (l.length - g.2.1 : Nat) < g.1.toNat then ([], 0, 2)
  else ((l.drop g.2.1).take g.1.toNat, g.2.1 + g.1.toNat, 0)
theorem zig_lt {n : Int} (h0 : -9223372036854775808 ≤ n) (h1 : n ≤ 9223372036854775807) : zig n < 18446744073709551616 := by
  unfold zig; split <;> omega
theorem unzig_zig (n : Int) : unzig (zig n) = n := by
  unfold unzig zig; split <;> split <;> omega
theorem putN_length_le : ∀ f u, (putN f u).length ≤ f
  | 0, _ => by simp [putN]
  | f + 1, u => by
    simp only [putN]
    split
    · simp
    · have := putN_length_le f (u / 128)
      simp; omega
theorem putI_length_le (n : Int) : (putI n).length ≤ 10 := putN_length_le 10 _
theorem putI_ne_nil (n : Int) : putI n ≠ [] := by
  unfold putI putU
  simp only [putN]
  split <;> simp
end Ph

set_option linter.unusedVariables false
namespace Ph
theorem u8n (x : Nat) (h : x < 256) : (x.toUInt8).toNat = x := by simp; omega
theorem putN_last (f u : Nat) (h : u < 128) : putN (f + 1) u = [u.toUInt8] := by simp [putN, h]
theorem putN_more (f u : Nat) (h : ¬ u < 128) : putN (f + 1) u = (u % 128 + 128).toUInt8 :: putN f (u / 128) := by simp [putN, h]
theorem pow_step (i : Nat) : 128 ^ (i + 1) = 128 ^ i * 128 := Nat.pow_succ 128 i
theorem getN_putN : ∀ (f i a u : Nat) (t : List UInt8), u < 128 ^ f → i + f ≤ 10 → 1 ≤ f → (1 ≤ i → 1 ≤ u) → (i = 9 → u ≤ 1) → (∀ j, i + j = 9 → u / 128 ^ j ≤ 1) →
    getN i a (putN f u ++ t) = (unzig (a + u * 128 ^ i), i + (putN f u).length, 0)
  | 0, _, _, _, _, _, _, h, _, _, _ => by omega
  | f + 1, i, a, u, t, hu, hf, _, h1, h9, hj => by
    by_cases hl : u < 128
    · rw [putN_last f u hl]
      have hb := u8n u (by omega)
      simp only [List.cons_append, List.nil_append, getN, hb, List.length_cons, List.length_nil]
      rw [if_neg (by omega), if_neg (by omega), if_neg (by omega)]
      have : u % 128 = u := by omega
      rw [this]
    · rw [putN_more f u hl]
      have hb := u8n (u % 128 + 128) (by omega)
      have hne : i ≠ 9 := fun e => by have := h9 e; omega
      have hf1 : 1 ≤ f := by
        rcases Nat.eq_zero_or_pos f with h0 | h0
        · subst h0; simp at hu; omega
        · exact h0
      simp only [List.cons_append, getN, hb, List.length_cons]
      rw [if_neg (by omega), if_pos (by omega)]
      have hd : u / 128 < 128 ^ f := by
        rw [pow_step] at hu
        omega
      rw [getN_putN f (i + 1) _ (u / 128) t hd (by omega) hf1 (fun _ => by omega) (fun e => by
          have := hj 1 (by omega)
          simpa using this) (fun j e => by
          have := hj (j + 1) (by omega)
          rw [Nat.div_div_eq_div_mul, Nat.mul_comm]
          rw [pow_step] at this
          exact this)]
      have e1 : (u % 128 + 128) % 128 = u % 128 := by omega
      rw [e1, pow_step]
      congr 1
      · congr 1
        have : u / 128 * (128 ^ i * 128) = 128 * (u / 128) * 128 ^ i := by
          rw [Nat.mul_comm (128 ^ i) 128, ← Nat.mul_assoc, Nat.mul_comm (u / 128) 128]
        rw [this]
        have h2 : u = u % 128 + 128 * (u / 128) := by omega
        have h3 : u * 128 ^ i = (u % 128 + 128 * (u / 128)) * 128 ^ i := by rw [← h2]
        rw [h3, Nat.add_mul]
        omega
      · congr 1
        omega
theorem zig_small {n : Int} (h0 : -9223372036854775808 ≤ n) (h1 : n ≤ 9223372036854775807) : zig n < 128 ^ 10 ∧ ∀ j, 0 + j = 9 → zig n / 128 ^ j ≤ 1 := by
  have h := zig_lt h0 h1
  have e10 : (128 : Nat) ^ 10 = 1180591620717411303424 := by decide
  have e9 : (128 : Nat) ^ 9 = 9223372036854775808 := by decide
  refine ⟨by rw [e10]; omega, fun j hj => ?_⟩
  obtain rfl : j = 9 := by omega
  rw [e9]
  omega
theorem getI_putI (n : Int) (t : List UInt8) (h0 : -9223372036854775808 ≤ n) (h1 : n ≤ 9223372036854775807) : getI (putI n ++ t) = (n, (putI n).length, 0) := by
  obtain ⟨a, b⟩ := zig_small h0 h1
  unfold getI putI putU
  rw [getN_putN 10 0 0 (zig n) t a (by omega) (by omega) (fun h => by omega) (fun h => by omega) b]
  simp [unzig_zig]
theorem getT_putT (s t : List UInt8) (h : s.length ≤ 1048576) : getT (putT s ++ t) = (s, (putT s).length, 0) := by
  have g := getI_putI s.length (s ++ t) (by omega) (by omega)
  unfold putT getT
  rw [List.append_assoc, g]
  simp only [List.length_append]
  rw [if_neg (by omega), if_neg (by omega), if_neg (by simp)]
  simp
theorem getN_le : ∀ (l : List UInt8) (i u : Nat), (getN i u l).2.1 ≤ i + l.length ∧ ((getN i u l).2.2 = 0 ∨ (getN i u l).2.2 = 1 ∨ (getN i u l).2.2 = 2) ∧ ((getN i u l).2.2 ≠ 0 → (getN i u l).1 = 0 ∧ (getN i u l).2.1 = 0)
  | [], i, u => by simp [getN]
  | c :: t, i, u => by
    simp only [getN]
    split
    · simp
    · split
      · have := getN_le t (i + 1) (u + c.toNat % 128 * 128 ^ i)
        simp only [List.length_cons]
        exact ⟨by omega, this.2⟩
      · split
        · simp
        · simp
theorem getI_le (l : List UInt8) : (getI l).2.1 ≤ l.length := by
  have := (getN_le l 0 0).1
  unfold getI; omega
end Ph

set_option linter.unusedVariables false
namespace Ph
open Go
theorem xor_max (x : Nat) (h : x < 18446744073709551616) : bits .xor .u64 IntKind.u64.max (x : Int) = ((18446744073709551615 - x : Nat) : Int) := by
  show IntKind.u64.wrap ((BitVec.ofInt 64 IntKind.u64.max ^^^ BitVec.ofInt 64 (x : Int)).toNat : Int) = _
  have h1 : BitVec.ofInt 64 IntKind.u64.max = BitVec.allOnes 64 := by decide
  rw [h1, BitVec.allOnes_xor, BitVec.toNat_not, ofInt_u64 x h]
  rw [IntKind.wrap_u64]
  omega
theorem zig_neg (n : Int) (h0 : -9223372036854775808 ≤ n) (h1 : n < 0) : bits .xor .u64 IntKind.u64.max (IntKind.u64.wrap (IntKind.u64.wrap n * 2)) = (zig n : Int) := by
  have e : IntKind.u64.wrap (IntKind.u64.wrap n * 2) = (((2 * n + 18446744073709551616).toNat : Nat) : Int) := by
    rw [IntKind.wrap_u64, IntKind.wrap_u64]; omega
  rw [e, xor_max _ (by omega)]
  unfold zig
  rw [if_neg (by omega)]
  omega
theorem zig_pos (n : Int) (h0 : 0 ≤ n) : n * 2 = (zig n : Int) := by
  unfold zig
  rw [if_pos h0]; omega
set_option maxRecDepth 100000 in
theorem or128 : ∀ X : Fin 256, bits .or .u8 ((X.val : Nat) : Int) 128 = ((X.val % 128 + 128 : Nat) : Int) := by decide
set_option maxRecDepth 100000 in
theorem and127 : ∀ X : Fin 256, bits .and .u8 ((X.val : Nat) : Int) 127 = ((X.val % 128 : Nat) : Int) := by decide
theorem or128_at (x : Nat) (h : x < 256) : bits .or .u8 (x : Int) 128 = ((x % 128 + 128 : Nat) : Int) := or128 ⟨x, h⟩
theorem and127_at (x : Nat) (h : x < 256) : bits .and .u8 (x : Int) 127 = ((x % 128 : Nat) : Int) := and127 ⟨x, h⟩
theorem pow128 (k : Nat) : (128 : Nat) ^ k = 2 ^ (7 * k) := by
  rw [Nat.pow_mul]
theorem or_seven (x c k : Nat) (hx : x < 128 ^ k) (hc : c < 256) (hs : c % 128 * 128 ^ k < 18446744073709551616) (hk : k ≤ 9) :
    bits .or .u64 (x : Int) (IntKind.u64.wrap (IntKind.u64.wrap (bits .and .u8 (c : Int) 127) * 2 ^ (7 * k))) = ((x + c % 128 * 128 ^ k : Nat) : Int) := by
  have e1 : IntKind.u64.wrap (bits .and .u8 (c : Int) 127) = ((c % 128 : Nat) : Int) := by
    rw [and127_at c hc, IntKind.wrap_u64]; omega
  have e2 : ((c % 128 : Nat) : Int) * 2 ^ (7 * k) = ((c % 128 * 128 ^ k : Nat) : Int) := by
    rw [pow128]; simp
  have e3 : IntKind.u64.wrap (((c % 128 : Nat) : Int) * 2 ^ (7 * k)) = ((c % 128 * 128 ^ k : Nat) : Int) := by
    rw [e2, IntKind.wrap_u64]; omega
  have h9 : (128 : Nat) ^ k ≤ 128 ^ 9 := Nat.pow_le_pow_right (by omega) hk
  have e9 : (128 : Nat) ^ 9 = 9223372036854775808 := by decide
  rw [e1, e3, bits_or_u64_nat x _ (by omega) hs]
  congr 1
  rw [pow128] at hx ⊢
  rw [Nat.or_comm, Nat.mul_comm, ← Nat.two_pow_add_eq_or_of_lt hx]
  omega
theorem or_last (x c : Nat) (hx : x < 128 ^ 9) (hc : c ≤ 1) :
    bits .or .u64 (x : Int) (IntKind.u64.wrap (IntKind.u64.wrap (bits .and .u8 (c : Int) 127) * 9223372036854775808)) = ((x + c % 128 * 128 ^ 9 : Nat) : Int) := by
  have e9 : (128 : Nat) ^ 9 = 9223372036854775808 := by decide
  have h := or_seven x c 9 hx (by omega) (by rw [e9]; omega) (by omega)
  have e2 : (2 : Int) ^ (7 * 9) = 9223372036854775808 := by decide
  rw [e2] at h
  exact h
theorem sum_small (x c k : Nat) (hx : x < 128 ^ k) (hk : k ≤ 8) (hc : c < 256) : c % 128 * 128 ^ k < 18446744073709551616 ∧ x + c % 128 * 128 ^ k < 128 ^ (k + 1) := by
  have h8 : (128 : Nat) ^ k ≤ 128 ^ 8 := Nat.pow_le_pow_right (by omega) hk
  have e8 : (128 : Nat) ^ 8 = 72057594037927936 := by decide
  have h1 : c % 128 * 128 ^ k ≤ 127 * 128 ^ k := Nat.mul_le_mul_right _ (by omega)
  rw [Nat.pow_succ]
  omega
theorem unzig_even (y : Nat) (h : y % 2 = 0) : unzig y = ((y / 2 : Nat) : Int) := by unfold unzig; rw [if_neg (by omega)]
theorem unzig_odd (y : Nat) (h : y % 2 = 1) : unzig y = -1 - ((y / 2 : Nat) : Int) := by unfold unzig; rw [if_pos h]; omega
theorem getN_end (k x : Nat) : getN k x [] = (0, 0, 2) := rfl
theorem getN_big (k x : Nat) (c : UInt8) (t : List UInt8) (h : k = 9) (hc : 1 < c.toNat) : getN k x (c :: t) = (0, 0, 1) := by simp only [getN]; rw [if_pos ⟨h, hc⟩]
theorem getN_more (k x : Nat) (c : UInt8) (t : List UInt8) (h : k ≠ 9) (hc : 128 ≤ c.toNat) : getN k x (c :: t) = getN (k + 1) (x + c.toNat % 128 * 128 ^ k) t := by simp only [getN]; rw [if_neg (by omega), if_pos hc]
theorem getN_zero (k x : Nat) (c : UInt8) (t : List UInt8) (h : 0 < k) (hc : c.toNat = 0) : getN k x (c :: t) = (0, 0, 1) := by simp only [getN]; rw [if_neg (by omega), if_neg (by omega), if_pos ⟨h, hc⟩]
theorem getN_last (k x : Nat) (c : UInt8) (t : List UInt8) (h9 : ¬ (k = 9 ∧ 1 < c.toNat)) (hc : c.toNat < 128) (hz : ¬ (0 < k ∧ c.toNat = 0)) : getN k x (c :: t) = (unzig (x + c.toNat % 128 * 128 ^ k), k + 1, 0) := by simp only [getN]; rw [if_neg h9, if_neg (by omega), if_neg hz]
theorem putN_split (f u : Nat) (h : ¬ u < 128) (hu : u < 128 ^ f) : ∃ g, f = g + 1 ∧ 1 ≤ g ∧ u / 128 < 128 ^ g ∧ putN f u = (u % 128 + 128).toUInt8 :: putN g (u / 128) := by
  obtain ⟨g, rfl⟩ : ∃ g, f = g + 1 := by
    cases f with
    | zero => simp at hu; omega
    | succ g => exact ⟨g, rfl⟩
  refine ⟨g, rfl, ?_, ?_, putN_more g u h⟩
  · rcases Nat.eq_zero_or_pos g with h0 | h0
    · subst h0; simp at hu; omega
    · exact h0
  · rw [Nat.pow_succ] at hu; omega
end Ph

set_option linter.unusedVariables false
set_option maxRecDepth 10000
-- pieces
namespace Go.Proofs.YtmalklakaalaoaaDoor.Sw
open Go.RowKit Go.Sx
theorem u8w (x : Nat) (h : x < 128) : IntKind.u8.wrap (x : Int) = ((x.toUInt8).toNat : Int) := by
  rw [IntKind.wrap_u8, Ph.u8n x (by omega)]; omega
theorem u8o (x : Nat) : bits .or .u8 (IntKind.u8.wrap (x : Int)) 128 = (((x % 128 + 128).toUInt8).toNat : Int) := by
  have e : IntKind.u8.wrap (x : Int) = ((x % 256 : Nat) : Int) := by rw [IntKind.wrap_u8]; omega
  rw [e, Ph.or128_at _ (by omega), Ph.u8n _ (by omega)]; omega
structure PutS where
  v : Value
  acc : List UInt8
  f : Nat
  x : Nat
theorem shr7 (x : Nat) : (x : Int).fdiv (2 ^ 7) = ((x / 128 : Nat) : Int) := by
  rw [Int.fdiv_eq_ediv_of_nonneg _ (by decide)]; omega
set_option maxHeartbeats 4000000 in
theorem num_Put (w0 W : World) (v : Value) (l : List UInt8) (n : Int) (R : List Res) (h0 : -9223372036854775808 ≤ n) (h1 : n ≤ 9223372036854775807) (hl : l.length ≤ 1000000000) (hw : Has 0 w0 W (OwnB 5 v l :: R)) :
    Calls Tryd.prog 36 ⟨[v, .int .i64 n]⟩ W fun e W' => ∃ ad cap, e = .returned (.slice ad (l ++ Ph.putI n).length cap) ∧ Has 0 w0 W' (OwnB 5 (.slice ad (l ++ Ph.putI n).length cap) (l ++ Ph.putI n) :: R) := by
  refine enter Tryd.func36 Tryd.ntmps36 rfl rfl fun a hs => ?_
  have hz := (Ph.zig_small h0 h1).1
  repeat (first | (refine sxv hs hw ?_; clear hs; intro a hs) | refine sxc hs ?_ | (refine sxa hs hw ?_; clear hs hw; intro a b W hw hs) | (refine sxs hs hw ?_; clear hs hw; intro W hs hw))
  refine merge (M := fun a W => Slots a 28 [(0, v), (5, .int .u64 (Ph.zig n))] ∧ Has 0 w0 W (OwnB 5 v l :: R)) ?_ ?_
  · refine cd_split hs (kt := fun hc => ?_) (kf := fun hc => ?_)
    · have hn : n < 0 := by simpa using hc
      repeat (first | (refine sxv hs hw ?_; clear hs; intro a hs) | refine sxc hs ?_ | (refine sxa hs hw ?_; clear hs hw; intro a b W hw hs) | (refine sxs hs hw ?_; clear hs hw; intro W hs hw))
      exact ⟨hs.of ⟨rfl, int_eq (Ph.zig_neg n h0 hn), trivial⟩, hw⟩
    · have hn : 0 ≤ n := by simpa using hc
      repeat (first | (refine sxv hs hw ?_; clear hs; intro a hs) | refine sxc hs ?_ | (refine sxa hs hw ?_; clear hs hw; intro a b W hw hs) | (refine sxs hs hw ?_; clear hs hw; intro W hs hw))
      have e : IntKind.u64.wrap (IntKind.u64.wrap n * 2 ^ min 1 IntKind.u64.bits) = (Ph.zig n : Int) := by
        rw [← Ph.zig_pos n hn, IntKind.wrap_u64, IntKind.wrap_u64]
        show (n % 18446744073709551616 * 2 % 18446744073709551616 : Int) = _
        omega
      exact ⟨hs.of ⟨rfl, int_eq e, trivial⟩, hw⟩
  clear hs hw
  rintro a W ⟨hs, hw⟩
  repeat (first | (refine sxv hs hw ?_; clear hs; intro a hs) | refine sxc hs ?_ | (refine sxa hs hw ?_; clear hs hw; intro a b W hw hs) | (refine sxs hs hw ?_; clear hs hw; intro W hs hw))
  refine st_loop (σ := PutS) (fun s => [(0, s.v), (5, .int .u64 s.x)]) (fun s => OwnB 5 s.v s.acc :: R) (fun s => s.x < 128 ^ s.f ∧ 1 ≤ s.f ∧ s.f ≤ 10 ∧ s.acc.length + s.f ≤ l.length + 10 ∧ s.acc ++ Ph.putN s.f s.x = l ++ Ph.putI n) (fun s => s.x) ⟨v, l, 10, Ph.zig n⟩ ⟨hz, Nat.le_add_left 1 9, Nat.le_refl 10, by simp, rfl⟩ hs ⟨rfl, rfl, trivial⟩ hw ?_
  clear hs hw
  rintro ⟨v, acc, f, x⟩ a W ⟨hx, hf1, hf2, hal, he⟩ hs hw
  simp only at hx hf1 hf2 hal he hs hw
  repeat (first | (refine sxv hs hw ?_; clear hs; intro a hs) | refine sxc hs ?_ | (refine sxa hs hw ?_; clear hs hw; intro a b W hw hs) | (refine sxs hs hw ?_; clear hs hw; intro W hs hw))
  refine cd_split hs (kt := fun hc => ?_) (kf := fun hc => ?_)
  · have hx' : ¬ x < 128 := by simp at hc; omega
    obtain ⟨g, rfl, hg1, hxg, hpn⟩ := Ph.putN_split f x hx' hx
    repeat (first | (refine sxv hs hw ?_; clear hs; intro a hs) | refine sxc hs ?_ | (refine sxa hs hw ?_; clear hs hw; intro a b W hw hs) | (refine sxs hs hw ?_; clear hs hw; intro W hs hw))
    refine st_append_lit hs hw (k := acc.length) (h63 := by omega) (hb := by omega) (c := ?_)
    clear hs hw; intro a ad cap W hs hw
    repeat (first | (refine sxv hs hw ?_; clear hs; intro a hs) | refine sxc hs ?_ | (refine sxa hs hw ?_; clear hs hw; intro a b W hw hs) | (refine sxs hs hw ?_; clear hs hw; intro W hs hw))
    have hw' := hw.sub (List.Sublist.cons _ (List.Sublist.refl _))
    rw [own_app (l := acc) (m := [(x % 128 + 128).toUInt8]) (by simp) (by rw [bys_app]; exact congrArg (fun u => bys acc ++ [Value.int .u8 u]) (u8o x))] at hw'
    refine st_again ⟨_, acc ++ [(x % 128 + 128).toUInt8], g, x / 128⟩ hs hw' ⟨hxg, hg1, by show g ≤ 10; omega, by simp; omega, ?_⟩ (by show x / 128 < x; omega) ⟨rfl, int_eq (shr7 x), trivial⟩
    rw [← he, hpn]
    simp
  · have hx' : x < 128 := by simp at hc; omega
    obtain ⟨g, rfl⟩ : ∃ g, f = g + 1 := ⟨f - 1, by omega⟩
    repeat (first | (refine sxv hs hw ?_; clear hs; intro a hs) | refine sxc hs ?_ | (refine sxa hs hw ?_; clear hs hw; intro a b W hw hs) | (refine sxs hs hw ?_; clear hs hw; intro W hs hw))
    refine st_append_lit hs hw (k := acc.length) (h63 := by omega) (hb := by omega) (c := ?_)
    clear hs hw; intro a ad cap W hs hw
    repeat (first | (refine sxv hs hw ?_; clear hs; intro a hs) | refine sxc hs ?_ | (refine sxa hs hw ?_; clear hs hw; intro a b W hw hs) | (refine sxs hs hw ?_; clear hs hw; intro W hs hw))
    have hw' := hw.sub (List.Sublist.cons _ (List.Sublist.refl _))
    have e1 : acc ++ [x.toUInt8] = l ++ Ph.putI n := by rw [← he, Ph.putN_last g x hx']
    have e2 : (l ++ Ph.putI n).length = acc.length + 1 := by rw [← e1]; simp
    refine rt1 hs rfl rfl ⟨ad, cap, by rw [e2], ?_⟩
    rw [own_app (l := acc) (m := [x.toUInt8]) (by simp) (by rw [bys_app]; exact congrArg (fun u => bys acc ++ [Value.int .u8 u]) (u8w x hx'))] at hw'
    rw [e2, ← e1]
    exact hw'
theorem putT_eq (s : ByteArray) : Ph.putI (s.size : Int) ++ s.data.toList = Ph.putT s.data.toList := by
  unfold Ph.putT
  rw [show (s.data.toList.length : Int) = (s.size : Int) from by rw [Array.length_toList]; rfl]
theorem src_str {P : Program} {T : TypeId} [t : StrTy P T] (s : ByteArray) (W : World) : Src P 1 T (.string s) s.data.toList.length (bys s.data.toList) W := by
  have := src_string (P := P) (S := T) (W := W) s
  rwa [show s.size = s.data.toList.length from by rw [Array.length_toList]; rfl] at this
set_option maxHeartbeats 4000000 in
theorem num_PutText (w0 W : World) (v : Value) (l : List UInt8) (s : ByteArray) (R : List Res) (hs0 : s.size ≤ 1000000000) (hl : l.length ≤ 1000000000) (hw : Has 0 w0 W (OwnB 5 v l :: R)) :
    Calls Tryd.prog 35 ⟨[v, .string s]⟩ W fun e W' => ∃ ad cap, e = .returned (.slice ad (l ++ Ph.putT s.data.toList).length cap) ∧ Has 0 w0 W' (OwnB 5 (.slice ad (l ++ Ph.putT s.data.toList).length cap) (l ++ Ph.putT s.data.toList) :: R) := by
  have e := putT_eq s
  have hd : s.data.toList.length = s.size := by rw [Array.length_toList]; rfl
  have hp := Ph.putI_length_le (s.size : Int)
  refine enter Tryd.func35 Tryd.ntmps35 rfl rfl fun a hs => ?_
  repeat (first | (refine sxv hs hw ?_; clear hs; intro a hs) | refine sxc hs ?_ | (refine sxa hs hw ?_; clear hs hw; intro a b W hw hs) | (refine sxs hs hw ?_; clear hs hw; intro W hs hw))
  refine st_call hs (hc := num_Put w0 W v l s.size R (by omega) (by omega) hl hw) (k := ?_); rintro e0 W1 ⟨ad, cap, rfl, hw1⟩; refine ⟨_, rfl, ?_⟩; clear hs hw; intro a hs; have hw := hw1; clear hw1
  repeat (first | (refine sxv hs hw ?_; clear hs; intro a hs) | refine sxc hs ?_ | (refine sxa hs hw ?_; clear hs hw; intro a b W hw hs) | (refine sxs hs hw ?_; clear hs hw; intro W hs hw))
  refine st_append_b hs hw (l := l ++ Ph.putI (s.size : Int)) (m := s.data.toList) (hr := src_str s W1) (hb := by rw [List.length_append]; omega) (c := ?_)
  clear hs hw; intro a ad cap W hs hw
  repeat (first | (refine sxv hs hw ?_; clear hs; intro a hs) | refine sxc hs ?_ | (refine sxa hs hw ?_; clear hs hw; intro a b W hw hs) | (refine sxs hs hw ?_; clear hs hw; intro W hs hw))
  rw [List.append_assoc, e] at hs hw
  exact rt1 hs rfl rfl ⟨ad, cap, rfl, hw⟩
def putR (k n : Int) (s : ByteArray) : List UInt8 := Ph.putI k ++ (if k = 1 then Ph.putI n else if k = 2 then Ph.putT s.data.toList else [])
set_option maxHeartbeats 4000000 in
theorem value_Put (w0 W : World) (v : Value) (l : List UInt8) (k n : Int) (s : ByteArray) (R : List Res) (hk0 : -9223372036854775808 ≤ k) (hk1 : k ≤ 9223372036854775807) (h0 : -9223372036854775808 ≤ n) (h1 : n ≤ 9223372036854775807) (hs0 : s.size ≤ 1000000000) (hl : l.length ≤ 900000000) (hw : Has 0 w0 W (OwnB 5 v l :: R)) :
    Calls Tryd.prog 57 ⟨[v, .agg #[.int .i64 k, .int .i64 n, .string s]]⟩ W fun e W' => ∃ ad cap, e = .returned (.slice ad (l ++ putR k n s).length cap) ∧ Has 0 w0 W' (OwnB 5 (.slice ad (l ++ putR k n s).length cap) (l ++ putR k n s) :: R) := by
  have hpk := Ph.putI_length_le k
  refine enter Tryd.func57 Tryd.ntmps57 rfl rfl fun a hs => ?_
  repeat (first | (refine sxv hs hw ?_; clear hs; intro a hs) | refine sxc hs ?_ | (refine sxa hs hw ?_; clear hs hw; intro a b W hw hs) | (refine sxs hs hw ?_; clear hs hw; intro W hs hw))
  refine st_call hs (hc := num_Put w0 _ v l k _ hk0 hk1 (by omega) (hw.pick (by repeat (first | exact Pick.hd | apply Pick.tl)))) (k := ?_); rintro e0 W1 ⟨ad, cap, rfl, hw1⟩; refine ⟨_, rfl, ?_⟩; clear hs hw; intro a hs; have hw := hw1; clear hw1
  repeat (first | (refine sxv hs hw ?_; clear hs; intro a hs) | refine sxc hs ?_ | (refine sxa hs hw ?_; clear hs hw; intro a b W hw hs) | (refine sxs hs hw ?_; clear hs hw; intro W hs hw))
  refine cd_split hs (kt := fun hc => ?_) (kf := fun hc => ?_)
  · have hk : k = 1 := by simpa using hc
    subst hk
    repeat (first | (refine sxv hs hw ?_; clear hs; intro a hs) | refine sxc hs ?_ | (refine sxa hs hw ?_; clear hs hw; intro a b W hw hs) | (refine sxs hs hw ?_; clear hs hw; intro W hs hw))
    refine st_call hs (hc := num_Put w0 _ _ (l ++ Ph.putI 1) n _ h0 h1 (by rw [List.length_append]; omega) (hw.pick (by repeat (first | exact Pick.hd | apply Pick.tl)))) (k := ?_); rintro e0 W1 ⟨ad, cap, rfl, hw1⟩; refine ⟨_, rfl, ?_⟩; clear hs hw; intro a hs; have hw := hw1; clear hw1
    repeat (first | (refine sxv hs hw ?_; clear hs; intro a hs) | refine sxc hs ?_ | (refine sxa hs hw ?_; clear hs hw; intro a b W hw hs) | (refine sxs hs hw ?_; clear hs hw; intro W hs hw))
    have e : l ++ putR 1 n s = l ++ Ph.putI 1 ++ Ph.putI n := by rw [List.append_assoc]; rfl
    rw [← e] at hs hw
    exact rt1 hs rfl rfl ⟨ad, cap, rfl, (hw.pick (by repeat (first | exact Pick.hd | apply Pick.tl))).sub (by repeat (first | exact List.Sublist.refl _ | apply List.Sublist.cons_cons | apply List.Sublist.cons))⟩
  · have hk : ¬ k = 1 := by simpa using hc
    repeat (first | (refine sxv hs hw ?_; clear hs; intro a hs) | refine sxc hs ?_ | (refine sxa hs hw ?_; clear hs hw; intro a b W hw hs) | (refine sxs hs hw ?_; clear hs hw; intro W hs hw))
    refine cd_split hs (kt := fun hc => ?_) (kf := fun hc => ?_)
    · have hk2 : k = 2 := by simpa using hc
      subst hk2
      repeat (first | (refine sxv hs hw ?_; clear hs; intro a hs) | refine sxc hs ?_ | (refine sxa hs hw ?_; clear hs hw; intro a b W hw hs) | (refine sxs hs hw ?_; clear hs hw; intro W hs hw))
      refine st_call hs (hc := num_PutText w0 _ _ (l ++ Ph.putI 2) s _ hs0 (by rw [List.length_append]; omega) (hw.pick (by repeat (first | exact Pick.hd | apply Pick.tl)))) (k := ?_); rintro e0 W1 ⟨ad, cap, rfl, hw1⟩; refine ⟨_, rfl, ?_⟩; clear hs hw; intro a hs; have hw := hw1; clear hw1
      repeat (first | (refine sxv hs hw ?_; clear hs; intro a hs) | refine sxc hs ?_ | (refine sxa hs hw ?_; clear hs hw; intro a b W hw hs) | (refine sxs hs hw ?_; clear hs hw; intro W hs hw))
      have e : l ++ putR 2 n s = l ++ Ph.putI 2 ++ Ph.putT s.data.toList := by rw [List.append_assoc]; rfl
      rw [← e] at hs hw
      exact rt1 hs rfl rfl ⟨ad, cap, rfl, (hw.pick (by repeat (first | exact Pick.hd | apply Pick.tl))).sub (by repeat (first | exact List.Sublist.refl _ | apply List.Sublist.cons_cons | apply List.Sublist.cons))⟩
    · have hk2 : ¬ k = 2 := by simpa using hc
      repeat (first | (refine sxv hs hw ?_; clear hs; intro a hs) | refine sxc hs ?_ | (refine sxa hs hw ?_; clear hs hw; intro a b W hw hs) | (refine sxs hs hw ?_; clear hs hw; intro W hs hw))
      have e : l ++ putR k n s = l ++ Ph.putI k := by unfold putR; rw [if_neg hk, if_neg hk2, List.append_nil]
      rw [← e] at hs hw
      exact rt1 hs rfl rfl ⟨ad, cap, rfl, (hw.pick (by repeat (first | exact Pick.hd | apply Pick.tl))).sub (by repeat (first | exact List.Sublist.refl _ | apply List.Sublist.cons_cons | apply List.Sublist.cons))⟩
end Go.Proofs.YtmalklakaalaoaaDoor.Sw
