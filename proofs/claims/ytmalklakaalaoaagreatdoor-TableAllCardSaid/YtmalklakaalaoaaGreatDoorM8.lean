/-
  Texts of the proof, one behind the other (part 8).
-/
import Derived.Test.YtmalklakaalaoaaGreatDoorM7
import Derived.Laws.Small
set_option linter.unusedVariables false
set_option maxRecDepth 10000
namespace Go.Proofs.YtmalklakaalaoaaGreatDoor.Sw
open Go.RowKit Go.Sx
-- pieces
theorem op_DecodeR (b : List UInt8) (c q : Int) (l : List OpD) (err : Int) (h : decR b = ((c, q, l), err)) (sv : Value) (w : World) (hb : b.length ≤ 1000000) (r : RdB w sv b) (hT : Tabs w) :
    Calls Tryz.prog 54 ⟨[sv]⟩ w fun e w' => ∃ ad cap, e = .returned (.tuple #[.agg ⟨[.int .i64 c, .int .i64 q, .slice ad l.length cap]⟩, .int .i64 err]) ∧ Has 0 w w' (Sx.Own 95 9 (.slice ad l.length cap) l.length (l.flatMap opCells) :: Old w 0 :: []) := by
  have := op_Decode b sv w hb r hT
  rw [h] at this
  exact this
end Go.Proofs.YtmalklakaalaoaaGreatDoor.Sw

set_option linter.unusedVariables false
namespace Go.Sx
open Go.RowKit
section
variable {P : Program} {ops : Array Oper} {rest : List Oper} {Q : Exit → Act → World → Prop} {a : Act} {n G : Nat} {L : List (Nat × Value)} {w W W' : World} {R : List Res} {d : Nat} {T S E : TypeId} {p : String} {e : Array Edge} {x y lo hi : Operand} {v : Value} {xs cs : List Value} {k sz : Nat} {i j : Int} {q q' : IntKind} {z : List Value} {H : Fh}
theorem st_min {ts : Array TypeId} (hs : Slots a n L) (hx : ev L x = some (.int q i) := by with_unfolding_all exact rfl) (hy : ev L y = some (.int q' j) := by with_unfolding_all exact rfl) (hd : Nat.blt d n = true := by with_unfolding_all exact rfl)
    (k : ∀ a', Slots a' n ((d, .int q (if j < i then j else i)) :: L) → wpList P ops Q rest a' W) : wpList P ops Q (⟨some d, .call { callee := .builtin .min, args := #[x, y], argTypes := ts }, T, p, e, none⟩ :: rest) a W :=
  st_value hs hd (by simp only [execOp, resolve, invoke, builtin, List.map_toArray, List.map_cons, List.map_nil, hs.ev hx, hs.ev hy, Sem.run_bind, Sem.run_pure, Result.andThen_ok, run_min_int2]) k
theorem Has.freeze_lit {b m : Nat} (h : Has G w W (Cells b cs E :: Fz H :: R)) (hl : cs.length = m * sz) (hm : m ≤ 9223372036854775807) : ∃ H', H.le H' ∧ Has G w W (Fz H' :: R) ∧ RdH H' sz (.slice (some ⟨b, 0, none⟩) m m) m cs := by
  obtain ⟨H', h1, h2, F, ⟨hF, hb⟩, h4⟩ := h.freeze (R' := [])
  exact ⟨H', h1, h2, hl, some ⟨b, 0, none⟩, m, rfl, Nat.le_refl _, hm, .inr ⟨b, 0, ⟨cs⟩, E, (0, 0), rfl, h4 b _ hF hb, fun j x hx => by simpa using hx⟩⟩
end
end Go.Sx

set_option linter.unusedVariables false
set_option maxRecDepth 10000
namespace Go.Sx
open Go.RowKit
def CellsM (b : Nat) (cs : List Value) (T : TypeId) : Res where
  ok F W := F b ∧ W.heap[b]? = some (.cells ⟨cs⟩ T (cs.length, cs.length + 1))
  loc F W W' h := fun ⟨h1, h2⟩ => ⟨h1, (h b h1).trans h2⟩
section
variable {P : Program} {ops : Array Oper} {rest : List Oper} {Q : Exit → Act → World → Prop} {a : Act} {n G : Nat} {L : List (Nat × Value)} {w W W' : World} {R R' : List Res} {d b : Nat} {T S S' E : TypeId} {p : String} {e : Array Edge} {x y : Operand} {v : Value} {cs cs' : List Value} {s : ByteArray} {l : List UInt8}
theorem Has.blockM {R0 : List Res} (h : Has G w W R0) (i : In (CellsM b cs E) R0) : W.heap[b]? = some (.cells ⟨cs⟩ E (cs.length, cs.length + 1)) ∧ G ≤ b ∧ b < W.heap.size := by
  obtain ⟨F, h1, h2⟩ := h.of_in i
  exact ⟨h2.2, h1 b h2.1⟩
theorem cell_m {fr : Nat × Nat} (h : W.heap[b]? = some (.cells ⟨cs⟩ E fr)) (j : Nat) : W.cell? ⟨b, j, none⟩ = cs[j]? := by
  unfold World.cell?
  rw [h]
  simp
theorem st_bytes [t : StrTy P S] [sl : Sl P S' E] [u : IntTy P E .u8] (hs : Slots a n L) (hw : Has G w W R) (hl : s.size ≤ 1000000000) (hx : ev L x = some (.string s) := by with_unfolding_all exact rfl) (hd : Nat.blt d n = true := by with_unfolding_all exact rfl)
    (c : ∀ a' b cap ext W', Has G w W' (CellsM b (bys s.data.toList ++ ext) E :: R) → RdB W' (.slice (some ⟨b, 0, none⟩) s.data.toList.length cap) s.data.toList → Slots a' n ((d, .slice (some ⟨b, 0, none⟩) s.data.toList.length cap) :: L) → wpList P ops Q rest a' W') : wpList P ops Q (⟨some d, .convert S S' x, T, p, e, none⟩ :: rest) a W := by
  have hr := run_bytes_of_string W S S' E s t.out sl.out u.out
  have hge : s.size ≤ grownCap W s.size 0 E := grownCap_ge W s.size 0 E
  have hcm : grownCap W s.size 0 E ≤ maxLen := grownCap_le_maxLen W s.size 0 E (by unfold maxLen; omega)
  generalize grownCap W s.size 0 E = cap at *
  have hsz : s.data.toList.length = s.size := by rw [Array.length_toList]; rfl
  have hrow : bytesRow s cap = ⟨bys s.data.toList ++ List.replicate (cap - s.size) (Value.int .u8 0)⟩ := by
    unfold bytesRow bys
    apply Array.toList_inj.1
    simp
  rw [hrow] at hr
  have hnew := heap_alloc_new W.drew (.cells ⟨bys s.data.toList ++ List.replicate (cap - s.size) (Value.int .u8 0)⟩ E ((bys s.data.toList ++ List.replicate (cap - s.size) (Value.int .u8 0)).length, (bys s.data.toList ++ List.replicate (cap - s.size) (Value.int .u8 0)).length + 1))
  refine st_value hs hd (v := .slice (some ⟨W.heap.size, 0, none⟩) s.data.toList.length cap) (W' := W.drew.alloc (.cells ⟨bys s.data.toList ++ List.replicate (cap - s.size) (Value.int .u8 0)⟩ E ((bys s.data.toList ++ List.replicate (cap - s.size) (Value.int .u8 0)).length, (bys s.data.toList ++ List.replicate (cap - s.size) (Value.int .u8 0)).length + 1))) ?_ fun a' hs' => c a' W.heap.size cap (List.replicate (cap - s.size) (Value.int .u8 0)) _ ((hw.below (Below.refl _ _).drew).newObj ⟨rfl, hnew⟩) ?_ hs'
  · simp only [execOp, hs.ev hx, Sem.run_bind, hr, Result.andThen_ok, hsz]
    rfl
  · refine ⟨by simp, some ⟨W.heap.size, 0, none⟩, cap, rfl, by omega, by unfold maxLen at hcm; omega, .inr ⟨W.heap.size, 0, rfl, lt_of_block hnew, fun j u hj => ?_⟩⟩
    have hnew' : (W.drew.alloc (.cells ⟨bys s.data.toList ++ List.replicate (cap - s.size) (Value.int .u8 0)⟩ E ((bys s.data.toList ++ List.replicate (cap - s.size) (Value.int .u8 0)).length, (bys s.data.toList ++ List.replicate (cap - s.size) (Value.int .u8 0)).length + 1))).heap[W.heap.size]? = _ := hnew
    rw [cell_m hnew', Nat.zero_add]
    have hj2 := (List.getElem?_eq_some_iff.1 hj).1
    rw [List.getElem?_append_left hj2]; exact hj
end
end Go.Sx

set_option linter.unusedVariables false
set_option maxRecDepth 10000
namespace Go.Proofs.YtmalklakaalaoaaGreatDoor.Sw
open Go.RowKit Go.Sx
def TabAt (H : Fh) (p : Nat) (t : TabD) : Res := Ex fun x : Nat × Value × List Value => Cells p [.int .i64 t.ix, .pointer (some ⟨x.1, 0, none⟩), x.2.1] 105 :: FoldAt H x.1 t.f :: Sx.Own 39 5 x.2.1 t.rows.length x.2.2 :: Fact (Ch (RowIn H) t.rows x.2.2) :: []
section
variable {G p pf : Nat} {w W : World} {R : List Res} {t : TabD} {H H' : Fh} {v : Value} {xs : List Value}
theorem tabShut (h : Has G w W (Cells p [.int .i64 t.ix, .pointer (some ⟨pf, 0, none⟩), v] 105 :: FoldAt H pf t.f :: Sx.Own 39 5 v t.rows.length xs :: R)) (hc : Ch (RowIn H) t.rows xs) : Has G w W (TabAt H p t :: R) :=
  Has.shut (pf, v, xs) ((h.fact hc).perm (by repeat (first | exact List.Perm.refl _ | refine perm_pick (by repeat (first | exact Pick.hd | apply Pick.tl)) ?_)))
theorem tabOpen (h : Has G w W (TabAt H p t :: R)) : ∃ pf vad vcap xs, Ch (RowIn H) t.rows xs ∧ Has G w W (Cells p [.int .i64 t.ix, .pointer (some ⟨pf, 0, none⟩), .slice vad t.rows.length vcap] 105 :: FoldAt H pf t.f :: Sx.Own 39 5 (.slice vad t.rows.length vcap) t.rows.length xs :: R) := by
  obtain ⟨⟨pf, v, xs⟩, h⟩ := Has.open h
  have h : Has G w W (Cells p [.int .i64 t.ix, .pointer (some ⟨pf, 0, none⟩), v] 105 :: FoldAt H pf t.f :: Sx.Own 39 5 v t.rows.length xs :: Fact (Ch (RowIn H) t.rows xs) :: R) := h
  have hf := h.told (In.tl (In.tl (In.tl In.hd)))
  have h : Has G w W (Cells p [.int .i64 t.ix, .pointer (some ⟨pf, 0, none⟩), v] 105 :: FoldAt H pf t.f :: Sx.Own 39 5 v t.rows.length xs :: R) := h.sub (List.Sublist.cons_cons _ (List.Sublist.cons_cons _ (List.Sublist.cons_cons _ (List.Sublist.cons _ (List.Sublist.refl _)))))
  have h2 : Has G w W (Sx.Own 39 5 v t.rows.length xs :: Cells p [.int .i64 t.ix, .pointer (some ⟨pf, 0, none⟩), v] 105 :: FoldAt H pf t.f :: R) := h.perm (by repeat (first | exact List.Perm.refl _ | refine perm_pick (by repeat (first | exact Pick.hd | apply Pick.tl)) ?_))
  obtain ⟨ad, cap, rfl⟩ := h2.own_slice
  exact ⟨pf, ad, cap, xs, hf, h⟩
theorem tabLe (h : Has G w W (TabAt H p t :: R)) (hl : H.le H') : Has G w W (TabAt H' p t :: R) := by
  obtain ⟨pf, ad, cap, xs, h1, h2⟩ := tabOpen h
  exact tabShut (foldLe h2.swap2 hl).swap2 (h1.mono (RowIn.le hl))
end
def emptyT : TabD := ⟨0, emptyF, []⟩
set_option maxHeartbeats 4000000 in
theorem table_New (w0 W : World) (H : Fh) (R : List Res) (hw : Has 0 w0 W R) :
    Calls Tryz.prog 20 ⟨[]⟩ W fun e W' => ∃ p, e = .returned (.pointer (some ⟨p, 0, none⟩)) ∧ Has 0 w0 W' (TabAt H p emptyT :: R) := by
  refine enter Tryz.func20 Tryz.ntmps20 rfl rfl fun a hs => ?_
  repeat (first | (refine sxv hs hw ?_; clear hs; intro a hs) | refine sxc hs ?_ | (refine sxa hs hw ?_; clear hs hw; intro a b W hw hs) | (refine sxs hs hw ?_; clear hs hw; intro W hs hw))
  refine st_call hs (hc := fold_New w0 _ H _ hw) (k := ?_); rintro e0 W1 ⟨c, rfl, hw1⟩; refine ⟨_, rfl, ?_⟩; clear hs hw; intro a hs; have hw := hw1; clear hw1
  repeat (first | (refine sxv hs hw ?_; clear hs; intro a hs) | refine sxc hs ?_ | (refine sxa hs hw ?_; clear hs hw; intro a b W hw hs) | (refine sxs hs hw ?_; clear hs hw; intro W hs hw))
  refine rt1 hs rfl rfl ⟨_, rfl, ?_⟩
  have hw := hw.nilOwn 39 5
  exact tabShut (t := emptyT) (xs := []) (hw.perm (by repeat (first | exact List.Perm.refl _ | refine perm_pick (by repeat (first | exact Pick.hd | apply Pick.tl)) ?_))) rfl
set_option maxHeartbeats 4000000 in
theorem table_own (w0 W : World) (H : Fh) (r : RowD) (sv : Value) (R : List Res) (hl : r.b.l.length ≤ 1000) (hr : OpsH H sv r.b.l) (hw : Has 0 w0 W (Fz H :: R)) :
    Calls Tryz.prog 55 ⟨[.agg ⟨rowCells r sv⟩]⟩ W fun e W' => ∃ sv' H', e = .returned (.agg ⟨rowCells r sv'⟩) ∧ H.le H' ∧ OpsH H' sv' r.b.l ∧ Has 0 w0 W' (Fz H' :: R) := by
  obtain ⟨sad, scap, rfl⟩ := hr.slice
  refine enter Tryz.func55 Tryz.ntmps55 rfl rfl fun a hs => ?_
  repeat (first | (refine sxv hs hw ?_; clear hs; intro a hs) | refine sxc hs ?_ | (refine sxa hs hw ?_; clear hs hw; intro a b W hw hs) | (refine sxs hs hw ?_; clear hs hw; intro W hs hw))
  obtain ⟨b2, q2⟩ := nm1 hw; subst q2
  obtain ⟨b1, q1⟩ := nm2 hw; subst q1
  have hw : Has 0 w0 _ (Fz H :: Cells b2 [.int .i64 0, .int .i64 0, .int .i64 0, .slice none 0 0, .int .i64 0] 39 :: Cells b1 (rowCells r (.slice sad r.b.l.length scap)) 39 :: R) := hw.perm (by repeat (first | exact List.Perm.refl _ | refine perm_pick (by repeat (first | exact Pick.hd | apply Pick.tl)) ?_))
  refine st_call hs (hc := clone_ops w0 _ H r.b.l _ _ hl hr hw) (k := ?_); rintro e0 W1 ⟨sv', H', rfl, h1, h2, hw1⟩; refine ⟨_, rfl, ?_⟩; clear hs hw; intro a hs; have hw := hw1; clear hw1
  obtain ⟨tad, tcap, rfl⟩ := h2.slice
  repeat (first | (refine sxv hs hw ?_; clear hs; intro a hs) | refine sxc hs ?_ | (refine sxa hs hw ?_; clear hs hw; intro a b W hw hs) | (refine sxs hs hw ?_; clear hs hw; intro W hs hw))
  refine rc1 hs rfl rfl hw (In.tl In.hd) rfl ?_
  exact ⟨_, H', rfl, h1, h2, hw.drop2.drop2⟩
set_option maxHeartbeats 4000000 in
theorem table_Index (w0 W : World) (H : Fh) (p : Nat) (t : TabD) (R : List Res) (hw : Has 0 w0 W (TabAt H p t :: R)) :
    Calls Tryz.prog 30 ⟨[.pointer (some ⟨p, 0, none⟩)]⟩ W fun e W' => e = .returned (.int .i64 t.ix) ∧ Has 0 w0 W' (TabAt H p t :: R) := by
  obtain ⟨pf, ad, cap, xs, hc, hw⟩ := tabOpen hw
  refine enter Tryz.func30 Tryz.ntmps30 rfl rfl fun a hs => ?_
  repeat (first | (refine sxv hs hw ?_; clear hs; intro a hs) | refine sxc hs ?_ | (refine sxa hs hw ?_; clear hs hw; intro a b W hw hs) | (refine sxs hs hw ?_; clear hs hw; intro W hs hw) | ((with_reducible first | refine st_ptrSome hs (k := ?_) | refine st_ptrNone hs (k := ?_)); clear hs; intro a hs))
  exact rt1 hs rfl rfl ⟨rfl, tabShut hw hc⟩
set_option maxHeartbeats 4000000 in
theorem table_Fold (w0 W : World) (H : Fh) (p : Nat) (t : TabD) (R : List Res) (hw : Has 0 w0 W (TabAt H p t :: R)) :
    Calls Tryz.prog 31 ⟨[.pointer (some ⟨p, 0, none⟩)]⟩ W fun e W' => ∃ q, e = .returned (.pointer (some ⟨q, 0, none⟩)) ∧ Has 0 w0 W' (FoldAt H q t.f :: TabAt H p t :: R) := by
  obtain ⟨pf, ad, cap, xs, hc, hw⟩ := tabOpen hw
  refine enter Tryz.func31 Tryz.ntmps31 rfl rfl fun a hs => ?_
  repeat (first | (refine sxv hs hw ?_; clear hs; intro a hs) | refine sxc hs ?_ | (refine sxa hs hw ?_; clear hs hw; intro a b W hw hs) | (refine sxs hs hw ?_; clear hs hw; intro W hs hw) | ((with_reducible first | refine st_ptrSome hs (k := ?_) | refine st_ptrNone hs (k := ?_)); clear hs; intro a hs))
  refine st_call hs (hc := fold_Copy w0 _ H pf t.f _ hw.swap2) (k := ?_); rintro e0 W1 ⟨q, rfl, hw1⟩; refine ⟨_, rfl, ?_⟩; clear hs hw; intro a hs; have hw := hw1; clear hw1
  repeat (first | (refine sxv hs hw ?_; clear hs; intro a hs) | refine sxc hs ?_ | (refine sxa hs hw ?_; clear hs hw; intro a b W hw hs) | (refine sxs hs hw ?_; clear hs hw; intro W hs hw))
  have hw : Has 0 w0 _ (Cells p [.int .i64 t.ix, .pointer (some ⟨pf, 0, none⟩), .slice ad t.rows.length cap] 105 :: FoldAt H pf t.f :: Sx.Own 39 5 (.slice ad t.rows.length cap) t.rows.length xs :: FoldAt H q t.f :: R) := hw.perm (by repeat (first | exact List.Perm.refl _ | refine perm_pick (by repeat (first | exact Pick.hd | apply Pick.tl)) ?_))
  exact rt1 hs rfl rfl ⟨q, rfl, (tabShut hw hc).swap2⟩
set_option maxHeartbeats 16000000 in
theorem table_Apply (w0 W : World) (H : Fh) (p : Nat) (t : TabD) (e : EntD) (R : List Res) (hl : t.rows.length ≤ 1000000) (hd : e.data.size ≤ 1000000) (hH : (fr w0).le H) (hT : Tabs w0) (hw : Has 0 w0 W (TabAt H p t :: Fz H :: R)) :
    Calls Tryz.prog 25 ⟨[.pointer (some ⟨p, 0, none⟩), .agg ⟨entCells e⟩]⟩ W fun x W' => ∃ sv' H', x = .returned (.tuple ⟨[.agg ⟨rowCells (applyT t e).2.1 sv'⟩, .bool (applyT t e).2.2]⟩) ∧ H.le H' ∧ OpsH H' sv' (applyT t e).2.1.b.l ∧ Has 0 w0 W' (TabAt H' p (applyT t e).1 :: Fz H' :: R) := by
  obtain ⟨pf, vad, vcap, xs, hch, hw⟩ := tabOpen hw
  refine enter Tryz.func25 Tryz.ntmps25 rfl rfl fun a hs => ?_
  repeat (first | (refine sxv hs hw ?_; clear hs; intro a hs) | refine sxc hs ?_ | (refine sxa hs hw ?_; clear hs hw; intro a b W hw hs) | (refine sxs hs hw ?_; clear hs hw; intro W hs hw))
  obtain ⟨b4, q4⟩ := nm1 hw; subst q4
  obtain ⟨b3, q3⟩ := nm2 hw; subst q3
  have hw : Has 0 w0 _ (Cells p [.int .i64 t.ix, .pointer (some ⟨pf, 0, none⟩), .slice vad t.rows.length vcap] 105 :: FoldAt H pf t.f :: Sx.Own 39 5 (.slice vad t.rows.length vcap) t.rows.length xs :: Cells b4 zrc 39 :: Cells b3 (entCells e) 64 :: Fz H :: R) := hw.perm (by repeat (first | exact List.Perm.refl _ | refine perm_pick (by repeat (first | exact Pick.hd | apply Pick.tl)) ?_))
  refine rg_draw (V := [.pointer (some ⟨p, 0, none⟩), .bool false, .bool false, .pointer (some ⟨b3, 0 + 0, none⟩), .int .i64 e.ix, .pointer (some ⟨p, 0, none⟩), .pointer (some ⟨p, 0, none⟩), .pointer (some ⟨p, 0 + 0, none⟩), .int .i64 t.ix, .int .i64 (IntKind.i64.wrap (t.ix + 1)), .bool (e.ix != (IntKind.i64.wrap (t.ix + 1))), .bool (e.ix != (IntKind.i64.wrap (t.ix + 1)))])
    (Rs := fun D => Cells p [.int .i64 t.ix, .pointer (some ⟨pf, 0, none⟩), .slice vad t.rows.length vcap] 105 :: FoldAt H pf t.f :: Sx.Own 39 5 (.slice vad t.rows.length vcap) t.rows.length xs :: Cells b4 zrc 39 :: Cells b3 (entCells e) 64 :: Fz H :: R) hs hw (ho := ⟨?_, ?c1_3, ?_, ?_, ?_, ?_, ?_, ?_, ?_, ?_, ?_, ?_, trivial⟩) (k := ?k_3)
  case c1_3 =>
    intro LD D a W hcl hi hp hs hw
    repeat (first | (refine sxv hs hw ?_; clear hs; intro a hs) | refine sxc hs ?_ | (refine sxa hs hw ?_; clear hs hw; intro a b W hw hs) | (refine sxs hs hw ?_; clear hs hw; intro W hs hw) | ((with_reducible first | refine st_ptrSome hs (k := ?_) | refine st_ptrNone hs (k := ?_)); clear hs; intro a hs))
    exact ⟨hs, hw⟩
  case k_3 =>
    clear hs hw
    intro a W hs hw
    replace hs : Slots a 68 [(21, .bool (e.ix != (IntKind.i64.wrap (t.ix + 1)))), (0, .pointer (some ⟨p, 0, none⟩)), (3, .pointer (some ⟨b3, 0, none⟩)), (4, .pointer (some ⟨b4, 0, none⟩)), (5, .bool false)] := hs.of ⟨rfl, rfl, rfl, rfl, rfl, trivial⟩
    replace hw : Has 0 w0 W (Cells p [.int .i64 t.ix, .pointer (some ⟨pf, 0, none⟩), .slice vad t.rows.length vcap] 105 :: FoldAt H pf t.f :: Sx.Own 39 5 (.slice vad t.rows.length vcap) t.rows.length xs :: Cells b4 zrc 39 :: Cells b3 (entCells e) 64 :: Fz H :: R) := hw
    cases hne : (e.ix != (IntKind.i64.wrap (t.ix + 1))) with
    | true =>
      rw [hne] at hs
      have hX : applyT t e = (t, zeroRow, false) := by unfold applyT; rw [if_neg (by simpa using hne)]
      rw [hX]
      repeat (first | (refine sxv hs hw ?_; clear hs; intro a hs) | refine sxc hs ?_ | (refine sxa hs hw ?_; clear hs hw; intro a b W hw hs) | (refine sxs hs hw ?_; clear hs hw; intro W hs hw))
      have hw := tabShut hw hch
      refine rc2 hs rfl rfl hw (In.tl In.hd) rfl rfl ?_
      exact ⟨.slice none 0 0, H, rfl, Fh.le.refl _, ops_nil H, hw.sub (List.Sublist.cons_cons _ (List.Sublist.cons _ (List.Sublist.cons _ (List.Sublist.refl _))))⟩
    | false =>
    rw [hne] at hs
    have hix : e.ix = (IntKind.i64.wrap (t.ix + 1)) := by simpa using hne
    repeat (first | (refine sxv hs hw ?_; clear hs; intro a hs) | refine sxc hs ?_ | (refine sxa hs hw ?_; clear hs hw; intro a b W hw hs) | (refine sxs hs hw ?_; clear hs hw; intro W hs hw))
    have hw : Has 0 w0 W (Cells p [.int .i64 (IntKind.i64.wrap (t.ix + 1)), .pointer (some ⟨pf, 0, none⟩), .slice vad t.rows.length vcap] 105 :: FoldAt H pf t.f :: Sx.Own 39 5 (.slice vad t.rows.length vcap) t.rows.length xs :: Cells b4 zrc 39 :: Cells b3 (entCells e) 64 :: Fz H :: R) := hw
    refine st_bytes (s := e.data) hs hw (by omega) (c := ?_); clear hs hw; intro a bb bcap0 ext W hw hrb hs
    obtain ⟨⟨⟨c, q, l⟩, err⟩, hdec⟩ : ∃ x, decR e.data.data.toList = x := ⟨_, rfl⟩
    have hdl : e.data.data.toList.length ≤ 1000000 := by rw [Array.length_toList]; exact hd
    have hlen := hw.endF (by repeat (first | exact In.hd | apply In.tl)) hH
    refine st_call hs (hc := op_DecodeR _ c q l err hdec _ _ hdl hrb (hT.keep hlen)) (k := ?_); rintro e0 W1 ⟨dad, dcap, rfl, hw1⟩; refine ⟨_, rfl, ?_⟩; clear hs; intro a hs; replace hw := hw.call hw1; clear hw1
    have hw : Has 0 w0 _ (Sx.Own 95 9 (.slice dad l.length dcap) l.length (l.flatMap opCells) :: Fz H :: Cells p [.int .i64 (IntKind.i64.wrap (t.ix + 1)), .pointer (some ⟨pf, 0, none⟩), .slice vad t.rows.length vcap] 105 :: FoldAt H pf t.f :: Sx.Own 39 5 (.slice vad t.rows.length vcap) t.rows.length xs :: Cells b4 zrc 39 :: Cells b3 (entCells e) 64 :: R) := (hw.perm (B := Sx.Own 95 9 (.slice dad l.length dcap) l.length (l.flatMap opCells) :: Fz H :: Cells p [.int .i64 (IntKind.i64.wrap (t.ix + 1)), .pointer (some ⟨pf, 0, none⟩), .slice vad t.rows.length vcap] 105 :: FoldAt H pf t.f :: Sx.Own 39 5 (.slice vad t.rows.length vcap) t.rows.length xs :: Cells b4 zrc 39 :: Cells b3 (entCells e) 64 :: CellsM bb (bys e.data.data.toList ++ ext) 5 :: R) (by repeat (first | exact List.Perm.refl _ | refine perm_pick (by repeat (first | exact Pick.hd | apply Pick.tl)) ?_))).sub (List.Sublist.cons_cons _ (List.Sublist.cons_cons _ (List.Sublist.cons_cons _ (List.Sublist.cons_cons _ (List.Sublist.cons_cons _ (List.Sublist.cons_cons _ (List.Sublist.cons_cons _ (List.Sublist.cons _ (List.Sublist.refl _)))))))))
    obtain ⟨H1, hle01, hw, hbl⟩ := hw.freeze_own
    have hH1 := hH.trans hle01
    replace hch := hch.mono (RowIn.le hle01)
    have hw : Has 0 w0 _ (FoldAt H pf t.f :: Cells p [.int .i64 (IntKind.i64.wrap (t.ix + 1)), .pointer (some ⟨pf, 0, none⟩), .slice vad t.rows.length vcap] 105 :: Sx.Own 39 5 (.slice vad t.rows.length vcap) t.rows.length xs :: Cells b4 zrc 39 :: Cells b3 (entCells e) 64 :: Fz H1 :: R) := hw.perm (by repeat (first | exact List.Perm.refl _ | refine perm_pick (by repeat (first | exact Pick.hd | apply Pick.tl)) ?_))
    have hw := (foldLe hw hle01).swap2
    repeat (first | (refine sxv hs hw ?_; clear hs; intro a hs) | refine sxc hs ?_ | (refine sxa hs hw ?_; clear hs hw; intro a b W hw hs) | (refine sxs hs hw ?_; clear hs hw; intro W hs hw))
    obtain ⟨b6, q6⟩ := nm1 hw; subst q6
    have hw : Has 0 w0 _ (Cells p [.int .i64 (IntKind.i64.wrap (t.ix + 1)), .pointer (some ⟨pf, 0, none⟩), .slice vad t.rows.length vcap] 105 :: FoldAt H1 pf t.f :: Sx.Own 39 5 (.slice vad t.rows.length vcap) t.rows.length xs :: Cells b4 zrc 39 :: Cells b3 (entCells e) 64 :: Fz H1 :: Cells b6 [.int .i64 c, .int .i64 q, .slice dad l.length dcap] 36 :: R) := hw.perm (by repeat (first | exact List.Perm.refl _ | refine perm_pick (by repeat (first | exact Pick.hd | apply Pick.tl)) ?_))
    have hz : ∀ {a : Act}, applyT t e = (⟨(IntKind.i64.wrap (t.ix + 1)), t.f, t.rows⟩, zeroRow, false) → True := fun _ => trivial
    cases hk : (e.kind != 2) with
    | true =>
      rw [hk] at hs
      have hX : applyT t e = (⟨(IntKind.i64.wrap (t.ix + 1)), t.f, t.rows⟩, zeroRow, false) := by
        have hk2 : (e.kind == 2) = false := by simpa using hk
        unfold applyT; rw [if_pos hix, hk2]
      rw [hX]
      repeat (first | (refine sxv hs hw ?_; clear hs; intro a hs) | refine sxc hs ?_ | (refine sxa hs hw ?_; clear hs hw; intro a b W hw hs) | (refine sxs hs hw ?_; clear hs hw; intro W hs hw))
      have hw := tabShut (t := ⟨(IntKind.i64.wrap (t.ix + 1)), t.f, t.rows⟩) hw hch
      refine rc2 hs rfl rfl hw (In.tl In.hd) rfl rfl ?_
      exact ⟨.slice none 0 0, H1, rfl, hle01, ops_nil H1, hw.sub (List.Sublist.cons_cons _ (List.Sublist.cons _ (List.Sublist.cons _ (List.Sublist.cons_cons _ (List.Sublist.cons _ (List.Sublist.refl _))))))⟩
    | false =>
    rw [hk] at hs
    have hk2 : (e.kind == 2) = true := by simpa using hk
    cases hdo : decode e.data.data.toList with
    | none =>
      have hX : applyT t e = (⟨(IntKind.i64.wrap (t.ix + 1)), t.f, t.rows⟩, zeroRow, false) := by unfold applyT; rw [if_pos hix, hk2, hdo]
      rw [hX]
      have he : err = 1 := by unfold decR at hdec; rw [hdo] at hdec; simp at hdec; exact hdec.2.symm
      subst he
      repeat (first | (refine sxv hs hw ?_; clear hs; intro a hs) | refine sxc hs ?_ | (refine sxa hs hw ?_; clear hs hw; intro a b W hw hs) | (refine sxs hs hw ?_; clear hs hw; intro W hs hw))
      have hw := tabShut (t := ⟨(IntKind.i64.wrap (t.ix + 1)), t.f, t.rows⟩) hw hch
      refine rc2 hs rfl rfl hw (In.tl In.hd) rfl rfl ?_
      exact ⟨.slice none 0 0, H1, rfl, hle01, ops_nil H1, hw.sub (List.Sublist.cons_cons _ (List.Sublist.cons _ (List.Sublist.cons _ (List.Sublist.cons_cons _ (List.Sublist.cons _ (List.Sublist.refl _))))))⟩
    | some pd =>
    have hpe : pd = (c, q, l) ∧ err = 0 := by unfold decR at hdec; rw [hdo] at hdec; simp at hdec; exact ⟨hdec.1, hdec.2.symm⟩
    obtain ⟨rfl, rfl⟩ := hpe
    have hA1 : applyT t e = playT (IntKind.i64.wrap (t.ix + 1)) t ⟨c, q, l⟩ := by unfold applyT; rw [if_pos hix, hk2, hdo]
    have hdk := decode_ok hdl hdo
    obtain ⟨bt, hbt⟩ : ∃ b : BatchD, b = ⟨c, q, l⟩ := ⟨_, rfl⟩
    have hbo : BatOk bt := by rw [hbt]; exact ⟨hdk.1, hdk.2.1, hdk.2.2.2⟩
    rw [← hbt] at hA1
    obtain ⟨rfl, rfl, rfl⟩ : c = bt.c ∧ q = bt.q ∧ l = bt.l := by rw [hbt]; exact ⟨rfl, rfl, rfl⟩
    clear hbt hdo hdec hdk hz
    obtain ⟨bad, hbad⟩ : ∃ x, x = dad := ⟨_, rfl⟩
    obtain ⟨bcap, hbcap⟩ : ∃ x, x = dcap := ⟨_, rfl⟩
    subst hbad hbcap
    obtain ⟨N, hN⟩ : ∃ N, next t.f bt = N := ⟨_, rfl⟩
    have hbl : OpsH H1 (.slice bad bt.l.length bcap) bt.l := hbl
    repeat (first | (refine sxv hs hw ?_; clear hs; intro a hs) | refine sxc hs ?_ | (refine sxa hs hw ?_; clear hs hw; intro a b W hw hs) | (refine sxs hs hw ?_; clear hs hw; intro W hs hw))
    have hw : Has 0 w0 _ (Fz H1 :: FoldAt H1 pf t.f :: Free :: Free :: Free :: Cells p [.int .i64 (IntKind.i64.wrap (t.ix + 1)), .pointer (some ⟨pf, 0, none⟩), .slice vad t.rows.length vcap] 105 :: Cells b6 (batCells bt (.slice bad bt.l.length bcap)) 36 :: Sx.Own 39 5 (.slice vad t.rows.length vcap) t.rows.length xs :: Cells b4 zrc 39 :: Cells b3 (entCells e) 64 :: R) := (hw.free.free.free).perm (by repeat (first | exact List.Perm.refl _ | refine perm_pick (by repeat (first | exact Pick.hd | apply Pick.tl)) ?_))
    refine rg_drawU (σ := Value × Fh × Nat) (V := fun u => [.pointer (some ⟨p, 0, none⟩), .pointer (some ⟨p, 0, none⟩), .pointer (some ⟨p, 0 + 1, none⟩), .pointer (some ⟨pf, 0, none⟩), .agg ⟨batCells bt (.slice bad bt.l.length bcap)⟩, .tuple ⟨[.agg ⟨rowCells N.2.1 (u 5).1⟩, .bool N.2.2]⟩, .tuple ⟨[.agg ⟨rowCells N.2.1 (u 6).1⟩, .bool N.2.2]⟩, .agg ⟨rowCells N.2.1 (u 7).1⟩, .bool N.2.2, .pointer (some ⟨(u 9).2.2, 0, none⟩), .bool true, .bool N.2.2])
      (Rs := fun u D => (if D 5 then FzF (u 5).2.1 (H1.le (u 5).2.1 ∧ OpsH (u 5).2.1 (u 5).1 N.2.1.b.l) else Fz H1) :: (if D 5 then FoldAt (u 5).2.1 pf N.1 else FoldAt H1 pf t.f) :: (if D 9 then Cells (u 9).2.2 (if D 10 then rowCells N.2.1 (u 5).1 else zrc) 39 else Free) :: (if D 6 then Fact (u 6 = u 5) else Free) :: (if D 7 then Fact (u 7 = u 6) else Free) :: Cells p [.int .i64 (IntKind.i64.wrap (t.ix + 1)), .pointer (some ⟨pf, 0, none⟩), .slice vad t.rows.length vcap] 105 :: Cells b6 (batCells bt (.slice bad bt.l.length bcap)) 36 :: Sx.Own 39 5 (.slice vad t.rows.length vcap) t.rows.length xs :: Cells b4 zrc 39 :: Cells b3 (entCells e) 64 :: R) (fun _ => (.nilIface, H1, 0)) hs hw (hVu := ?vu_2) (ho := ⟨?_, ?_, ?_, ?_, ?_, ?c5_2, ?c6_2, ?c7_2, ?_, ?c9_2, ?c10_2, ?_, trivial⟩) (k := ?k_2)
    case vu_2 =>
      intro u u' j h
      rcases j with _ | _ | _ | _ | _ | _ | _ | _ | _ | _ | _ | _ | j
      all_goals first | rfl | simp [h]
    case c5_2 =>
      intro u LD D a W hcl hi hp hs hw
      have h6 := Go.Sx.not_done hcl hi 6 (by kernel_rfl)
      have h7 := Go.Sx.not_done hcl h6 7 (by kernel_rfl)
      have h10 := Go.Sx.not_done hcl h7 10 (by kernel_rfl)
      simp only [hi, h6, h7, h10, Bool.false_eq_true, if_false] at hw
      have hw := hw.swap2
      refine st_call hs (hc := fold_Next w0 _ H1 pf t.f bt _ _ hbo hbl hH1 hT hw) (k := ?_); rw [hN]; rintro e0 W1 ⟨sv', H2, rfl, hle, hsv, hw1⟩; refine ⟨_, rfl, ?_⟩; clear hs hw; intro a hs; have hw := hw1; clear hw1
      repeat (first | (refine sxv hs hw ?_; clear hs; intro a hs) | refine sxc hs ?_ | (refine sxa hs hw ?_; clear hs hw; intro a b W hw hs) | (refine sxs hs hw ?_; clear hs hw; intro W hs hw))
      refine Or.inr ⟨(sv', H2, 0), hs, ?_⟩
      have hw := (hw.swap2).fzf (q := H1.le H2 ∧ OpsH H2 sv' N.2.1.b.l) ⟨hle, hsv⟩
      show Has 0 w0 _ (_ :: _ :: (if D 9 then Cells (u 9).2.2 (if (Nat.beq 10 5 || D 10) = true then _ else _) _ else Free) :: (if (Nat.beq 6 5 || D 6) = true then _ else _) :: (if (Nat.beq 7 5 || D 7) = true then _ else _) :: _)
      rw [h6, h7, h10]
      exact hw
    case c6_2 =>
      intro u LD D a W hcl hi hp hs hw
      have h7 := Go.Sx.not_done hcl hi 7 (by kernel_rfl)
      simp only [hi, h7, Bool.false_eq_true, if_false] at hw
      repeat (first | (refine sxv hs hw ?_; clear hs; intro a hs) | refine sxc hs ?_ | (refine sxa hs hw ?_; clear hs hw; intro a b W hw hs) | (refine sxs hs hw ?_; clear hs hw; intro W hs hw))
      refine Or.inr ⟨u 5, hs, ?_⟩
      show Has 0 w0 _ (_ :: _ :: _ :: Fact (u 5 = u 5) :: (if (Nat.beq 7 6 || D 7) = true then _ else _) :: _)
      rw [h7]
      exact (hw.fact rfl).fill (Upd.tl (Upd.tl (Upd.tl Upd.hd)))
    case c7_2 =>
      intro u LD D a W hcl hi hp hs hw
      simp only [hi, Bool.false_eq_true, if_false] at hw
      repeat (first | (refine sxv hs hw ?_; clear hs; intro a hs) | refine sxc hs ?_ | (refine sxa hs hw ?_; clear hs hw; intro a b W hw hs) | (refine sxs hs hw ?_; clear hs hw; intro W hs hw))
      refine Or.inr ⟨u 6, hs, ?_⟩
      show Has 0 w0 _ (_ :: _ :: _ :: _ :: Fact (u 6 = u 6) :: _)
      exact (hw.fact rfl).fill (Upd.tl (Upd.tl (Upd.tl (Upd.tl Upd.hd))))
    case c9_2 =>
      intro u LD D a W hcl hi hp hs hw
      have h10 := Go.Sx.not_done hcl hi 10 (by kernel_rfl)
      simp only [hi, Bool.false_eq_true, if_false] at hw
      repeat (first | (refine sxv hs hw ?_; clear hs; intro a hs) | refine sxc hs ?_ | (refine sxa hs hw ?_; clear hs hw; intro a b W hw hs) | (refine sxs hs hw ?_; clear hs hw; intro W hs hw))
      refine Or.inr ⟨(.nilIface, H1, _), hs, ?_⟩
      show Has 0 w0 _ (_ :: _ :: Cells _ (if (Nat.beq 10 9 || D 10) = true then _ else _) _ :: _)
      rw [h10]
      exact hw.fill (Upd.tl (Upd.tl Upd.hd))
    case c10_2 =>
      intro u LD D a W hcl hi hp hs hw
      have h7 := Go.Sx.done hp 7 (by kernel_rfl)
      have h9 := Go.Sx.done hp 9 (by kernel_rfl)
      have h6 := Go.Sx.done (hcl 7 _ rfl h7) 6 (by kernel_rfl)
      have h5 := Go.Sx.done (hcl 6 _ rfl h6) 5 (by kernel_rfl)
      have e1 : (if D 7 = true then Fact (u 7 = u 6) else Free) = Fact (u 7 = u 6) := by rw [h7]; rfl
      have e2 : (if D 6 = true then Fact (u 6 = u 5) else Free) = Fact (u 6 = u 5) := by rw [h6]; rfl
      have g7 : u 7 = u 5 := by
        have hw2 := hw
        simp only [e1, e2] at hw2
        exact (hw2.told (In.tl (In.tl (In.tl (In.tl In.hd))))).trans (hw2.told (In.tl (In.tl (In.tl In.hd))))
      simp only [hi, h5, h9, Bool.false_eq_true, if_false, if_true] at hw
      obtain ⟨⟨_, hsv⟩, _⟩ := hw.unfzf
      obtain ⟨tad, tcap, e13⟩ := hsv.slice
      refine st_store hs (hw := hw) (vs := rowCells N.2.1 (u 7).1) (h1 := by rw [g7, e13]; rfl) (k := ?_); clear hs hw; intro W hs hw
      rw [show (u 7).1 = (u 5).1 from by rw [g7]] at hw
      repeat (first | (refine sxv hs hw ?_; clear hs; intro a hs) | refine sxc hs ?_ | (refine sxa hs hw ?_; clear hs hw; intro a b W hw hs) | (refine sxs hs hw ?_; clear hs hw; intro W hs hw))
      refine Or.inl ⟨hs, ?_⟩
      show Has 0 w0 _ ((if (Nat.beq 5 10 || D 5) = true then _ else _) :: (if (Nat.beq 5 10 || D 5) = true then _ else _) :: (if (Nat.beq 9 10 || D 9) = true then _ else _) :: _)
      rw [h5, h9]
      exact hw
    case k_2 =>
      clear hs hw
      intro u a W hs hw
      replace hw : Has 0 w0 W (FzF (u 5).2.1 (H1.le (u 5).2.1 ∧ OpsH (u 5).2.1 (u 5).1 N.2.1.b.l) :: FoldAt (u 5).2.1 pf N.1 :: Cells (u 9).2.2 (rowCells N.2.1 (u 5).1) 39 :: Fact (u 6 = u 5) :: Fact (u 7 = u 6) :: Cells p [.int .i64 (IntKind.i64.wrap (t.ix + 1)), .pointer (some ⟨pf, 0, none⟩), .slice vad t.rows.length vcap] 105 :: Cells b6 (batCells bt (.slice bad bt.l.length bcap)) 36 :: Sx.Own 39 5 (.slice vad t.rows.length vcap) t.rows.length xs :: Cells b4 zrc 39 :: Cells b3 (entCells e) 64 :: R) := hw
      replace hw := hw.sub (L' := FzF (u 5).2.1 (H1.le (u 5).2.1 ∧ OpsH (u 5).2.1 (u 5).1 N.2.1.b.l) :: FoldAt (u 5).2.1 pf N.1 :: Cells (u 9).2.2 (rowCells N.2.1 (u 5).1) 39 :: Cells p [.int .i64 (IntKind.i64.wrap (t.ix + 1)), .pointer (some ⟨pf, 0, none⟩), .slice vad t.rows.length vcap] 105 :: Cells b6 (batCells bt (.slice bad bt.l.length bcap)) 36 :: Sx.Own 39 5 (.slice vad t.rows.length vcap) t.rows.length xs :: Cells b4 zrc 39 :: Cells b3 (entCells e) 64 :: R) (List.Sublist.cons_cons _ (List.Sublist.cons_cons _ (List.Sublist.cons_cons _ (List.Sublist.cons _ (List.Sublist.cons _ (List.Sublist.refl _))))))
      replace hs : Slots a 68 [(0, .pointer (some ⟨p, 0, none⟩)), (4, .pointer (some ⟨b4, 0, none⟩)), (8, .pointer (some ⟨(u 9).2.2, 0, none⟩)), (9, .bool N.2.2)] := hs.of ⟨rfl, rfl, rfl, rfl, trivial⟩
      generalize (u 9).2.2 = b8 at *
      generalize (u 5).2.1 = H2 at *
      generalize (u 5).1 = sv2 at *
      clear u
      obtain ⟨⟨hle2, hsv⟩, hw⟩ := hw.unfzf
      obtain ⟨xad, xcap, rfl⟩ := hsv.slice
      replace hch := hch.mono (RowIn.le hle2)
      cases hok : N.2.2 with
      | false =>
        rw [hok] at hs
        have hX : applyT t e = (⟨(IntKind.i64.wrap (t.ix + 1)), t.f, t.rows⟩, zeroRow, false) := by rw [hA1]; unfold playT; rw [hN, hok]
        rw [hX]
        have hNe : N = (t.f, zeroRow, false) := by
          rw [← hN] at hok ⊢
          unfold next at hok ⊢
          cases hb : nextB t.f bt with
          | true => rw [hb] at hok; cases hok
          | false => rfl
        subst hNe
        have hw : Has 0 w0 W (Cells p [.int .i64 (IntKind.i64.wrap (t.ix + 1)), .pointer (some ⟨pf, 0, none⟩), .slice vad t.rows.length vcap] 105 :: FoldAt H2 pf t.f :: Sx.Own 39 5 (.slice vad t.rows.length vcap) t.rows.length xs :: Cells b8 (rowCells zeroRow (.slice xad zeroRow.b.l.length xcap)) 39 :: Cells b4 zrc 39 :: Fz H2 :: Cells b6 (batCells bt (.slice bad bt.l.length bcap)) 36 :: Cells b3 (entCells e) 64 :: R) := hw.perm (by repeat (first | exact List.Perm.refl _ | refine perm_pick (by repeat (first | exact Pick.hd | apply Pick.tl)) ?_))
        have hw := tabShut (t := ⟨(IntKind.i64.wrap (t.ix + 1)), t.f, t.rows⟩) hw hch
        repeat (first | (refine sxv hs hw ?_; clear hs; intro a hs) | refine sxc hs ?_ | (refine sxa hs hw ?_; clear hs hw; intro a b W hw hs) | (refine sxs hs hw ?_; clear hs hw; intro W hs hw))
        refine rc2 hs rfl rfl hw (In.tl (In.tl In.hd)) rfl rfl ?_
        have hw := hw.sub (L' := TabAt H2 p ⟨(IntKind.i64.wrap (t.ix + 1)), t.f, t.rows⟩ :: Fz H2 :: R) (List.Sublist.cons_cons _ (List.Sublist.cons _ (List.Sublist.cons _ (List.Sublist.cons_cons _ (List.Sublist.cons _ (List.Sublist.cons _ (List.Sublist.refl _)))))))
        exact ⟨_, H2, rfl, hle01.trans hle2, hsv, hw⟩
      | true =>
        rw [hok] at hs
        have hX : applyT t e = (⟨(IntKind.i64.wrap (t.ix + 1)), N.1, t.rows ++ [N.2.1]⟩, N.2.1, true) := by rw [hA1]; unfold playT; rw [hN, hok]
        rw [hX]
        have hr8 : N.2.1.b.l.length ≤ 1000 := by
          have h1 : (next t.f bt).2.2 = true := by rw [hN]; exact hok
          have h2 := next_row h1
          rw [hN] at h2
          rw [h2]
          have := (may_parts (nextB_may (next_ok h1).1)).2.2
          omega
        have hw : Has 0 w0 W (Cells p [.int .i64 (IntKind.i64.wrap (t.ix + 1)), .pointer (some ⟨pf, 0, none⟩), .slice vad t.rows.length vcap] 105 :: Fz H2 :: Free :: Sx.Own 39 5 (.slice vad t.rows.length vcap) t.rows.length xs :: Cells b8 (rowCells N.2.1 (.slice xad N.2.1.b.l.length xcap)) 39 :: FoldAt H2 pf N.1 :: Cells b6 (batCells bt (.slice bad bt.l.length bcap)) 36 :: Cells b4 zrc 39 :: Cells b3 (entCells e) 64 :: R) := (hw.free).perm (by repeat (first | exact List.Perm.refl _ | refine perm_pick (by repeat (first | exact Pick.hd | apply Pick.tl)) ?_))
        repeat (first | (refine sxv hs hw ?_; clear hs; intro a hs) | refine sxc hs ?_ | (refine sxa hs hw ?_; clear hs hw; intro a b W hw hs) | (refine sxs hs hw ?_; clear hs hw; intro W hs hw))
        refine rg_drawU (σ := Value × Fh × Nat × Option Addr) (V := fun u => [.pointer (some ⟨p, 0, none⟩), .pointer (some ⟨p, 0, none⟩), .pointer (some ⟨p, 0, none⟩), .pointer (some ⟨p, 0 + 2, none⟩), .slice vad t.rows.length vcap, .agg ⟨rowCells N.2.1 (.slice xad N.2.1.b.l.length xcap)⟩, .agg ⟨rowCells N.2.1 (u 6).1⟩, .slice (some ⟨(u 7).2.2.1, 0, none⟩) 1 1, .slice (u 8).2.2.2 (t.rows ++ [N.2.1]).length (u 8).2.2.1, .pointer (some ⟨p, 0, none⟩), .pointer (some ⟨p, 0 + 2, none⟩), .bool true])
          (Rs := fun u D => Cells p [.int .i64 (IntKind.i64.wrap (t.ix + 1)), .pointer (some ⟨pf, 0, none⟩), (if D 11 then .slice (u 8).2.2.2 (t.rows ++ [N.2.1]).length (u 8).2.2.1 else .slice vad t.rows.length vcap)] 105 :: (if D 6 then FzF (u 6).2.1 (H2.le (u 6).2.1 ∧ OpsH (u 6).2.1 (u 6).1 N.2.1.b.l) else Fz H2) :: (if D 7 then Cells (u 7).2.2.1 (rowCells N.2.1 (u 6).1) 39 else Free) :: (if D 8 then Sx.Own 39 5 (.slice (u 8).2.2.2 (t.rows ++ [N.2.1]).length (u 8).2.2.1) (t.rows ++ [N.2.1]).length (xs ++ rowCells N.2.1 (u 6).1) else Sx.Own 39 5 (.slice vad t.rows.length vcap) t.rows.length xs) :: Cells b8 (rowCells N.2.1 (.slice xad N.2.1.b.l.length xcap)) 39 :: FoldAt H2 pf N.1 :: Cells b6 (batCells bt (.slice bad bt.l.length bcap)) 36 :: Cells b4 zrc 39 :: Cells b3 (entCells e) 64 :: R) (fun _ => (.nilIface, H2, 0, none)) hs hw (hVu := ?vu_1) (ho := ⟨?_, ?_, ?_, ?_, ?c4_1, ?_, ?c6_1, ?c7_1, ?c8_1, ?_, ?_, ?c11_1, trivial⟩) (k := ?k_1)
        case vu_1 =>
          intro u u' j h
          rcases j with _ | _ | _ | _ | _ | _ | _ | _ | _ | _ | _ | _ | j
          all_goals first | rfl | simp [h]
        case c4_1 =>
          intro u LD D a W hcl hi hp hs hw
          have hA := Go.Sx.not_done hcl hi 8 (by kernel_rfl)
          have hS := Go.Sx.not_done hcl hA 11 (by kernel_rfl)
          have hw0 := hw
          simp only [hS, Bool.false_eq_true, if_false] at hw
          repeat (first | (refine sxv hs hw ?_; clear hs; intro a hs) | refine sxc hs ?_ | (refine sxa hs hw ?_; clear hs hw; intro a b W hw hs) | (refine sxs hs hw ?_; clear hs hw; intro W hs hw))
          exact Or.inl ⟨hs, hw0⟩
        case c6_1 =>
          intro u LD D a W hcl hi hp hs hw
          have hB := Go.Sx.not_done hcl hi 7 (by kernel_rfl)
          have hA := Go.Sx.not_done hcl hB 8 (by kernel_rfl)
          have hS := Go.Sx.not_done hcl hA 11 (by kernel_rfl)
          simp only [hi, hB, hA, hS, Bool.false_eq_true, if_false] at hw
          repeat (first | (refine sxv hs hw ?_; clear hs; intro a hs) | refine sxc hs ?_ | (refine sxa hs hw ?_; clear hs hw; intro a b W hw hs) | (refine sxs hs hw ?_; clear hs hw; intro W hs hw))
          have hw : Has 0 w0 W (Fz H2 :: Cells p [.int .i64 (IntKind.i64.wrap (t.ix + 1)), .pointer (some ⟨pf, 0, none⟩), .slice vad t.rows.length vcap] 105 :: Free :: Sx.Own 39 5 (.slice vad t.rows.length vcap) t.rows.length xs :: Cells b8 (rowCells N.2.1 (.slice xad N.2.1.b.l.length xcap)) 39 :: FoldAt H2 pf N.1 :: Cells b6 (batCells bt (.slice bad bt.l.length bcap)) 36 :: Cells b4 zrc 39 :: Cells b3 (entCells e) 64 :: R) := hw.perm (by repeat (first | exact List.Perm.refl _ | refine perm_pick (by repeat (first | exact Pick.hd | apply Pick.tl)) ?_))
          refine st_call hs (hc := table_own w0 _ H2 N.2.1 _ _ hr8 hsv hw) (k := ?_); rintro e0 W1 ⟨sv', H', rfl, h1, h2, hw1⟩; refine ⟨_, rfl, ?_⟩; clear hs hw; intro a hs; have hw := hw1; clear hw1
          repeat (first | (refine sxv hs hw ?_; clear hs; intro a hs) | refine sxc hs ?_ | (refine sxa hs hw ?_; clear hs hw; intro a b W hw hs) | (refine sxs hs hw ?_; clear hs hw; intro W hs hw))
          refine Or.inr ⟨(sv', H', 0, none), hs, ?_⟩
          have hw := hw.fzf (q := H2.le H' ∧ OpsH H' sv' N.2.1.b.l) ⟨h1, h2⟩
          show Has 0 w0 _ (Cells p [_, _, (if (Nat.beq 11 6 || D 11) = true then _ else _)] _ :: _ :: (if (Nat.beq 7 6 || D 7) = true then _ else _) :: (if (Nat.beq 8 6 || D 8) = true then _ else _) :: _)
          rw [hB, hA, hS]
          exact hw.perm (by repeat (first | exact List.Perm.refl _ | refine perm_pick (by repeat (first | exact Pick.hd | apply Pick.tl)) ?_))
        case c7_1 =>
          intro u LD D a W hcl hi hp hs hw
          have hB := hi
          have h6 := Go.Sx.done hp 6 (by kernel_rfl)
          have hA := Go.Sx.not_done hcl hB 8 (by kernel_rfl)
          have hS := Go.Sx.not_done hcl hA 11 (by kernel_rfl)
          simp only [hi, h6, hA, hS, Bool.false_eq_true, if_false, if_true] at hw
          repeat (first | (refine sxv hs hw ?_; clear hs; intro a hs) | refine sxc hs ?_ | (refine sxa hs hw ?_; clear hs hw; intro a b W hw hs) | (refine sxs hs hw ?_; clear hs hw; intro W hs hw))
          refine Or.inr ⟨(.nilIface, H2, _, none), hs, ?_⟩
          show Has 0 w0 _ (Cells p [_, _, (if (Nat.beq 11 7 || D 11) = true then _ else _)] _ :: (if (Nat.beq 6 7 || D 6) = true then _ else _) :: _ :: (if (Nat.beq 8 7 || D 8) = true then _ else _) :: _)
          rw [h6, hA, hS]
          exact hw.fill (Upd.tl (Upd.tl Upd.hd))
        case c8_1 =>
          intro u LD D a W hcl hi hp hs hw
          have hB := Go.Sx.done hp 7 (by kernel_rfl)
          have h6 := Go.Sx.done (hcl 7 _ rfl hB) 6 (by kernel_rfl)
          have hS := Go.Sx.not_done hcl hi 11 (by kernel_rfl)
          simp only [hi, hB, h6, hS, Bool.false_eq_true, if_false, if_true] at hw
          have hw : Has 0 w0 W (FzF (u 6).2.1 (H2.le (u 6).2.1 ∧ OpsH (u 6).2.1 (u 6).1 N.2.1.b.l) :: Sx.Own 39 5 (.slice vad t.rows.length vcap) t.rows.length xs :: Cells p [.int .i64 (IntKind.i64.wrap (t.ix + 1)), .pointer (some ⟨pf, 0, none⟩), .slice vad t.rows.length vcap] 105 :: Cells (u 7).2.2.1 (rowCells N.2.1 (u 6).1) 39 :: Cells b8 (rowCells N.2.1 (.slice xad N.2.1.b.l.length xcap)) 39 :: FoldAt H2 pf N.1 :: Cells b6 (batCells bt (.slice bad bt.l.length bcap)) 36 :: Cells b4 zrc 39 :: Cells b3 (entCells e) 64 :: R) := hw.perm (by repeat (first | exact List.Perm.refl _ | refine perm_pick (by repeat (first | exact Pick.hd | apply Pick.tl)) ?_))
          obtain ⟨⟨hle, hv⟩, _⟩ := hw.unfzf
          have hw : Has 0 w0 W (Sx.Own 39 5 (.slice vad t.rows.length vcap) t.rows.length xs :: FzF (u 6).2.1 (H2.le (u 6).2.1 ∧ OpsH (u 6).2.1 (u 6).1 N.2.1.b.l) :: Cells p [.int .i64 (IntKind.i64.wrap (t.ix + 1)), .pointer (some ⟨pf, 0, none⟩), .slice vad t.rows.length vcap] 105 :: Cells (u 7).2.2.1 (rowCells N.2.1 (u 6).1) 39 :: Cells b8 (rowCells N.2.1 (.slice xad N.2.1.b.l.length xcap)) 39 :: FoldAt H2 pf N.1 :: Cells b6 (batCells bt (.slice bad bt.l.length bcap)) 36 :: Cells b4 zrc 39 :: Cells b3 (entCells e) 64 :: R) := hw.swap2
          have hone := RowIn.ones (H := (u 6).2.1) N.2.1 (rowCells N.2.1 (u 6).1) ⟨_, rfl, hv⟩
          refine st_append1 hs (hw := hw) (hi := In.tl (In.tl In.hd)) (ch := (hch.mono (RowIn.le hle))) (ha := (⟨_, rfl, hv⟩ : RowIn (u 6).2.1 N.2.1 (rowCells N.2.1 (u 6).1))) (hl := rfl) (h1 := by rw [List.all_eq_true]; exact hone) (hb := by omega) (h63 := by omega) (k := ?_)
          clear hs hw; intro a ad cap W hs hw hc2
          repeat (first | (refine sxv hs hw ?_; clear hs; intro a hs) | refine sxc hs ?_ | (refine sxa hs hw ?_; clear hs hw; intro a b W hw hs) | (refine sxs hs hw ?_; clear hs hw; intro W hs hw))
          refine Or.inr ⟨(.nilIface, H2, cap, ad), hs, ?_⟩
          show Has 0 w0 _ (Cells p [_, _, (if (Nat.beq 11 8 || D 11) = true then _ else _)] _ :: (if (Nat.beq 6 8 || D 6) = true then _ else _) :: (if (Nat.beq 7 8 || D 7) = true then _ else _) :: _ :: _)
          rw [h6, hB, hS]
          exact hw.perm (by repeat (first | exact List.Perm.refl _ | refine perm_pick (by repeat (first | exact Pick.hd | apply Pick.tl)) ?_))
        case c11_1 =>
          intro u LD D a W hcl hi hp hs hw
          have hA := Go.Sx.done hp 8 (by kernel_rfl)
          simp only [hi, hA, Bool.false_eq_true, if_false, if_true] at hw
          repeat (first | (refine sxv hs hw ?_; clear hs; intro a hs) | refine sxc hs ?_ | (refine sxa hs hw ?_; clear hs hw; intro a b W hw hs) | (refine sxs hs hw ?_; clear hs hw; intro W hs hw))
          refine Or.inl ⟨hs, ?_⟩
          show Has 0 w0 _ (_ :: _ :: _ :: (if (Nat.beq 8 11 || D 8) = true then _ else _) :: _)
          rw [hA]
          exact hw
        case k_1 =>
          clear hs hw
          intro u a W hs hw
          replace hw : Has 0 w0 W (Cells p [.int .i64 (IntKind.i64.wrap (t.ix + 1)), .pointer (some ⟨pf, 0, none⟩), .slice (u 8).2.2.2 (t.rows ++ [N.2.1]).length (u 8).2.2.1] 105 :: FzF (u 6).2.1 (H2.le (u 6).2.1 ∧ OpsH (u 6).2.1 (u 6).1 N.2.1.b.l) :: Cells (u 7).2.2.1 (rowCells N.2.1 (u 6).1) 39 :: Sx.Own 39 5 (.slice (u 8).2.2.2 (t.rows ++ [N.2.1]).length (u 8).2.2.1) (t.rows ++ [N.2.1]).length (xs ++ rowCells N.2.1 (u 6).1) :: Cells b8 (rowCells N.2.1 (.slice xad N.2.1.b.l.length xcap)) 39 :: FoldAt H2 pf N.1 :: Cells b6 (batCells bt (.slice bad bt.l.length bcap)) 36 :: Cells b4 zrc 39 :: Cells b3 (entCells e) 64 :: R) := hw
          replace hs : Slots a 68 [(0, .pointer (some ⟨p, 0, none⟩)), (4, .pointer (some ⟨b4, 0, none⟩)), (8, .pointer (some ⟨b8, 0, none⟩)), (9, .bool true)] := hs.of ⟨rfl, rfl, rfl, rfl, trivial⟩
          generalize (u 8).2.2.2 = rad at *
          generalize (u 8).2.2.1 = rcap at *
          generalize (u 7).2.2.1 = bx at *
          generalize (u 6).2.1 = H3 at *
          generalize (u 6).1 = v3 at *
          clear u
          have hw : Has 0 w0 W (FzF H3 (H2.le H3 ∧ OpsH H3 v3 N.2.1.b.l) :: Cells p [.int .i64 (IntKind.i64.wrap (t.ix + 1)), .pointer (some ⟨pf, 0, none⟩), .slice rad (t.rows ++ [N.2.1]).length rcap] 105 :: Cells bx (rowCells N.2.1 v3) 39 :: Sx.Own 39 5 (.slice rad (t.rows ++ [N.2.1]).length rcap) (t.rows ++ [N.2.1]).length (xs ++ rowCells N.2.1 v3) :: Cells b8 (rowCells N.2.1 (.slice xad N.2.1.b.l.length xcap)) 39 :: FoldAt H2 pf N.1 :: Cells b6 (batCells bt (.slice bad bt.l.length bcap)) 36 :: Cells b4 zrc 39 :: Cells b3 (entCells e) 64 :: R) := hw.perm (by repeat (first | exact List.Perm.refl _ | refine perm_pick (by repeat (first | exact Pick.hd | apply Pick.tl)) ?_))
          obtain ⟨⟨hle3, hv⟩, hw⟩ := hw.unfzf
          have hw : Has 0 w0 W (FoldAt H2 pf N.1 :: Cells p [.int .i64 (IntKind.i64.wrap (t.ix + 1)), .pointer (some ⟨pf, 0, none⟩), .slice rad (t.rows ++ [N.2.1]).length rcap] 105 :: Sx.Own 39 5 (.slice rad (t.rows ++ [N.2.1]).length rcap) (t.rows ++ [N.2.1]).length (xs ++ rowCells N.2.1 v3) :: Cells b8 (rowCells N.2.1 (.slice xad N.2.1.b.l.length xcap)) 39 :: Cells b4 zrc 39 :: Fz H3 :: Cells b6 (batCells bt (.slice bad bt.l.length bcap)) 36 :: Cells b3 (entCells e) 64 :: Cells bx (rowCells N.2.1 v3) 39 :: R) := hw.perm (by repeat (first | exact List.Perm.refl _ | refine perm_pick (by repeat (first | exact Pick.hd | apply Pick.tl)) ?_))
          have hw := (foldLe hw hle3).swap2
          have hw := tabShut (t := ⟨(IntKind.i64.wrap (t.ix + 1)), N.1, t.rows ++ [N.2.1]⟩) hw ((hch.mono (RowIn.le hle3)).app (Ch.unit ⟨_, rfl, hv⟩))
          repeat (first | (refine sxv hs hw ?_; clear hs; intro a hs) | refine sxc hs ?_ | (refine sxa hs hw ?_; clear hs hw; intro a b W hw hs) | (refine sxs hs hw ?_; clear hs hw; intro W hs hw))
          refine rc2 hs rfl rfl hw (In.tl (In.tl In.hd)) rfl rfl ?_
          have hw := hw.sub (L' := TabAt H3 p ⟨(IntKind.i64.wrap (t.ix + 1)), N.1, t.rows ++ [N.2.1]⟩ :: Fz H3 :: R) (List.Sublist.cons_cons _ (List.Sublist.cons _ (List.Sublist.cons _ (List.Sublist.cons_cons _ (List.Sublist.cons _ (List.Sublist.cons _ (List.Sublist.cons _ (List.Sublist.refl _))))))))
          exact ⟨_, H3, rfl, (hle01.trans hle2).trans hle3, hsv.le hle3, hw⟩
        all_goals
          intro u LD D a W hcl hi hp hs hw
          repeat (first | (refine sxv hs hw ?_; clear hs; intro a hs) | refine sxc hs ?_ | (refine sxa hs hw ?_; clear hs hw; intro a b W hw hs) | (refine sxs hs hw ?_; clear hs hw; intro W hs hw))
          exact Or.inl ⟨hs, hw⟩
    all_goals
      intro u LD D a W hcl hi hp hs hw
      repeat (first | (refine sxv hs hw ?_; clear hs; intro a hs) | refine sxc hs ?_ | (refine sxa hs hw ?_; clear hs hw; intro a b W hw hs) | (refine sxs hs hw ?_; clear hs hw; intro W hs hw))
      exact Or.inl ⟨hs, hw⟩
  all_goals
    intro LD D a W hcl hi hp hs hw
    repeat (first | (refine sxv hs hw ?_; clear hs; intro a hs) | refine sxc hs ?_ | (refine sxa hs hw ?_; clear hs hw; intro a b W hw hs) | (refine sxs hs hw ?_; clear hs hw; intro W hs hw))
    exact ⟨hs, hw⟩
end Go.Proofs.YtmalklakaalaoaaGreatDoor.Sw

set_option linter.unusedVariables false
set_option maxRecDepth 10000
namespace Go.Sx
open Go.RowKit
theorem Has.newOwn {G : Nat} {w W W' : World} {R : List Res} {E : TypeId} {size n : Nat} {v : Value} {xs : List Value} (h : Has G w W R) (hb : Below W.heap.size W W') (ho : OwnAt (fun b => W.heap.size ≤ b ∧ b < W'.heap.size) W' E size v n xs) : Has G w W' (Own E size v n xs :: R) := by
  have h1 := h.below hb
  refine ⟨h1.ext, h1.glob, _, ?_, ho, ?_⟩
  · rintro b ⟨hb1, hb2⟩
    exact ⟨Nat.le_trans h.globW hb1, hb2⟩
  · refine (h.has.loc fun b hb' => hb.block b hb'.2).mono fun b hb' => ⟨⟨hb'.1, Nat.lt_of_lt_of_le hb'.2 hb.size⟩, by omega⟩
section
variable {P : Program} {W : World}
end
section
variable {P : Program} {ops : Array Oper} {rest : List Oper} {Q : Exit → Act → World → Prop} {a : Act} {n G : Nat} {L : List (Nat × Value)} {w W : World} {R : List Res} {d : Nat} {T S S' E E' : TypeId} {p : String} {e : Array Edge} {x y hi mx : Operand} {v u : Value} {cur xs news : List Value} {g k m len cap size bytes : Nat} {q q' : IntKind} {z : List Value}
end
section
variable {P : Program} {ops : Array Oper} {rest : List Oper} {Q : Exit → Act → World → Prop} {a : Act} {n G : Nat} {L : List (Nat × Value)} {w W : World} {R : List Res} {d : Nat} {T S E : TypeId} {p : String} {e : Array Edge} {x lo : Operand} {g k m cap size : Nat} {q : IntKind} {z cur : List Value} {H : Fh}
def tailV (g size k cap m : Nat) : Value := .slice (if cap = m then some ⟨g, 0, none⟩ else some ⟨g, m * size, none⟩) (k - m) (cap - m)
theorem st_slice_lo_at {agg : Bool} [sl : Sl P S E] [t : Ty P E agg z] (hs : Slots a n L) (h1 : m ≤ k) (hc : k ≤ cap) (hx : ev L x = some (.slice (some ⟨g, 0, none⟩) k cap) := by with_unfolding_all exact rfl) (hl : ev L lo = some (.int q (m : Int)) := by with_unfolding_all exact rfl) (hd : Nat.blt d n = true := by with_unfolding_all exact rfl)
    (c : ∀ a', Slots a' n ((d, tailV g z.length k cap m) :: L) → wpList P ops Q rest a' W) : wpList P ops Q (⟨some d, .slice S x (some lo) none none, T, p, e, none⟩ :: rest) a W := by
  have hb : (Instr.sliceBound (.int q (m : Int)) k .sliceB).run P W = .ok m W := by
    have : (0 : Int) ≤ (m : Int) ∧ (m : Int) ≤ (k : Int) := ⟨by omega, by omega⟩
    simp only [Instr.sliceBound, asIntOf, Sem.run_bind, Sem.run_pure, Result.andThen_ok]
    rw [if_pos this]
    simp
  have hbs : (Instr.sliceBounds true k cap (some (.int q (m : Int))) none none).run P W = .ok (m, k, cap) W := by
    unfold Instr.sliceBounds
    simp [hb]
  refine st_value hs hd (v := tailV g z.length k cap m) (W' := W) ?_ c
  simp only [execOp, Option.map_some, Option.map_none, hs.ev hx, hs.ev hl, Instr.sliceAt, Instr.slice, Sem.run_bind, run_underlying sl.out, Result.andThen_ok, hbs, t.sizeOf, Sem.run_pure]
  unfold tailV
  by_cases h0 : cap = m
  · simp [h0]
  · rw [if_neg h0, if_neg h0]; simp [addr_add]
end
end Go.Sx

set_option linter.unusedVariables false
set_option maxRecDepth 10000
namespace Go.Sx
open Go.RowKit
section
variable {P : Program} {ops : Array Oper} {rest : List Oper} {Q : Exit → Act → World → Prop} {a : Act} {n : Nat} {L : List (Nat × Value)} {W : World} {d : Nat} {T : TypeId} {p : String} {e : Array Edge}
end
theorem Ch.mem {α : Type} {R : α → List Value → Prop} {k : Nat} (hk : ∀ a c, R a c → c.length = k) {l : List α} {cs : List Value} (h : Ch R l cs) {i : Nat} {a : α} (hi : l[i]? = some a) : ∃ c, R a c ∧ cut cs (i * k) k = c := by
  obtain ⟨c, h1, h2, h3⟩ := h.get hk hi
  exact ⟨c, h1, h3⟩
theorem Ch.at_cur {α : Type} {R : α → List Value → Prop} {k i n j : Nat} {l : List α} {a : α} {cs cur c : List Value} {u : Value} (hcut : cut cs (i * k) k = c) (ht : cur.take n = cs) (hu : c[j]? = some u) : cur[i * k + j]? = some u := by
  have h1 := congrArg (fun t => t[j]?) hcut
  simp only [cut_eq, List.getElem?_take, List.getElem?_drop, hu] at h1
  split at h1
  · rw [← ht, List.getElem?_take] at h1
    split at h1
    · exact h1
    · cases h1
  · cases h1
theorem keepB {w W : World} {p : Fh → Prop} {b : Bool} (h : Has 0 w W ((if b = true then Ex (fun H => Fz H :: Fact ((fr w).le H ∧ p H) :: []) else Fz (fr w)) :: [])) : Below w.heap.size w W := by
  cases b with
  | false => exact h.endF In.hd (Fh.le.refl _)
  | true =>
    have h : Has 0 w W (Ex (fun H => Fz H :: Fact ((fr w).le H ∧ p H) :: []) :: []) := h
    obtain ⟨H, h⟩ := Has.open h
    have h : Has 0 w W (Fz H :: Fact ((fr w).le H ∧ p H) :: []) := h
    have h2 := h.told (In.tl In.hd)
    exact h.endF In.hd h2.1
inductive Sel : List Res → List Res → Prop
  | nil {L : List Res} : Sel [] L
  | refl (L : List Res) : Sel L L
  | cons {r : Res} {K L L' : List Res} : Pick r L L' → Sel K L' → Sel (r :: K) L
  | skip {r : Res} {K L : List Res} : Sel K L → Sel K (r :: L)
theorem Sel.perm {K L : List Res} (s : Sel K L) : ∃ M, L.Perm (K ++ M) := by
  induction s with
  | nil => exact ⟨_, List.Perm.refl _⟩
  | refl L => exact ⟨[], by rw [List.append_nil]⟩
  | cons p _ ih =>
    obtain ⟨M, h⟩ := ih
    exact ⟨M, perm_pick p h⟩
  | @skip r K L _ ih =>
    obtain ⟨M, h⟩ := ih
    exact ⟨r :: M, (h.cons r).trans List.perm_middle.symm⟩
theorem Has.sel {G : Nat} {w W : World} {K L : List Res} (h : Has G w W L) (s : Sel K L) : Has G w W K := by
  obtain ⟨M, hp⟩ := s.perm
  exact (h.perm hp).sub (List.sublist_append_left K M)
end Go.Sx

set_option linter.unusedVariables false
set_option maxRecDepth 10000
namespace Go.Sx
open Go.RowKit
section
variable {P : Program} {ops : Array Oper} {rest : List Oper} {Q : Exit → Act → World → Prop} {a : Act} {n : Nat} {L : List (Nat × Value)} {W : World} {d : Nat} {T S E : TypeId} {p : String} {e : Array Edge} {x hi : Operand} {g o k m cap : Nat} {q : IntKind} {z : List Value}
theorem st_slice_hi_at {agg : Bool} [sl : Sl P S E] [t : Ty P E agg z] (hs : Slots a n L) (h1 : m ≤ k) (hc : k ≤ cap) (h0 : 0 < cap) (hx : ev L x = some (.slice (some ⟨g, o, none⟩) k cap) := by with_unfolding_all exact rfl) (hl : ev L hi = some (.int q (m : Int)) := by with_unfolding_all exact rfl) (hd : Nat.blt d n = true := by with_unfolding_all exact rfl)
    (c : ∀ a', Slots a' n ((d, .slice (some ⟨g, o, none⟩) m cap) :: L) → wpList P ops Q rest a' W) : wpList P ops Q (⟨some d, .slice S x none (some hi) none, T, p, e, none⟩ :: rest) a W := by
  have hb : (Instr.sliceBound (.int q (m : Int)) cap .sliceAcap).run P W = .ok m W := by
    have : (0 : Int) ≤ (m : Int) ∧ (m : Int) ≤ (cap : Int) := ⟨by omega, by omega⟩
    simp only [Instr.sliceBound, asIntOf, Sem.run_bind, Sem.run_pure, Result.andThen_ok]
    rw [if_pos this]
    simp
  have hbs : (Instr.sliceBounds true k cap none (some (.int q (m : Int))) none).run P W = .ok (0, m, cap) W := by
    unfold Instr.sliceBounds
    simp [hb]
  refine st_value hs hd (v := .slice (some ⟨g, o, none⟩) m cap) (W' := W) ?_ c
  simp only [execOp, Option.map_some, Option.map_none, hs.ev hx, hs.ev hl, Instr.sliceAt, Instr.slice, Sem.run_bind, run_underlying sl.out, Result.andThen_ok, hbs, t.sizeOf, Sem.run_pure]
  by_cases h9 : cap = 0
  · omega
  · simp [h9, addr_add]
end
end Go.Sx
namespace Go.Proofs.YtmalklakaalaoaaGreatDoor.Sw
open Go.RowKit Go.Sx
def rowsT (t : TabD) (fr_ n : Int) : List RowD :=
  if fr_ < 1 ∨ (t.rows.length : Int) < fr_ ∨ n < 1 then [] else (t.rows.drop (fr_ - 1).toNat).take (min n.toNat 10)
section
variable {P : Program} {ops : Array Oper} {rest : List Oper} {Q : Exit → Act → World → Prop} {a : Act} {n : Nat} {L : List (Nat × Value)} {W : World} {d : Nat} {T : TypeId} {p : String} {e : Array Edge} {x y z : Operand} {i j k : Int} {q q' q'' : IntKind}
theorem st_min3 {ts : Array TypeId} (hs : Slots a n L) (v : Int) (hv : (if k < (if j < i then j else i) then k else (if j < i then j else i)) = v) (hx : ev L x = some (.int q i) := by with_unfolding_all exact rfl) (hy : ev L y = some (.int q' j) := by with_unfolding_all exact rfl) (hz : ev L z = some (.int q'' k) := by with_unfolding_all exact rfl) (hd : Nat.blt d n = true := by with_unfolding_all exact rfl)
    (c : ∀ a', Slots a' n ((d, .int q v) :: L) → wpList P ops Q rest a' W) : wpList P ops Q (⟨some d, .call { callee := .builtin .min, args := #[x, y, z], argTypes := ts }, T, p, e, none⟩ :: rest) a W := by
  subst hv
  exact st_value hs hd (by simp only [execOp, resolve, invoke, builtin, List.map_toArray, List.map_cons, List.map_nil, hs.ev hx, hs.ev hy, hs.ev hz, Sem.run_bind, Sem.run_pure, Result.andThen_ok, run_min_int3]) c
end
set_option maxHeartbeats 16000000 in
theorem table_Rows (w0 W : World) (H : Fh) (p : Nat) (t : TabD) (from_ n : Int) (R : List Res) (hl : t.rows.length ≤ 1000000) (h8 : ∀ r ∈ t.rows, r.b.l.length ≤ 1000) (hw : Has 0 w0 W (TabAt H p t :: Fz H :: R)) :
    Calls Tryz.prog 32 ⟨[.pointer (some ⟨p, 0, none⟩), .int .i64 from_, .int .i64 n]⟩ W fun e W' => ∃ v H', e = .returned v ∧ H.le H' ∧ RowsH H' v (rowsT t from_ n) ∧ Has 0 w0 W' (TabAt H' p t :: Fz H' :: R) := by
  obtain ⟨pf, vad, vcap, xs, hch, hw⟩ := tabOpen hw
  have hnil : RowsH H (.slice none 0 0) [] := ⟨[], RdH.nil _ _ _ (by omega), rfl⟩
  refine enter Tryz.func32 Tryz.ntmps32 rfl rfl fun a hs => ?_
  repeat (first | (refine sxv hs hw ?_; clear hs; intro a hs) | refine sxc hs ?_ | (refine sxa hs hw ?_; clear hs hw; intro a b W hw hs) | (refine sxs hs hw ?_; clear hs hw; intro W hs hw) | ((with_reducible first | refine st_ptrSome hs (k := ?_) | refine st_ptrNone hs (k := ?_)); clear hs; intro a hs))
  cases c1 : decide (from_ < 1) with
  | true =>
    rw [c1] at hs
    have hX : rowsT t from_ n = [] := by unfold rowsT; rw [if_pos (.inl (of_decide_eq_true c1))]
    rw [hX]
    repeat (first | (refine sxv hs hw ?_; clear hs; intro a hs) | refine sxc hs ?_ | (refine sxa hs hw ?_; clear hs hw; intro a b W hw hs) | (refine sxs hs hw ?_; clear hs hw; intro W hs hw) | ((with_reducible first | refine st_ptrSome hs (k := ?_) | refine st_ptrNone hs (k := ?_)); clear hs; intro a hs))
    exact rt1 hs rfl rfl ⟨_, H, rfl, Fh.le.refl _, hnil, tabShut hw hch⟩
  | false =>
  rw [c1] at hs
  have g1 := of_decide_eq_false c1
  repeat (first | (refine sxv hs hw ?_; clear hs; intro a hs) | refine sxc hs ?_ | (refine sxa hs hw ?_; clear hs hw; intro a b W hw hs) | (refine sxs hs hw ?_; clear hs hw; intro W hs hw) | ((with_reducible first | refine st_ptrSome hs (k := ?_) | refine st_ptrNone hs (k := ?_)); clear hs; intro a hs))
  cases c2 : decide (from_ > (t.rows.length : Int)) with
  | true =>
    rw [c2] at hs
    have hX : rowsT t from_ n = [] := by unfold rowsT; rw [if_pos (.inr (.inl (of_decide_eq_true c2)))]
    rw [hX]
    repeat (first | (refine sxv hs hw ?_; clear hs; intro a hs) | refine sxc hs ?_ | (refine sxa hs hw ?_; clear hs hw; intro a b W hw hs) | (refine sxs hs hw ?_; clear hs hw; intro W hs hw) | ((with_reducible first | refine st_ptrSome hs (k := ?_) | refine st_ptrNone hs (k := ?_)); clear hs; intro a hs))
    exact rt1 hs rfl rfl ⟨_, H, rfl, Fh.le.refl _, hnil, tabShut hw hch⟩
  | false =>
  rw [c2] at hs
  have g2 := of_decide_eq_false c2
  repeat (first | (refine sxv hs hw ?_; clear hs; intro a hs) | refine sxc hs ?_ | (refine sxa hs hw ?_; clear hs hw; intro a b W hw hs) | (refine sxs hs hw ?_; clear hs hw; intro W hs hw) | ((with_reducible first | refine st_ptrSome hs (k := ?_) | refine st_ptrNone hs (k := ?_)); clear hs; intro a hs))
  cases c3 : decide (n < 1) with
  | true =>
    rw [c3] at hs
    have hX : rowsT t from_ n = [] := by unfold rowsT; rw [if_pos (.inr (.inr (of_decide_eq_true c3)))]
    rw [hX]
    repeat (first | (refine sxv hs hw ?_; clear hs; intro a hs) | refine sxc hs ?_ | (refine sxa hs hw ?_; clear hs hw; intro a b W hw hs) | (refine sxs hs hw ?_; clear hs hw; intro W hs hw) | ((with_reducible first | refine st_ptrSome hs (k := ?_) | refine st_ptrNone hs (k := ?_)); clear hs; intro a hs))
    exact rt1 hs rfl rfl ⟨_, H, rfl, Fh.le.refl _, hnil, tabShut hw hch⟩
  | false =>
  rw [c3] at hs
  have g3 := of_decide_eq_false c3
  obtain ⟨k, hk⟩ : ∃ k : Nat, from_ - 1 = (k : Int) := ⟨(from_ - 1).toNat, by omega⟩
  obtain ⟨mn, hmn⟩ : ∃ m : Nat, m = min (t.rows.length - k) (min n.toNat 10) := ⟨_, rfl⟩
  have hX : rowsT t from_ n = (t.rows.drop k).take mn := by
    unfold rowsT
    rw [if_neg (by omega), hk, Int.toNat_natCast]
    have hld : (t.rows.drop k).length = t.rows.length - k := List.length_drop
    by_cases h : min n.toNat 10 ≤ t.rows.length - k
    · rw [show mn = min n.toNat 10 by omega]
    · rw [List.take_of_length_le (by omega), List.take_of_length_le (by omega)]
  rw [hX]
  have hkM : k < t.rows.length := by omega
  have hw : Has 0 w0 W (Sx.Own 39 5 (.slice vad t.rows.length vcap) t.rows.length xs :: Cells p [.int .i64 t.ix, .pointer (some ⟨pf, 0, none⟩), .slice vad t.rows.length vcap] 105 :: FoldAt H pf t.f :: Fz H :: R) := hw.perm (by repeat (first | exact List.Perm.refl _ | refine perm_pick (by repeat (first | exact Pick.hd | apply Pick.tl)) ?_))
  obtain ⟨g, cur, rfl, hcur, hcl0, hkc, hcm, hw⟩ := hw.open_own (by omega)
  repeat (first | (refine sxv hs hw ?_; clear hs; intro a hs) | refine sxc hs ?_ | (refine sxa hs hw ?_; clear hs hw; intro a b W hw hs) | (refine sxs hs hw ?_; clear hs hw; intro W hs hw) | ((with_reducible first | refine st_ptrSome hs (k := ?_) | refine st_ptrNone hs (k := ?_)); clear hs; intro a hs))
  have ew : IntKind.i64.wrap (from_ - 1) = (k : Int) := by rw [hk, IntWalk.i64_in _ (by omega)]
  rw [ew] at hs
  refine st_slice_lo_at hs (z := zrc) (m := k) (h1 := by omega) (hc := hkc) (c := ?_); clear hs; intro a hs
  have et : tailV g zrc.length t.rows.length vcap k = .slice (some ⟨g, k * 5, none⟩) (t.rows.length - k) (vcap - k) := by
    unfold tailV
    rw [if_neg (by omega)]
    rfl
  rw [et] at hs
  repeat (first | (refine sxv hs hw ?_; clear hs; intro a hs) | refine sxc hs ?_ | (refine sxa hs hw ?_; clear hs hw; intro a b W hw hs) | (refine sxs hs hw ?_; clear hs hw; intro W hs hw) | ((with_reducible first | refine st_ptrSome hs (k := ?_) | refine st_ptrNone hs (k := ?_)); clear hs; intro a hs))
  refine st_min3 hs (v := (mn : Int)) (i := ((t.rows.length - k : Nat) : Int)) (j := n) (k := 10) (hv := by rw [hmn]; split <;> split <;> omega) (c := ?_); clear hs; intro a hs
  refine st_slice_hi_at hs (z := zrc) (m := mn) (k := t.rows.length - k) (cap := vcap - k) (h1 := by omega) (hc := by omega) (h0 := by omega) (c := ?_); clear hs; intro a hs
  repeat (first | (refine sxv hs hw ?_; clear hs; intro a hs) | refine sxc hs ?_ | (refine sxa hs hw ?_; clear hs hw; intro a b W hw hs) | (refine sxs hs hw ?_; clear hs hw; intro W hs hw))
  have hw := hw.nilOwn 39 5
  have hmr : mn ≤ t.rows.length - k := by omega
  have hml : ((t.rows.drop k).take mn).length = mn := by rw [List.length_take, List.length_drop]; omega
  obtain ⟨ro, hro⟩ : ∃ x, (t.rows.drop k).take mn = x := ⟨_, rfl⟩
  rw [hro] at hml ⊢
  have hroi : ∀ j r, ro[j]? = some r → t.rows[k + j]? = some r := by
    intro j r h
    rw [← hro, List.getElem?_take] at h
    split at h
    · rw [List.getElem?_drop] at h; exact h
    · cases h
  refine st_loop (σ := Nat × Option Addr × Nat × List Value × Fh) (fun u => [(42, .slice (some ⟨g, k * 5, none⟩) mn (vcap - k)), (43, .int .i64 (mn : Int)), (44, .int .i64 (u.1 : Int)), (8, .slice u.2.1 (ro.take u.1).length u.2.2.1)]) (fun u => Sx.Own 39 5 (.slice u.2.1 (ro.take u.1).length u.2.2.1) (ro.take u.1).length u.2.2.2.1 :: Fz u.2.2.2.2 :: Cells g cur 39 :: Cells p [.int .i64 t.ix, .pointer (some ⟨pf, 0, none⟩), .slice (some ⟨g, 0, none⟩) t.rows.length vcap] 105 :: FoldAt H pf t.f :: R) (fun u => u.1 ≤ mn ∧ H.le u.2.2.2.2 ∧ Ch (RowIn u.2.2.2.2) (ro.take u.1) u.2.2.2.1) (fun u => mn - u.1) (0, none, 0, [], H) ⟨Nat.zero_le _, Fh.le.refl _, rfl⟩ hs ⟨rfl, rfl, rfl, rfl, trivial⟩ (hw.perm (by repeat (first | exact List.Perm.refl _ | refine perm_pick (by repeat (first | exact Pick.hd | apply Pick.tl)) ?_))) ?_
  clear hs hw
  rintro ⟨j, oad, ocap, ys, H'⟩ a W ⟨hj, hH', hch2⟩ hs hw
  simp only at hj hH' hch2 hs hw
  repeat (first | (refine sxv hs hw ?_; clear hs; intro a hs) | refine sxc hs ?_ | (refine sxa hs hw ?_; clear hs hw; intro a b W hw hs) | (refine sxs hs hw ?_; clear hs hw; intro W hs hw))
  refine cd_split hs (kt := fun hcc => ?_) (kf := fun hcc => ?_)
  · have hj' : j < mn := by simpa using hcc
    obtain ⟨r, hri⟩ : ∃ o, ro[j]? = some o := ⟨ro[j]'(by omega), List.getElem?_eq_getElem _⟩
    have hri0 := hroi j r hri
    have hok := h8 r (List.mem_of_getElem? hri0)
    have htk : (ro.take j).length ≤ 1000000 := by rw [List.length_take]; omega
    obtain ⟨c0, ⟨ov0, rfl, hov⟩, hcut⟩ := hch.mem RowIn.len hri0
    obtain ⟨rad, rcap, rfl⟩ := hov.slice
    repeat (first | (refine sxv hs hw ?_; clear hs; intro a hs) | refine sxc hs ?_ | (refine sxa hs hw ?_; clear hs hw; intro a b W hw hs) | (refine sxs hs hw ?_; clear hs hw; intro W hs hw))
    refine st_index_at hs (z := zrc) (h0 := by omega) (h1 := by omega) (c := ?_); clear hs; intro a hs
    refine st_load_ats hs (z := zrc) (cs := rowCells r (.slice rad r.b.l.length rcap)) (hc := fun m u h => by
      rw [cell_block (hw.block (In.tl (In.tl In.hd))).1]
      have := Ch.at_cur (R := RowIn H) (l := t.rows) (a := r) (j := m) hcut hcur h
      rw [← this]
      congr 1
      show k * 5 + j * 5 + m = (k + j) * 5 + m
      omega) (hl := by rfl) (c := ?_); clear hs; intro a hs
    repeat (first | (refine sxv hs hw ?_; clear hs; intro a hs) | refine sxc hs ?_ | (refine sxa hs hw ?_; clear hs hw; intro a b W hw hs) | (refine sxs hs hw ?_; clear hs hw; intro W hs hw))
    obtain ⟨b5, q5⟩ := nm1 hw; subst q5
    have hw : Has 0 w0 _ (Fz H' :: Sx.Own 39 5 (.slice oad (ro.take j).length ocap) (ro.take j).length ys :: Cells g cur 39 :: Cells p [.int .i64 t.ix, .pointer (some ⟨pf, 0, none⟩), .slice (some ⟨g, 0, none⟩) t.rows.length vcap] 105 :: FoldAt H pf t.f :: Cells b5 (rowCells r (.slice rad r.b.l.length rcap)) 39 :: R) := hw.perm (by repeat (first | exact List.Perm.refl _ | refine perm_pick (by repeat (first | exact Pick.hd | apply Pick.tl)) ?_))
    refine st_call hs (hc := table_own w0 _ H' r _ _ hok (hov.le hH') hw) (k := ?_); rintro e0 W1 ⟨nv, H2, rfl, hle, hnv, hw1⟩; refine ⟨_, rfl, ?_⟩; clear hs hw; intro a hs; have hw := hw1; clear hw1
    obtain ⟨nad, ncap, rfl⟩ := hnv.slice
    repeat (first | (refine sxv hs hw ?_; clear hs; intro a hs) | refine sxc hs ?_ | (refine sxa hs hw ?_; clear hs hw; intro a b W hw hs) | (refine sxs hs hw ?_; clear hs hw; intro W hs hw))
    obtain ⟨bx, qx⟩ := nm1 hw; subst qx
    have hw : Has 0 w0 _ (Sx.Own 39 5 (.slice oad (ro.take j).length ocap) (ro.take j).length ys :: Cells bx (rowCells r (.slice nad r.b.l.length ncap)) 39 :: Fz H2 :: Cells g cur 39 :: Cells p [.int .i64 t.ix, .pointer (some ⟨pf, 0, none⟩), .slice (some ⟨g, 0, none⟩) t.rows.length vcap] 105 :: FoldAt H pf t.f :: Cells b5 (rowCells r (.slice rad r.b.l.length rcap)) 39 :: R) := hw.perm (by repeat (first | exact List.Perm.refl _ | refine perm_pick (by repeat (first | exact Pick.hd | apply Pick.tl)) ?_))
    refine st_append1 hs (hw := hw) (hi := In.hd) (ch := hch2.mono (RowIn.le hle)) (ha := (⟨_, rfl, hnv⟩ : RowIn H2 r (rowCells r (.slice nad r.b.l.length ncap)))) (hl := rfl) (h1 := rfl) (hb := by omega) (h63 := by omega) (k := ?_)
    clear hs hw; intro a ad2 cap2 W hs hw hc2
    rw [← take_of hri] at hs hw hc2
    repeat (first | (refine sxv hs hw ?_; clear hs; intro a hs) | refine sxc hs ?_ | (refine sxa hs hw ?_; clear hs hw; intro a b W hw hs) | (refine sxs hs hw ?_; clear hs hw; intro W hs hw))
    have hw := hw.sub (L' := Sx.Own 39 5 (.slice ad2 (ro.take (j + 1)).length cap2) (ro.take (j + 1)).length (ys ++ rowCells r (.slice nad r.b.l.length ncap)) :: Fz H2 :: Cells g cur 39 :: Cells p [.int .i64 t.ix, .pointer (some ⟨pf, 0, none⟩), .slice (some ⟨g, 0, none⟩) t.rows.length vcap] 105 :: FoldAt H pf t.f :: R) (List.Sublist.cons_cons _ (List.Sublist.cons _ (List.Sublist.cons_cons _ (List.Sublist.cons_cons _ (List.Sublist.cons_cons _ (List.Sublist.cons_cons _ (List.Sublist.cons _ (List.Sublist.refl _))))))))
    exact st_again (j + 1, ad2, cap2, ys ++ rowCells r (.slice nad r.b.l.length ncap), H2) hs hw ⟨hj', hH'.trans hle, hc2⟩ (by show mn - (j + 1) < mn - j; omega) ⟨rfl, rfl, int_eq (by show IntKind.i64.wrap ((j : Int) + 1) = ((j + 1 : Nat) : Int); rw [IntWalk.i64_in _ (by omega)]; omega), rfl, trivial⟩
  · have hj' : j = mn := by have : ¬ j < mn := by simpa using hcc
                            omega
    have htr : ro.take j = ro := List.take_of_length_le (by omega)
    rw [htr] at hs hw hch2
    repeat (first | (refine sxv hs hw ?_; clear hs; intro a hs) | refine sxc hs ?_ | (refine sxa hs hw ?_; clear hs hw; intro a b W hw hs) | (refine sxs hs hw ?_; clear hs hw; intro W hs hw))
    have hw : Has 0 w0 W (Cells g cur 39 :: Sx.Own 39 5 (.slice oad ro.length ocap) ro.length ys :: Fz H' :: Cells p [.int .i64 t.ix, .pointer (some ⟨pf, 0, none⟩), .slice (some ⟨g, 0, none⟩) t.rows.length vcap] 105 :: FoldAt H pf t.f :: R) := hw.perm (by repeat (first | exact List.Perm.refl _ | refine perm_pick (by repeat (first | exact Pick.hd | apply Pick.tl)) ?_))
    have hw := hw.shut_own (k := t.rows.length) (size := 5) hcur hcl0 hkc hcm
    have hw : Has 0 w0 W (Sx.Own 39 5 (.slice oad ro.length ocap) ro.length ys :: Fz H' :: Sx.Own 39 5 (.slice (some ⟨g, 0, none⟩) t.rows.length vcap) t.rows.length xs :: Cells p [.int .i64 t.ix, .pointer (some ⟨pf, 0, none⟩), .slice (some ⟨g, 0, none⟩) t.rows.length vcap] 105 :: FoldAt H pf t.f :: R) := hw.perm (by repeat (first | exact List.Perm.refl _ | refine perm_pick (by repeat (first | exact Pick.hd | apply Pick.tl)) ?_))
    obtain ⟨H2, hle, hw, hrd⟩ := hw.freeze_own
    have hw : Has 0 w0 W (FoldAt H pf t.f :: Cells p [.int .i64 t.ix, .pointer (some ⟨pf, 0, none⟩), .slice (some ⟨g, 0, none⟩) t.rows.length vcap] 105 :: Sx.Own 39 5 (.slice (some ⟨g, 0, none⟩) t.rows.length vcap) t.rows.length xs :: Fz H2 :: R) := hw.perm (by repeat (first | exact List.Perm.refl _ | refine perm_pick (by repeat (first | exact Pick.hd | apply Pick.tl)) ?_))
    have hle2 := hH'.trans hle
    have hw := tabShut (foldLe hw hle2).swap2 (hch.mono (RowIn.le hle2))
    exact rt1 hs rfl rfl ⟨_, H2, rfl, hle2, ⟨ys, hrd, hch2.mono (RowIn.le hle)⟩, hw⟩
theorem flat_len {l : List RowD} (h : ∀ r ∈ l, (rowB r).length ≤ 1300) : (l.flatMap rowB).length ≤ l.length * 1300 := by
  induction l with
  | nil => simp
  | cons r l ih =>
    have h1 := h r (by simp)
    have h2 := ih fun q hq => h q (by simp [hq])
    simp only [List.flatMap_cons, List.length_append, List.length_cons]
    omega
theorem rowB_len {r : RowD} (h : mayB r.b = true) : (rowB r).length ≤ 1300 := by
  have h1 : (encB r.b).length ≤ 1200 := (mayBatch_parts h).2.2.2.2
  have h2 := Ph.putI_length_le ((encB r.b).length : Int)
  unfold rowB Ph.putT
  rw [List.length_append]
  omega
set_option maxHeartbeats 16000000 in
theorem table_Data (w0 W : World) (H : Fh) (p : Nat) (t : TabD) (R : List Res) (hl : t.rows.length ≤ 200000) (hix : i64 t.ix) (hb : ∀ r ∈ t.rows, BatOk r.b ∧ mayB r.b = true) (hH : (fr w0).le H) (hT : Tabs w0) (hw : Has 0 w0 W (TabAt H p t :: Fz H :: R)) :
    Calls Tryz.prog 29 ⟨[.pointer (some ⟨p, 0, none⟩)]⟩ W fun e W' => e = .returned (.string ⟨(dataT t).toArray⟩) ∧ Has 0 w0 W' (TabAt H p t :: Fz H :: R) := by
  obtain ⟨pf, vad, vcap, xs, hch, hw⟩ := tabOpen hw
  refine enter Tryz.func29 Tryz.ntmps29 rfl rfl fun a hs => ?_
  repeat (first | (refine sxv hs hw ?_; clear hs; intro a hs) | refine sxc hs ?_ | (refine sxa hs hw ?_; clear hs hw; intro a b W hw hs) | (refine sxs hs hw ?_; clear hs hw; intro W hs hw) | ((with_reducible first | refine st_ptrSome hs (k := ?_) | refine st_ptrNone hs (k := ?_)); clear hs; intro a hs))
  have hpi := Ph.putI_length_le t.ix
  have hpl := Ph.putI_length_le (t.rows.length : Int)
  have hw : Has 0 w0 _ (Sx.OwnB 5 (.slice none 0 0) [] :: Cells p [.int .i64 t.ix, .pointer (some ⟨pf, 0, none⟩), .slice vad t.rows.length vcap] 105 :: FoldAt H pf t.f :: Sx.Own 39 5 (.slice vad t.rows.length vcap) t.rows.length xs :: Fz H :: R) := (hw.nilOwn 5 1).perm (by repeat (first | exact List.Perm.refl _ | refine perm_pick (by repeat (first | exact Pick.hd | apply Pick.tl)) ?_))
  refine rg_drawU (σ := Option Addr × Nat) (V := fun u => [.pointer (some ⟨p, 0, none⟩), .pointer (some ⟨p, 0, none⟩), .pointer (some ⟨p, 0 + 0, none⟩), .int .i64 t.ix, (.slice (u 4).1 (Ph.putI t.ix).length (u 4).2), .pointer (some ⟨p, 0, none⟩), .pointer (some ⟨p, 0, none⟩), .pointer (some ⟨p, 0 + 2, none⟩), .slice vad t.rows.length vcap, .int .i64 (t.rows.length : Int), (.slice (u 10).1 ((Ph.putI t.ix) ++ (Ph.putI (t.rows.length : Int))).length (u 10).2), (.slice (u 11).1 ((Ph.putI t.ix) ++ (Ph.putI (t.rows.length : Int))).length (u 11).2)])
    (Rs := fun u D => (if D 11 then Sx.OwnB 5 (.slice (u 11).1 ((Ph.putI t.ix) ++ (Ph.putI (t.rows.length : Int))).length (u 11).2) ((Ph.putI t.ix) ++ (Ph.putI (t.rows.length : Int))) else if D 10 then Sx.OwnB 5 (.slice (u 10).1 ((Ph.putI t.ix) ++ (Ph.putI (t.rows.length : Int))).length (u 10).2) ((Ph.putI t.ix) ++ (Ph.putI (t.rows.length : Int))) else if D 4 then Sx.OwnB 5 (.slice (u 4).1 (Ph.putI t.ix).length (u 4).2) (Ph.putI t.ix) else Sx.OwnB 5 (.slice none 0 0) []) :: Cells p [.int .i64 t.ix, .pointer (some ⟨pf, 0, none⟩), .slice vad t.rows.length vcap] 105 :: FoldAt H pf t.f :: Sx.Own 39 5 (.slice vad t.rows.length vcap) t.rows.length xs :: Fz H :: R) (fun _ => (none, 0)) hs hw (hVu := ?vu_1) (ho := ⟨?_, ?_, ?_, ?_, ?c4_1, ?_, ?_, ?_, ?_, ?_, ?c10_1, ?c11_1, trivial⟩) (k := ?k_1)
  case vu_1 =>
    intro u u' j h
    rcases j with _ | _ | _ | _ | _ | _ | _ | _ | _ | _ | _ | _ | j
    all_goals first | rfl | simp [h]
  case c4_1 =>
    intro u LD D a W hcl hi hp hs hw
    have hA := Go.Sx.not_done hcl hi 10 (by kernel_rfl)
    have hB := Go.Sx.not_done hcl hA 11 (by kernel_rfl)
    simp only [hi, hA, hB, Bool.false_eq_true, if_false] at hw
    refine st_call hs (hc := num_Put w0 _ (.slice none 0 0) [] t.ix _ hix.1 hix.2 (by simp) hw) (k := ?_); rintro e0 W1 ⟨ad, cap, rfl, hw1⟩; refine ⟨_, rfl, ?_⟩; clear hs hw; intro a hs; have hw := hw1; clear hw1
    rw [List.nil_append] at hs hw
    repeat (first | (refine sxv hs hw ?_; clear hs; intro a hs) | refine sxc hs ?_ | (refine sxa hs hw ?_; clear hs hw; intro a b W hw hs) | (refine sxs hs hw ?_; clear hs hw; intro W hs hw))
    refine Or.inr ⟨(ad, cap), hs, ?_⟩
    show Has 0 w0 _ ((if (Nat.beq 11 4 || D 11) = true then _ else if (Nat.beq 10 4 || D 10) = true then _ else _) :: _)
    rw [hA, hB]
    exact hw
  case c10_1 =>
    intro u LD D a W hcl hi hp hs hw
    have hB := Go.Sx.not_done hcl hi 11 (by kernel_rfl)
    have h4 := Go.Sx.done hp 4 (by kernel_rfl)
    simp only [hi, h4, hB, Bool.false_eq_true, if_false, if_true] at hw
    refine st_call hs (hc := num_Put w0 _ _ (Ph.putI t.ix) (t.rows.length : Int) _ (by omega) (by omega) (by omega) hw) (k := ?_); rintro e0 W1 ⟨ad, cap, rfl, hw1⟩; refine ⟨_, rfl, ?_⟩; clear hs hw; intro a hs; have hw := hw1; clear hw1
    repeat (first | (refine sxv hs hw ?_; clear hs; intro a hs) | refine sxc hs ?_ | (refine sxa hs hw ?_; clear hs hw; intro a b W hw hs) | (refine sxs hs hw ?_; clear hs hw; intro W hs hw))
    refine Or.inr ⟨(ad, cap), hs, ?_⟩
    show Has 0 w0 _ ((if (Nat.beq 11 10 || D 11) = true then _ else _) :: _)
    rw [hB]
    exact hw
  case c11_1 =>
    intro u LD D a W hcl hi hp hs hw
    have hA := Go.Sx.done hp 10 (by kernel_rfl)
    simp only [hi, hA, Bool.false_eq_true, if_false, if_true] at hw
    repeat (first | (refine sxv hs hw ?_; clear hs; intro a hs) | refine sxc hs ?_ | (refine sxa hs hw ?_; clear hs hw; intro a b W hw hs) | (refine sxs hs hw ?_; clear hs hw; intro W hs hw))
    exact Or.inr ⟨u 10, hs, hw⟩
  case k_1 =>
    clear hs hw
    intro u a W hs hw
    replace hw : Has 0 w0 W (Sx.OwnB 5 (.slice (u 11).1 ((Ph.putI t.ix) ++ (Ph.putI (t.rows.length : Int))).length (u 11).2) ((Ph.putI t.ix) ++ (Ph.putI (t.rows.length : Int))) :: Cells p [.int .i64 t.ix, .pointer (some ⟨pf, 0, none⟩), .slice vad t.rows.length vcap] 105 :: FoldAt H pf t.f :: Sx.Own 39 5 (.slice vad t.rows.length vcap) t.rows.length xs :: Fz H :: R) := hw
    replace hs : Slots a 37 [(3, (.slice (u 11).1 ((Ph.putI t.ix) ++ (Ph.putI (t.rows.length : Int))).length (u 11).2)), (0, .pointer (some ⟨p, 0, none⟩))] := hs.of ⟨rfl, rfl, trivial⟩
    generalize (u 11).1 = ad1 at *
    generalize (u 11).2 = cap1 at *
    clear u
    have ez : (Ph.putI t.ix) ++ (Ph.putI (t.rows.length : Int)) = (Ph.putI t.ix ++ (Ph.putI (t.rows.length : Int) ++ (t.rows.take 0).flatMap rowB)) := by simp
    rw [ez] at hs hw
    repeat (first | (refine sxv hs hw ?_; clear hs; intro a hs) | refine sxc hs ?_ | (refine sxa hs hw ?_; clear hs hw; intro a b W hw hs) | (refine sxs hs hw ?_; clear hs hw; intro W hs hw) | ((with_reducible first | refine st_ptrSome hs (k := ?_) | refine st_ptrNone hs (k := ?_)); clear hs; intro a hs))
    refine st_loop (σ := Nat × Option Addr × Nat) (fun u => [(22, .slice vad t.rows.length vcap), (23, .int .i64 (t.rows.length : Int)), (24, .int .i64 (u.1 : Int)), (3, .slice u.2.1 (Ph.putI t.ix ++ (Ph.putI (t.rows.length : Int) ++ (t.rows.take u.1).flatMap rowB)).length u.2.2)]) (fun u => Sx.OwnB 5 (.slice u.2.1 (Ph.putI t.ix ++ (Ph.putI (t.rows.length : Int) ++ (t.rows.take u.1).flatMap rowB)).length u.2.2) (Ph.putI t.ix ++ (Ph.putI (t.rows.length : Int) ++ (t.rows.take u.1).flatMap rowB)) :: Cells p [.int .i64 t.ix, .pointer (some ⟨pf, 0, none⟩), .slice vad t.rows.length vcap] 105 :: FoldAt H pf t.f :: Sx.Own 39 5 (.slice vad t.rows.length vcap) t.rows.length xs :: Fz H :: R) (fun u => u.1 ≤ t.rows.length) (fun u => t.rows.length - u.1) (0, ad1, cap1) (Nat.zero_le _) hs ⟨rfl, rfl, rfl, rfl, trivial⟩ hw ?_
    clear hs hw
    rintro ⟨j, oad, ocap⟩ a W hj hs hw
    simp only at hj hs hw
    repeat (first | (refine sxv hs hw ?_; clear hs; intro a hs) | refine sxc hs ?_ | (refine sxa hs hw ?_; clear hs hw; intro a b W hw hs) | (refine sxs hs hw ?_; clear hs hw; intro W hs hw))
    refine cd_split hs (kt := fun hcc => ?_) (kf := fun hcc => ?_)
    · have hj' : j < t.rows.length := by simpa using hcc
      obtain ⟨r, hri⟩ : ∃ o, t.rows[j]? = some o := ⟨t.rows[j], List.getElem?_eq_getElem hj'⟩
      obtain ⟨hbo, hmb⟩ := hb r (List.mem_of_getElem? hri)
      have hfl : ((t.rows.take j).flatMap rowB).length ≤ (t.rows.take j).length * 1300 := flat_len fun q hq => rowB_len (hb q (List.mem_of_mem_take hq)).2
      have htl : (t.rows.take j).length ≤ 200000 := by rw [List.length_take]; omega
      have hacc : (Ph.putI t.ix ++ (Ph.putI (t.rows.length : Int) ++ (t.rows.take j).flatMap rowB)).length ≤ 300000000 := by
        simp only [List.length_append]
        omega
      have hnext : (Ph.putI t.ix ++ (Ph.putI (t.rows.length : Int) ++ (t.rows.take j).flatMap rowB)) ++ Ph.putT (encB r.b) = (Ph.putI t.ix ++ (Ph.putI (t.rows.length : Int) ++ (t.rows.take (j + 1)).flatMap rowB)) := by
        rw [take_of hri]
        simp [rowB]
      have he12 : (encB r.b).length ≤ 1200 := (mayBatch_parts hmb).2.2.2.2
      obtain ⟨acc, hae⟩ : ∃ x, (Ph.putI t.ix ++ (Ph.putI (t.rows.length : Int) ++ (t.rows.take j).flatMap rowB)) = x := ⟨_, rfl⟩
      rw [hae] at hs hw hacc hnext
      repeat (first | (refine sxv hs hw ?_; clear hs; intro a hs) | refine sxc hs ?_ | (refine sxa hs hw ?_; clear hs hw; intro a b W hw hs) | (refine sxs hs hw ?_; clear hs hw; intro W hs hw))
      refine st_index_ch hs (r := hw.rd_own (In.tl (In.tl (In.tl In.hd)))) (hk := RowIn.len) (ch := hch) (ho := hri) (hlen := rfl) (c := ?_); clear hs; intro a g off c hc hcl hpc hlt hs
      obtain ⟨rv, rfl, hrv⟩ := hc
      obtain ⟨rad, rcap, rfl⟩ := hrv.slice
      refine st_load_ats hs (cs := rowCells r (.slice rad r.b.l.length rcap)) (hc := hpc) (hl := by rfl) (c := ?_); clear hs; intro a hs
      clear hpc
      repeat (first | (refine sxv hs hw ?_; clear hs; intro a hs) | refine sxc hs ?_ | (refine sxa hs hw ?_; clear hs hw; intro a b W hw hs) | (refine sxs hs hw ?_; clear hs hw; intro W hs hw))
      refine st_call hs (hc := op_Encode r.b.c r.b.q r.b.l _ _ hbo.c hbo.q hbo.ops (hw.rdH (by repeat (first | exact In.hd | apply In.tl)) hrv) (hT.keep (hw.endF (by repeat (first | exact In.hd | apply In.tl)) hH))) (k := ?_); rintro e0 W1 ⟨ead, ecap, rfl, _, hw1⟩; refine ⟨_, rfl, ?_⟩; clear hs; intro a hs; replace hw := hw.call hw1; clear hw1
      have hif : (if mayBatch r.b.c r.b.q r.b.l = true then textB r.b.c r.b.q r.b.l else []) = encB r.b := by rw [if_pos (show mayBatch r.b.c r.b.q r.b.l = true from hmb)]; rfl
      rw [hif] at hs hw
      refine st_string_b hs (r := hw.rd_own In.hd) (k := ?_); clear hs; intro a hs
      obtain ⟨b5, q5⟩ : ∃ x : Nat, x = 0 := ⟨0, rfl⟩
      clear b5 q5
      have hw := hw.sub (List.Sublist.cons _ (List.Sublist.refl _))
      have hw := hw.swap2
      refine st_call hs (hc := num_PutText w0 _ _ acc ⟨(encB r.b).toArray⟩ _ (by show (encB r.b).length ≤ _; omega) (by omega) hw) (k := ?_); rintro e0 W1 ⟨ad, cap, rfl, hw1⟩; refine ⟨_, rfl, ?_⟩; clear hs hw; intro a hs; have hw := hw1; clear hw1
      have hds : ((⟨(encB r.b).toArray⟩ : ByteArray).data.toList) = encB r.b := rfl
      rw [hds, hnext] at hs hw
      repeat (first | (refine sxv hs hw ?_; clear hs; intro a hs) | refine sxc hs ?_ | (refine sxa hs hw ?_; clear hs hw; intro a b W hw hs) | (refine sxs hs hw ?_; clear hs hw; intro W hs hw))
      have hw := hw.sub (L' := Sx.OwnB 5 (.slice ad (Ph.putI t.ix ++ (Ph.putI (t.rows.length : Int) ++ (t.rows.take (j + 1)).flatMap rowB)).length cap) (Ph.putI t.ix ++ (Ph.putI (t.rows.length : Int) ++ (t.rows.take (j + 1)).flatMap rowB)) :: Cells p [.int .i64 t.ix, .pointer (some ⟨pf, 0, none⟩), .slice vad t.rows.length vcap] 105 :: FoldAt H pf t.f :: Sx.Own 39 5 (.slice vad t.rows.length vcap) t.rows.length xs :: Fz H :: R) (List.Sublist.cons_cons _ (List.Sublist.cons _ (List.Sublist.refl _)))
      exact st_again (j + 1, ad, cap) hs hw hj' (by show t.rows.length - (j + 1) < t.rows.length - j; omega) ⟨rfl, rfl, int_eq (by show IntKind.i64.wrap ((j : Int) + 1) = ((j + 1 : Nat) : Int); rw [IntWalk.i64_in _ (by omega)]; omega), rfl, trivial⟩
    · have hj' : j = t.rows.length := by have : ¬ j < t.rows.length := by simpa using hcc
                                         omega
      have hdt : (Ph.putI t.ix ++ (Ph.putI (t.rows.length : Int) ++ (t.rows.take j).flatMap rowB)) = dataT t := by
        rw [hj', List.take_length]; rfl
      rw [hdt] at hs hw
      repeat (first | (refine sxv hs hw ?_; clear hs; intro a hs) | refine sxc hs ?_ | (refine sxa hs hw ?_; clear hs hw; intro a b W hw hs) | (refine sxs hs hw ?_; clear hs hw; intro W hs hw))
      refine st_string_b hs (r := hw.rd_own In.hd) (k := ?_); clear hs; intro a hs
      repeat (first | (refine sxv hs hw ?_; clear hs; intro a hs) | refine sxc hs ?_ | (refine sxa hs hw ?_; clear hs hw; intro a b W hw hs) | (refine sxs hs hw ?_; clear hs hw; intro W hs hw))
      have hw := hw.sub (List.Sublist.cons _ (List.Sublist.refl _))
      exact rt1 hs rfl rfl ⟨rfl, tabShut hw hch⟩
  all_goals
    intro u LD D a W hcl hi hp hs hw
    repeat (first | (refine sxv hs hw ?_; clear hs; intro a hs) | refine sxc hs ?_ | (refine sxa hs hw ?_; clear hs hw; intro a b W hw hs) | (refine sxs hs hw ?_; clear hs hw; intro W hs hw))
    exact Or.inl ⟨hs, hw⟩
end Go.Proofs.YtmalklakaalaoaaGreatDoor.Sw

set_option linter.unusedVariables false
set_option maxRecDepth 10000
namespace Go.Sx
open Go.RowKit
theorem Has.rdM {G b cap : Nat} {w W W0 : World} {R : List Res} {E : TypeId} {l : List UInt8} {ext : List Value} (h : Has G w W R) (i : In (CellsM b (bys l ++ ext) E) R) (r0 : RdB W0 (.slice (some ⟨b, 0, none⟩) l.length cap) l) : RdB W (.slice (some ⟨b, 0, none⟩) l.length cap) l := by
  obtain ⟨h1, ad, c2, e, h3, h4, h5⟩ := r0
  injection e with e1 e2 e3
  subst e1 e3
  refine ⟨h1, _, _, rfl, h3, h4, .inr ⟨b, 0, rfl, (h.blockM i).2.2, fun j u hj => ?_⟩⟩
  rw [cell_m (h.blockM i).1, Nat.zero_add]
  have hj2 := (List.getElem?_eq_some_iff.1 hj).1
  rw [List.getElem?_append_left hj2]; exact hj
end Go.Sx
namespace Go.Proofs.YtmalklakaalaoaaGreatDoor.Sw
open Go.RowKit Go.Sx
theorem loadT_head {l : List UInt8} (h : headT l = none) : loadT l = none := by unfold loadT; rw [h]
theorem loadRows_succ (m : Nat) (f : FoldD) (rs : List RowD) (s : List UInt8) : loadRows (m + 1) f rs s = match (Ph.getT s).2.2 == 0, decode (Ph.getT s).1 with
    | true, some p => (match (next f (batOf p)).2.2 with
       | true => loadRows m (next f (batOf p)).1 (rs ++ [(next f (batOf p)).2.1]) (s.drop (Ph.getT s).2.1)
       | false => none)
    | _, _ => none := rfl
set_option maxHeartbeats 32000000 in
theorem table_Load (w0 W : World) (H : Fh) (s : ByteArray) (R : List Res) (hl : s.size ≤ 200000) (hH : (fr w0).le H) (hT : Tabs w0) (hw : Has 0 w0 W (Fz H :: R)) :
    Calls Tryz.prog 28 ⟨[.string s]⟩ W fun e W' => ∃ H', H.le H' ∧ ((loadT s.data.toList = none ∧ e = .returned (.tuple ⟨[.pointer none, .int .i64 1]⟩) ∧ Has 0 w0 W' (Fz H' :: R)) ∨ ∃ t p, loadT s.data.toList = some t ∧ e = .returned (.tuple ⟨[.pointer (some ⟨p, 0, none⟩), .int .i64 0]⟩) ∧ Has 0 w0 W' (TabAt H' p t :: Fz H' :: R)) := by
  refine enter Tryz.func28 Tryz.ntmps28 rfl rfl fun a hs => ?_
  repeat (first | (refine sxv hs hw ?_; clear hs; intro a hs) | refine sxc hs ?_ | (refine sxa hs hw ?_; clear hs hw; intro a b W hw hs) | (refine sxs hs hw ?_; clear hs hw; intro W hs hw))
  refine st_bytes (s := s) hs hw (by omega) (c := ?_); clear hs hw; intro a bb cap0 ext W hw hr0 hs
  have hll : s.data.toList.length ≤ 200000 := by rw [Array.length_toList]; exact hl
  generalize s.data.toList = l at *
  repeat (first | (refine sxv hs hw ?_; clear hs; intro a hs) | refine sxc hs ?_ | (refine sxa hs hw ?_; clear hs hw; intro a b W hw hs) | (refine sxs hs hw ?_; clear hs hw; intro W hs hw))
  refine st_call hs (hc := num_Get _ _ l (hw.rdM In.hd hr0)) (k := ?_); rintro e0 W1 ⟨rfl, rfl⟩; refine ⟨_, rfl, ?_⟩; clear hs; intro a hs
  have hk1 := Ph.getI_le l
  obtain ⟨⟨ix, k, err⟩, hg⟩ : ∃ x, Ph.getI l = x := ⟨_, rfl⟩
  rw [hg] at hs hk1
  simp only at hs hk1
  repeat (first | (refine sxv hs hw ?_; clear hs; intro a hs) | refine sxc hs ?_ | (refine sxa hs hw ?_; clear hs hw; intro a b W hw hs) | (refine sxs hs hw ?_; clear hs hw; intro W hs hw))
  cases c1 : (err != 0) with
  | true =>
    rw [c1] at hs
    have he : err ≠ 0 := by simpa using c1
    have hX : loadT l = none := loadT_head (by unfold headT; rw [hg, if_neg (fun h => he h.1)])
    repeat (first | (refine sxv hs hw ?_; clear hs; intro a hs) | refine sxc hs ?_ | (refine sxa hs hw ?_; clear hs hw; intro a b W hw hs) | (refine sxs hs hw ?_; clear hs hw; intro W hs hw))
    exact rt2 hs rfl rfl rfl ⟨H, Fh.le.refl _, .inl ⟨hX, rfl, hw.sub (List.Sublist.cons _ (List.Sublist.refl _))⟩⟩
  | false =>
  rw [c1] at hs
  have he1 : err = 0 := by simpa using c1
  repeat (first | (refine sxv hs hw ?_; clear hs; intro a hs) | refine sxc hs ?_ | (refine sxa hs hw ?_; clear hs hw; intro a b W hw hs) | (refine sxs hs hw ?_; clear hs hw; intro W hs hw))
  cases c2 : decide (ix < 0) with
  | true =>
    rw [c2] at hs
    have g2 := of_decide_eq_true c2
    have hX : loadT l = none := loadT_head (by unfold headT; rw [hg, if_neg (fun h => by have := h.2.1; simp only at this; omega)])
    repeat (first | (refine sxv hs hw ?_; clear hs; intro a hs) | refine sxc hs ?_ | (refine sxa hs hw ?_; clear hs hw; intro a b W hw hs) | (refine sxs hs hw ?_; clear hs hw; intro W hs hw))
    exact rt2 hs rfl rfl rfl ⟨H, Fh.le.refl _, .inl ⟨hX, rfl, hw.sub (List.Sublist.cons _ (List.Sublist.refl _))⟩⟩
  | false =>
  rw [c2] at hs
  have g2 := of_decide_eq_false c2
  repeat (first | (refine sxv hs hw ?_; clear hs; intro a hs) | refine sxc hs ?_ | (refine sxa hs hw ?_; clear hs hw; intro a b W hw hs) | (refine sxs hs hw ?_; clear hs hw; intro W hs hw))
  cases c3 : decide (ix > 1099511627776) with
  | true =>
    rw [c3] at hs
    have g3 := of_decide_eq_true c3
    have hX : loadT l = none := loadT_head (by unfold headT; rw [hg, if_neg (fun h => by have := h.2.2; simp only at this; omega)])
    repeat (first | (refine sxv hs hw ?_; clear hs; intro a hs) | refine sxc hs ?_ | (refine sxa hs hw ?_; clear hs hw; intro a b W hw hs) | (refine sxs hs hw ?_; clear hs hw; intro W hs hw))
    exact rt2 hs rfl rfl rfl ⟨H, Fh.le.refl _, .inl ⟨hX, rfl, hw.sub (List.Sublist.cons _ (List.Sublist.refl _))⟩⟩
  | false =>
  rw [c3] at hs
  have g3 := of_decide_eq_false c3
  repeat (first | (refine sxv hs hw ?_; clear hs; intro a hs) | refine sxc hs ?_ | (refine sxa hs hw ?_; clear hs hw; intro a b W hw hs) | (refine sxs hs hw ?_; clear hs hw; intro W hs hw))
  refine st_slice_lo_b (hs := hs) (r := hw.rdM In.hd hr0) (h0 := by omega) (h1 := by omega) (c := ?_); clear hs; intro a ad1 cap1 r1 hs
  rw [Int.toNat_natCast] at hs r1
  repeat (first | (refine sxv hs hw ?_; clear hs; intro a hs) | refine sxc hs ?_ | (refine sxa hs hw ?_; clear hs hw; intro a b W hw hs) | (refine sxs hs hw ?_; clear hs hw; intro W hs hw))
  refine st_call hs (hc := num_Get _ _ (l.drop k) r1) (k := ?_); rintro e0 W1 ⟨rfl, rfl⟩; refine ⟨_, rfl, ?_⟩; clear hs r1; intro a hs
  have hk2 := Ph.getI_le (l.drop k)
  obtain ⟨⟨n, m, err2⟩, hg2⟩ : ∃ x, Ph.getI (l.drop k) = x := ⟨_, rfl⟩
  rw [hg2] at hs hk2
  rw [List.length_drop] at hk2
  simp only at hs hk2
  have hhd : headT l = if err2 = 0 ∧ 0 ≤ n ∧ n ≤ ix ∧ n ≤ l.length then some (ix, n.toNat, l.drop (k + m)) else none := by
    unfold headT
    rw [hg]
    simp only
    rw [hg2, if_pos ⟨he1, by omega, by omega⟩]
  repeat (first | (refine sxv hs hw ?_; clear hs; intro a hs) | refine sxc hs ?_ | (refine sxa hs hw ?_; clear hs hw; intro a b W hw hs) | (refine sxs hs hw ?_; clear hs hw; intro W hs hw))
  cases c4 : (err2 != 0) with
  | true =>
    rw [c4] at hs
    have he : err2 ≠ 0 := by simpa using c4
    have hX : loadT l = none := loadT_head (by rw [hhd, if_neg (fun h => he h.1)])
    repeat (first | (refine sxv hs hw ?_; clear hs; intro a hs) | refine sxc hs ?_ | (refine sxa hs hw ?_; clear hs hw; intro a b W hw hs) | (refine sxs hs hw ?_; clear hs hw; intro W hs hw))
    exact rt2 hs rfl rfl rfl ⟨H, Fh.le.refl _, .inl ⟨hX, rfl, hw.sub (List.Sublist.cons _ (List.Sublist.refl _))⟩⟩
  | false =>
  rw [c4] at hs
  have he2 : err2 = 0 := by simpa using c4
  repeat (first | (refine sxv hs hw ?_; clear hs; intro a hs) | refine sxc hs ?_ | (refine sxa hs hw ?_; clear hs hw; intro a b W hw hs) | (refine sxs hs hw ?_; clear hs hw; intro W hs hw))
  cases c5 : decide (n < 0) with
  | true =>
    rw [c5] at hs
    have g5 := of_decide_eq_true c5
    have hX : loadT l = none := loadT_head (by rw [hhd, if_neg (fun h => by have := h.2.1; omega)])
    repeat (first | (refine sxv hs hw ?_; clear hs; intro a hs) | refine sxc hs ?_ | (refine sxa hs hw ?_; clear hs hw; intro a b W hw hs) | (refine sxs hs hw ?_; clear hs hw; intro W hs hw))
    exact rt2 hs rfl rfl rfl ⟨H, Fh.le.refl _, .inl ⟨hX, rfl, hw.sub (List.Sublist.cons _ (List.Sublist.refl _))⟩⟩
  | false =>
  rw [c5] at hs
  have g5 := of_decide_eq_false c5
  repeat (first | (refine sxv hs hw ?_; clear hs; intro a hs) | refine sxc hs ?_ | (refine sxa hs hw ?_; clear hs hw; intro a b W hw hs) | (refine sxs hs hw ?_; clear hs hw; intro W hs hw))
  cases c6 : decide (n > ix) with
  | true =>
    rw [c6] at hs
    have g6 := of_decide_eq_true c6
    have hX : loadT l = none := loadT_head (by rw [hhd, if_neg (fun h => by have := h.2.2.1; omega)])
    repeat (first | (refine sxv hs hw ?_; clear hs; intro a hs) | refine sxc hs ?_ | (refine sxa hs hw ?_; clear hs hw; intro a b W hw hs) | (refine sxs hs hw ?_; clear hs hw; intro W hs hw))
    exact rt2 hs rfl rfl rfl ⟨H, Fh.le.refl _, .inl ⟨hX, rfl, hw.sub (List.Sublist.cons _ (List.Sublist.refl _))⟩⟩
  | false =>
  rw [c6] at hs
  have g6 := of_decide_eq_false c6
  repeat (first | (refine sxv hs hw ?_; clear hs; intro a hs) | refine sxc hs ?_ | (refine sxa hs hw ?_; clear hs hw; intro a b W hw hs) | (refine sxs hs hw ?_; clear hs hw; intro W hs hw))
  cases c7 : decide (n > (l.length : Int)) with
  | true =>
    rw [c7] at hs
    have g7 := of_decide_eq_true c7
    have hX : loadT l = none := loadT_head (by rw [hhd, if_neg (fun h => by have := h.2.2.2; omega)])
    repeat (first | (refine sxv hs hw ?_; clear hs; intro a hs) | refine sxc hs ?_ | (refine sxa hs hw ?_; clear hs hw; intro a b W hw hs) | (refine sxs hs hw ?_; clear hs hw; intro W hs hw))
    exact rt2 hs rfl rfl rfl ⟨H, Fh.le.refl _, .inl ⟨hX, rfl, hw.sub (List.Sublist.cons _ (List.Sublist.refl _))⟩⟩
  | false =>
  rw [c7] at hs
  have g7 := of_decide_eq_false c7
  obtain ⟨nn, rfl⟩ := Int.eq_ofNat_of_zero_le (show 0 ≤ n by omega)
  rw [if_pos ⟨he2, by omega, by omega, by omega⟩, Int.toNat_natCast] at hhd
  have hload : loadT l = match loadRows nn emptyF [] (l.drop (k + m)) with
      | none => none
      | some (f, rs) => if dataT ⟨ix, f, rs⟩ = l then some ⟨ix, f, rs⟩ else none := by
    unfold loadT; rw [hhd]; rfl
  repeat (first | (refine sxv hs hw ?_; clear hs; intro a hs) | refine sxc hs ?_ | (refine sxa hs hw ?_; clear hs hw; intro a b W hw hs) | (refine sxs hs hw ?_; clear hs hw; intro W hs hw))
  refine st_call hs (hc := table_New w0 _ H _ hw) (k := ?_); rintro e0 W1 ⟨p, rfl, hw1⟩; refine ⟨_, rfl, ?_⟩; clear hs hw; intro a hs; have hw := hw1; clear hw1
  repeat (first | (refine sxv hs hw ?_; clear hs; intro a hs) | refine sxn hs ?_ | (refine sxa hs hw ?_; clear hs hw; intro a b W hw hs) | (refine sxs hs hw ?_; clear hs hw; intro W hs hw))
  have ea : IntKind.i64.wrap ((k : Int) + (m : Int)) = ((k + m : Nat) : Int) := by rw [IntWalk.i64_in _ (by omega)]; omega
  rw [ea] at hs
  refine sq ?_
  refine merge (M := fun a W => ∃ (t : TabD) (H' : Fh), H.le H' ∧ t.ix = 0 ∧ loadRows nn emptyF [] (l.drop (k + m)) = some (t.f, t.rows) ∧ t.rows.length = nn ∧ (∀ r ∈ t.rows, BatOk r.b ∧ mayB r.b = true) ∧ Slots a 122 [(4, .slice (some ⟨bb, 0, none⟩) l.length cap0), (5, .int .i64 ix), (10, .pointer (some ⟨p, 0, none⟩))] ∧ Has 0 w0 W (TabAt H' p t :: Fz H' :: CellsM bb (bys l ++ ext) 5 :: R)) ?_ ?_
  · repeat (first | (refine sxv hs hw ?_; clear hs; intro a hs) | refine sxc hs ?_ | (refine sxa hs hw ?_; clear hs hw; intro a b W hw hs) | (refine sxs hs hw ?_; clear hs hw; intro W hs hw))
    refine st_loop (σ := Nat × TabD × Nat × Fh) (fun u => [(4, .slice (some ⟨bb, 0, none⟩) l.length cap0), (5, .int .i64 ix), (10, .pointer (some ⟨p, 0, none⟩)), (11, .int .i64 (u.2.2.1 : Int)), (65, .int .i64 (nn : Int)), (66, .int .i64 (u.1 : Int))]) (fun u => TabAt u.2.2.2 p u.2.1 :: Fz u.2.2.2 :: CellsM bb (bys l ++ ext) 5 :: R) (fun u => u.1 ≤ nn ∧ u.2.1.ix = 0 ∧ u.2.1.rows.length = u.1 ∧ u.2.2.1 ≤ l.length ∧ H.le u.2.2.2 ∧ loadRows (nn - u.1) u.2.1.f u.2.1.rows (l.drop u.2.2.1) = loadRows nn emptyF [] (l.drop (k + m)) ∧ ∀ r ∈ u.2.1.rows, BatOk r.b ∧ mayB r.b = true) (fun u => nn - u.1) (0, emptyT, k + m, H) ⟨Nat.zero_le _, rfl, rfl, by show k + m ≤ l.length; omega, Fh.le.refl _, rfl, by simp [emptyT]⟩ hs ⟨rfl, rfl, rfl, rfl, rfl, rfl, trivial⟩ (hw.perm (by repeat (first | exact List.Perm.refl _ | refine perm_pick (by repeat (first | exact Pick.hd | apply Pick.tl)) ?_))) ?_
    clear hs hw
    rintro ⟨j, t, at_, H0⟩ a W ⟨hj, hix, hrl, hat, hH0, hgo, hbk⟩ hs hw
    simp only at hj hix hrl hat hH0 hgo hbk hs hw
    repeat (first | (refine sxv hs hw ?_; clear hs; intro a hs) | refine sxc hs ?_ | (refine sxa hs hw ?_; clear hs hw; intro a b W hw hs) | (refine sxs hs hw ?_; clear hs hw; intro W hs hw))
    refine cd_split hs (kt := fun hcc => ?_) (kf := fun hcc => ?_)
    · have hj' : j < nn := by simpa using hcc
      rw [show nn - j = (nn - (j + 1)) + 1 by omega, loadRows_succ] at hgo
      repeat (first | (refine sxv hs hw ?_; clear hs; intro a hs) | refine sxc hs ?_ | (refine sxa hs hw ?_; clear hs hw; intro a b W hw hs) | (refine sxs hs hw ?_; clear hs hw; intro W hs hw))
      refine st_slice_lo_b (hs := hs) (r := hw.rdM (In.tl (In.tl In.hd)) hr0) (h0 := by omega) (h1 := by omega) (c := ?_); clear hs; intro a ad2 cap2 r2 hs
      rw [Int.toNat_natCast] at hs r2
      repeat (first | (refine sxv hs hw ?_; clear hs; intro a hs) | refine sxc hs ?_ | (refine sxa hs hw ?_; clear hs hw; intro a b W hw hs) | (refine sxs hs hw ?_; clear hs hw; intro W hs hw))
      refine st_call hs (hc := num_GetText _ _ (l.drop at_) r2) (k := ?_); rintro e0 W1 ⟨rfl, rfl⟩; refine ⟨_, rfl, ?_⟩; clear hs r2; intro a hs
      have hk3 := getT_le (l.drop at_)
      have hts := getT_size (l.drop at_)
      obtain ⟨⟨x, kx, err3⟩, hg3⟩ : ∃ x, Ph.getT (l.drop at_) = x := ⟨_, rfl⟩
      rw [hg3] at hs hk3 hgo hts
      rw [List.length_drop] at hk3 hts
      simp only at hs hk3 hgo hts
      repeat (first | (refine sxv hs hw ?_; clear hs; intro a hs) | refine sxc hs ?_ | (refine sxa hs hw ?_; clear hs hw; intro a b W hw hs) | (refine sxs hs hw ?_; clear hs hw; intro W hs hw))
      cases c8 : (err3 != 0) with
      | true =>
        rw [c8] at hs
        have he : (err3 == 0) = false := by simpa using c8
        rw [he] at hgo
        have hX : loadT l = none := by rw [hload, ← hgo]
        repeat (first | (refine sxv hs hw ?_; clear hs; intro a hs) | refine sxc hs ?_ | (refine sxa hs hw ?_; clear hs hw; intro a b W hw hs) | (refine sxs hs hw ?_; clear hs hw; intro W hs hw))
        exact rt2 hs rfl rfl rfl ⟨H0, hH0, .inl ⟨hX, rfl, hw.sub (List.Sublist.cons _ (List.Sublist.cons_cons _ (List.Sublist.cons _ (List.Sublist.refl _))))⟩⟩
      | false =>
      rw [c8] at hs
      have he3 : (err3 == 0) = true := by simpa using c8
      rw [he3] at hgo
      repeat (first | (refine sxv hs hw ?_; clear hs; intro a hs) | refine sxc hs ?_ | (refine sxa hs hw ?_; clear hs hw; intro a b W hw hs) | (refine sxs hs hw ?_; clear hs hw; intro W hs hw))
      have ea2 : IntKind.i64.wrap ((at_ : Int) + (kx : Int)) = ((at_ + kx : Nat) : Int) := by rw [IntWalk.i64_in _ (by omega)]; omega
      rw [ea2] at hs
      refine st_bytes (s := ⟨x.toArray⟩) hs hw (by show x.length ≤ _; have : x.length ≤ l.length - at_ := hts; omega) (c := ?_); clear hs hw; intro a bx0 cap3 ext3 W hw hr3 hs
      have hw := hw.sub (List.Sublist.cons _ (List.Sublist.refl _))
      have hxl : x.length ≤ 1000000 := by have : x.length ≤ l.length - at_ := hts; omega
      obtain ⟨⟨⟨c, q, ol⟩, err⟩, hdec⟩ : ∃ y, decR x = y := ⟨_, rfl⟩
      refine st_call hs (hc := op_DecodeR x c q ol err hdec _ _ hxl hr3 (hT.keep (hw.endF (In.tl In.hd) (hH.trans hH0)))) (k := ?_); rintro e0 W1 ⟨dad, dcap, rfl, hw1⟩; refine ⟨_, rfl, ?_⟩; clear hs; intro a hs; replace hw := hw.call hw1; clear hw1
      have hw : Has 0 w0 _ (Sx.Own 95 9 (.slice dad ol.length dcap) ol.length (ol.flatMap opCells) :: Fz H0 :: TabAt H0 p t :: CellsM bb (bys l ++ ext) 5 :: R) := hw.perm (by repeat (first | exact List.Perm.refl _ | refine perm_pick (by repeat (first | exact Pick.hd | apply Pick.tl)) ?_))
      obtain ⟨H1, hle01, hw, hbl⟩ := hw.freeze_own
      have hH1 := hH.trans (hH0.trans hle01)
      have hw := (tabLe hw.swap2 hle01)
      repeat (first | (refine sxv hs hw ?_; clear hs; intro a hs) | refine sxc hs ?_ | (refine sxa hs hw ?_; clear hs hw; intro a b W hw hs) | (refine sxs hs hw ?_; clear hs hw; intro W hs hw))
      obtain ⟨b15, q15⟩ := nm1 hw; subst q15
      have hw : Has 0 w0 _ (TabAt H1 p t :: Fz H1 :: CellsM bb (bys l ++ ext) 5 :: Cells b15 [.int .i64 c, .int .i64 q, .slice dad ol.length dcap] 36 :: R) := hw.perm (by repeat (first | exact List.Perm.refl _ | refine perm_pick (by repeat (first | exact Pick.hd | apply Pick.tl)) ?_))
      cases hdo : decode x with
      | none =>
        have he : err = 1 := by unfold decR at hdec; rw [hdo] at hdec; simp at hdec; exact hdec.2.symm
        subst he
        rw [hdo] at hgo
        have hX : loadT l = none := by rw [hload, ← hgo]
        repeat (first | (refine sxv hs hw ?_; clear hs; intro a hs) | refine sxc hs ?_ | (refine sxa hs hw ?_; clear hs hw; intro a b W hw hs) | (refine sxs hs hw ?_; clear hs hw; intro W hs hw))
        exact rt2 hs rfl rfl rfl ⟨H1, hH0.trans hle01, .inl ⟨hX, rfl, hw.sub (List.Sublist.cons _ (List.Sublist.cons_cons _ (List.Sublist.cons _ (List.Sublist.cons _ (List.Sublist.refl _)))))⟩⟩
      | some pd =>
      have hpe : pd = (c, q, ol) ∧ err = 0 := by unfold decR at hdec; rw [hdo] at hdec; simp at hdec; exact ⟨hdec.1, hdec.2.symm⟩
      obtain ⟨rfl, rfl⟩ := hpe
      have hdk := decode_ok hxl hdo
      rw [hdo] at hgo
      obtain ⟨bt, hbt⟩ : ∃ b : BatchD, b = ⟨c, q, ol⟩ := ⟨_, rfl⟩
      have hbo : BatOk bt := by rw [hbt]; exact ⟨hdk.1, hdk.2.1, hdk.2.2.2⟩
      have hbe : batOf (c, q, ol) = bt := by rw [hbt]; rfl
      simp only at hgo
      rw [hbe] at hgo
      obtain ⟨rfl, rfl, rfl⟩ : c = bt.c ∧ q = bt.q ∧ ol = bt.l := by rw [hbt]; exact ⟨rfl, rfl, rfl⟩
      clear hbt hdo hdec hdk hbe
      obtain ⟨bad, hbad⟩ : ∃ x, x = dad := ⟨_, rfl⟩
      obtain ⟨bcap, hbcap⟩ : ∃ x, x = dcap := ⟨_, rfl⟩
      subst hbad hbcap
      obtain ⟨N, hN⟩ : ∃ N, next t.f bt = N := ⟨_, rfl⟩
      rw [hN] at hgo
      have hbl : OpsH H1 (.slice bad bt.l.length bcap) bt.l := hbl
      obtain ⟨pf, vad, vcap, xs, hch, hw⟩ := tabOpen hw
      rw [hix] at hw
      repeat (first | (refine sxv hs hw ?_; clear hs; intro a hs) | refine sxc hs ?_ | (refine sxa hs hw ?_; clear hs hw; intro a b W hw hs) | (refine sxs hs hw ?_; clear hs hw; intro W hs hw))
      have hw : Has 0 w0 _ (Fz H1 :: FoldAt H1 pf t.f :: Free :: Free :: Free :: Cells p [.int .i64 0, .pointer (some ⟨pf, 0, none⟩), .slice vad t.rows.length vcap] 105 :: Cells b15 (batCells bt (.slice bad bt.l.length bcap)) 36 :: Sx.Own 39 5 (.slice vad t.rows.length vcap) t.rows.length xs :: CellsM bb (bys l ++ ext) 5 :: R) := (hw.free.free.free).perm (by repeat (first | exact List.Perm.refl _ | refine perm_pick (by repeat (first | exact Pick.hd | apply Pick.tl)) ?_))
      refine rg_drawU (σ := Value × Fh × Nat) (V := fun u => [.pointer (some ⟨p, 0, none⟩), .pointer (some ⟨p, 0, none⟩), .pointer (some ⟨p, 0 + 1, none⟩), .pointer (some ⟨pf, 0, none⟩), .agg ⟨batCells bt (.slice bad bt.l.length bcap)⟩, .tuple ⟨[.agg ⟨rowCells N.2.1 (u 5).1⟩, .bool N.2.2]⟩, .tuple ⟨[.agg ⟨rowCells N.2.1 (u 6).1⟩, .bool N.2.2]⟩, .agg ⟨rowCells N.2.1 (u 7).1⟩, .bool N.2.2, .pointer (some ⟨(u 9).2.2, 0, none⟩), .bool true, .bool N.2.2])
        (Rs := fun u D => (if D 5 then FzF (u 5).2.1 (H1.le (u 5).2.1 ∧ OpsH (u 5).2.1 (u 5).1 N.2.1.b.l) else Fz H1) :: (if D 5 then FoldAt (u 5).2.1 pf N.1 else FoldAt H1 pf t.f) :: (if D 9 then Cells (u 9).2.2 (if D 10 then rowCells N.2.1 (u 5).1 else zrc) 39 else Free) :: (if D 6 then Fact (u 6 = u 5) else Free) :: (if D 7 then Fact (u 7 = u 6) else Free) :: Cells p [.int .i64 0, .pointer (some ⟨pf, 0, none⟩), .slice vad t.rows.length vcap] 105 :: Cells b15 (batCells bt (.slice bad bt.l.length bcap)) 36 :: Sx.Own 39 5 (.slice vad t.rows.length vcap) t.rows.length xs :: CellsM bb (bys l ++ ext) 5 :: R) (fun _ => (.nilIface, H1, 0)) hs hw (hVu := ?vu_2) (ho := ⟨?_, ?_, ?_, ?_, ?_, ?c5_2, ?c6_2, ?c7_2, ?_, ?c9_2, ?c10_2, ?_, trivial⟩) (k := ?k_2)
      case vu_2 =>
        intro u u' j h
        rcases j with _ | _ | _ | _ | _ | _ | _ | _ | _ | _ | _ | _ | j
        all_goals first | rfl | simp [h]
      case c5_2 =>
        intro u LD D a W hcl hi hp hs hw
        have h6 := Go.Sx.not_done hcl hi 6 (by kernel_rfl)
        have h7 := Go.Sx.not_done hcl h6 7 (by kernel_rfl)
        have h10 := Go.Sx.not_done hcl h7 10 (by kernel_rfl)
        simp only [hi, h6, h7, h10, Bool.false_eq_true, if_false] at hw
        have hw := hw.swap2
        refine st_call hs (hc := fold_Next w0 _ H1 pf t.f bt _ _ hbo hbl hH1 hT hw) (k := ?_); rw [hN]; rintro e0 W1 ⟨sv', H2, rfl, hle, hsv, hw1⟩; refine ⟨_, rfl, ?_⟩; clear hs hw; intro a hs; have hw := hw1; clear hw1
        repeat (first | (refine sxv hs hw ?_; clear hs; intro a hs) | refine sxc hs ?_ | (refine sxa hs hw ?_; clear hs hw; intro a b W hw hs) | (refine sxs hs hw ?_; clear hs hw; intro W hs hw))
        refine Or.inr ⟨(sv', H2, 0), hs, ?_⟩
        have hw := (hw.swap2).fzf (q := H1.le H2 ∧ OpsH H2 sv' N.2.1.b.l) ⟨hle, hsv⟩
        show Has 0 w0 _ (_ :: _ :: (if D 9 then Cells (u 9).2.2 (if (Nat.beq 10 5 || D 10) = true then _ else _) _ else Free) :: (if (Nat.beq 6 5 || D 6) = true then _ else _) :: (if (Nat.beq 7 5 || D 7) = true then _ else _) :: _)
        rw [h6, h7, h10]
        exact hw
      case c6_2 =>
        intro u LD D a W hcl hi hp hs hw
        have h7 := Go.Sx.not_done hcl hi 7 (by kernel_rfl)
        simp only [hi, h7, Bool.false_eq_true, if_false] at hw
        repeat (first | (refine sxv hs hw ?_; clear hs; intro a hs) | refine sxc hs ?_ | (refine sxa hs hw ?_; clear hs hw; intro a b W hw hs) | (refine sxs hs hw ?_; clear hs hw; intro W hs hw))
        refine Or.inr ⟨u 5, hs, ?_⟩
        show Has 0 w0 _ (_ :: _ :: _ :: Fact (u 5 = u 5) :: (if (Nat.beq 7 6 || D 7) = true then _ else _) :: _)
        rw [h7]
        exact (hw.fact rfl).fill (Upd.tl (Upd.tl (Upd.tl Upd.hd)))
      case c7_2 =>
        intro u LD D a W hcl hi hp hs hw
        simp only [hi, Bool.false_eq_true, if_false] at hw
        repeat (first | (refine sxv hs hw ?_; clear hs; intro a hs) | refine sxc hs ?_ | (refine sxa hs hw ?_; clear hs hw; intro a b W hw hs) | (refine sxs hs hw ?_; clear hs hw; intro W hs hw))
        refine Or.inr ⟨u 6, hs, ?_⟩
        show Has 0 w0 _ (_ :: _ :: _ :: _ :: Fact (u 6 = u 6) :: _)
        exact (hw.fact rfl).fill (Upd.tl (Upd.tl (Upd.tl (Upd.tl Upd.hd))))
      case c9_2 =>
        intro u LD D a W hcl hi hp hs hw
        have h10 := Go.Sx.not_done hcl hi 10 (by kernel_rfl)
        simp only [hi, Bool.false_eq_true, if_false] at hw
        repeat (first | (refine sxv hs hw ?_; clear hs; intro a hs) | refine sxc hs ?_ | (refine sxa hs hw ?_; clear hs hw; intro a b W hw hs) | (refine sxs hs hw ?_; clear hs hw; intro W hs hw))
        refine Or.inr ⟨(.nilIface, H1, _), hs, ?_⟩
        show Has 0 w0 _ (_ :: _ :: Cells _ (if (Nat.beq 10 9 || D 10) = true then _ else _) _ :: _)
        rw [h10]
        exact hw.fill (Upd.tl (Upd.tl Upd.hd))
      case c10_2 =>
        intro u LD D a W hcl hi hp hs hw
        have h7 := Go.Sx.done hp 7 (by kernel_rfl)
        have h9 := Go.Sx.done hp 9 (by kernel_rfl)
        have h6 := Go.Sx.done (hcl 7 _ rfl h7) 6 (by kernel_rfl)
        have h5 := Go.Sx.done (hcl 6 _ rfl h6) 5 (by kernel_rfl)
        have e1 : (if D 7 = true then Fact (u 7 = u 6) else Free) = Fact (u 7 = u 6) := by rw [h7]; rfl
        have e2 : (if D 6 = true then Fact (u 6 = u 5) else Free) = Fact (u 6 = u 5) := by rw [h6]; rfl
        have g7 : u 7 = u 5 := by
          have hw2 := hw
          simp only [e1, e2] at hw2
          exact (hw2.told (In.tl (In.tl (In.tl (In.tl In.hd))))).trans (hw2.told (In.tl (In.tl (In.tl In.hd))))
        simp only [hi, h5, h9, Bool.false_eq_true, if_false, if_true] at hw
        obtain ⟨⟨_, hsv⟩, _⟩ := hw.unfzf
        obtain ⟨tad, tcap, e13⟩ := hsv.slice
        refine st_store hs (hw := hw) (vs := rowCells N.2.1 (u 7).1) (h1 := by rw [g7, e13]; rfl) (k := ?_); clear hs hw; intro W hs hw
        rw [show (u 7).1 = (u 5).1 from by rw [g7]] at hw
        repeat (first | (refine sxv hs hw ?_; clear hs; intro a hs) | refine sxc hs ?_ | (refine sxa hs hw ?_; clear hs hw; intro a b W hw hs) | (refine sxs hs hw ?_; clear hs hw; intro W hs hw))
        refine Or.inl ⟨hs, ?_⟩
        show Has 0 w0 _ ((if (Nat.beq 5 10 || D 5) = true then _ else _) :: (if (Nat.beq 5 10 || D 5) = true then _ else _) :: (if (Nat.beq 9 10 || D 9) = true then _ else _) :: _)
        rw [h5, h9]
        exact hw
      case k_2 =>
        clear hs hw
        intro u a W hs hw
        replace hw : Has 0 w0 W (FzF (u 5).2.1 (H1.le (u 5).2.1 ∧ OpsH (u 5).2.1 (u 5).1 N.2.1.b.l) :: FoldAt (u 5).2.1 pf N.1 :: Cells (u 9).2.2 (rowCells N.2.1 (u 5).1) 39 :: Fact (u 6 = u 5) :: Fact (u 7 = u 6) :: Cells p [.int .i64 0, .pointer (some ⟨pf, 0, none⟩), .slice vad t.rows.length vcap] 105 :: Cells b15 (batCells bt (.slice bad bt.l.length bcap)) 36 :: Sx.Own 39 5 (.slice vad t.rows.length vcap) t.rows.length xs :: CellsM bb (bys l ++ ext) 5 :: R) := hw
        replace hw := hw.sub (L' := FzF (u 5).2.1 (H1.le (u 5).2.1 ∧ OpsH (u 5).2.1 (u 5).1 N.2.1.b.l) :: FoldAt (u 5).2.1 pf N.1 :: Cells (u 9).2.2 (rowCells N.2.1 (u 5).1) 39 :: Cells p [.int .i64 0, .pointer (some ⟨pf, 0, none⟩), .slice vad t.rows.length vcap] 105 :: Cells b15 (batCells bt (.slice bad bt.l.length bcap)) 36 :: Sx.Own 39 5 (.slice vad t.rows.length vcap) t.rows.length xs :: CellsM bb (bys l ++ ext) 5 :: R) (List.Sublist.cons_cons _ (List.Sublist.cons_cons _ (List.Sublist.cons_cons _ (List.Sublist.cons _ (List.Sublist.cons _ (List.Sublist.refl _))))))
        replace hs : Slots a 122 [(4, .slice (some ⟨bb, 0, none⟩) l.length cap0), (5, .int .i64 ix), (10, .pointer (some ⟨p, 0, none⟩)), (11, .int .i64 ((at_ + kx : Nat) : Int)), (65, .int .i64 (nn : Int)), (66, .int .i64 (j : Int)), (16, .pointer (some ⟨(u 9).2.2, 0, none⟩)), (17, .bool N.2.2)] := hs.of ⟨rfl, rfl, rfl, rfl, rfl, rfl, rfl, rfl, trivial⟩
        generalize (u 9).2.2 = b8 at *
        generalize (u 5).2.1 = H2 at *
        generalize (u 5).1 = sv2 at *
        clear u
        obtain ⟨⟨hle2, hsv⟩, hw⟩ := hw.unfzf
        obtain ⟨xad, xcap, rfl⟩ := hsv.slice
        replace hch := hch.mono (RowIn.le hle2)
        have hrl2 : t.rows.length ≤ 200000 := by omega
        cases hok : N.2.2 with
        | false =>
          rw [hok] at hs hgo
          have hX : loadT l = none := by rw [hload, ← hgo]
          repeat (first | (refine sxv hs hw ?_; clear hs; intro a hs) | refine sxc hs ?_ | (refine sxa hs hw ?_; clear hs hw; intro a b W hw hs) | (refine sxs hs hw ?_; clear hs hw; intro W hs hw))
          have hw := hw.sub (L' := Fz H2 :: R) (List.Sublist.cons_cons _ (List.Sublist.cons _ (List.Sublist.cons _ (List.Sublist.cons _ (List.Sublist.cons _ (List.Sublist.cons _ (List.Sublist.cons _ (List.Sublist.refl _))))))))
          exact rt2 hs rfl rfl rfl ⟨H2, (hH0.trans hle01).trans hle2, .inl ⟨hX, rfl, hw⟩⟩
        | true =>
          rw [hok] at hs hgo
          simp only at hgo
          have hw : Has 0 w0 W (Cells p [.int .i64 0, .pointer (some ⟨pf, 0, none⟩), .slice vad t.rows.length vcap] 105 :: Fz H2 :: Free :: Sx.Own 39 5 (.slice vad t.rows.length vcap) t.rows.length xs :: Cells b8 (rowCells N.2.1 (.slice xad N.2.1.b.l.length xcap)) 39 :: FoldAt H2 pf N.1 :: Cells b15 (batCells bt (.slice bad bt.l.length bcap)) 36 :: CellsM bb (bys l ++ ext) 5 :: R) := (hw.free).perm (by repeat (first | exact List.Perm.refl _ | refine perm_pick (by repeat (first | exact Pick.hd | apply Pick.tl)) ?_))
          repeat (first | (refine sxv hs hw ?_; clear hs; intro a hs) | refine sxc hs ?_ | (refine sxa hs hw ?_; clear hs hw; intro a b W hw hs) | (refine sxs hs hw ?_; clear hs hw; intro W hs hw))
          refine rg_drawU (σ := Value × Fh × Nat × Option Addr) (V := fun u => [.pointer (some ⟨p, 0, none⟩), .pointer (some ⟨p, 0, none⟩), .pointer (some ⟨p, 0, none⟩), .pointer (some ⟨p, 0 + 2, none⟩), .slice vad t.rows.length vcap, .agg ⟨rowCells N.2.1 (.slice xad N.2.1.b.l.length xcap)⟩, .slice (some ⟨(u 6).2.2.1, 0, none⟩) 1 1, .slice (u 7).2.2.2 (t.rows ++ [N.2.1]).length (u 7).2.2.1, .pointer (some ⟨p, 0, none⟩), .pointer (some ⟨p, 0 + 2, none⟩), .bool true])
            (Rs := fun u D => Cells p [.int .i64 0, .pointer (some ⟨pf, 0, none⟩), (if D 10 then .slice (u 7).2.2.2 (t.rows ++ [N.2.1]).length (u 7).2.2.1 else .slice vad t.rows.length vcap)] 105 :: Fz H2 :: (if D 6 then Cells (u 6).2.2.1 (rowCells N.2.1 (.slice xad N.2.1.b.l.length xcap)) 39 else Free) :: (if D 7 then Sx.Own 39 5 (.slice (u 7).2.2.2 (t.rows ++ [N.2.1]).length (u 7).2.2.1) (t.rows ++ [N.2.1]).length (xs ++ rowCells N.2.1 (.slice xad N.2.1.b.l.length xcap)) else Sx.Own 39 5 (.slice vad t.rows.length vcap) t.rows.length xs) :: Cells b8 (rowCells N.2.1 (.slice xad N.2.1.b.l.length xcap)) 39 :: FoldAt H2 pf N.1 :: Cells b15 (batCells bt (.slice bad bt.l.length bcap)) 36 :: CellsM bb (bys l ++ ext) 5 :: R) (fun _ => (.nilIface, H2, 0, none)) hs hw (hVu := ?vu_1) (ho := ⟨?_, ?_, ?_, ?_, ?c4_1, ?_, ?c6_1, ?c7_1, ?_, ?_, ?c10_1, trivial⟩) (k := ?k_1)
          case vu_1 =>
            intro u u' j h
            rcases j with _ | _ | _ | _ | _ | _ | _ | _ | _ | _ | _ | j
            all_goals first | rfl | simp [h]
          case c4_1 =>
            intro u LD D a W hcl hi hp hs hw
            have hA := Go.Sx.not_done hcl hi 7 (by kernel_rfl)
            have hS := Go.Sx.not_done hcl hA 10 (by kernel_rfl)
            have hw0 := hw
            simp only [hS, Bool.false_eq_true, if_false] at hw
            repeat (first | (refine sxv hs hw ?_; clear hs; intro a hs) | refine sxc hs ?_ | (refine sxa hs hw ?_; clear hs hw; intro a b W hw hs) | (refine sxs hs hw ?_; clear hs hw; intro W hs hw))
            exact Or.inl ⟨hs, hw0⟩
          case c6_1 =>
            intro u LD D a W hcl hi hp hs hw
            have hB := hi
            have hA := Go.Sx.not_done hcl hB 7 (by kernel_rfl)
            have hS := Go.Sx.not_done hcl hA 10 (by kernel_rfl)
            simp only [hi, hA, hS, Bool.false_eq_true, if_false] at hw
            repeat (first | (refine sxv hs hw ?_; clear hs; intro a hs) | refine sxc hs ?_ | (refine sxa hs hw ?_; clear hs hw; intro a b W hw hs) | (refine sxs hs hw ?_; clear hs hw; intro W hs hw))
            refine Or.inr ⟨(.nilIface, H2, _, none), hs, ?_⟩
            show Has 0 w0 _ (Cells p [_, _, (if (Nat.beq 10 6 || D 10) = true then _ else _)] _ :: _ :: _ :: (if (Nat.beq 7 6 || D 7) = true then _ else _) :: _)
            rw [hA, hS]
            exact hw.fill (Upd.tl (Upd.tl Upd.hd))
          case c7_1 =>
            intro u LD D a W hcl hi hp hs hw
            have hB := Go.Sx.done hp 6 (by kernel_rfl)
            have hS := Go.Sx.not_done hcl hi 10 (by kernel_rfl)
            simp only [hi, hB, hS, Bool.false_eq_true, if_false, if_true] at hw
            have hw : Has 0 w0 W (Fz H2 :: Sx.Own 39 5 (.slice vad t.rows.length vcap) t.rows.length xs :: Cells p [.int .i64 0, .pointer (some ⟨pf, 0, none⟩), .slice vad t.rows.length vcap] 105 :: Cells (u 6).2.2.1 (rowCells N.2.1 (.slice xad N.2.1.b.l.length xcap)) 39 :: Cells b8 (rowCells N.2.1 (.slice xad N.2.1.b.l.length xcap)) 39 :: FoldAt H2 pf N.1 :: Cells b15 (batCells bt (.slice bad bt.l.length bcap)) 36 :: CellsM bb (bys l ++ ext) 5 :: R) := hw.perm (by repeat (first | exact List.Perm.refl _ | refine perm_pick (by repeat (first | exact Pick.hd | apply Pick.tl)) ?_))
            have hw : Has 0 w0 W (Sx.Own 39 5 (.slice vad t.rows.length vcap) t.rows.length xs :: Fz H2 :: Cells p [.int .i64 0, .pointer (some ⟨pf, 0, none⟩), .slice vad t.rows.length vcap] 105 :: Cells (u 6).2.2.1 (rowCells N.2.1 (.slice xad N.2.1.b.l.length xcap)) 39 :: Cells b8 (rowCells N.2.1 (.slice xad N.2.1.b.l.length xcap)) 39 :: FoldAt H2 pf N.1 :: Cells b15 (batCells bt (.slice bad bt.l.length bcap)) 36 :: CellsM bb (bys l ++ ext) 5 :: R) := hw.swap2
            have hone := RowIn.ones (H := H2) N.2.1 (rowCells N.2.1 (.slice xad N.2.1.b.l.length xcap)) ⟨_, rfl, hsv⟩
            refine st_append1 hs (hw := hw) (hi := In.tl (In.tl In.hd)) (ch := hch) (ha := (⟨_, rfl, hsv⟩ : RowIn H2 N.2.1 (rowCells N.2.1 (.slice xad N.2.1.b.l.length xcap)))) (hl := rfl) (h1 := by rw [List.all_eq_true]; exact hone) (hb := by omega) (h63 := by omega) (k := ?_)
            clear hs hw; intro a ad cap W hs hw hc2
            repeat (first | (refine sxv hs hw ?_; clear hs; intro a hs) | refine sxc hs ?_ | (refine sxa hs hw ?_; clear hs hw; intro a b W hw hs) | (refine sxs hs hw ?_; clear hs hw; intro W hs hw))
            refine Or.inr ⟨(.nilIface, H2, cap, ad), hs, ?_⟩
            show Has 0 w0 _ (Cells p [_, _, (if (Nat.beq 10 7 || D 10) = true then _ else _)] _ :: _ :: (if (Nat.beq 6 7 || D 6) = true then _ else _) :: _ :: _)
            rw [hB, hS]
            exact hw.perm (by repeat (first | exact List.Perm.refl _ | refine perm_pick (by repeat (first | exact Pick.hd | apply Pick.tl)) ?_))
          case c10_1 =>
            intro u LD D a W hcl hi hp hs hw
            have hA := Go.Sx.done hp 7 (by kernel_rfl)
            simp only [hi, hA, Bool.false_eq_true, if_false, if_true] at hw
            repeat (first | (refine sxv hs hw ?_; clear hs; intro a hs) | refine sxc hs ?_ | (refine sxa hs hw ?_; clear hs hw; intro a b W hw hs) | (refine sxs hs hw ?_; clear hs hw; intro W hs hw))
            refine Or.inl ⟨hs, ?_⟩
            show Has 0 w0 _ (_ :: _ :: _ :: (if (Nat.beq 7 10 || D 7) = true then _ else _) :: _)
            rw [hA]
            exact hw
          case k_1 =>
            clear hs hw
            intro u a W hs hw
            replace hw : Has 0 w0 W (Cells p [.int .i64 0, .pointer (some ⟨pf, 0, none⟩), .slice (u 7).2.2.2 (t.rows ++ [N.2.1]).length (u 7).2.2.1] 105 :: Fz H2 :: Cells (u 6).2.2.1 (rowCells N.2.1 (.slice xad N.2.1.b.l.length xcap)) 39 :: Sx.Own 39 5 (.slice (u 7).2.2.2 (t.rows ++ [N.2.1]).length (u 7).2.2.1) (t.rows ++ [N.2.1]).length (xs ++ rowCells N.2.1 (.slice xad N.2.1.b.l.length xcap)) :: Cells b8 (rowCells N.2.1 (.slice xad N.2.1.b.l.length xcap)) 39 :: FoldAt H2 pf N.1 :: Cells b15 (batCells bt (.slice bad bt.l.length bcap)) 36 :: CellsM bb (bys l ++ ext) 5 :: R) := hw
            replace hs : Slots a 122 [(4, .slice (some ⟨bb, 0, none⟩) l.length cap0), (5, .int .i64 ix), (10, .pointer (some ⟨p, 0, none⟩)), (11, .int .i64 ((at_ + kx : Nat) : Int)), (65, .int .i64 (nn : Int)), (66, .int .i64 (j : Int))] := hs.of ⟨rfl, rfl, rfl, rfl, rfl, rfl, trivial⟩
            generalize (u 7).2.2.2 = rad at *
            generalize (u 7).2.2.1 = rcap at *
            generalize (u 6).2.2.1 = bx at *
            clear u
            have hw : Has 0 w0 W (Cells p [.int .i64 0, .pointer (some ⟨pf, 0, none⟩), .slice rad (t.rows ++ [N.2.1]).length rcap] 105 :: FoldAt H2 pf N.1 :: Sx.Own 39 5 (.slice rad (t.rows ++ [N.2.1]).length rcap) (t.rows ++ [N.2.1]).length (xs ++ rowCells N.2.1 (.slice xad N.2.1.b.l.length xcap)) :: Fz H2 :: CellsM bb (bys l ++ ext) 5 :: Cells b8 (rowCells N.2.1 (.slice xad N.2.1.b.l.length xcap)) 39 :: Cells b15 (batCells bt (.slice bad bt.l.length bcap)) 36 :: Cells bx (rowCells N.2.1 (.slice xad N.2.1.b.l.length xcap)) 39 :: R) := hw.perm (by repeat (first | exact List.Perm.refl _ | refine perm_pick (by repeat (first | exact Pick.hd | apply Pick.tl)) ?_))
            have hw := tabShut (t := ⟨0, N.1, t.rows ++ [N.2.1]⟩) hw (hch.app (Ch.unit ⟨_, rfl, hsv⟩))
            repeat (first | (refine sxv hs hw ?_; clear hs; intro a hs) | refine sxc hs ?_ | (refine sxa hs hw ?_; clear hs hw; intro a b W hw hs) | (refine sxs hs hw ?_; clear hs hw; intro W hs hw))
            have hw := hw.sub (L' := TabAt H2 p ⟨0, N.1, t.rows ++ [N.2.1]⟩ :: Fz H2 :: CellsM bb (bys l ++ ext) 5 :: R) (List.Sublist.cons_cons _ (List.Sublist.cons_cons _ (List.Sublist.cons_cons _ (List.Sublist.cons _ (List.Sublist.cons _ (List.Sublist.cons _ (List.Sublist.refl _)))))))
            refine st_again (j + 1, ⟨0, N.1, t.rows ++ [N.2.1]⟩, at_ + kx, H2) hs hw ⟨hj', rfl, by show (t.rows ++ [N.2.1]).length = j + 1; rw [List.length_append, hrl]; rfl, by show at_ + kx ≤ l.length; omega, (hH0.trans hle01).trans hle2, ?_, fun r hr => ?_⟩ (by show nn - (j + 1) < nn - j; omega) ⟨rfl, rfl, rfl, rfl, rfl, int_eq (by show IntKind.i64.wrap ((j : Int) + 1) = ((j + 1 : Nat) : Int); rw [IntWalk.i64_in _ (by omega)]; omega), trivial⟩
            · rw [List.drop_drop] at hgo
              exact hgo
            · rcases List.mem_append.1 hr with hr | hr
              · exact hbk r hr
              · obtain rfl := List.mem_singleton.1 hr
                have h1 : (next t.f bt).2.2 = true := by rw [hN]; exact hok
                have h2 := next_row h1
                rw [hN] at h2
                rw [h2]
                exact ⟨hbo, nextB_may (next_ok h1).1⟩
          all_goals
            intro u LD D a W hcl hi hp hs hw
            repeat (first | (refine sxv hs hw ?_; clear hs; intro a hs) | refine sxc hs ?_ | (refine sxa hs hw ?_; clear hs hw; intro a b W hw hs) | (refine sxs hs hw ?_; clear hs hw; intro W hs hw))
            exact Or.inl ⟨hs, hw⟩
      all_goals
        intro u LD D a W hcl hi hp hs hw
        repeat (first | (refine sxv hs hw ?_; clear hs; intro a hs) | refine sxc hs ?_ | (refine sxa hs hw ?_; clear hs hw; intro a b W hw hs) | (refine sxs hs hw ?_; clear hs hw; intro W hs hw))
        exact Or.inl ⟨hs, hw⟩
    · have hj' : j = nn := by have : ¬ j < nn := by simpa using hcc
                              omega
      rw [hj', Nat.sub_self] at hgo
      repeat (first | (refine sxv hs hw ?_; clear hs; intro a hs) | refine sxc hs ?_ | (refine sxa hs hw ?_; clear hs hw; intro a b W hw hs) | (refine sxs hs hw ?_; clear hs hw; intro W hs hw))
      exact ⟨t, H0, hH0, hix, hgo.symm, by omega, hbk, hs.of ⟨rfl, rfl, rfl, trivial⟩, hw⟩
  · clear hs hw
    rintro a W ⟨t, H1, hle, hix, hgo, hrl, hbk, hs, hw⟩
    rw [hgo] at hload
    simp only at hload
    obtain ⟨pf, vad, vcap, xs, hch, hw⟩ := tabOpen hw
    repeat (first | (refine sxv hs hw ?_; clear hs; intro a hs) | refine sxc hs ?_ | (refine sxa hs hw ?_; clear hs hw; intro a b W hw hs) | (refine sxs hs hw ?_; clear hs hw; intro W hs hw) | ((with_reducible first | refine st_ptrSome hs (k := ?_) | refine st_ptrNone hs (k := ?_)); clear hs; intro a hs))
    have hw : Has 0 w0 W (Cells p [.int .i64 ix, .pointer (some ⟨pf, 0, none⟩), .slice vad t.rows.length vcap] 105 :: FoldAt H1 pf t.f :: Sx.Own 39 5 (.slice vad t.rows.length vcap) t.rows.length xs :: Fz H1 :: CellsM bb (bys l ++ ext) 5 :: R) := hw
    have hw := tabShut (t := ⟨ix, t.f, t.rows⟩) hw hch
    refine st_call hs (hc := table_Data w0 _ H1 p ⟨ix, t.f, t.rows⟩ _ (by show t.rows.length ≤ 200000; omega) ⟨by show _ ≤ ix; omega, by show ix ≤ _; omega⟩ hbk (hH.trans hle) hT hw) (k := ?_); rintro e0 W1 ⟨rfl, hw1⟩; refine ⟨_, rfl, ?_⟩; clear hs hw; intro a hs; have hw := hw1; clear hw1
    have hdl : (dataT ⟨ix, t.f, t.rows⟩).length ≤ 300000000 := by
      have h1 := Ph.putI_length_le ix
      have h2 := Ph.putI_length_le (t.rows.length : Int)
      have h3 := flat_len (l := t.rows) fun r hr => rowB_len (hbk r hr).2
      unfold dataT
      simp only [List.length_append]
      omega
    generalize dataT ⟨ix, t.f, t.rows⟩ = dt at *
    refine st_bytes (s := ⟨dt.toArray⟩) hs hw (by show dt.length ≤ _; omega) (c := ?_); clear hs hw; intro a bd cap4 ext4 W hw hr4 hs
    repeat (first | (refine sxv hs hw ?_; clear hs; intro a hs) | refine sxc hs ?_ | (refine sxa hs hw ?_; clear hs hw; intro a b W hw hs) | (refine sxs hs hw ?_; clear hs hw; intro W hs hw))
    refine st_call hs (hc := bytes_Equal dt l _ _ _ hr4 (hw.rdM (In.tl (In.tl (In.tl In.hd))) hr0)) (k := ?_); rintro e0 W1 ⟨rfl, hb⟩; refine ⟨_, rfl, ?_⟩; clear hs; intro a hs; replace hw := hw.below hb; clear hb
    by_cases heq : dt = l
    · rw [if_pos heq] at hload
      rw [heq, beq_self_eq_true] at hs
      repeat (first | (refine sxv hs hw ?_; clear hs; intro a hs) | refine sxc hs ?_ | (refine sxa hs hw ?_; clear hs hw; intro a b W hw hs) | (refine sxs hs hw ?_; clear hs hw; intro W hs hw))
      exact rt2 hs rfl rfl rfl ⟨H1, hle, .inr ⟨_, p, hload, rfl, hw.sub (List.Sublist.cons _ (List.Sublist.cons_cons _ (List.Sublist.cons_cons _ (List.Sublist.cons _ (List.Sublist.refl _)))))⟩⟩
    · rw [if_neg heq] at hload
      have hne : (dt == l) = false := by simpa using heq
      rw [hne] at hs
      repeat (first | (refine sxv hs hw ?_; clear hs; intro a hs) | refine sxc hs ?_ | (refine sxa hs hw ?_; clear hs hw; intro a b W hw hs) | (refine sxs hs hw ?_; clear hs hw; intro W hs hw))
      exact rt2 hs rfl rfl rfl ⟨H1, hle, .inl ⟨hload, rfl, hw.sub (List.Sublist.cons _ (List.Sublist.cons _ (List.Sublist.cons_cons _ (List.Sublist.cons _ (List.Sublist.refl _)))))⟩⟩
end Go.Proofs.YtmalklakaalaoaaGreatDoor.Sw

set_option linter.unusedVariables false
set_option maxRecDepth 10000
namespace Go.Proofs.YtmalklakaalaoaaGreatDoor.Sw
open Go.RowKit Go.Sx
-- pieces
abbrev addN : OpD := ⟨4, ⟨#[110]⟩, 0, 0, ⟨#[]⟩, 0, 0, ⟨#[]⟩, 1⟩
abbrev b1 : BatchD := ⟨1, 1, [addN]⟩
end Go.Proofs.YtmalklakaalaoaaGreatDoor.Sw

set_option linter.unusedVariables false
set_option maxRecDepth 10000
namespace Go.Proofs.YtmalklakaalaoaaGreatDoor.Sw
open Go.RowKit Go.Sx
-- pieces
abbrev addT : OpD := ⟨4, ⟨#[110]⟩, 0, 0, ⟨#[]⟩, 0, 0, ⟨#[]⟩, 2⟩
abbrev bT : BatchD := ⟨1, 1, [addT]⟩
abbrev rT : RowD := ⟨1, bT, 0⟩
abbrev tT : TabD := ⟨2, (next emptyF bT).1, [rT]⟩
abbrev e1T : EntD := ⟨1, 1, 1, ⟨#[]⟩⟩
abbrev e2T : EntD := ⟨2, 1, 2, ⟨(textB 1 1 [addT]).toArray⟩⟩
theorem app1 : applyT emptyT e1T = (⟨1, emptyF, []⟩, zeroRow, false) := by kernel_rfl
theorem app2 : applyT ⟨1, emptyF, []⟩ e2T = (tT, rT, true) := by kernel_rfl
theorem loadx : loadT [120] = none := by kernel_rfl
theorem may1 : mayBatch 1 1 [addT] = true := by kernel_rfl
theorem addT_ok : ∀ o ∈ [addT], OpOk o := by
  intro o ho
  rw [List.mem_singleton] at ho
  subst ho
  exact ⟨⟨by decide, by decide⟩, ⟨by decide, by decide⟩, ⟨by decide, by decide⟩, ⟨by decide, by decide⟩, ⟨by decide, by decide⟩, ⟨by decide, by decide⟩, by decide, by decide, by decide⟩
theorem rT_ok : RowOk rT := ⟨⟨by decide, by decide⟩, ⟨by decide, by decide⟩, ⟨⟨by decide, by decide⟩, ⟨by decide, by decide⟩, addT_ok⟩⟩
theorem rowsT1 : rowsT tT 1 5 = [rT] := by kernel_rfl
theorem tT_ok : TabOk tT := by
  refine ⟨⟨by kernel_rfl, by kernel_rfl, rfl⟩, fun r hr => ?_, ⟨by decide, by decide⟩, by decide⟩
  have hr : r ∈ [rT] := hr
  rw [List.mem_singleton] at hr
  subst hr
  exact rT_ok
theorem tT_rows : ∀ r ∈ tT.rows, BatOk r.b ∧ mayB r.b = true := by
  intro r hr
  have hr : r ∈ [rT] := hr
  rw [List.mem_singleton] at hr
  subst hr
  exact ⟨rT_ok.b, may1⟩
theorem tT_len : (dataT tT).length ≤ 200000 := of_decide_eq_true (by kernel_rfl)
set_option maxHeartbeats 32000000 in
theorem law19_begun (w : World) (hT : Tabs w) :
    Calls Tryz.prog 19 ⟨[]⟩ w fun e w' => e = .returned (.bool true) ∧ Below w.heap.size w w' := by
  have hw := Has.startF w
  refine enter Tryz.func19 Tryz.ntmps19 rfl rfl fun a hs => ?_
  repeat (first | (refine sxv hs hw ?_; clear hs; intro a hs) | refine sxc hs ?_ | (refine sxa hs hw ?_; clear hs hw; intro a b W hw hs) | (refine sxs hs hw ?_; clear hs hw; intro W hs hw))
  refine st_call hs (hc := table_New w _ (fr w) _ hw) (k := ?_); rintro e0 W1 ⟨p, rfl, hw1⟩; refine ⟨_, rfl, ?_⟩; clear hs hw; intro a hs; have hw := hw1; clear hw1
  repeat (first | (refine sxv hs hw ?_; clear hs; intro a hs) | refine sxc hs ?_ | (refine sxa hs hw ?_; clear hs hw; intro a b W hw hs) | (refine sxs hs hw ?_; clear hs hw; intro W hs hw) | ((with_reducible first | refine st_ptrSome hs (k := ?_) | refine st_ptrNone hs (k := ?_)); clear hs; intro a hs))
  obtain ⟨b2, q2⟩ := nm1 hw; subst q2
  obtain ⟨bo, qo⟩ := nm2 hw; subst qo
  have hw : Has 0 w _ (Cells bo (opCells addT) 95 :: Fz (fr w) :: Cells b2 (batCells bT (.slice (some ⟨bo, 0, none⟩) 1 1)) 36 :: TabAt (fr w) p emptyT :: []) := hw.perm (by repeat (first | exact List.Perm.refl _ | refine perm_pick (by repeat (first | exact Pick.hd | apply Pick.tl)) ?_))
  obtain ⟨H1, hle1, hw, hop⟩ := hw.freeze_lit (m := 1) (sz := 9) rfl (by decide)
  have hop : OpsH H1 (.slice (some ⟨bo, 0, none⟩) 1 1) [addT] := hop
  have hw : Has 0 w _ (TabAt (fr w) p emptyT :: Fz H1 :: Cells b2 (batCells bT (.slice (some ⟨bo, 0, none⟩) 1 1)) 36 :: []) := hw.sel (by repeat (first | exact Sel.nil | exact Sel.refl _ | refine Sel.cons (by repeat (first | exact Pick.hd | apply Pick.tl)) ?_ | refine Sel.skip ?_))
  have hw := tabLe hw hle1
  refine st_call hs (hc := table_Apply w _ H1 p emptyT e1T _ (by decide) (by decide) hle1 hT hw) (k := ?_); rintro e0 W1 ⟨v1, H2, rfl, hle2, hv1, hw1⟩; refine ⟨_, rfl, ?_⟩; clear hs hw; intro a hs; have hw := hw1; clear hw1
  rw [app1] at hs hw hv1
  replace hop := hop.le hle2
  obtain ⟨ad1, cap1, rfl⟩ := hv1.slice
  replace hle2 := hle1.trans hle2
  clear hle1 hv1
  repeat (first | (refine sxv hs hw ?_; clear hs; intro a hs) | refine sxc hs ?_ | (refine sxa hs hw ?_; clear hs hw; intro a b W hw hs) | (refine sxs hs hw ?_; clear hs hw; intro W hs hw))
  refine st_call hs (hc := ref_EncodeBatch 1 1 [addT] _ _ ⟨by decide, by decide⟩ ⟨by decide, by decide⟩ addT_ok (hw.rdH (by repeat (first | exact In.hd | apply In.tl)) hop)) (k := ?_); rintro e0 W1 ⟨ead, ecap, rfl, hw1⟩; refine ⟨_, rfl, ?_⟩; clear hs; intro a hs; replace hw := hw.call hw1; clear hw1
  rw [if_pos may1] at hs hw
  refine st_string_b hs (r := hw.rd_own In.hd) (k := ?_); clear hs; intro a hs
  have hw := hw.sub (List.Sublist.cons _ (List.Sublist.refl _))
  have hw : Has 0 w _ (TabAt H2 p ⟨1, emptyF, []⟩ :: Fz H2 :: []) := hw.sel (by repeat (first | exact Sel.nil | exact Sel.refl _ | refine Sel.cons (by repeat (first | exact Pick.hd | apply Pick.tl)) ?_ | refine Sel.skip ?_))
  repeat (first | (refine sxv hs hw ?_; clear hs; intro a hs) | refine sxc hs ?_ | (refine sxa hs hw ?_; clear hs hw; intro a b W hw hs) | (refine sxs hs hw ?_; clear hs hw; intro W hs hw))
  refine st_call hs (hc := table_Apply w _ H2 p ⟨1, emptyF, []⟩ e2T _ (by decide) (by decide) hle2 hT hw) (k := ?_); rintro e0 W1 ⟨v2, H3, rfl, hle3, hv2, hw1⟩; refine ⟨_, rfl, ?_⟩; clear hs hw; intro a hs; have hw := hw1; clear hw1
  rw [app2] at hs hw hv2
  obtain ⟨ad2, cap2, rfl⟩ := hv2.slice
  replace hle3 := hle2.trans hle3
  clear hle2 hv2 hop
  repeat (first | (refine sxv hs hw ?_; clear hs; intro a hs) | refine sxc hs ?_ | (refine sxa hs hw ?_; clear hs hw; intro a b W hw hs) | (refine sxs hs hw ?_; clear hs hw; intro W hs hw))
  obtain ⟨b5, q5⟩ := nm1 hw; subst q5
  have hw : Has 0 w _ (TabAt H3 p tT :: Fz H3 :: Cells b5 (rowCells rT (.slice ad2 1 cap2)) 39 :: []) := hw.sel (by repeat (first | exact Sel.nil | exact Sel.refl _ | refine Sel.cons (by repeat (first | exact Pick.hd | apply Pick.tl)) ?_ | refine Sel.skip ?_))
  refine st_call hs (hc := table_Data w _ H3 p tT _ (by decide) ⟨by decide, by decide⟩ tT_rows hle3 hT hw) (k := ?_); rintro e0 W1 ⟨rfl, hw1⟩; refine ⟨_, rfl, ?_⟩; clear hs hw; intro a hs; have hw := hw1; clear hw1
  have hw : Has 0 w _ (Fz H3 :: TabAt H3 p tT :: Cells b5 (rowCells rT (.slice ad2 1 cap2)) 39 :: []) := hw.sel (by repeat (first | exact Sel.nil | exact Sel.refl _ | refine Sel.cons (by repeat (first | exact Pick.hd | apply Pick.tl)) ?_ | refine Sel.skip ?_))
  refine st_call hs (hc := table_Load w _ H3 ⟨(dataT tT).toArray⟩ _ tT_len hle3 hT hw) (k := ?_); rintro e0 W1 ⟨H4, hle4, hld⟩
  have h34 : H3.le H4 := hle4
  have hlT := load_data tT_ok
  rcases hld with ⟨h, _, _⟩ | ⟨u, q, hu, rfl, hw1⟩
  · have h : loadT (dataT tT) = none := h
    rw [hlT] at h; cases h
  have hu : loadT (dataT tT) = some u := hu
  rw [hlT] at hu
  obtain rfl : tT = u := Option.some.inj hu
  clear hu hlT
  refine ⟨_, rfl, ?_⟩; clear hs hw; intro a hs; have hw := hw1; clear hw1
  replace hle4 := hle3.trans hle4
  repeat (first | (refine sxv hs hw ?_; clear hs; intro a hs) | refine sxc hs ?_ | (refine sxa hs hw ?_; clear hs hw; intro a b W hw hs) | (refine sxs hs hw ?_; clear hs hw; intro W hs hw))
  have hw : Has 0 w _ (Fz H4 :: TabAt H4 q tT :: TabAt H3 p tT :: Cells b5 (rowCells rT (.slice ad2 1 cap2)) 39 :: []) := hw.sel (by repeat (first | exact Sel.nil | exact Sel.refl _ | refine Sel.cons (by repeat (first | exact Pick.hd | apply Pick.tl)) ?_ | refine Sel.skip ?_))
  refine st_call hs (hc := table_Load w _ H4 ⟨#[120]⟩ _ (by decide) hle4 hT hw) (k := ?_); rintro e0 W1 ⟨H5, hle5, hld⟩
  have h45 : H4.le H5 := hle5
  obtain ⟨-, rfl, hw1⟩ := hld.resolve_right (by
    rintro ⟨u, q2, hu, _, _⟩
    have hu : loadT [120] = some u := hu
    rw [loadx] at hu; cases hu)
  refine ⟨_, rfl, ?_⟩; clear hs hw; intro a hs; have hw := hw1; clear hw1
  replace hle5 := hle4.trans hle5
  repeat (first | (refine sxv hs hw ?_; clear hs; intro a hs) | refine sxc hs ?_ | (refine sxa hs hw ?_; clear hs hw; intro a b W hw hs) | (refine sxs hs hw ?_; clear hs hw; intro W hs hw))
  have hw : Has 0 w _ (TabAt H3 p tT :: Fz H5 :: TabAt H4 q tT :: Cells b5 (rowCells rT (.slice ad2 1 cap2)) 39 :: []) := hw.sel (by repeat (first | exact Sel.nil | exact Sel.refl _ | refine Sel.cons (by repeat (first | exact Pick.hd | apply Pick.tl)) ?_ | refine Sel.skip ?_))
  refine st_call hs (hc := table_Index w _ H3 p tT _ hw) (k := ?_); rintro e0 W1 ⟨rfl, hw1⟩; refine ⟨_, rfl, ?_⟩; clear hs hw; intro a hs; have hw := hw1; clear hw1
  repeat (first | (refine sxv hs hw ?_; clear hs; intro a hs) | refine sxc hs ?_ | (refine sxa hs hw ?_; clear hs hw; intro a b W hw hs) | (refine sxs hs hw ?_; clear hs hw; intro W hs hw))
  have hw := tabLe hw (h34.trans h45)
  refine st_call hs (hc := table_Rows w _ H5 p tT 1 5 _ (by decide) (by intro r hr; have hr : r ∈ [rT] := hr; rw [List.mem_singleton] at hr; subst hr; decide) hw) (k := ?_); rintro e0 W1 ⟨rv, H6, rfl, hle6, hrv, hw1⟩; refine ⟨_, rfl, ?_⟩; clear hs hw; intro a hs; have hw := hw1; clear hw1
  rw [rowsT1] at hrv
  obtain ⟨rad, rcap, rfl⟩ : ∃ ad cap, rv = .slice ad 1 cap := by obtain ⟨xs, h, _⟩ := hrv; exact h.slice
  repeat (first | (refine sxv hs hw ?_; clear hs; intro a hs) | refine sxc hs ?_ | (refine sxa hs hw ?_; clear hs hw; intro a b W hw hs) | (refine sxs hs hw ?_; clear hs hw; intro W hs hw))
  have hw : Has 0 w _ (TabAt H4 q tT :: Fz H6 :: []) := hw.sel (by repeat (first | exact Sel.nil | exact Sel.refl _ | refine Sel.cons (by repeat (first | exact Pick.hd | apply Pick.tl)) ?_ | refine Sel.skip ?_))
  refine st_call hs (hc := table_Index w _ H4 q tT _ hw) (k := ?_); rintro e0 W1 ⟨rfl, hw1⟩; refine ⟨_, rfl, ?_⟩; clear hs hw; intro a hs; have hw := hw1; clear hw1
  repeat (first | (refine sxv hs hw ?_; clear hs; intro a hs) | refine sxc hs ?_ | (refine sxa hs hw ?_; clear hs hw; intro a b W hw hs) | (refine sxs hs hw ?_; clear hs hw; intro W hs hw))
  have hw := tabLe hw (h45.trans hle6)
  refine st_call hs (hc := table_Rows w _ H6 q tT 1 5 _ (by decide) (by intro r hr; have hr : r ∈ [rT] := hr; rw [List.mem_singleton] at hr; subst hr; decide) hw) (k := ?_); rintro e0 W1 ⟨rv2, H7, rfl, hle7, hrv2, hw1⟩; refine ⟨_, rfl, ?_⟩; clear hs hw; intro a hs; have hw := hw1; clear hw1
  rw [rowsT1] at hrv2
  obtain ⟨rad2, rcap2, rfl⟩ : ∃ ad cap, rv2 = .slice ad 1 cap := by obtain ⟨xs, h, _⟩ := hrv2; exact h.slice
  repeat (first | (refine sxv hs hw ?_; clear hs; intro a hs) | refine sxc hs ?_ | (refine sxa hs hw ?_; clear hs hw; intro a b W hw hs) | (refine sxs hs hw ?_; clear hs hw; intro W hs hw))
  exact rt1 hs rfl rfl ⟨rfl, hw.endF (In.tl In.hd) ((hle5.trans hle6).trans hle7)⟩
end Go.Proofs.YtmalklakaalaoaaGreatDoor.Sw

set_option linter.unusedVariables false
set_option maxRecDepth 10000
namespace Go.Proofs.YtmalklakaalaoaaGreatDoor.Sw
open Go.RowKit Go.Sx
-- pieces
theorem next_rowok {f : FoldD} {b : BatchD} (h : (next f b).2.2 = true) (hb : BatOk b) : RowOk (next f b).2.1 := by
  rw [(next_ok h).2]
  have := applyL_err f.d b.l
  exact ⟨wrap_i64 _, ⟨by show _ ≤ (applyL f.d b.l).1; omega, by show (applyL f.d b.l).1 ≤ _; omega⟩, hb⟩
theorem applyT_ok {t : TabD} {e : EntD} (h : TabOk t) (hl : t.rows.length + 1 ≤ 100000) (hi : t.ix + 1 ≤ 1099511627776) (hd : e.data.size ≤ 1000000) : TabOk (applyT t e).1 ∧ (applyT t e).1.rows.length ≤ t.rows.length + 1 ∧ ((applyT t e).1.ix = t.ix ∨ (applyT t e).1.ix = t.ix + 1) ∧ (e.ix = t.ix + 1 → (applyT t e).1.ix = t.ix + 1) := by
  have h0 : 0 ≤ t.ix := by have := h.ix.1; omega
  have hwrap : IntKind.i64.wrap (t.ix + 1) = t.ix + 1 := IntWalk.i64_in _ (by omega)
  have hz : TabOk ⟨t.ix + 1, t.f, t.rows⟩ := ⟨h.play, h.ok, ⟨by have := h.ix.1; show (t.rows.length : Int) ≤ t.ix + 1; omega, hi⟩, h.len⟩
  unfold applyT
  rw [hwrap]
  by_cases hx : e.ix = t.ix + 1
  · rw [if_pos hx]
    have hdl : e.data.data.toList.length ≤ 1000000 := by rw [Array.length_toList]; exact hd
    split
    · rename_i p hk hdec
      obtain ⟨c, q, l⟩ := p
      have hdk := decode_ok hdl hdec
      have hbo : BatOk ⟨c, q, l⟩ := ⟨hdk.1, hdk.2.1, hdk.2.2.2⟩
      show TabOk (playT (t.ix + 1) t ⟨c, q, l⟩).1 ∧ _
      unfold playT
      cases hn : (next t.f ⟨c, q, l⟩).2.2 with
      | false => exact ⟨hz, by show t.rows.length ≤ _; omega, .inr rfl, fun _ => rfl⟩
      | true =>
        have hrb := next_row hn
        refine ⟨⟨h.play.app ⟨by rw [hrb]; exact hn, by rw [hrb], by rw [hrb]; rfl⟩, fun r hr => ?_, ⟨?_, hi⟩, ?_⟩, ?_, .inr rfl, fun _ => rfl⟩
        · rcases List.mem_append.1 hr with hr | hr
          · exact h.ok r hr
          · obtain rfl := List.mem_singleton.1 hr
            exact next_rowok hn hbo
        · have := h.ix.1
          show ((t.rows ++ [(next t.f ⟨c, q, l⟩).2.1]).length : Int) ≤ t.ix + 1
          rw [List.length_append, List.length_singleton]; omega
        · show (t.rows ++ [(next t.f ⟨c, q, l⟩).2.1]).length ≤ 100000
          rw [List.length_append, List.length_singleton]; omega
        · show (t.rows ++ [(next t.f ⟨c, q, l⟩).2.1]).length ≤ t.rows.length + 1
          rw [List.length_append, List.length_singleton]; omega
    · exact ⟨hz, by show t.rows.length ≤ _; omega, .inr rfl, fun _ => rfl⟩
  · rw [if_neg hx]
    exact ⟨h, by show t.rows.length ≤ _; omega, .inl rfl, fun h => absurd h hx⟩
theorem TabOk.rows {t : TabD} (h : TabOk t) : ∀ r ∈ t.rows, BatOk r.b ∧ mayB r.b = true := fun r hr => ⟨(h.ok r hr).b, play_mem h.play r hr⟩
theorem TabOk.nil : TabOk emptyT := ⟨rfl, by simp [emptyT], ⟨by decide, by decide⟩, by decide⟩
theorem TabOk.i64 {t : TabD} (h : TabOk t) : i64 t.ix := ⟨by have := h.ix.1; omega, by have := h.ix.2; omega⟩
theorem dataT_len {t : TabD} (hb : ∀ r ∈ t.rows, BatOk r.b ∧ mayB r.b = true) : (dataT t).length ≤ 20 + t.rows.length * 1300 := by
  have h1 := Ph.putI_length_le t.ix
  have h2 := Ph.putI_length_le (t.rows.length : Int)
  have h3 := flat_len (l := t.rows) fun r hr => rowB_len (hb r hr).2
  unfold dataT
  simp only [List.length_append]
  omega
end Go.Proofs.YtmalklakaalaoaaGreatDoor.Sw

set_option linter.unusedVariables false
set_option maxRecDepth 10000
namespace Go.Proofs.YtmalklakaalaoaaGreatDoor.Sw
open Go.RowKit Go.Sx
theorem lessK_irr (a : ByteArray) : lessK a a = false := Ph.lessL_irr _
theorem lessK_trans {a b c : ByteArray} (h : lessK a b = true) (h' : lessK b c = true) : lessK a c = true := Ph.lessL_trans _ _ _ h h'
theorem lessK_asymm {a b : ByteArray} (h : lessK a b = true) : lessK b a = false := Ph.lessL_asymm _ _ h
theorem lessK_total {a b : ByteArray} (h : a ≠ b) : lessK a b = true ∨ lessK b a = true := by
  have : a.data.toList ≠ b.data.toList := fun e => h (by
    cases a; cases b
    simp only at e
    congr 1
    exact Array.toList_inj.1 e)
  have := Ph.lessL_total _ _ this
  unfold lessK
  simpa [Bool.or_eq_true] using this
def Srt (d : Dm) : Prop := d.Pairwise fun p q => lessK p.1 q.1 = true
theorem Srt.nil : Srt [] := List.Pairwise.nil
theorem Srt.delD {d : Dm} (h : Srt d) (k : ByteArray) : Srt (delD d k) := List.Pairwise.filter _ h
theorem delD_mem {d : Dm} {k : ByteArray} {q : ByteArray × DV} (h : q ∈ delD d k) : q ∈ d ∧ q.1 ≠ k := by
  have h2 := List.mem_filter.1 h
  refine ⟨h2.1, fun e => ?_⟩
  have := h2.2
  rw [e, ks_self] at this
  cases this
theorem Srt.setL : ∀ {d : Dm}, Srt d → ∀ (k : ByteArray) (v : DV), Srt (setL d k v)
  | [], _, k, v => by simp [Srt, Sw.setL]
  | p :: d, h, k, v => by
    have hd := List.pairwise_cons.1 h
    simp only [Sw.setL]
    cases hl : lessK p.1 k with
    | false =>
      refine List.pairwise_cons.2 ⟨fun q hq => ?_, Srt.delD h k⟩
      obtain ⟨h1, h2⟩ := delD_mem hq
      by_cases e : k = p.1
      · rcases List.mem_cons.1 h1 with rfl | h1
        · exact absurd e.symm h2
        · rw [e]; exact hd.1 q h1
      · have hkp : lessK k p.1 = true := by
          rcases lessK_total e with h | h
          · exact h
          · rw [hl] at h; cases h
        rcases List.mem_cons.1 h1 with rfl | h1
        · exact hkp
        · exact lessK_trans hkp (hd.1 q h1)
    | true =>
      have hne : ks k p.1 = false := by
        cases hk : ks k p.1 with
        | false => rfl
        | true => rw [ks_iff.1 hk, lessK_irr] at hl; cases hl
      rw [hne]
      refine List.pairwise_cons.2 ⟨fun q hq => ?_, Srt.setL (d := d) hd.2 k v⟩
      rcases List.mem_cons.1 ((setL_perm d k v).mem_iff.1 hq) with rfl | hq
      · exact hl
      · exact hd.1 q (delD_mem hq).1
theorem setRL_srt {d : Dm} (h : Srt d) (k : ByteArray) (x : Option DV) : Srt (setRL d k x).2 := by
  cases x with
  | none => exact h.delD k
  | some v =>
    unfold setRL
    simp only
    split
    · exact h
    · exact h.setL k v
theorem doL_srt {d : Dm} (h : Srt d) (o : OpD) : Srt (doL d o).2 := by
  unfold doL
  split
  · split
    · exact setRL_srt h _ _
    · exact h
  · split
    · split
      · exact h
      · split
        · exact h
        · exact setRL_srt h _ _
    · exact setRL_srt h _ _
theorem goL_srt : ∀ (l : List OpD) {d : Dm}, Srt d → Srt (goL l d).2
  | [], d, h => h
  | o :: l, d, h => by
    unfold goL
    split
    · exact h
    · split
      · exact goL_srt l (doL_srt h o)
      · exact h
theorem applyL_srt {d : Dm} (h : Srt d) (l : List OpD) : Srt (applyL d l).2 := by
  unfold applyL
  split
  · exact h
  · split
    · exact goL_srt l h
    · exact h
theorem srt_unique {l m : List ByteArray} (hp : l.Perm m) (hl : l.Pairwise fun a b => lessK a b = true) (hm : m.Pairwise fun a b => lessK a b = true) : l = m :=
  hp.eq_of_pairwise (fun a b _ _ h1 h2 => by rw [lessK_asymm h1] at h2; cases h2) hl hm
theorem Srt.keys {d : Dm} (h : Srt d) : (d.map (·.1)).Pairwise fun a b => lessK a b = true := List.pairwise_map.2 h
theorem srt_of_not {l : List ByteArray} (hn : l.Nodup) (h : l.Pairwise fun a b => lessK b a = false) : l.Pairwise fun a b => lessK a b = true := by
  refine (hn.and h).imp fun {a b} hab => ?_
  rcases lessK_total hab.1 with h1 | h1
  · exact h1
  · rw [hab.2] at h1; cases h1
end Go.Proofs.YtmalklakaalaoaaGreatDoor.Sw

set_option linter.unusedVariables false
set_option maxRecDepth 10000
namespace Go.Proofs.YtmalklakaalaoaaGreatDoor.Sw
open Go.RowKit Go.Sx
structure DocFine (d : Dm) : Prop where
  ok : DocOk d
  srt : Srt d
  key : ∀ p ∈ d, Ph.keyB p.1.data.toList = true
theorem DocFine.nil : DocFine [] := ⟨DocOk.nil, Srt.nil, by simp⟩
theorem mayD_key {o : OpD} (h : mayD o = true) : Ph.keyB o.key.data.toList = true := by
  unfold mayD mayOp at h
  simp only [Bool.and_eq_true] at h
  exact h.1.1.1
theorem setRL_key {d : Dm} (h : ∀ p ∈ d, Ph.keyB p.1.data.toList = true) {k : ByteArray} (hk : Ph.keyB k.data.toList = true) (x : Option DV) : ∀ p ∈ (setRL d k x).2, Ph.keyB p.1.data.toList = true := by
  cases x with
  | none => exact fun p hp => h p (delD_mem hp).1
  | some v =>
    unfold setRL
    simp only
    split
    · exact h
    · intro p hp
      rcases List.mem_cons.1 ((setL_perm d k v).mem_iff.1 hp) with rfl | hp
      · exact hk
      · exact h p (delD_mem hp).1
theorem doL_key {d : Dm} (h : ∀ p ∈ d, Ph.keyB p.1.data.toList = true) {o : OpD} (hk : Ph.keyB o.key.data.toList = true) : ∀ p ∈ (doL d o).2, Ph.keyB p.1.data.toList = true := by
  unfold doL
  split
  · split
    · exact setRL_key h hk _
    · exact h
  · split
    · split
      · exact h
      · split
        · exact h
        · exact setRL_key h hk _
    · exact setRL_key h hk _
theorem goL_key : ∀ (l : List OpD) {d : Dm}, (∀ p ∈ d, Ph.keyB p.1.data.toList = true) → ∀ p ∈ (goL l d).2, Ph.keyB p.1.data.toList = true
  | [], d, h => h
  | o :: l, d, h => by
    unfold goL
    split
    · exact h
    · rename_i hm
      split
      · exact goL_key l (doL_key h (mayD_key (by simpa using hm)))
      · exact h
theorem applyL_fine {d : Dm} (h : DocFine d) {l : List OpD} (ho : ∀ o ∈ l, OpOk o) : DocFine (applyL d l).2 := by
  refine ⟨applyL_ok h.ok ho, applyL_srt h.srt l, ?_⟩
  unfold applyL
  split
  · exact h.key
  · split
    · exact goL_key l h.key
    · exact h.key
end Go.Proofs.YtmalklakaalaoaaGreatDoor.Sw
