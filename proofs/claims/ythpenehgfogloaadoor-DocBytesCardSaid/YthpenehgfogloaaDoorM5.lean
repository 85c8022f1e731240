/-
  Texts of the proof, one behind the other (part 5).
-/
import Derived.Test.YthpenehgfogloaaDoorM4
import Derived.Test.YthpenehgfogloaaDoorChecked
import Derived.Sort.Grow
import Derived.WalkKit
import Derived.WalkLawsBesides
import Derived.WalkSpells
import Derived.Lib.Hide
import Derived.Deep.QuietTactic
import Derived.BigQuiet
import Derived.Below
import Derived.Shelf.SlSortCmp.Whole1
import Derived.Shelf.SlIter.Collect
import Derived.Shelf.SlSortCmp.NoneTotal
import Derived.Ground.GgzProg
import Derived.Ground.SlsfProg
import Derived.Test.YthpenehgfogloaaDoorProg
import Derived.IntWalk
/-
  The walks of maps.Copy and doc.Copy.
-/
set_option linter.unusedVariables false
set_option maxRecDepth 10000
namespace Go.Proofs.YthpenehgfogloaaDoor.Sw
open Go.RowKit Go.Sx

def unV : Value → DV
  | .agg ⟨[.iface _ (.int _ n)]⟩ => .inl n
  | .agg ⟨[.iface _ (.string s)]⟩ => .inr s
  | _ => .inl 0
theorem unV_vOf (x : DV) : unV (vOf x) = x := by rcases x with n | s <;> rfl
theorem kvOf_perm {d d' : Dm} (h : (kvOf d).Perm (kvOf d')) : d.Perm d' := by
  have := h.map fun p => (p.1, unV p.2)
  unfold kvOf at this
  rw [List.map_map, List.map_map] at this
  have e : ((fun p : ByteArray × Value => (p.1, unV p.2)) ∘ fun p : ByteArray × DV => (p.1, vOf p.2)) = id := by
    funext p
    simp [unV_vOf]
  rw [e] at this
  simpa using this
theorem kvOf_keys (d : Dm) : (kvOf d).map (·.1) = d.map (·.1) := by simp [kvOf]
structure CopS where
  dn : Dm
  left : KV
  cur : Option (ByteArray × Value)

set_option maxHeartbeats 8000000 in
theorem maps_Copy (w0 W : World) (m1 m2 : Nat) (d : Dm) (R : List Res) (hk : dKeys d) (hw : Has 0 w0 W (MapOf m1 [] :: MapOf m2 (kvOf d) :: R)) :
    Calls Tryd.prog 65 ⟨[.map (some m1), .map (some m2)]⟩ W fun e W' => e = .returned (.tuple #[]) ∧ ∃ d', d'.Perm d ∧ Has 0 w0 W' (MapOf m1 (kvOf d') :: MapOf m2 (kvOf d) :: R) := by
  refine enter Tryd.func65 Tryd.ntmps65 rfl rfl fun a hs => ?_
  repeat (first | (refine sxv hs hw ?_; clear hs; intro a hs) | refine sxc hs ?_ | (refine sxa hs hw ?_; clear hs hw; intro a b W hw hs) | (refine sxs hs hw ?_; clear hs hw; intro W hs hw))
  refine st_range hs (hw := hw.swap2) (c := ?_); clear hs hw; intro a it W hw hs
  repeat (first | (refine sxv hs hw ?_; clear hs; intro a hs) | refine sxc hs ?_ | (refine sxa hs hw ?_; clear hs hw; intro a b W hw hs) | (refine sxs hs hw ?_; clear hs hw; intro W hs hw))
  refine st_loop (σ := CopS) (fun t => [(0, .map (some m1)), (7, .pointer (some ⟨it, 0, none⟩))]) (fun t => Ranged m2 it (kvOf d) t.left t.cur :: MapOf m1 (kvOf t.dn) :: R) (fun t => (kvOf t.dn ++ t.left).Perm (kvOf d)) (fun t => t.left.length) ⟨[], kvOf d, none⟩ (List.Perm.refl _) hs ⟨rfl, rfl, trivial⟩ hw ?_
  clear hs hw
  rintro ⟨dn, left, cur⟩ a W hp hs hw
  simp only at hp hs hw
  repeat (first | (refine sxv hs hw ?_; clear hs; intro a hs) | refine sxc hs ?_ | (refine sxa hs hw ?_; clear hs hw; intro a b W hw hs) | (refine sxs hs hw ?_; clear hs hw; intro W hs hw))
  refine st_next hs (hw := hw) (c1 := ?_) (c2 := ?_)
  · clear hs; intro a hl hs
    subst hl
    repeat (first | (refine sxv hs hw ?_; clear hs; intro a hs) | refine sxc hs ?_ | (refine sxa hs hw ?_; clear hs hw; intro a b W hw hs) | (refine sxs hs hw ?_; clear hs hw; intro W hs hw))
    rw [List.append_nil] at hp
    exact rt0n hs rfl ⟨rfl, dn, kvOf_perm hp, hw.unranged.swap2⟩
  · clear hs hw; intro a W p left' hpl hw hs
    have hp2 : (kvOf dn ++ p :: left').Perm (kvOf d) := (List.Perm.append_left _ hpl.symm).trans hp
    obtain ⟨k, x, rfl⟩ : ∃ k x, p = (k, vOf x) := by
      have : p ∈ kvOf d := hp2.mem_iff.1 (by simp)
      obtain ⟨q, _, rfl⟩ := List.mem_map.1 this
      exact ⟨q.1, q.2, rfl⟩
    have hnk : k ∉ (kvOf dn).map (·.1) := by
      have h1 : ((kvOf dn ++ (k, vOf x) :: left').map (·.1)).Nodup := (hp2.map _).nodup_iff.2 (by rw [kvOf_keys]; exact hk)
      rw [List.map_append, List.nodup_append] at h1
      intro h2
      exact h1.2.2 k h2 k (by simp) rfl
    have hnew : dset (kvOf dn) k (vOf x) = kvOf (dn ++ [(k, x)]) := by
      rw [dset_new _ hnk]; simp [kvOf]
    simp only at hs
    repeat (first | (refine sxv hs hw ?_; clear hs; intro a hs) | refine sxc hs ?_ | (refine sxa hs hw ?_; clear hs hw; intro a b W hw hs) | (refine sxs hs hw ?_; clear hs hw; intro W hs hw))
    refine st_entry hs (hw := hw) (c := ?_); clear hs; intro a hs
    simp only at hs
    repeat (first | (refine sxv hs hw ?_; clear hs; intro a hs) | refine sxc hs ?_ | (refine sxa hs hw ?_; clear hs hw; intro a b W hw hs) | (refine sxs hs hw ?_; clear hs hw; intro W hs hw))
    refine st_store hs (hw := hw) (h1 := one_cellX (some x)) (k := ?_); clear hs hw; intro W hs hw
    repeat (first | (refine sxv hs hw ?_; clear hs; intro a hs) | refine sxc hs ?_ | (refine sxa hs hw ?_; clear hs hw; intro a b W hw hs) | (refine sxs hs hw ?_; clear hs hw; intro W hs hw))
    refine st_update hs (hw := hw) (v := vOf x) (c := ?_); clear hs hw; intro W hs hw
    rw [hnew] at hw
    repeat (first | (refine sxv hs hw ?_; clear hs; intro a hs) | refine sxc hs ?_ | (refine sxa hs hw ?_; clear hs hw; intro a b W hw hs) | (refine sxs hs hw ?_; clear hs hw; intro W hs hw))
    refine st_again ⟨dn ++ [(k, x)], left', some (k, vOf x)⟩ hs (hw.sub (List.Sublist.cons _ (List.Sublist.refl _))) ?_ ?_ ⟨rfl, rfl, trivial⟩
    · show (kvOf (dn ++ [(k, x)]) ++ left').Perm _
      have : kvOf (dn ++ [(k, x)]) ++ left' = kvOf dn ++ (k, vOf x) :: left' := by simp [kvOf]
      rw [this]; exact hp2
    · show left'.length < left.length
      rw [hpl.length_eq]; simp

set_option maxHeartbeats 8000000 in
theorem doc_Copy (w0 W : World) (p : Nat) (d : Dm) (R : List Res) (hw : Has 0 w0 W (DocAt p d :: R)) :
    Calls Tryd.prog 32 ⟨[.pointer (some ⟨p, 0, none⟩)]⟩ W fun e W' => ∃ c, e = .returned (.pointer (some ⟨c, 0, none⟩)) ∧ Has 0 w0 W' (DocAt c d :: DocAt p d :: R) := by
  refine enter Tryd.func32 Tryd.ntmps32 rfl rfl fun a hs => ?_
  repeat (first | (refine sxv hs hw ?_; clear hs; intro a hs) | refine sxc hs ?_ | (refine sxa hs hw ?_; clear hs hw; intro a b W hw hs) | (refine sxs hs hw ?_; clear hs hw; intro W hs hw) | ((with_reducible first | refine st_ptrSome hs (k := ?_) | refine st_ptrNone hs (k := ?_)); clear hs; intro a hs))
  refine st_call hs (hc := doc_New w0 _ _ hw) (k := ?_); rintro e0 W1 ⟨c, rfl, hw1⟩; refine ⟨_, rfl, ?_⟩; clear hs hw; intro a hs; have hw := hw1; clear hw1
  repeat (first | (refine sxv hs hw ?_; clear hs; intro a hs) | refine sxc hs ?_ | (refine sxa hs hw ?_; clear hs hw; intro a b W hw hs) | (refine sxs hs hw ?_; clear hs hw; intro W hs hw) | ((with_reducible first | refine st_ptrSome hs (k := ?_) | refine st_ptrNone hs (k := ?_)); clear hs; intro a hs))
  obtain ⟨m1, d1, hp1, -, hw⟩ := docOpen hw
  obtain rfl : d1 = [] := List.Perm.eq_nil hp1
  obtain ⟨m2, d2, hp2, hk2, hw⟩ := docOpen (hw.perm ((List.Perm.cons _ (List.Perm.swap _ _ _)).trans (List.Perm.swap _ _ _)))
  have hw : Has 0 w0 _ (Cells c [.map (some m1)] 79 :: Cells p [.map (some m2)] 79 :: MapOf m1 (kvOf []) :: MapOf m2 (kvOf d2) :: R) := hw.perm (by repeat (first | exact List.Perm.refl _ | refine perm_pick (by repeat (first | exact Pick.hd | apply Pick.tl)) ?_))
  refine rg_draw (V := [.pointer (some ⟨c, 0, none⟩), .pointer (some ⟨c, 0, none⟩), .pointer (some ⟨c, 0 + 0, none⟩), .map (some m1), .pointer (some ⟨p, 0, none⟩), .pointer (some ⟨p, 0, none⟩), .pointer (some ⟨p, 0 + 0, none⟩), .map (some m2), .tuple #[]])
    (Rs := fun D => Cells c [.map (some m1)] 79 :: Cells p [.map (some m2)] 79 :: (if D 8 then Ex (fun d3 : Dm => MapOf m1 (kvOf d3) :: Fact (d3.Perm d2) :: []) else MapOf m1 (kvOf [])) :: MapOf m2 (kvOf d2) :: R) hs hw (ho := ⟨?_, ?_, ?_, ?_, ?_, ?_, ?_, ?_, ?c8_2, trivial⟩) (k := ?k_2)
  case c8_2 =>
    intro LD D a W hcl hi hp hs hw
    simp only [hi, Bool.false_eq_true, if_false] at hw
    have hw : Has 0 w0 W (MapOf m1 [] :: MapOf m2 (kvOf d2) :: Cells c [.map (some m1)] 79 :: Cells p [.map (some m2)] 79 :: R) := hw.perm (by repeat (first | exact List.Perm.refl _ | refine perm_pick (by repeat (first | exact Pick.hd | apply Pick.tl)) ?_))
    refine st_call hs (hc := maps_Copy w0 _ m1 m2 d2 _ ((dKeys_perm hp2).2 hk2) hw) (k := ?_); rintro e0 W1 ⟨rfl, d3, h3, hw1⟩; refine ⟨_, rfl, ?_⟩; clear hs hw; intro a hs; have hw := hw1; clear hw1
    repeat (first | (refine sxv hs hw ?_; clear hs; intro a hs) | refine sxc hs ?_ | (refine sxa hs hw ?_; clear hs hw; intro a b W hw hs) | (refine sxs hs hw ?_; clear hs hw; intro W hs hw))
    refine ⟨hs, ?_⟩
    have hw := Has.shut (Ls := fun d3 : Dm => MapOf m1 (kvOf d3) :: Fact (d3.Perm d2) :: []) d3 (hw.fact h3 |>.perm (List.Perm.swap _ _ _))
    exact hw.perm (by repeat (first | exact List.Perm.refl _ | refine perm_pick (by repeat (first | exact Pick.hd | apply Pick.tl)) ?_))
  case k_2 =>
    clear hs hw
    intro a W hs hw
    replace hw : Has 0 w0 W (Cells c [.map (some m1)] 79 :: Cells p [.map (some m2)] 79 :: Ex (fun d3 : Dm => MapOf m1 (kvOf d3) :: Fact (d3.Perm d2) :: []) :: MapOf m2 (kvOf d2) :: R) := hw
    obtain ⟨d3, hw⟩ := Has.open (hw.perm (List.Perm.trans (List.Perm.cons _ (List.Perm.swap _ _ _)) (List.Perm.swap _ _ _)))
    have hw : Has 0 w0 W (MapOf m1 (kvOf d3) :: Fact (d3.Perm d2) :: Cells c [.map (some m1)] 79 :: Cells p [.map (some m2)] 79 :: MapOf m2 (kvOf d2) :: R) := hw
    have h3 := hw.told (In.tl In.hd)
    repeat (first | (refine sxv hs hw ?_; clear hs; intro a hs) | refine sxc hs ?_ | (refine sxa hs hw ?_; clear hs hw; intro a b W hw hs) | (refine sxs hs hw ?_; clear hs hw; intro W hs hw))
    have hw : Has 0 w0 _ (Cells p [.map (some m2)] 79 :: MapOf m2 (kvOf d2) :: Cells c [.map (some m1)] 79 :: MapOf m1 (kvOf d3) :: R) := hw.drop2.perm (by repeat (first | exact List.Perm.refl _ | refine perm_pick (by repeat (first | exact Pick.hd | apply Pick.tl)) ?_))
    have hw := docShut hw hp2 hk2
    have hw : Has 0 w0 _ (Cells c [.map (some m1)] 79 :: MapOf m1 (kvOf d3) :: DocAt p d :: R) := hw.perm (by repeat (first | exact List.Perm.refl _ | refine perm_pick (by repeat (first | exact Pick.hd | apply Pick.tl)) ?_))
    have hw := docShut hw (h3.trans hp2) hk2
    exact rt1 hs rfl rfl ⟨c, rfl, hw⟩
  all_goals
    intro LD D a W hcl hi hp hs hw
    repeat (first | (refine sxv hs hw ?_; clear hs; intro a hs) | refine sxc hs ?_ | (refine sxa hs hw ?_; clear hs hw; intro a b W hw hs) | (refine sxs hs hw ?_; clear hs hw; intro W hs hw))
    exact ⟨hs, hw⟩
end Go.Proofs.YthpenehgfogloaaDoor.Sw

/-
  The walks of op.MayBatch and op.Encode, by Sx.
-/
set_option linter.unusedVariables false
set_option maxRecDepth 10000
namespace Go.Proofs.YthpenehgfogloaaDoor.Sw
open Go.RowKit Go.Sx
-- pieces

def mayD (o : OpD) : Bool := mayOp o.kind o.key o.vk o.vn o.vs o.ok o.on o.os o.n
/-- May a batch be? -/
def mayBatch (c q : Int) (l : List OpD) : Bool :=
  !(decide (c < 1)) && !(decide (c > 5)) && !(decide (q < 1)) && !(decide (q > 1099511627776)) && !(decide ((l.length : Int) < 1)) && !(decide ((l.length : Int) > 8)) && l.all mayD && decide (((textB c q l).length : Int) ≤ 1200)

end Go.Proofs.YthpenehgfogloaaDoor.Sw

/-
  The walk of doc.Apply.
-/
set_option linter.unusedVariables false
set_option maxRecDepth 10000
namespace Go.Proofs.YthpenehgfogloaaDoor.Sw
open Go.RowKit Go.Sx

/-- Operations done, one behind the other, to the first that may not. -/
def goD : List OpD → Dm → Int × Dm
  | [], d => (0, d)
  | o :: l, d => if mayD o = false then (1, d) else if (doOp d o).1 = 0 then goD l (doOp d o).2 else ((doOp d o).1, d)
/-- All operations, or none. -/
def applyD (d : Dm) (l : List OpD) : Int × Dm :=
  if l.length = 0 ∨ 8 < l.length then (1, d) else if (goD l d).1 = 0 then (0, (goD l d).2) else ((goD l d).1, d)

set_option maxHeartbeats 16000000 in
theorem doc_Apply (w0 W : World) (H : Fh) (p : Nat) (d : Dm) (l : List OpD) (sv : Value) (R : List Res) (ho : ∀ o ∈ l, OpOk o) (r : RdH H 9 sv l.length (l.flatMap opCells)) (i : In (Fz H) R) (hH : (fr w0).le H) (hT : Tabs w0) (hw : Has 0 w0 W (DocAt p d :: R)) :
    Calls Tryd.prog 18 ⟨[.pointer (some ⟨p, 0, none⟩), sv]⟩ W fun e W' => e = .returned (.int .i64 (applyD d l).1) ∧ Has 0 w0 W' (DocAt p (applyD d l).2 :: R) := by
  obtain ⟨sad, scap, rfl⟩ := r.slice
  have hlen := r.len
  refine enter Tryd.func18 Tryd.ntmps18 rfl rfl fun a hs => ?_
  repeat (first | (refine sxv hs hw ?_; clear hs; intro a hs) | refine sxc hs ?_ | (refine sxa hs hw ?_; clear hs hw; intro a b W hw hs) | (refine sxs hs hw ?_; clear hs hw; intro W hs hw) | ((with_reducible first | refine st_ptrSome hs (k := ?_) | refine st_ptrNone hs (k := ?_)); clear hs; intro a hs))
  cases h0 : ((l.length : Int) == 0) with
  | true =>
    rw [h0] at hs
    repeat (first | (refine sxv hs hw ?_; clear hs; intro a hs) | refine sxc hs ?_ | (refine sxa hs hw ?_; clear hs hw; intro a b W hw hs) | (refine sxs hs hw ?_; clear hs hw; intro W hs hw) | ((with_reducible first | refine st_ptrSome hs (k := ?_) | refine st_ptrNone hs (k := ?_)); clear hs; intro a hs))
    have hX : applyD d l = (1, d) := by
      unfold applyD
      rw [if_pos (.inl (by have : (l.length : Int) = 0 := by simpa using h0
                           omega))]
    exact rt1 hs rfl rfl ⟨by rw [hX], by rw [hX]; exact hw⟩
  | false =>
  rw [h0] at hs
  repeat (first | (refine sxv hs hw ?_; clear hs; intro a hs) | refine sxc hs ?_ | (refine sxa hs hw ?_; clear hs hw; intro a b W hw hs) | (refine sxs hs hw ?_; clear hs hw; intro W hs hw) | ((with_reducible first | refine st_ptrSome hs (k := ?_) | refine st_ptrNone hs (k := ?_)); clear hs; intro a hs))
  cases h8 : decide ((l.length : Int) > 8) with
  | true =>
    rw [h8] at hs
    repeat (first | (refine sxv hs hw ?_; clear hs; intro a hs) | refine sxc hs ?_ | (refine sxa hs hw ?_; clear hs hw; intro a b W hw hs) | (refine sxs hs hw ?_; clear hs hw; intro W hs hw) | ((with_reducible first | refine st_ptrSome hs (k := ?_) | refine st_ptrNone hs (k := ?_)); clear hs; intro a hs))
    have hX : applyD d l = (1, d) := by
      unfold applyD
      rw [if_pos (.inr (by have := of_decide_eq_true h8; omega))]
    exact rt1 hs rfl rfl ⟨by rw [hX], by rw [hX]; exact hw⟩
  | false =>
  rw [h8] at hs
  repeat (first | (refine sxv hs hw ?_; clear hs; intro a hs) | refine sxc hs ?_ | (refine sxa hs hw ?_; clear hs hw; intro a b W hw hs) | (refine sxs hs hw ?_; clear hs hw; intro W hs hw) | ((with_reducible first | refine st_ptrSome hs (k := ?_) | refine st_ptrNone hs (k := ?_)); clear hs; intro a hs))
  have hX : applyD d l = (if (goD l d).1 = 0 then (0, (goD l d).2) else ((goD l d).1, d)) := by
    unfold applyD
    rw [if_neg]
    rintro (h | h)
    · rw [h] at h0; simp at h0
    · have := of_decide_eq_false h8; omega
  rw [hX]
  clear hX h0 h8
  refine st_call hs (hc := doc_Copy w0 _ p d _ hw) (k := ?_); rintro e0 W1 ⟨c, rfl, hw1⟩; refine ⟨_, rfl, ?_⟩; clear hs hw; intro a hs; have hw := hw1; clear hw1
  repeat (first | (refine sxv hs hw ?_; clear hs; intro a hs) | refine sxc hs ?_ | (refine sxa hs hw ?_; clear hs hw; intro a b W hw hs) | (refine sxs hs hw ?_; clear hs hw; intro W hs hw) | ((with_reducible first | refine st_ptrSome hs (k := ?_) | refine st_ptrNone hs (k := ?_)); clear hs; intro a hs))
  refine st_loop (σ := Nat × Dm) (fun t => [(0, .pointer (some ⟨p, 0, none⟩)), (5, .pointer (some ⟨c, 0, none⟩)), (23, .slice sad l.length scap), (24, .int .i64 (l.length : Int)), (25, .int .i64 (t.1 : Int))]) (fun t => DocAt c t.2 :: DocAt p d :: R) (fun t => t.1 ≤ l.length ∧ goD (l.drop t.1) t.2 = goD l d) (fun t => l.length - t.1) (0, d) ⟨Nat.zero_le _, rfl⟩ hs ⟨rfl, rfl, rfl, rfl, rfl, trivial⟩ hw ?_
  clear hs hw
  rintro ⟨j, dc⟩ a W ⟨hj, hgo⟩ hs hw
  simp only at hj hgo hs hw
  repeat (first | (refine sxv hs hw ?_; clear hs; intro a hs) | refine sxc hs ?_ | (refine sxa hs hw ?_; clear hs hw; intro a b W hw hs) | (refine sxs hs hw ?_; clear hs hw; intro W hs hw) | ((with_reducible first | refine st_ptrSome hs (k := ?_) | refine st_ptrNone hs (k := ?_)); clear hs; intro a hs))
  refine cd_split hs (kt := fun hcc => ?_) (kf := fun hcc => ?_)
  · have hj' : j < l.length := by have := of_decide_eq_true hcc; omega
    obtain ⟨o, hoi⟩ : ∃ o, l[j]? = some o := ⟨l[j], List.getElem?_eq_getElem hj'⟩
    have hok := ho o (List.mem_of_getElem? hoi)
    have hdrop : l.drop j = o :: l.drop (j + 1) := by
      rw [List.drop_eq_getElem_cons hj']
      congr 1
      rw [List.getElem?_eq_getElem hj'] at hoi
      exact Option.some.inj hoi
    rw [hdrop] at hgo
    simp only [goD] at hgo
    repeat (first | (refine sxv hs hw ?_; clear hs; intro a hs) | refine sxc hs ?_ | (refine sxa hs hw ?_; clear hs hw; intro a b W hw hs) | (refine sxs hs hw ?_; clear hs hw; intro W hs hw) | ((with_reducible first | refine st_ptrSome hs (k := ?_) | refine st_ptrNone hs (k := ?_)); clear hs; intro a hs))
    refine st_index_op hs (r := hw.rdH (by repeat (first | exact i | apply In.tl)) r) (ho := hoi) (c := ?_); clear hs; intro a q off hpc hs
    refine st_load_ats (z := opCells ⟨0, ⟨#[]⟩, 0, 0, ⟨#[]⟩, 0, 0, ⟨#[]⟩, 0⟩) hs (hc := hpc) (hl := rfl) (c := ?_); clear hs; intro a hs
    clear hpc
    have hM := fun W hT => op_May o.kind o.key o.vk o.vn o.vs o.ok o.on o.os o.n W (by have := hok.key; omega) (by have := hok.vs; omega) (by have := hok.os; omega) hT
    have hM : ∀ W, Tabs W → Calls Tryd.prog 39 ⟨[.agg ⟨opCells o⟩]⟩ W fun e w' => e = .returned (.bool (mayD o)) ∧ Below W.heap.size W w' := hM
    repeat (first | (refine sxv hs hw ?_; clear hs; intro a hs) | refine sxc hs ?_ | (refine sxa hs hw ?_; clear hs hw; intro a b W hw hs) | (refine sxs hs hw ?_; clear hs hw; intro W hs hw) | ((with_reducible first | refine st_ptrSome hs (k := ?_) | refine st_ptrNone hs (k := ?_)); clear hs; intro a hs))
    obtain ⟨b7, q7⟩ := nm1 hw; subst q7
    have hw : Has 0 w0 _ (Cells b7 (opCells o) 47 :: DocAt c dc :: DocAt p d :: R) := hw
    refine st_call hs (hc := hM _ (hT.keep (hw.endF (by repeat (first | exact i | apply In.tl)) hH))) (k := ?_); rintro e0 W1 ⟨rfl, hb⟩; refine ⟨_, rfl, ?_⟩; clear hs; intro a hs; replace hw := hw.below hb; clear hb
    repeat (first | (refine sxv hs hw ?_; clear hs; intro a hs) | refine sxc hs ?_ | (refine sxa hs hw ?_; clear hs hw; intro a b W hw hs) | (refine sxs hs hw ?_; clear hs hw; intro W hs hw) | ((with_reducible first | refine st_ptrSome hs (k := ?_) | refine st_ptrNone hs (k := ?_)); clear hs; intro a hs))
    cases hm : mayD o with
    | false =>
      rw [hm] at hs hgo
      rw [if_pos rfl] at hgo
      repeat (first | (refine sxv hs hw ?_; clear hs; intro a hs) | refine sxc hs ?_ | (refine sxa hs hw ?_; clear hs hw; intro a b W hw hs) | (refine sxs hs hw ?_; clear hs hw; intro W hs hw) | ((with_reducible first | refine st_ptrSome hs (k := ?_) | refine st_ptrNone hs (k := ?_)); clear hs; intro a hs))
      rw [← hgo, if_neg (by show ¬ (1 : Int) = 0; decide)]
      exact rt1 hs rfl rfl ⟨rfl, hw.sub (List.Sublist.cons _ (List.Sublist.cons _ (List.Sublist.refl _)))⟩
    | true =>
    rw [hm] at hs hgo
    rw [if_neg (by decide)] at hgo
    repeat (first | (refine sxv hs hw ?_; clear hs; intro a hs) | refine sxc hs ?_ | (refine sxa hs hw ?_; clear hs hw; intro a b W hw hs) | (refine sxs hs hw ?_; clear hs hw; intro W hs hw) | ((with_reducible first | refine st_ptrSome hs (k := ?_) | refine st_ptrNone hs (k := ?_)); clear hs; intro a hs))
    refine st_call hs (hc := doc_do w0 _ H c dc o _ hok (by repeat (first | exact i | apply In.tl)) hH hT hw.swap2) (k := ?_); rintro e0 W1 ⟨rfl, hw1⟩; refine ⟨_, rfl, ?_⟩; clear hs hw; intro a hs; have hw := hw1; clear hw1
    repeat (first | (refine sxv hs hw ?_; clear hs; intro a hs) | refine sxc hs ?_ | (refine sxa hs hw ?_; clear hs hw; intro a b W hw hs) | (refine sxs hs hw ?_; clear hs hw; intro W hs hw) | ((with_reducible first | refine st_ptrSome hs (k := ?_) | refine st_ptrNone hs (k := ?_)); clear hs; intro a hs))
    cases he : ((doOp dc o).1 != 0) with
    | true =>
      rw [he] at hs
      rw [if_neg (by simpa using he)] at hgo
      repeat (first | (refine sxv hs hw ?_; clear hs; intro a hs) | refine sxc hs ?_ | (refine sxa hs hw ?_; clear hs hw; intro a b W hw hs) | (refine sxs hs hw ?_; clear hs hw; intro W hs hw) | ((with_reducible first | refine st_ptrSome hs (k := ?_) | refine st_ptrNone hs (k := ?_)); clear hs; intro a hs))
      rw [← hgo, if_neg (by simpa using he)]
      exact rt1 hs rfl rfl ⟨rfl, hw.sub (List.Sublist.cons _ (List.Sublist.cons _ (List.Sublist.refl _)))⟩
    | false =>
    rw [he] at hs
    rw [if_pos (by simpa using he)] at hgo
    repeat (first | (refine sxv hs hw ?_; clear hs; intro a hs) | refine sxc hs ?_ | (refine sxa hs hw ?_; clear hs hw; intro a b W hw hs) | (refine sxs hs hw ?_; clear hs hw; intro W hs hw) | ((with_reducible first | refine st_ptrSome hs (k := ?_) | refine st_ptrNone hs (k := ?_)); clear hs; intro a hs))
    exact st_again (j + 1, (doOp dc o).2) hs hw.drop2 ⟨by show j + 1 ≤ l.length; omega, hgo⟩ (by show l.length - (j + 1) < l.length - j; omega) ⟨rfl, rfl, rfl, rfl, int_eq (by show IntKind.i64.wrap ((j : Int) + 1) = ((j + 1 : Nat) : Int); rw [IntWalk.i64_in _ (by omega)]; omega), trivial⟩
  · have hj' : j = l.length := by have := of_decide_eq_false hcc; omega
    subst hj'
    rw [List.drop_length] at hgo
    rw [← hgo]
    simp only [goD, if_true]
    obtain ⟨m1, d1, hp1, hk1, hw⟩ := docOpen hw
    have hw : Has 0 w0 _ (DocAt p d :: Cells c [.map (some m1)] 79 :: MapOf m1 (kvOf d1) :: R) := hw.perm (by repeat (first | exact List.Perm.refl _ | refine perm_pick (by repeat (first | exact Pick.hd | apply Pick.tl)) ?_))
    obtain ⟨m2, d2, hp2, hk2, hw⟩ := docOpen hw
    repeat (first | (refine sxv hs hw ?_; clear hs; intro a hs) | refine sxc hs ?_ | (refine sxa hs hw ?_; clear hs hw; intro a b W hw hs) | (refine sxs hs hw ?_; clear hs hw; intro W hs hw) | ((with_reducible first | refine st_ptrSome hs (k := ?_) | refine st_ptrNone hs (k := ?_)); clear hs; intro a hs))
    have hw : Has 0 w0 _ (Cells p [.map (some m1)] 79 :: MapOf m1 (kvOf d1) :: MapOf m2 (kvOf d2) :: Cells c [.map (some m1)] 79 :: R) := hw.perm (by repeat (first | exact List.Perm.refl _ | refine perm_pick (by repeat (first | exact Pick.hd | apply Pick.tl)) ?_))
    have hw := docShut hw hp1 hk1
    exact rt1 hs rfl rfl ⟨rfl, hw.sub (List.Sublist.cons_cons _ (List.Sublist.cons _ (List.Sublist.cons _ (List.Sublist.refl _))))⟩

end Go.Proofs.YthpenehgfogloaaDoor.Sw

/-
  Values and their raw data: for seats without the laws of values (in a seat with S4A this text is not used).
-/
set_option linter.unusedVariables false
namespace Go.Proofs.YthpenehgfogloaaDoor.Sw
open Go.RowKit

theorem ofRaw_ok {k n : Int} {s : ByteArray} (h : (ofRaw k n s).2 = 0) : kindOf (ofRaw k n s).1 = k ∧ intIn (ofRaw k n s).1 = n ∧ (textIn (ofRaw k n s).1).toList = s.toList := by
  have hz : ∀ s : ByteArray, s.size = 0 → (⟨#[]⟩ : ByteArray).toList = s.toList := fun s h => by
    have : s = ⟨#[]⟩ := by
      apply ByteArray.ext
      exact Array.eq_empty_of_size_eq_zero h
    rw [this]
  unfold ofRaw at *
  split at h
  · rename_i c; rw [if_pos c]; exact ⟨c.1.symm, c.2.1.symm, hz s c.2.2⟩
  · rename_i c; rw [if_neg c]
    split at h
    · rename_i c2; rw [if_pos c2]; exact ⟨c2.1.symm, rfl, hz s c2.2⟩
    · rename_i c2; rw [if_neg c2]
      split at h
      · rename_i c3; rw [if_pos c3]; exact ⟨c3.1.symm, c3.2.1.symm, rfl⟩
      · cases h
theorem eqV_of {k n k' n' : Int} {s s' : ByteArray} (h : (ofRaw k n s).2 = 0) (h' : (ofRaw k' n' s').2 = 0) : eqV (ofRaw k n s).1 (ofRaw k' n' s').1 = ((k == k') && (n == n') && (s.toList == s'.toList)) := by
  obtain ⟨a, b, c⟩ := ofRaw_ok h
  obtain ⟨a', b', c'⟩ := ofRaw_ok h'
  unfold eqV
  rw [a, b, c, a', b', c']
theorem eqV_refl (x : Option (Int ⊕ ByteArray)) : eqV x x = true := by simp [eqV]
theorem eqV_symm (x y : Option (Int ⊕ ByteArray)) : eqV x y = eqV y x := by
  unfold eqV
  rw [Bool.beq_comm (a := kindOf x), Bool.beq_comm (a := intIn x), Bool.beq_comm (a := (textIn x).toList)]

end Go.Proofs.YthpenehgfogloaaDoor.Sw

/-
  The plain law of chapter 5: when two batches are one. No program in sight.
-/
set_option linter.unusedVariables false
set_option maxRecDepth 10000
namespace Go.Proofs.YthpenehgfogloaaDoor.Sw
open Go.RowKit Go.Sx

theorem ba_eq {s t : ByteArray} (h : s.toList = t.toList) : s = t := by
  rw [Go.ByteArray.toList_eq, Go.ByteArray.toList_eq] at h
  apply ByteArray.ext
  exact Array.toList_inj.1 h
theorem ba_mk (s : ByteArray) : (⟨s.data.toList.toArray⟩ : ByteArray) = s := by
  apply ByteArray.ext
  simp
theorem rawEq_iff {k n : Int} {s : ByteArray} {k' n' : Int} {s' : ByteArray} : rawEq k n s k' n' s' = true ↔ k = k' ∧ n = n' ∧ s = s' := by
  unfold rawEq
  simp only [Bool.and_eq_true, beq_iff_eq]
  constructor
  · rintro ⟨⟨h1, h2⟩, h3⟩
    exact ⟨h1, h2, ba_eq h3⟩
  · rintro ⟨rfl, rfl, rfl⟩
    exact ⟨⟨rfl, rfl⟩, rfl⟩

theorem mayBatch_parts {c q : Int} {l : List OpD} (h : mayBatch c q l = true) : (1 ≤ c ∧ c ≤ 5) ∧ (1 ≤ q ∧ q ≤ 1099511627776) ∧ (1 ≤ l.length ∧ l.length ≤ 8) ∧ l.all mayD = true ∧ (textB c q l).length ≤ 1200 := by
  unfold mayBatch at h
  simp only [Bool.and_eq_true, Bool.not_eq_true', decide_eq_false_iff_not, decide_eq_true_eq] at h
  obtain ⟨⟨⟨⟨⟨⟨⟨h1, h2⟩, h3⟩, h4⟩, h5⟩, h6⟩, h7⟩, h8⟩ := h
  exact ⟨by omega, by omega, by omega, h7, by omega⟩
def eqOp (o o' : OpD) : Bool := (o.kind == o'.kind) && (o.key.toList == o'.key.toList) && rawEq o.vk o.vn o.vs o'.vk o'.vn o'.vs && rawEq o.ok o.on o.os o'.ok o'.on o'.os && (o.n == o'.n)
def eqOps (l l' : List OpD) : Bool := (l.zip l').all fun p => eqOp p.1 p.2
def eqBatch (c q : Int) (l : List OpD) (c' q' : Int) (l' : List OpD) : Bool := (c == c') && (q == q') && (l.length == l'.length) && eqOps l l'
theorem eqOp_iff {o o' : OpD} : eqOp o o' = true ↔ o = o' := by
  obtain ⟨kind, key, vk, vn, vs, ok, on, os, n⟩ := o
  obtain ⟨kind', key', vk', vn', vs', ok', on', os', n'⟩ := o'
  unfold eqOp
  simp only [Bool.and_eq_true, beq_iff_eq, rawEq_iff, OpD.mk.injEq]
  constructor
  · rintro ⟨⟨⟨⟨h1, h2⟩, h3, h4, h5⟩, h6, h7, h8⟩, h9⟩
    exact ⟨h1, ba_eq h2, h3, h4, h5, h6, h7, h8, h9⟩
  · rintro ⟨h1, h2, h3, h4, h5, h6, h7, h8, h9⟩
    exact ⟨⟨⟨⟨h1, by rw [h2]⟩, h3, h4, h5⟩, h6, h7, h8⟩, h9⟩
theorem eqOps_iff : ∀ {l l' : List OpD}, l.length = l'.length → (eqOps l l' = true ↔ l = l')
  | [], [], _ => by simp [eqOps]
  | [], _ :: _, h => by simp at h
  | _ :: _, [], h => by simp at h
  | o :: l, o' :: l', h => by
    have ih := eqOps_iff (l := l) (l' := l') (by simpa using h)
    unfold eqOps at *
    rw [List.zip_cons_cons, List.all_cons, Bool.and_eq_true, ih, eqOp_iff, List.cons.injEq]
theorem eqBatch_iff {c q : Int} {l : List OpD} {c' q' : Int} {l' : List OpD} : eqBatch c q l c' q' l' = true ↔ c = c' ∧ q = q' ∧ l = l' := by
  unfold eqBatch
  simp only [Bool.and_eq_true, beq_iff_eq]
  constructor
  · rintro ⟨⟨⟨h1, h2⟩, h3⟩, h4⟩
    exact ⟨h1, h2, (eqOps_iff h3).1 h4⟩
  · rintro ⟨h1, h2, rfl⟩
    exact ⟨⟨⟨h1, h2⟩, rfl⟩, (eqOps_iff rfl).2 rfl⟩
theorem textB_pos (c q : Int) (l : List OpD) : 0 < (textB c q l).length := by
  have h4 : 0 < (Ph.putI c).length := List.length_pos_iff.2 (Ph.putI_ne_nil c)
  unfold textB headB
  simp only [List.length_append]
  omega
end Go.Proofs.YthpenehgfogloaaDoor.Sw

/-
  Sx: cells that are a list's parts, one behind the other.
-/
set_option linter.unusedVariables false
namespace Go.Sx
open Go.RowKit
def Ch {α : Type} (R : α → List Value → Prop) : List α → List Value → Prop
  | [], cs => cs = []
  | a :: l, cs => ∃ c cs', cs = c ++ cs' ∧ R a c ∧ Ch R l cs'
section
variable {α : Type} {R R' : α → List Value → Prop} {k : Nat}
theorem Ch.length (hk : ∀ a c, R a c → c.length = k) : ∀ {l : List α} {cs : List Value}, Ch R l cs → cs.length = l.length * k
  | [], cs, h => by
    have h : cs = [] := h
    subst h; simp
  | a :: l, _, ⟨c, cs', rfl, h1, h2⟩ => by
    have := Ch.length hk h2
    have := hk a c h1
    rw [List.length_append, List.length_cons, Nat.add_mul]; omega
theorem Ch.app : ∀ {l m : List α} {cs ds : List Value}, Ch R l cs → Ch R m ds → Ch R (l ++ m) (cs ++ ds)
  | [], m, cs, ds, h, h2 => by
    have h : cs = [] := h
    subst h; exact h2
  | a :: l, m, _, ds, ⟨c, cs', rfl, h1, h2⟩, h3 => ⟨c, cs' ++ ds, by simp, h1, Ch.app h2 h3⟩
theorem Ch.unit {a : α} {c : List Value} (h : R a c) : Ch R [a] c := ⟨c, [], by simp, h, rfl⟩
theorem Ch.mono (h : ∀ a c, R a c → R' a c) : ∀ {l : List α} {cs : List Value}, Ch R l cs → Ch R' l cs
  | [], cs, h0 => h0
  | a :: l, _, ⟨c, cs', e, h1, h2⟩ => ⟨c, cs', e, h a c h1, Ch.mono h h2⟩
theorem Ch.split (hk : ∀ a c, R a c → c.length = k) : ∀ {l : List α} {cs : List Value} {i : Nat} {a : α}, Ch R l cs → l[i]? = some a →
    ∃ cs1 c cs2, cs = cs1 ++ (c ++ cs2) ∧ cs1.length = i * k ∧ R a c ∧ Ch R (l.take i) cs1 ∧ Ch R (l.drop (i + 1)) cs2
  | [], _, _, _, _, h => by simp at h
  | b :: l, _, 0, a, ⟨c, cs', rfl, h1, h2⟩, h => by
    simp only [List.getElem?_cons_zero, Option.some.injEq] at h
    subst h
    exact ⟨[], c, cs', rfl, by simp, h1, rfl, h2⟩
  | b :: l, _, i + 1, a, ⟨c, cs', rfl, h1, h2⟩, h => by
    rw [List.getElem?_cons_succ] at h
    obtain ⟨cs1, c', cs2, rfl, h3, h4, h5, h6⟩ := Ch.split hk h2 h
    refine ⟨c ++ cs1, c', cs2, by simp, ?_, h4, ⟨c, cs1, rfl, h1, h5⟩, h6⟩
    have := hk b c h1
    rw [List.length_append, Nat.add_mul]; omega
theorem Ch.get (hk : ∀ a c, R a c → c.length = k) {l : List α} {cs : List Value} {i : Nat} {a : α} (h : Ch R l cs) (hi : l[i]? = some a) : ∃ c, R a c ∧ c.length = k ∧ cut cs (i * k) k = c := by
  obtain ⟨cs1, c, cs2, rfl, h1, h2, _, _⟩ := h.split hk hi
  have := hk a c h2
  refine ⟨c, h2, this, ?_⟩
  rw [cut_eq, List.drop_append, h1, Nat.sub_self, List.drop_of_length_le (by omega), List.nil_append, List.drop_zero, List.take_append_of_le_length (by omega), List.take_of_length_le (by omega)]
theorem Ch.set (hk : ∀ a c, R a c → c.length = k) {l : List α} {cs : List Value} {i : Nat} {a : α} {c : List Value} (h : Ch R l cs) (hi : i < l.length) (ha : R a c) : Ch R (l.set i a) (ov cs (i * k) c) := by
  obtain ⟨cs1, c0, cs2, rfl, h1, h2, h3, h4⟩ := h.split hk (i := i) (a := l[i]) (by simp [hi])
  have e1 := hk _ _ h2
  have e2 := hk _ _ ha
  rw [ov_eq _ _ _ (by simp; omega), List.set_eq_take_append_cons_drop, if_pos hi]
  have e3 : (cs1 ++ (c0 ++ cs2)).take (i * k) = cs1 := by rw [← h1]; simp
  have e4 : (cs1 ++ (c0 ++ cs2)).drop (i * k + c.length) = cs2 := by
    rw [← List.append_assoc, ← h1, e2, ← e1, ← List.length_append, List.drop_left]
  rw [e3, e4, List.append_assoc]
  exact h3.app ⟨c, cs2, rfl, ha, h4⟩
theorem Ch.take (hk : ∀ a c, R a c → c.length = k) : ∀ {l : List α} {cs : List Value} (n : Nat), Ch R l cs → Ch R (l.take n) (cs.take (n * k))
  | [], cs, n, h => by
    have h : cs = [] := h
    subst h
    rw [List.take_nil, List.take_nil]; rfl
  | a :: l, cs, 0, h => by rw [Nat.zero_mul]; rfl
  | a :: l, _, n + 1, ⟨c, cs', rfl, h1, h2⟩ => by
    have := hk a c h1
    refine ⟨c, cs'.take (n * k), ?_, h1, Ch.take hk n h2⟩
    rw [List.take_append, List.take_of_length_le (by rw [Nat.add_mul]; omega), Nat.add_mul]
    congr 2; omega
theorem Ch.drop (hk : ∀ a c, R a c → c.length = k) : ∀ {l : List α} {cs : List Value} (n : Nat), Ch R l cs → Ch R (l.drop n) (cs.drop (n * k))
  | [], cs, n, h => by
    have h : cs = [] := h
    subst h
    rw [List.drop_nil, List.drop_nil]; rfl
  | a :: l, cs, 0, h => by rw [Nat.zero_mul]; exact h
  | a :: l, _, n + 1, ⟨c, cs', rfl, h1, h2⟩ => by
    have := hk a c h1
    have e : (n + 1) * k - c.length = n * k := by rw [Nat.add_mul]; omega
    have e2 : c.drop ((n + 1) * k) = [] := List.drop_of_length_le (by rw [Nat.add_mul]; omega)
    rw [List.drop_succ_cons, List.drop_append, e2, List.nil_append, e]
    exact Ch.drop hk n h2
theorem Ch.ones (h1 : ∀ a c, R a c → ∀ v ∈ c, v.oneCell' = true) : ∀ {l : List α} {cs : List Value}, Ch R l cs → ∀ v ∈ cs, v.oneCell' = true
  | [], cs, h => by
    have h : cs = [] := h
    subst h; simp
  | a :: l, _, ⟨c, cs', rfl, h2, h3⟩ => fun v hv => by
    rcases List.mem_append.1 hv with hv | hv
    · exact h1 a c h2 v hv
    · exact Ch.ones h1 h3 v hv
end
section
variable {P : Program} {ops : Array Oper} {rest : List Oper} {Q : Exit → Act → World → Prop} {a : Act} {n : Nat} {L : List (Nat × Value)} {W : World} {d k : Nat} {T S E : TypeId} {p : String} {e : Array Edge} {x y : Operand} {v : Value} {xs : List Value} {i : Nat} {q : IntKind} {z : List Value} {α : Type} {R : α → List Value → Prop} {l : List α} {u : α}
/-- A part's address; what stands there. -/
theorem st_index_ch {agg : Bool} {sz : Nat} [sl : Sl P S E] [t : Ty P E agg z] (hs : Slots a n L) (r : Rd W sz v k xs) (hk : ∀ a c, R a c → c.length = sz) (ch : Ch R l xs) (ho : l[i]? = some u) (hlen : l.length = k) (hx : ev L x = some v := by with_unfolding_all exact rfl) (hy : ev L y = some (.int q (i : Int)) := by with_unfolding_all exact rfl) (hd : Nat.blt d n = true := by with_unfolding_all exact rfl) (hz : z.length = sz := by with_unfolding_all exact rfl)
    (c : ∀ a' b o c, R u c → c.length = sz → (∀ j u, c[j]? = some u → W.cell? ⟨b, o + j, none⟩ = some u) → b < W.heap.size → Slots a' n ((d, .pointer (some ⟨b, o, none⟩)) :: L) → wpList P ops Q rest a' W) : wpList P ops Q (⟨some d, .indexAddr S x y, T, p, e, none⟩ :: rest) a W := by
  subst hz
  have hi := (List.getElem?_eq_some_iff.1 ho).1
  obtain ⟨cc, h1, h2, h3⟩ := ch.get hk ho
  refine st_indexAddr hs hx hy r (by omega) (by omega) hd fun a' b o h4 h5 h6 => c a' b o cc h1 h2 ?_ h5 h6
  rw [Int.toNat_natCast] at h4
  rw [← h3]
  exact h4
end
section
variable {P : Program} {ops : Array Oper} {rest : List Oper} {Q : Exit → Act → World → Prop} {a : Act} {n G : Nat} {L : List (Nat × Value)} {w W : World} {R : List Res} {d b size bytes m : Nat} {T S S' E : TypeId} {p : String} {e : Array Edge} {x y : Operand} {v : Value} {xs c : List Value} {α : Type} {Rr : α → List Value → Prop} {l : List α} {u : α}
/-- One part more. -/
theorem st_append1 [sl : Sl P S E] [el : El P E size bytes] (hs : Slots a n L) (hw : Has G w W (Own E size v l.length xs :: R)) (hi : In (Cells b c E) R) (ch : Ch Rr l xs) (ha : Rr u c) (hl : Nat.beq c.length (1 * size) = true) (h1 : c.all (·.oneCell') = true) (hb : (l.length + 1) * bytes ≤ 140737488355328) (h63 : l.length + 1 ≤ 9223372036854775807) (hx : ev L x = some v := by with_unfolding_all exact rfl) (hy : ev L y = some (.slice (some ⟨b, 0, none⟩) 1 1) := by with_unfolding_all exact rfl) (hd : Nat.blt d n = true := by with_unfolding_all exact rfl)
    (k : ∀ a' ad cap W', Slots a' n ((d, .slice ad (l ++ [u]).length cap) :: L) → Has G w W' (Own E size (.slice ad (l ++ [u]).length cap) (l ++ [u]).length (xs ++ c) :: R) → Ch Rr (l ++ [u]) (xs ++ c) → wpList P ops Q rest a' W') : wpList P ops Q (⟨some d, .call { callee := .builtin .append, args := #[x, y], argTypes := #[S, S] }, T, p, e, none⟩ :: rest) a W := by
  refine st_append_lit (b := b) (k := l.length) (m := 1) (xs := xs) (news := c) (v := v) (R' := fun v' => Own E size v' (l.length + 1) (xs ++ c) :: R) hs hw hx hy (In.tl hi) (fun v' => Upd.hd) hl h1 h63 hb hd ?_
  intro a' ad cap W' hs' hw'
  have e : l.length + 1 = (l ++ [u]).length := by simp
  rw [e] at hs' hw'
  exact k a' ad cap W' hs' hw' (ch.app (Ch.unit ha))
end
section
variable {G : Nat} {w W : World} {R : List Res} {H : Fh}
/-- What is frozen, with a fact about it. -/
def FzF (H : Fh) (p : Prop) : Res where
  ok F W := p ∧ (Fz H).ok F W
  loc F W W' h k := ⟨k.1, (Fz H).loc F W W' h k.2⟩
theorem Has.fzf {q : Prop} (h : Has G w W (Fz H :: R)) (hq : q) : Has G w W (FzF H q :: R) := by
  obtain ⟨F1, h1, h2, h3⟩ := h.has
  exact ⟨h.ext, h.glob, F1, h1, ⟨hq, h2⟩, h3⟩
theorem Has.unfzf {q : Prop} (h : Has G w W (FzF H q :: R)) : q ∧ Has G w W (Fz H :: R) := by
  obtain ⟨F1, h1, ⟨hq, h2⟩, h3⟩ := h.has
  exact ⟨hq, h.ext, h.glob, F1, h1, h2, h3⟩
end
theorem drop_of {α : Type} {l : List α} {j : Nat} {o : α} (h : l[j]? = some o) : l.drop j = o :: l.drop (j + 1) := by
  have hj := (List.getElem?_eq_some_iff.1 h).1
  rw [List.drop_eq_getElem_cons hj]
  congr 1
  rw [List.getElem?_eq_getElem hj] at h
  exact Option.some.inj h
theorem take_of {α : Type} {l : List α} {j : Nat} {o : α} (h : l[j]? = some o) : l.take (j + 1) = l.take j ++ [o] := by
  rw [List.take_add_one, h]; rfl
end Go.Sx

/-
  Documents as the reference has them: lists in order; the same up to order as the program's.
-/
set_option linter.unusedVariables false
set_option maxRecDepth 10000
namespace Go.Proofs.YthpenehgfogloaaDoor.Sw
open Go.RowKit Go.Sx

def lessK (a b : ByteArray) : Bool := Ph.lessL a.data.toList b.data.toList
/-- With a key's value, as the reference puts it. -/
def setL : Dm → ByteArray → DV → Dm
  | [], k, v => [(k, v)]
  | p :: d, k, v => match lessK p.1 k with
    | false => (k, v) :: delD (p :: d) k
    | true => match ks k p.1 with
      | true => setL d k v
      | false => p :: setL d k v
theorem delD_cons (p : ByteArray × DV) (d : Dm) (k : ByteArray) : delD (p :: d) k = match ks k p.1 with | true => delD d k | false => p :: delD d k := by
  unfold delD
  rw [List.filter_cons]
  cases ks k p.1 <;> rfl
theorem setL_perm : ∀ (d : Dm) (k : ByteArray) (v : DV), (setL d k v).Perm (setD d k v)
  | [], k, v => List.Perm.refl _
  | p :: d, k, v => by
    have ih := setL_perm d k v
    unfold setD at ih ⊢
    simp only [setL]
    cases lessK p.1 k with
    | false => exact List.Perm.refl _
    | true =>
      simp only
      rw [delD_cons]
      cases ks k p.1 with
      | true => exact ih
      | false => exact (ih.cons p).trans (List.Perm.swap _ _ _)
def setRL (d : Dm) (k : ByteArray) (x : Option DV) : Int × Dm :=
  match x with
  | none => (0, delD d k)
  | some v => if (getK d k).isSome = false ∧ 50 ≤ d.length then (6, d) else (0, setL d k v)
def doL (d : Dm) (o : OpD) : Int × Dm :=
  if o.kind = 3 then (if eqV (getK d o.key) (ofRaw o.ok o.on o.os).1 then setRL d o.key (ofRaw o.vk o.vn o.vs).1 else (8, d))
  else if o.kind = 4 then
    if (kindOf (getK d o.key) != 0 && !isInt (getK d o.key)) = true then (7, d)
    else if (!inB (intIn (getK d o.key)) || !inB (IntKind.i64.wrap (intIn (getK d o.key) + o.n))) = true then (4, d)
    else setRL d o.key (some (.inl (IntKind.i64.wrap (intIn (getK d o.key) + o.n))))
  else setRL d o.key (ofRaw o.vk o.vn o.vs).1
def goL : List OpD → Dm → Int × Dm
  | [], d => (0, d)
  | o :: l, d => if mayD o = false then (1, d) else if (doL d o).1 = 0 then goL l (doL d o).2 else ((doL d o).1, d)
/-- All operations, or none. -/
def applyL (d : Dm) (l : List OpD) : Int × Dm :=
  if l.length = 0 ∨ 8 < l.length then (1, d) else if (goL l d).1 = 0 then (0, (goL l d).2) else ((goL l d).1, d)

def Like (a b : Int × Dm) : Prop := a.1 = b.1 ∧ a.2.Perm b.2 ∧ dKeys b.2
theorem setRL_like {d d' : Dm} (hp : d'.Perm d) (hk : dKeys d) (k : ByteArray) (x : Option DV) : Like (setR d' k x) (setRL d k x) := by
  cases x with
  | none => exact ⟨rfl, delD_perm hp k, delD_keys hk k⟩
  | some v =>
    unfold setR setRL
    simp only
    rw [getK_perm hp ((dKeys_perm hp).2 hk), hp.length_eq]
    by_cases h : (getK d k).isSome = false ∧ 50 ≤ d.length
    · rw [if_pos h, if_pos h]
      exact ⟨rfl, hp, hk⟩
    · rw [if_neg h, if_neg h]
      exact ⟨rfl, (setD_perm hp k v).trans (setL_perm d k v).symm, (dKeys_perm (setL_perm d k v)).2 (setD_keys hk k v)⟩
theorem doL_like {d d' : Dm} (hp : d'.Perm d) (hk : dKeys d) (o : OpD) : Like (doOp d' o) (doL d o) := by
  unfold doOp doL
  rw [getK_perm hp ((dKeys_perm hp).2 hk)]
  split
  · split
    · exact setRL_like hp hk _ _
    · exact ⟨rfl, hp, hk⟩
  · split
    · split
      · exact ⟨rfl, hp, hk⟩
      · split
        · exact ⟨rfl, hp, hk⟩
        · exact setRL_like hp hk _ _
    · exact setRL_like hp hk _ _
theorem goL_like : ∀ (l : List OpD) {d d' : Dm}, d'.Perm d → dKeys d → Like (goD l d') (goL l d)
  | [], d, d', hp, hk => ⟨rfl, hp, hk⟩
  | o :: l, d, d', hp, hk => by
    unfold goD goL
    obtain ⟨h1, h2, h3⟩ := doL_like hp hk o
    by_cases hm : mayD o = false
    · rw [if_pos hm, if_pos hm]
      exact ⟨rfl, hp, hk⟩
    · rw [if_neg hm, if_neg hm, h1]
      by_cases he : (doL d o).1 = 0
      · rw [if_pos he, if_pos he]
        exact goL_like l h2 h3
      · rw [if_neg he, if_neg he]
        exact ⟨rfl, hp, hk⟩
theorem applyL_like {d d' : Dm} (hp : d'.Perm d) (hk : dKeys d) (l : List OpD) : Like (applyD d' l) (applyL d l) := by
  unfold applyD applyL
  obtain ⟨h1, h2, h3⟩ := goL_like l hp hk
  by_cases h : l.length = 0 ∨ 8 < l.length
  · rw [if_pos h, if_pos h]
    exact ⟨rfl, hp, hk⟩
  · rw [if_neg h, if_neg h, h1]
    by_cases he : (goL l d).1 = 0
    · rw [if_pos he, if_pos he]
      exact ⟨rfl, h2, h3⟩
    · rw [if_neg he, if_neg he]
      exact ⟨rfl, hp, hk⟩
theorem docLike {G p : Nat} {w W : World} {R : List Res} {d d' : Dm} (h : Has G w W (DocAt p d :: R)) (hp : d.Perm d') : Has G w W (DocAt p d' :: R) := by
  obtain ⟨m, d2, h1, h2, h3⟩ := docOpen h
  exact docShut h3 (h1.trans hp) ((dKeys_perm hp).1 h2)
theorem docKeys {G p : Nat} {w W : World} {R : List Res} {d : Dm} (h : Has G w W (DocAt p d :: R)) : dKeys d := by
  obtain ⟨m, d2, h1, h2, h3⟩ := docOpen h
  exact h2
theorem doc_ApplyL (w0 W : World) (H : Fh) (p : Nat) (d : Dm) (l : List OpD) (sv : Value) (R : List Res) (ho : ∀ o ∈ l, OpOk o) (r : RdH H 9 sv l.length (l.flatMap opCells)) (i : In (Fz H) R) (hH : (fr w0).le H) (hT : Tabs w0) (hw : Has 0 w0 W (DocAt p d :: R)) :
    Calls Tryd.prog 18 ⟨[.pointer (some ⟨p, 0, none⟩), sv]⟩ W fun e W' => e = .returned (.int .i64 (applyL d l).1) ∧ Has 0 w0 W' (DocAt p (applyL d l).2 :: R) := by
  have hk := docKeys hw
  obtain ⟨h1, h2, h3⟩ := applyL_like (List.Perm.refl d) hk l
  refine (doc_Apply w0 W H p d l sv R ho r i hH hT hw).mono ?_
  rintro e W' ⟨rfl, h⟩
  exact ⟨by rw [h1], docLike h h2⟩

/-! what may be of a document -/
structure PairOk (p : ByteArray × DV) : Prop where
  key : p.1.size ≤ 1000000
  num : ∀ n, p.2 = .inl n → i64 n
  txt : ∀ s, p.2 = .inr s → s.size ≤ 200 ∧ Lib.validD s.data.toList = true
/-- A document that may be. -/
structure DocOk (d : Dm) : Prop where
  keys : dKeys d
  len : d.length ≤ 50
  all : ∀ p ∈ d, PairOk p
theorem DocOk.nil : DocOk [] := ⟨by unfold dKeys; simp, by simp, by simp⟩
theorem delD_len (d : Dm) (k : ByteArray) : (delD d k).length ≤ d.length := List.length_filter_le _ _
theorem delD_less {d : Dm} {k : ByteArray} (h : (getK d k).isSome = true) : (delD d k).length < d.length := by
  have h1 : k ∈ d.map (·.1) := by
    cases hg : getK d k with
    | none => rw [hg] at h; cases h
    | some v => exact Classical.byContradiction fun hn => by rw [getK_none.2 hn] at hg; cases hg
  obtain ⟨p, hp, rfl⟩ := List.mem_map.1 h1
  have h3 := List.length_eq_countP_add_countP (fun q : ByteArray × DV => !ks p.1 q.1) (l := d)
  have h4 : 0 < d.countP (fun q => decide ¬(!ks p.1 q.1) = true) := List.countP_pos_iff.2 ⟨p, hp, by simp [ks_self]⟩
  have h5 : (delD d p.1).length = d.countP (fun q => !ks p.1 q.1) := by unfold delD; rw [List.countP_eq_length_filter]
  omega
theorem setRL_ok {d : Dm} (h : DocOk d) {k : ByteArray} {x : Option DV} (hx : ∀ v, x = some v → PairOk (k, v)) : DocOk (setRL d k x).2 := by
  cases x with
  | none => exact ⟨delD_keys h.keys k, Nat.le_trans (delD_len d k) h.len, fun p hp => h.all p ((List.mem_filter.1 hp).1)⟩
  | some v =>
    unfold setRL
    simp only
    by_cases hc : (getK d k).isSome = false ∧ 50 ≤ d.length
    · rw [if_pos hc]; exact h
    · rw [if_neg hc]
      have hp := setL_perm d k v
      refine ⟨(dKeys_perm hp).2 (setD_keys h.keys k v), ?_, fun p hm => ?_⟩
      · rw [hp.length_eq]
        show (delD d k).length + 1 ≤ 50
        cases hg : (getK d k).isSome with
        | true =>
          have := delD_less hg
          have := h.len
          omega
        | false =>
          have := delD_len d k
          have : ¬ 50 ≤ d.length := fun hh => hc ⟨hg, hh⟩
          omega
      · rcases List.mem_cons.1 (hp.mem_iff.1 hm) with rfl | hm
        · exact hx v rfl
        · exact h.all p ((List.mem_filter.1 hm).1)
theorem ofRaw_pair {k n : Int} {s key : ByteArray} (hk : key.size ≤ 1000000) (hn : i64 n) : ∀ v, (ofRaw k n s).1 = some v → PairOk (key, v) := by
  intro v hv
  unfold ofRaw at hv
  split at hv
  · cases hv
  · split at hv
    · cases hv
      exact ⟨hk, (fun m h => by cases h; exact hn), (fun t h => by cases h)⟩
    · split at hv
      · rename_i c
        cases hv
        exact ⟨hk, (fun m h => by cases h), (fun t h => by cases h; exact ⟨c.2.2.1, c.2.2.2⟩)⟩
      · cases hv
theorem wrap_i64 (n : Int) : i64 (IntKind.i64.wrap n) := by
  unfold i64
  rw [IntKind.wrap_i64]; omega
theorem doL_ok {d : Dm} (h : DocOk d) {o : OpD} (ho : OpOk o) : DocOk (doL d o).2 := by
  unfold doL
  split
  · split
    · exact setRL_ok h (ofRaw_pair ho.key ho.vn)
    · exact h
  · split
    · split
      · exact h
      · split
        · exact h
        · exact setRL_ok h fun v hv => by
            cases hv
            exact ⟨ho.key, (fun n hn => by cases hn; exact wrap_i64 _), (fun s hs => by cases hs)⟩
    · exact setRL_ok h (ofRaw_pair ho.key ho.vn)
theorem goL_ok : ∀ (l : List OpD) {d : Dm}, DocOk d → (∀ o ∈ l, OpOk o) → DocOk (goL l d).2
  | [], d, h, _ => h
  | o :: l, d, h, ho => by
    unfold goL
    split
    · exact h
    · split
      · exact goL_ok l (doL_ok h (ho o (by simp))) fun o' ho' => ho o' (by simp [ho'])
      · exact h
theorem applyL_ok {d : Dm} (h : DocOk d) {l : List OpD} (ho : ∀ o ∈ l, OpOk o) : DocOk (applyL d l).2 := by
  unfold applyL
  split
  · exact h
  · split
    · exact goL_ok l h ho
    · exact h
end Go.Proofs.YthpenehgfogloaaDoor.Sw

/-
  The walk of the reference's Less.
-/
set_option linter.unusedVariables false
namespace Go.Proofs.YthpenehgfogloaaDoor
open Go.RowKit

-- pieces

theorem bdrew {B : Nat} {x y : World} (h : Below B x y) (n : Nat) : Below B x (y.drewN n) := h.trans ⟨rfl, rfl, rfl, Nat.le_refl _, fun _ _ => rfl⟩

set_option maxHeartbeats 1000000 in
theorem ref_Less (a b : ByteArray) (w : World) (ha : a.size ≤ 1000000) (hb : b.size ≤ 1000000) :
    Calls Tryd.prog 75 #[.string a, .string b] w fun e w' => e = .returned (.bool (Ph.lessL a.data.toList b.data.toList)) ∧ Below w.heap.size w w' := by
  have hca : (Ph.rs a.data.toList).length ≤ a.size := Ph.count_le a
  have hcb : (Ph.rs b.data.toList).length ≤ b.size := Ph.count_le b
  have HOA := Lib.hid (Ph.rs_small a.data.toList)
  have HOB := Lib.hid (Ph.rs_small b.data.toList)
  have HL := Lib.hid (Ph.lessD_all a.data.toList b.data.toList)
  go_enter Tryd.func75, Tryd.ntmps75
  go_wp2_with fail
  refine (ref_Runes a _ ha).mono ?_
  rintro e w1 ⟨vl, va, rfl, hl, _, hb1⟩
  go_wp2_with fail
  refine (ref_Runes b _ hb).mono ?_
  rintro e w2 ⟨vm, vb, rfl, hm, _, hb2⟩
  have hl2 := own_below hl hb2
  have hb3 : Below w.heap.size w w2 := hb1.trans (hb2.mono hb1.size)
  clear hl hb1 hb2
  obtain ⟨Al, cl, rfl, _, _, fl⟩ := own_slice hl2
  obtain ⟨Am, cm, rfl, _, _, fm⟩ := own_slice hm
  have HLL := Lib.hid hl2
  have HMM := Lib.hid hm
  clear hl2 hm
  generalize hx : Ph.rs a.data.toList = X at *
  generalize hy : Ph.rs b.data.toList = Y at *
  clear hx hy
  go_wp2
  go_loopw [11] (fun i wr => ∃ k : Nat, k ≤ X.length ∧ k ≤ Y.length ∧ i = .int .i64 k ∧ Below w2.heap.size w2 wr ∧ Hid (Ph.lessL a.data.toList b.data.toList = Ph.lessD a.data.toList b.data.toList (X.drop k) (Y.drop k))) (fun i _ => X.length - (intOf i).toNat)
  case atStart => exact ⟨0, by omega, by omega, rfl, Below.refl _ _, by show _ = _; rw [HL.out]; rfl⟩
  case round =>
    obtain ⟨k, hk1, hk2, rfl, hbw, HK⟩ := hrel
    by_cases hlt : k < X.length ∧ k < Y.length
    · obtain ⟨h1, h2⟩ := hlt
      have h1' : (k : Int) < (X.length : Int) := by omega
      have h2' : (k : Int) < (Y.length : Int) := by omega
      obtain ⟨g, rfl, fc⟩ := fl (by omega)
      obtain ⟨g', rfl, fc'⟩ := fm (by omega)
      have hg := (HLL.out.lt g rfl).2
      have hg' := (HMM.out.lt g' rfl).2
      have hc : wr.cell? ⟨g, k, none⟩ = some (.int .i32 (X[k]).1) := by
        rw [hbw.cell (p := ⟨g, k, none⟩) hg, fc k (by omega), Ph.runeVals_get _ k h1]
      have hc' : wr.cell? ⟨g', k, none⟩ = some (.int .i32 (Y[k]).1) := by
        rw [hbw.cell (p := ⟨g', k, none⟩) hg', fc' k (by omega), Ph.runeVals_get _ k h2]
      have HD : Hid (X.drop k = X[k] :: X.drop (k + 1)) := List.drop_eq_getElem_cons h1
      have HD' : Hid (Y.drop k = Y[k] :: Y.drop (k + 1)) := List.drop_eq_getElem_cons h2
      clear fc fc' fl fm
      generalize X[k] = p at *
      generalize Y[k] = q at *
      have g1 : (0 : Int) ≤ (k : Int) := by omega
      by_cases hpq : p.1 = q.1
      · have HN : Hid (Ph.lessL a.data.toList b.data.toList = Ph.lessD a.data.toList b.data.toList (X.drop (k + 1)) (Y.drop (k + 1))) := by
          show _ = _
          rw [HK.out, HD.out, HD'.out, Ph.lessD_eq _ _ _ _ _ _ hpq]
        have hne : ((p.1 : Int) != (q.1 : Int)) = false := by rw [hpq]; simp
        clear hpq
        go_wp2_with fail
        go_quiet (fail)
        go_wp2
        go_roundw
        case rel => exact ⟨k + 1, by omega, by omega, by go_num, bdrew hbw _, HN⟩
        case measure => simp [intOf]; omega
      · have HN : Hid (Ph.lessL a.data.toList b.data.toList = decide (p.1 < q.1)) := by
          show _ = _
          rw [HK.out, HD.out, HD'.out, Ph.lessD_ne _ _ _ _ _ _ hpq]
        have hne : ((p.1 : Int) != (q.1 : Int)) = true := by rw [bne_iff_ne]; omega
        clear hpq
        go_wp2_with fail
        go_quiet (fail)
        go_wp2
        go_quiet (fail)
        go_wp2
        go_ret
        exact ⟨ret_bool HN.out.symm, hb3.trans (bdrew (bdrew (hbw.mono hb3.size) _) _)⟩
    · have H := Lib.hid hlt
      clear hlt
      by_cases e1 : k < X.length
      · have e1' : (k : Int) < (X.length : Int) := by omega
        have e2' : (Y.length : Int) ≤ (k : Int) := by have := H.out; omega
        have HN : Hid (Ph.lessL a.data.toList b.data.toList = false) := by
          show _ = _
          rw [HK.out, Ph.lessD_cn _ _ (by simp; omega) (by simp; omega)]
        have hne : ((X.length : Int) != (Y.length : Int)) = true := by rw [bne_iff_ne]; omega
        have hlt : ¬ X.length < Y.length := by omega
        go_wp2
        go_ret
        exact ⟨ret_bool HN.out.symm, hb3.trans (hbw.mono hb3.size)⟩
      · have e1' : (X.length : Int) ≤ (k : Int) := by omega
        by_cases e2 : k < Y.length
        · have HN : Hid (Ph.lessL a.data.toList b.data.toList = true) := by
            show _ = _
            rw [HK.out, Ph.lessD_nc _ _ (by simp; omega) (by simp; omega)]
          have hne : ((X.length : Int) != (Y.length : Int)) = true := by rw [bne_iff_ne]; omega
          go_wp2
          go_ret
          exact ⟨ret_bool (by rw [HN.out]; exact decide_eq_true (by omega)), hb3.trans (hbw.mono hb3.size)⟩
        · have HN : Hid (Ph.lessL a.data.toList b.data.toList = Op.bytesLess a.toList b.toList) := by
            show _ = _
            rw [HK.out, List.drop_eq_nil_of_le (by omega), List.drop_eq_nil_of_le (by omega), Ph.lessD_nn, Ph.bytesLess_toList]
          have hne : ((X.length : Int) != (Y.length : Int)) = false := by rw [bne_eq_false_iff_eq]; omega
          go_wp2
          go_ret
          exact ⟨ret_bool HN.out.symm, hb3.trans (hbw.mono hb3.size)⟩

end Go.Proofs.YthpenehgfogloaaDoor

/-
  The walks of the reference's documents: Get, far, set.
-/
set_option linter.unusedVariables false
set_option maxRecDepth 10000
namespace Go.Proofs.YthpenehgfogloaaDoor.Sw
open Go.RowKit Go.Sx

-- pieces

theorem chFlat {α : Type} (f : α → List Value) : ∀ l : List α, Ch (fun a c => c = f a) l (l.flatMap f)
  | [] => rfl
  | a :: l => ⟨f a, l.flatMap f, rfl, rfl, chFlat f l⟩

def rawCells (x : Option DV) : List Value := [.int .i64 (kindOf x), .int .i64 (intIn x), .string (textIn x)]

def pairCells (p : ByteArray × DV) : List Value := .string p.1 :: rawCells (some p.2)

theorem pair_len : ∀ (p : ByteArray × DV) (c : List Value), c = pairCells p → c.length = 4 := by rintro p c rfl; rfl

theorem ks_list (a b : ByteArray) : (a.toList == b.toList) = ks b a := by
  cases h : ks b a with
  | true => rw [ks_iff.1 h]; simp
  | false =>
    cases h2 : (a.toList == b.toList) with
    | false => rfl
    | true => rw [beq_iff_eq] at h2; rw [ks_iff.2 (ba_eq h2).symm] at h; cases h

set_option maxHeartbeats 4000000 in
theorem ref_Get (d : Dm) (sv : Value) (key : ByteArray) (w : World) (r : Rd w 4 sv d.length (d.flatMap pairCells)) :
    Calls Tryd.prog 49 ⟨[.agg ⟨[sv]⟩, .string key]⟩ w fun e w' => e = .returned (.tuple ⟨[.agg ⟨rawCells (getK d key)⟩, .bool (getK d key).isSome]⟩) ∧ Below w.heap.size w w' := by
  have hw := Has.start (G := 0) (w := w) (Nat.zero_le _)
  obtain ⟨sad, scap, rfl⟩ : ∃ ad cap, sv = .slice ad d.length cap := by obtain ⟨_, ad, cap, e, _⟩ := r; exact ⟨ad, cap, e⟩
  have hlen : d.length ≤ 9223372036854775807 := r.len
  refine enter Tryd.func49 Tryd.ntmps49 rfl rfl fun a hs => ?_
  repeat (first | (refine sxv hs hw ?_; clear hs; intro a hs) | refine sxc hs ?_ | (refine sxa hs hw ?_; clear hs hw; intro a b W hw hs) | (refine sxs hs hw ?_; clear hs hw; intro W hs hw))
  obtain ⟨b4, q4⟩ := nm1 hw; subst q4
  obtain ⟨b2, q2⟩ := nm2 hw; subst q2
  refine st_loop (σ := Nat) (fun i => [(2, .pointer (some ⟨b2, 0, none⟩)), (1, .string key), (4, .pointer (some ⟨b4, 0, none⟩)), (6, .int .i64 (i : Int))]) (fun _ => Cells b4 (rawCells none) 25 :: Cells b2 [.slice sad d.length scap] 52 :: Old w 0 :: []) (fun i => i ≤ d.length ∧ getK (d.drop i) key = getK d key) (fun i => d.length - i) 0 ⟨Nat.zero_le _, rfl⟩ hs ⟨rfl, rfl, rfl, rfl, trivial⟩ hw ?_
  clear hs hw
  rintro i a W ⟨hi, hg⟩ hs hw
  repeat (first | (refine sxv hs hw ?_; clear hs; intro a hs) | refine sxc hs ?_ | (refine sxa hs hw ?_; clear hs hw; intro a b W hw hs) | (refine sxs hs hw ?_; clear hs hw; intro W hs hw))
  refine cd_split hs (kt := fun hcc => ?_) (kf := fun hcc => ?_)
  · have hi' : i < d.length := by simpa using hcc
    obtain ⟨o, hoi⟩ : ∃ o, d[i]? = some o := ⟨d[i], List.getElem?_eq_getElem hi'⟩
    have hdrop : d.drop i = o :: d.drop (i + 1) := by
      rw [List.drop_eq_getElem_cons hi']
      congr 1
      rw [List.getElem?_eq_getElem hi'] at hoi
      exact Option.some.inj hoi
    rw [hdrop] at hg
    simp only [getK] at hg
    repeat (first | (refine sxv hs hw ?_; clear hs; intro a hs) | refine sxc hs ?_ | (refine sxa hs hw ?_; clear hs hw; intro a b W hw hs) | (refine sxs hs hw ?_; clear hs hw; intro W hs hw))
    refine st_index_ch hs (r := hw.rd (by repeat (first | exact In.hd | apply In.tl)) hw.ext.size r) (hk := pair_len) (ch := chFlat pairCells d) (ho := hoi) (hlen := rfl) (c := ?_); clear hs; intro a g off c hc hcl hpc hlt hs
    subst hc
    repeat (first | (refine sxv hs hw ?_; clear hs; intro a hs) | refine sxc hs ?_ | (refine sxa hs hw ?_; clear hs hw; intro a b W hw hs) | (refine sxs hs hw ?_; clear hs hw; intro W hs hw))
    refine st_load_at hs (hc := hpc 0 _ rfl) (c := ?_); clear hs; intro a hs
    repeat (first | (refine sxv hs hw ?_; clear hs; intro a hs) | refine sxc hs ?_ | (refine sxa hs hw ?_; clear hs hw; intro a b W hw hs) | (refine sxs hs hw ?_; clear hs hw; intro W hs hw))
    rw [ks_list] at hs
    cases hk : ks key o.1 with
    | true =>
      rw [hk] at hs hg
      simp only at hg
      repeat (first | (refine sxv hs hw ?_; clear hs; intro a hs) | refine sxc hs ?_ | (refine sxa hs hw ?_; clear hs hw; intro a b W hw hs) | (refine sxs hs hw ?_; clear hs hw; intro W hs hw))
      refine st_index_ch hs (r := hw.rd (by repeat (first | exact In.hd | apply In.tl)) hw.ext.size r) (hk := pair_len) (ch := chFlat pairCells d) (ho := hoi) (hlen := rfl) (c := ?_); clear hs; intro a g2 off2 c hc hcl2 hpc2 hlt2 hs
      subst hc
      repeat (first | (refine sxv hs hw ?_; clear hs; intro a hs) | refine sxc hs ?_ | (refine sxa hs hw ?_; clear hs hw; intro a b W hw hs) | (refine sxs hs hw ?_; clear hs hw; intro W hs hw))
      refine st_load_ats hs (cs := rawCells (some o.2)) (hc := fun j u h => by rw [Nat.add_assoc, Nat.add_comm 1 j]; exact hpc2 (j + 1) u h) (hl := by rfl) (c := ?_); clear hs; intro a hs
      repeat (first | (refine sxv hs hw ?_; clear hs; intro a hs) | refine sxc hs ?_ | (refine sxa hs hw ?_; clear hs hw; intro a b W hw hs) | (refine sxs hs hw ?_; clear hs hw; intro W hs hw))
      refine rc2 hs rfl rfl hw (In.hd) rfl rfl ?_
      rw [← hg]
      exact ⟨rfl, hw.end (by repeat (first | exact In.hd | apply In.tl))⟩
    | false =>
      rw [hk] at hs hg
      simp only at hg
      repeat (first | (refine sxv hs hw ?_; clear hs; intro a hs) | refine sxc hs ?_ | (refine sxa hs hw ?_; clear hs hw; intro a b W hw hs) | (refine sxs hs hw ?_; clear hs hw; intro W hs hw))
      exact st_again (i + 1) hs hw ⟨hi', hg⟩ (by show d.length - (i + 1) < d.length - i; omega) ⟨rfl, rfl, rfl, int_eq (by show IntKind.i64.wrap ((i : Int) + 1) = ((i + 1 : Nat) : Int); rw [IntWalk.i64_in _ (by omega)]; omega), trivial⟩
  · have hi' : i = d.length := by have : ¬ i < d.length := by simpa using hcc
                                  omega
    subst hi'
    rw [List.drop_length] at hg
    repeat (first | (refine sxv hs hw ?_; clear hs; intro a hs) | refine sxc hs ?_ | (refine sxa hs hw ?_; clear hs hw; intro a b W hw hs) | (refine sxs hs hw ?_; clear hs hw; intro W hs hw))
    refine rc2 hs rfl rfl hw (In.hd) rfl rfl ?_
    rw [← hg]
    exact ⟨rfl, hw.end (by repeat (first | exact In.hd | apply In.tl))⟩

theorem ref_far (n : Int) (w : World) : Calls Tryd.prog 51 ⟨[.int .i64 n]⟩ w fun e w' => e = .returned (.bool (!inB n)) ∧ Below w.heap.size w w' := by
  have hw := Has.start (G := 0) (w := w) (Nat.zero_le _)
  refine enter Tryd.func51 Tryd.ntmps51 rfl rfl fun a hs => ?_
  repeat (first | (refine sxv hs hw ?_; clear hs; intro a hs) | refine sxc hs ?_ | (refine sxa hs hw ?_; clear hs hw; intro a b W hw hs) | (refine sxs hs hw ?_; clear hs hw; intro W hs hw))
  cases h : decide (n < -4611686018427387904) with
  | true =>
    rw [h] at hs
    repeat (first | (refine sxv hs hw ?_; clear hs; intro a hs) | refine sxc hs ?_ | (refine sxa hs hw ?_; clear hs hw; intro a b W hw hs) | (refine sxs hs hw ?_; clear hs hw; intro W hs hw))
    have h2 := of_decide_eq_true h
    have h3 : inB n = false := by unfold inB; rw [decide_eq_false (by omega)]; rfl
    exact rt1 hs rfl rfl ⟨by rw [h3]; rfl, hw.end (by repeat (first | exact In.hd | apply In.tl))⟩
  | false =>
    rw [h] at hs
    repeat (first | (refine sxv hs hw ?_; clear hs; intro a hs) | refine sxc hs ?_ | (refine sxa hs hw ?_; clear hs hw; intro a b W hw hs) | (refine sxs hs hw ?_; clear hs hw; intro W hs hw))
    have h2 := of_decide_eq_false h
    have h3 : inB n = !decide (n > 4611686018427387904) := by
      unfold inB
      rw [decide_eq_true (by omega), Bool.true_and]
      by_cases h5 : n ≤ 4611686018427387904
      · rw [decide_eq_true h5, decide_eq_false (by omega)]; rfl
      · rw [decide_eq_false h5, decide_eq_true (by omega)]; rfl
    exact rt1 hs rfl rfl ⟨by rw [h3, Bool.not_not]; rfl, hw.end (by repeat (first | exact In.hd | apply In.tl))⟩

/-- What is left to be put: is the key in already? -/
def goSet (inb : Bool) (k : ByteArray) (v : DV) (d : Dm) : Dm := match inb with | true => delD d k | false => setL d k v

structure SetS where
  i : Nat
  inb : Bool
  out : Dm
  ad : Option Addr
  cap : Nat

theorem goSet_step (k : ByteArray) (v : DV) (p : ByteArray × DV) (d : Dm) (inb : Bool) : goSet inb k v (p :: d) = (if (!inb && !lessK p.1 k) = true then [(k, v)] else []) ++ ((if ks k p.1 then [] else [p]) ++ goSet (inb || !lessK p.1 k) k v d) := by
  cases inb with
  | true =>
    simp only [goSet, delD_cons]
    cases ks k p.1 <;> simp
  | false =>
    simp only [goSet, setL]
    cases lessK p.1 k with
    | false =>
      simp only [delD_cons]
      cases ks k p.1 <;> simp
    | true => cases ks k p.1 <;> simp

def setX (d : Dm) (k : ByteArray) (x : Option DV) : Dm := match x with | none => delD d k | some v => setL d k v

theorem chPair (d : Dm) : Ch (fun p c => c = pairCells p) d (d.flatMap pairCells) := chFlat pairCells d

theorem chPair_eq : ∀ {d : Dm} {xs : List Value}, Ch (fun p c => c = pairCells p) d xs → xs = d.flatMap pairCells
  | [], xs, h => h
  | p :: d, _, ⟨c, cs', rfl, h1, h2⟩ => by rw [h1, chPair_eq h2]; rfl

theorem raw_one (x : Option DV) : (rawCells x).all (·.oneCell') = true := rfl

theorem zero_kind (x : Option DV) : ((kindOf x : Int) == 0) = x.isNone := by rcases x with _ | n | s <;> rfl

set_option maxHeartbeats 8000000 in
theorem ref_set (w0 W : World) (H : Fh) (d : Dm) (sv : Value) (k : ByteArray) (x : Option DV) (R : List Res) (hk : k.size ≤ 1000000) (hd : ∀ p ∈ d, p.1.size ≤ 1000000) (hl : d.length ≤ 1000) (r : RdH H 4 sv d.length (d.flatMap pairCells)) (hw : Has 0 w0 W (Fz H :: R)) :
    Calls Tryd.prog 52 ⟨[.agg ⟨[sv]⟩, .string k, .agg ⟨rawCells x⟩]⟩ W fun e W' => ∃ sv' H', e = .returned (.agg ⟨[sv']⟩) ∧ H.le H' ∧ RdH H' 4 sv' (setX d k x).length ((setX d k x).flatMap pairCells) ∧ Has 0 w0 W' (Fz H' :: R) := by
  obtain ⟨sad, scap, rfl⟩ := r.slice
  obtain ⟨v, hv⟩ : ∃ v, ∀ y, x = some y → y = v := by
    cases x with
    | none => exact ⟨.inl 0, fun y h => by cases h⟩
    | some y => exact ⟨y, fun z h => by cases h; rfl⟩
  have htarget : setX d k x = goSet x.isNone k v d := by
    cases x with
    | none => rfl
    | some y => rw [hv y rfl]; rfl
  refine enter Tryd.func52 Tryd.ntmps52 rfl rfl fun a hs => ?_
  repeat (first | (refine sxv hs hw ?_; clear hs; intro a hs) | refine sxc hs ?_ | (refine sxa hs hw ?_; clear hs hw; intro a b W hw hs) | (refine sxs hs hw ?_; clear hs hw; intro W hs hw))
  rw [zero_kind] at hs
  obtain ⟨b6, q6⟩ := nm1 hw; subst q6
  obtain ⟨b5, q5⟩ := nm2 hw; subst q5
  obtain ⟨b3, q3⟩ := nm3 hw; subst q3
  have hw := hw.nilOwn 108 4
  refine st_loop (σ := SetS) (fun s => [(3, .pointer (some ⟨b3, 0, none⟩)), (5, .pointer (some ⟨b5, 0, none⟩)), (6, .pointer (some ⟨b6, 0, none⟩)), (1, .string k), (7, .slice s.ad s.out.length s.cap), (8, .bool s.inb), (9, .int .i64 (s.i : Int))]) (fun s => Sx.Own 108 4 (.slice s.ad s.out.length s.cap) s.out.length (s.out.flatMap pairCells) :: Cells b6 [.slice none 0 0] 52 :: Cells b5 (rawCells x) 25 :: Cells b3 [.slice sad d.length scap] 52 :: Fz H :: R) (fun s => s.i ≤ d.length ∧ s.out.length ≤ 2 * s.i ∧ (s.inb = false → x = some v) ∧ s.out ++ goSet s.inb k v (d.drop s.i) = setX d k x) (fun s => d.length - s.i) ⟨0, x.isNone, [], none, 0⟩ ⟨Nat.zero_le _, Nat.zero_le _, fun h => by cases x with | none => cases h | some y => rw [hv y rfl], htarget.symm⟩ hs ⟨rfl, rfl, rfl, rfl, rfl, rfl, rfl, trivial⟩ hw ?_
  clear hs hw
  rintro ⟨i, inb, out, ad, cap⟩ a W ⟨hi, ho, hinb, hg⟩ hs hw
  simp only at hi ho hinb hg hs hw
  repeat (first | (refine sxv hs hw ?_; clear hs; intro a hs) | refine sxc hs ?_ | (refine sxa hs hw ?_; clear hs hw; intro a b W hw hs) | (refine sxs hs hw ?_; clear hs hw; intro W hs hw))
  refine cd_split hs (kt := fun hcc => ?_) (kf := fun hcc => ?_)
  · have hi' : i < d.length := by simpa using hcc
    obtain ⟨o, hoi⟩ : ∃ o, d[i]? = some o := ⟨d[i], List.getElem?_eq_getElem hi'⟩
    have hdo := hd o (List.mem_of_getElem? hoi)
    have hdrop : d.drop i = o :: d.drop (i + 1) := by
      rw [List.drop_eq_getElem_cons hi']
      congr 1
      rw [List.getElem?_eq_getElem hi'] at hoi
      exact Option.some.inj hoi
    rw [hdrop, goSet_step] at hg
    refine wp_skip ?_; refine ex_then_n ?_; refine sq ?_; refine wp_block ?_; refine sq ?_
    refine merge (M := fun a W => ∃ inb' out' ad' cap', out'.length ≤ 2 * i + 1 ∧ (inb' = false → x = some v) ∧ out' ++ ((if ks k o.1 then [] else [o]) ++ goSet inb' k v (d.drop (i + 1))) = setX d k x ∧ Slots a 65 [(3, .pointer (some ⟨b3, 0, none⟩)), (5, .pointer (some ⟨b5, 0, none⟩)), (6, .pointer (some ⟨b6, 0, none⟩)), (1, .string k), (7, .slice ad' out'.length cap'), (8, .bool inb'), (9, .int .i64 (i : Int))] ∧ Has 0 w0 W (Sx.Own 108 4 (.slice ad' out'.length cap') out'.length (out'.flatMap pairCells) :: Cells b6 [.slice none 0 0] 52 :: Cells b5 (rawCells x) 25 :: Cells b3 [.slice sad d.length scap] 52 :: Fz H :: R)) ?_ ?_
    · cases inb with
      | true =>
        repeat (first | (refine sxv hs hw ?_; clear hs; intro a hs) | refine sxc hs ?_ | (refine sxa hs hw ?_; clear hs hw; intro a b W hw hs) | (refine sxs hs hw ?_; clear hs hw; intro W hs hw))
        exact ⟨true, out, ad, cap, by omega, (fun h => by cases h), by simpa using hg, hs.of ⟨rfl, rfl, rfl, rfl, rfl, rfl, rfl, trivial⟩, hw⟩
      | false =>
        have hx := hinb rfl
        subst hx
        repeat (first | (refine sxv hs hw ?_; clear hs; intro a hs) | refine sxc hs ?_ | (refine sxa hs hw ?_; clear hs hw; intro a b W hw hs) | (refine sxs hs hw ?_; clear hs hw; intro W hs hw))
        refine st_index_ch hs (r := hw.rdH (by repeat (first | exact In.hd | apply In.tl)) r) (hk := pair_len) (ch := chFlat pairCells d) (ho := hoi) (hlen := rfl) (c := ?_); clear hs; intro a g off c hc hcl hpc hlt hs
        subst hc
        repeat (first | (refine sxv hs hw ?_; clear hs; intro a hs) | refine sxc hs ?_ | (refine sxa hs hw ?_; clear hs hw; intro a b W hw hs) | (refine sxs hs hw ?_; clear hs hw; intro W hs hw))
        refine st_load_at hs (hc := hpc 0 _ rfl) (c := ?_); clear hs; intro a hs
        repeat (first | (refine sxv hs hw ?_; clear hs; intro a hs) | refine sxc hs ?_ | (refine sxa hs hw ?_; clear hs hw; intro a b W hw hs) | (refine sxs hs hw ?_; clear hs hw; intro W hs hw))
        refine st_call hs (hc := ref_Less o.1 k _ hdo hk) (k := ?_); rintro e0 W1 ⟨rfl, hb⟩; refine ⟨_, rfl, ?_⟩; clear hs; intro a hs; replace hw := hw.below hb; clear hb
        rw [show Ph.lessL o.1.data.toList k.data.toList = lessK o.1 k from rfl] at hs
        cases hL : lessK o.1 k with
        | true =>
          rw [hL] at hs hg
          repeat (first | (refine sxv hs hw ?_; clear hs; intro a hs) | refine sxc hs ?_ | (refine sxa hs hw ?_; clear hs hw; intro a b W hw hs) | (refine sxs hs hw ?_; clear hs hw; intro W hs hw))
          exact ⟨false, out, ad, cap, by omega, (fun h => rfl), by simpa using hg, hs.of ⟨rfl, rfl, rfl, rfl, rfl, rfl, rfl, trivial⟩, hw⟩
        | false =>
          rw [hL] at hs hg
          repeat (first | (refine sxv hs hw ?_; clear hs; intro a hs) | refine sxc hs ?_ | (refine sxa hs hw ?_; clear hs hw; intro a b W hw hs) | (refine sxs hs hw ?_; clear hs hw; intro W hs hw))
          refine st_append1 hs (hw := hw.swap2) (hi := In.hd) (ch := chPair out) (ha := (rfl : _ = pairCells (k, v))) (hl := rfl) (h1 := rfl) (hb := by omega) (h63 := by omega) (k := ?_)
          clear hs hw; intro a ad2 cap2 W hs hw hc2
          rw [chPair_eq hc2] at hw
          have hw := hw.drop2
          repeat (first | (refine sxv hs hw ?_; clear hs; intro a hs) | refine sxc hs ?_ | (refine sxa hs hw ?_; clear hs hw; intro a b W hw hs) | (refine sxs hs hw ?_; clear hs hw; intro W hs hw))
          exact ⟨true, out ++ [(k, v)], ad2, cap2, (by simp; omega), (fun h => by cases h), by simpa using hg, hs.of ⟨rfl, rfl, rfl, rfl, rfl, rfl, rfl, trivial⟩, hw⟩
    · clear hs hw hg hinb ho
      rintro a W ⟨inb', out', ad', cap', ho', hinb', hg', hs, hw⟩
      repeat (first | (refine sxv hs hw ?_; clear hs; intro a hs) | refine sxc hs ?_ | (refine sxa hs hw ?_; clear hs hw; intro a b W hw hs) | (refine sxs hs hw ?_; clear hs hw; intro W hs hw))
      refine st_index_ch hs (r := hw.rdH (by repeat (first | exact In.hd | apply In.tl)) r) (hk := pair_len) (ch := chFlat pairCells d) (ho := hoi) (hlen := rfl) (c := ?_); clear hs; intro a g off c hc hcl hpc hlt hs
      subst hc
      repeat (first | (refine sxv hs hw ?_; clear hs; intro a hs) | refine sxc hs ?_ | (refine sxa hs hw ?_; clear hs hw; intro a b W hw hs) | (refine sxs hs hw ?_; clear hs hw; intro W hs hw))
      refine st_load_at hs (hc := hpc 0 _ rfl) (c := ?_); clear hs; intro a hs
      repeat (first | (refine sxv hs hw ?_; clear hs; intro a hs) | refine sxc hs ?_ | (refine sxa hs hw ?_; clear hs hw; intro a b W hw hs) | (refine sxs hs hw ?_; clear hs hw; intro W hs hw))
      rw [ks_list] at hs
      cases hks : ks k o.1 with
      | true =>
        rw [hks] at hs hg'
        repeat (first | (refine sxv hs hw ?_; clear hs; intro a hs) | refine sxc hs ?_ | (refine sxa hs hw ?_; clear hs hw; intro a b W hw hs) | (refine sxs hs hw ?_; clear hs hw; intro W hs hw))
        exact st_again ⟨i + 1, inb', out', ad', cap'⟩ hs hw ⟨hi', by show out'.length ≤ 2 * (i + 1); omega, hinb', by simpa using hg'⟩ (by show d.length - (i + 1) < d.length - i; omega) ⟨rfl, rfl, rfl, rfl, rfl, rfl, int_eq (by show IntKind.i64.wrap ((i : Int) + 1) = ((i + 1 : Nat) : Int); rw [IntWalk.i64_in _ (by omega)]; omega), trivial⟩
      | false =>
        rw [hks] at hs hg'
        repeat (first | (refine sxv hs hw ?_; clear hs; intro a hs) | refine sxc hs ?_ | (refine sxa hs hw ?_; clear hs hw; intro a b W hw hs) | (refine sxs hs hw ?_; clear hs hw; intro W hs hw))
        refine st_index_ch hs (r := hw.rdH (by repeat (first | exact In.hd | apply In.tl)) r) (hk := pair_len) (ch := chFlat pairCells d) (ho := hoi) (hlen := rfl) (c := ?_); clear hs; intro a g2 off2 c hc hcl2 hpc2 hlt2 hs
        subst hc
        refine st_load_ats hs (cs := pairCells o) (hc := hpc2) (hl := by rfl) (c := ?_); clear hs; intro a hs
        repeat (first | (refine sxv hs hw ?_; clear hs; intro a hs) | refine sxc hs ?_ | (refine sxa hs hw ?_; clear hs hw; intro a b W hw hs) | (refine sxs hs hw ?_; clear hs hw; intro W hs hw))
        refine st_append1 hs (hw := hw.swap2) (hi := In.hd) (ch := chPair out') (ha := (rfl : _ = pairCells o)) (hl := rfl) (h1 := rfl) (hb := by omega) (h63 := by omega) (k := ?_)
        clear hs hw; intro a ad2 cap2 W hs hw hc2
        rw [chPair_eq hc2] at hw
        have hw := hw.drop2
        repeat (first | (refine sxv hs hw ?_; clear hs; intro a hs) | refine sxc hs ?_ | (refine sxa hs hw ?_; clear hs hw; intro a b W hw hs) | (refine sxs hs hw ?_; clear hs hw; intro W hs hw))
        exact st_again ⟨i + 1, inb', out' ++ [o], ad2, cap2⟩ hs hw ⟨hi', by show (out' ++ [o]).length ≤ 2 * (i + 1); simp; omega, hinb', by simpa using hg'⟩ (by show d.length - (i + 1) < d.length - i; omega) ⟨rfl, rfl, rfl, rfl, rfl, rfl, int_eq (by show IntKind.i64.wrap ((i : Int) + 1) = ((i + 1 : Nat) : Int); rw [IntWalk.i64_in _ (by omega)]; omega), trivial⟩
  · have hi' : i = d.length := by have : ¬ i < d.length := by simpa using hcc
                                  omega
    subst hi'
    rw [List.drop_length] at hg
    cases inb with
    | true =>
      have hg2 : out = setX d k x := by rw [← hg]; simp [goSet, delD]
      subst hg2
      repeat (first | (refine sxv hs hw ?_; clear hs; intro a hs) | refine sxc hs ?_ | (refine sxa hs hw ?_; clear hs hw; intro a b W hw hs) | (refine sxs hs hw ?_; clear hs hw; intro W hs hw))
      have hw : Has 0 w0 _ (Sx.Own 108 4 (.slice ad (setX d k x).length cap) (setX d k x).length ((setX d k x).flatMap pairCells) :: Fz H :: Cells b6 [.slice ad (setX d k x).length cap] 52 :: Cells b5 (rawCells x) 25 :: Cells b3 [.slice sad d.length scap] 52 :: R) := hw.perm (by repeat (first | exact List.Perm.refl _ | refine perm_pick (by repeat (first | exact Pick.hd | apply Pick.tl)) ?_))
      obtain ⟨H', h1, h2, h3⟩ := hw.freeze_own
      refine rc1 hs rfl rfl h2 (In.tl In.hd) rfl ?_
      exact ⟨_, H', rfl, h1, h3, h2.drop2.drop2.drop2⟩
    | false =>
      have hx := hinb rfl
      subst hx
      have hg2 : out ++ [(k, v)] = setX d k (some v) := hg
      repeat (first | (refine sxv hs hw ?_; clear hs; intro a hs) | refine sxc hs ?_ | (refine sxa hs hw ?_; clear hs hw; intro a b W hw hs) | (refine sxs hs hw ?_; clear hs hw; intro W hs hw))
      refine st_append1 hs (hw := hw.swap2) (hi := In.hd) (ch := chPair out) (ha := (rfl : _ = pairCells (k, v))) (hl := rfl) (h1 := rfl) (hb := by omega) (h63 := by omega) (k := ?_)
      clear hs hw; intro a ad2 cap2 W hs hw hc2
      rw [chPair_eq hc2, hg2] at hw
      rw [hg2] at hs
      have hw := hw.drop2
      repeat (first | (refine sxv hs hw ?_; clear hs; intro a hs) | refine sxc hs ?_ | (refine sxa hs hw ?_; clear hs hw; intro a b W hw hs) | (refine sxs hs hw ?_; clear hs hw; intro W hs hw))
      have hw : Has 0 w0 _ (Sx.Own 108 4 (.slice ad2 (setX d k (some v)).length cap2) (setX d k (some v)).length ((setX d k (some v)).flatMap pairCells) :: Fz H :: Cells b6 [.slice ad2 (setX d k (some v)).length cap2] 52 :: Cells b5 (rawCells (some v)) 25 :: Cells b3 [.slice sad d.length scap] 52 :: R) := hw.perm (by repeat (first | exact List.Perm.refl _ | refine perm_pick (by repeat (first | exact Pick.hd | apply Pick.tl)) ?_))
      obtain ⟨H', h1, h2, h3⟩ := hw.freeze_own
      refine rc1 hs rfl rfl h2 (In.tl In.hd) rfl ?_
      exact ⟨_, H', rfl, h1, h3, h2.drop2.drop2.drop2⟩

end Go.Proofs.YthpenehgfogloaaDoor.Sw

/-
  Documents: the walk of Get.
-/
set_option linter.unusedVariables false
set_option maxRecDepth 10000
namespace Go.Proofs.YthpenehgfogloaaDoor.Sw
open Go.RowKit Go.Sx

set_option maxHeartbeats 8000000 in
theorem doc_Get (w0 W : World) (p : Nat) (d : Dm) (k : ByteArray) (R : List Res) (hw : Has 0 w0 W (DocAt p d :: R)) :
    Calls Tryd.prog 30 ⟨[.pointer (some ⟨p, 0, none⟩), .string k]⟩ W fun e W' => e = .returned (.tuple ⟨[.agg ⟨rawCells (getK d k)⟩, .bool (getK d k).isSome]⟩) ∧ Has 0 w0 W' (DocAt p d :: R) := by
  refine enter Tryd.func30 Tryd.ntmps30 rfl rfl fun a hs => ?_
  repeat (first | (refine sxv hs hw ?_; clear hs; intro a hs) | refine sxc hs ?_ | (refine sxa hs hw ?_; clear hs hw; intro a b W hw hs) | (refine sxs hs hw ?_; clear hs hw; intro W hs hw) | ((with_reducible first | refine st_ptrSome hs (k := ?_) | refine st_ptrNone hs (k := ?_)); clear hs; intro a hs))
  obtain ⟨b4, q4⟩ := nm1 hw; subst q4
  refine st_call hs (hc := doc_has w0 _ p d k _ (hw.perm (List.Perm.swap _ _ _))) (k := ?_); rintro e0 W1 ⟨rfl, hw1⟩; refine ⟨_, rfl, ?_⟩; clear hs hw; intro a hs; have hw := hw1; clear hw1
  cases hg : (getK d k).isSome with
  | false =>
    rw [hg] at hs
    have hn : getK d k = none := by simpa using hg
    repeat (first | (refine sxv hs hw ?_; clear hs; intro a hs) | refine sxc hs ?_ | (refine sxa hs hw ?_; clear hs hw; intro a b W hw hs) | (refine sxs hs hw ?_; clear hs hw; intro W hs hw) | ((with_reducible first | refine st_ptrSome hs (k := ?_) | refine st_ptrNone hs (k := ?_)); clear hs; intro a hs))
    refine rc2 hs rfl rfl hw (In.tl In.hd) rfl rfl ?_
    rw [hn]
    exact ⟨rfl, hw.sub (List.Sublist.cons_cons _ (List.Sublist.cons _ (List.Sublist.refl _)))⟩
  | true =>
    rw [hg] at hs
    obtain ⟨m, d', hp, hk, hw⟩ := docOpen hw
    repeat (first | (refine sxv hs hw ?_; clear hs; intro a hs) | refine sxc hs ?_ | (refine sxa hs hw ?_; clear hs hw; intro a b W hw hs) | (refine sxs hs hw ?_; clear hs hw; intro W hs hw) | ((with_reducible first | refine st_ptrSome hs (k := ?_) | refine st_ptrNone hs (k := ?_)); clear hs; intro a hs))
    refine st_lookup hs (hw := hw) (hz := zeroVal) (c := ?_); clear hs; intro a hs
    rw [dget_kv, getK_perm hp ((dKeys_perm hp).2 hk)] at hs
    repeat (first | (refine sxv hs hw ?_; clear hs; intro a hs) | refine sxc hs ?_ | (refine sxa hs hw ?_; clear hs hw; intro a b W hw hs) | (refine sxs hs hw ?_; clear hs hw; intro W hs hw) | ((with_reducible first | refine st_ptrSome hs (k := ?_) | refine st_ptrNone hs (k := ?_)); clear hs; intro a hs))
    refine st_call hs (hc := Raw_any (getK d k) _) (k := ?_); rintro e0 W1 ⟨rfl, hb⟩; refine ⟨_, rfl, ?_⟩; clear hs; intro a hs; replace hw := hw.below hb; clear hb
    repeat (first | (refine sxv hs hw ?_; clear hs; intro a hs) | refine sxc hs ?_ | (refine sxa hs hw ?_; clear hs hw; intro a b W hw hs) | (refine sxs hs hw ?_; clear hs hw; intro W hs hw) | ((with_reducible first | refine st_ptrSome hs (k := ?_) | refine st_ptrNone hs (k := ?_)); clear hs; intro a hs))
    refine rc2 hs rfl rfl hw (In.tl (In.tl In.hd)) rfl rfl ?_
    exact ⟨rfl, docShut (hw.sub (List.Sublist.cons_cons _ (List.Sublist.cons_cons _ (List.Sublist.cons _ (List.Sublist.refl _))))) hp hk⟩

set_option maxHeartbeats 4000000 in
theorem doc_Get0 (k : ByteArray) (W : World) : Calls Tryd.prog 30 ⟨[.pointer none, .string k]⟩ W fun e W' => e = .returned (.tuple ⟨[.agg ⟨rawCells none⟩, .bool false]⟩) ∧ Below W.heap.size W W' := by
  have hw := Has.start (G := 0) (w := W) (Nat.zero_le _)
  refine enter Tryd.func30 Tryd.ntmps30 rfl rfl fun a hs => ?_
  repeat (first | (refine sxv hs hw ?_; clear hs; intro a hs) | refine sxc hs ?_ | (refine sxa hs hw ?_; clear hs hw; intro a b W hw hs) | (refine sxs hs hw ?_; clear hs hw; intro W hs hw) | ((with_reducible first | refine st_ptrSome hs (k := ?_) | refine st_ptrNone hs (k := ?_)); clear hs; intro a hs))
  refine rc2 hs rfl rfl hw (In.hd) rfl rfl ?_
  exact ⟨rfl, hw.end (by repeat (first | exact In.hd | apply In.tl))⟩
end Go.Proofs.YthpenehgfogloaaDoor.Sw

/-
  Documents whose keys stand in order: what the reference puts keeps the order; two lists in order with the same keys are one.
-/
set_option linter.unusedVariables false
set_option maxRecDepth 10000
namespace Go.Proofs.YthpenehgfogloaaDoor.Sw
open Go.RowKit Go.Sx

theorem lessK_irr (a : ByteArray) : lessK a a = false := Ph.lessL_irr _
theorem lessK_trans {a b c : ByteArray} (h : lessK a b = true) (h' : lessK b c = true) : lessK a c = true := Ph.lessL_trans _ _ _ h h'
theorem lessK_asymm {a b : ByteArray} (h : lessK a b = true) : lessK b a = false := Ph.lessL_asymm _ _ h
theorem lessK_total {a b : ByteArray} (h : a ≠ b) : lessK a b = true ∨ lessK b a = true := by
  have : a.data.toList ≠ b.data.toList := fun e => h (by
    cases a; cases b
    simp only at e
    congr 1
    exact Array.toList_inj.1 e)
  have := Ph.lessL_total _ _ this
  unfold lessK
  simpa [Bool.or_eq_true] using this
/-- The keys stand in order. -/
def Srt (d : Dm) : Prop := d.Pairwise fun p q => lessK p.1 q.1 = true
theorem Srt.nil : Srt [] := List.Pairwise.nil
theorem Srt.delD {d : Dm} (h : Srt d) (k : ByteArray) : Srt (delD d k) := List.Pairwise.filter _ h
theorem delD_mem {d : Dm} {k : ByteArray} {q : ByteArray × DV} (h : q ∈ delD d k) : q ∈ d ∧ q.1 ≠ k := by
  have h2 := List.mem_filter.1 h
  refine ⟨h2.1, fun e => ?_⟩
  have := h2.2
  rw [e, ks_self] at this
  cases this
theorem Srt.setL : ∀ {d : Dm}, Srt d → ∀ (k : ByteArray) (v : DV), Srt (setL d k v)
  | [], _, k, v => by simp [Srt, Sw.setL]
  | p :: d, h, k, v => by
    have hd := List.pairwise_cons.1 h
    simp only [Sw.setL]
    cases hl : lessK p.1 k with
    | false =>
      refine List.pairwise_cons.2 ⟨fun q hq => ?_, Srt.delD h k⟩
      obtain ⟨h1, h2⟩ := delD_mem hq
      by_cases e : k = p.1
      · rcases List.mem_cons.1 h1 with rfl | h1
        · exact absurd e.symm h2
        · rw [e]; exact hd.1 q h1
      · have hkp : lessK k p.1 = true := by
          rcases lessK_total e with h | h
          · exact h
          · rw [hl] at h; cases h
        rcases List.mem_cons.1 h1 with rfl | h1
        · exact hkp
        · exact lessK_trans hkp (hd.1 q h1)
    | true =>
      have hne : ks k p.1 = false := by
        cases hk : ks k p.1 with
        | false => rfl
        | true => rw [ks_iff.1 hk, lessK_irr] at hl; cases hl
      rw [hne]
      refine List.pairwise_cons.2 ⟨fun q hq => ?_, Srt.setL (d := d) hd.2 k v⟩
      rcases List.mem_cons.1 ((setL_perm d k v).mem_iff.1 hq) with rfl | hq
      · exact hl
      · exact hd.1 q (delD_mem hq).1
theorem setL_last : ∀ {d : Dm} {k : ByteArray} (v : DV), (∀ p ∈ d, lessK p.1 k = true) → setL d k v = d ++ [(k, v)]
  | [], k, v, _ => rfl
  | p :: d, k, v, h => by
    have h1 := h p (by simp)
    have hne : ks k p.1 = false := by
      cases hk : ks k p.1 with
      | false => rfl
      | true => rw [ks_iff.1 hk, lessK_irr] at h1; cases h1
    simp only [setL, h1, hne]
    rw [setL_last (d := d) v fun q hq => h q (by simp [hq])]
    rfl
theorem setRL_srt {d : Dm} (h : Srt d) (k : ByteArray) (x : Option DV) : Srt (setRL d k x).2 := by
  cases x with
  | none => exact h.delD k
  | some v =>
    unfold setRL
    simp only
    split
    · exact h
    · exact h.setL k v
theorem doL_srt {d : Dm} (h : Srt d) (o : OpD) : Srt (doL d o).2 := by
  unfold doL
  split
  · split
    · exact setRL_srt h _ _
    · exact h
  · split
    · split
      · exact h
      · split
        · exact h
        · exact setRL_srt h _ _
    · exact setRL_srt h _ _
theorem goL_srt : ∀ (l : List OpD) {d : Dm}, Srt d → Srt (goL l d).2
  | [], d, h => h
  | o :: l, d, h => by
    unfold goL
    split
    · exact h
    · split
      · exact goL_srt l (doL_srt h o)
      · exact h
theorem applyL_srt {d : Dm} (h : Srt d) (l : List OpD) : Srt (applyL d l).2 := by
  unfold applyL
  split
  · exact h
  · split
    · exact goL_srt l h
    · exact h
/-- Keys in order, without two alike, are told by which they are. -/
theorem srt_unique {l m : List ByteArray} (hp : l.Perm m) (hl : l.Pairwise fun a b => lessK a b = true) (hm : m.Pairwise fun a b => lessK a b = true) : l = m :=
  hp.eq_of_pairwise (fun a b _ _ h1 h2 => by rw [lessK_asymm h1] at h2; cases h2) hl hm
theorem Srt.keys {d : Dm} (h : Srt d) : (d.map (·.1)).Pairwise fun a b => lessK a b = true := List.pairwise_map.2 h
theorem srt_of_not {l : List ByteArray} (hn : l.Nodup) (h : l.Pairwise fun a b => lessK b a = false) : l.Pairwise fun a b => lessK a b = true := by
  refine (hn.and h).imp fun {a b} hab => ?_
  rcases lessK_total hab.1 with h1 | h1
  · exact h1
  · rw [hab.2] at h1; cases h1
end Go.Proofs.YthpenehgfogloaaDoor.Sw

/-
  runes.Cut, Decode, Less once more: they leave all memory and draw forward; the closure of doc.Keys.
-/
set_option linter.unusedVariables false
namespace Go.Proofs.YthpenehgfogloaaDoor
open Go.RowKit

def Bel (w w' : World) : Prop := Below w.heap.size w w' ∧ w.drawn ≤ w'.drawn
theorem Bel.refl (w : World) : Bel w w := ⟨Below.refl _ _, Nat.le_refl _⟩
theorem Bel.trans {a b c : World} (h : Bel a b) (k : Bel b c) : Bel a c := ⟨h.1.trans (k.1.mono h.1.size), Nat.le_trans h.2 k.2⟩
theorem bel_iter (w : World) (s : ByteArray) (pos : Nat) : Bel w (w.iter s pos) := ⟨(Below.refl _ _).alloc (Nat.le_refl _) _, Nat.le_refl _⟩
theorem bel_drewN {w w' : World} (h : Bel w w') (n : Nat) : Bel w (w'.drewN n) := ⟨h.1.trans ⟨rfl, rfl, rfl, Nat.le_refl _, fun _ _ => rfl⟩, Nat.le_trans h.2 (Nat.le_add_right _ _)⟩
theorem Bel.grown {w w' : World} (h : Bel w w') : ∃ q os, w' = Sort.grow (w.drewN q) os := by
  obtain ⟨⟨h1, h2, h3, h4, h5⟩, h6⟩ := h
  refine ⟨w'.drawn - w.drawn, w'.heap.extract w.heap.size w'.heap.size, ?_⟩
  have e : w'.heap = w.heap ++ w'.heap.extract w.heap.size w'.heap.size := by
    refine Array.ext_getElem? fun k => ?_
    rw [Array.getElem?_append]
    split
    · rename_i hk; exact h5 k hk
    · rename_i hk
      rw [Array.getElem?_extract]
      split
      · rw [show w.heap.size + (k - w.heap.size) = k by omega]
      · rename_i hk2
        rw [Array.getElem?_eq_none (by omega)]
  have e2 : w'.drawn = w.drawn + (w'.drawn - w.drawn) := by omega
  cases w'
  cases w
  simp only at h1 h2 h3 e e2
  simp only [Sort.grow, World.drewN]
  subst h1 h2 h3
  rw [← e, ← e2]

set_option maxHeartbeats 400000 in
theorem runes_CutD (s : ByteArray) (n : Int) (w : World) (hs : s.size ≤ 9223372036854775807) :
    Calls Tryd.prog 81 #[.string s, .int .i64 n] w fun e w' => e = .returned (.string ⟨(Ph.cutL s.data.toList n).toArray⟩) ∧ Bel w w' := by
  have hcl := Ph.count_le s
  by_cases hn : n < 1
  · have HF : Hid (Ph.cutL s.data.toList n = []) := by unfold Hid Ph.cutL; rw [if_pos hn]
    go_enter Tryd.func81, Tryd.ntmps81
    go_wp2
    go_ret
    exact ⟨by rw [HF.out]; rfl, Bel.refl _⟩
  · obtain ⟨m, rfl⟩ := Int.eq_ofNat_of_zero_le (show 0 ≤ n by omega)
    go_enter Tryd.func81, Tryd.ntmps81
    go_wp2
    go_loopw [5] (fun c wr => ∃ pos k : Nat, wr = w.iter s pos ∧ c = .int .i64 k ∧ k ≤ m ∧ Hid ((Ph.rs (s.data.toList.drop pos)) = (Ph.rs s.data.toList).drop k) ∧ Hid (pos = Ph.wid ((Ph.rs s.data.toList).take k))) (fun _ wr => s.size - wr.iterPos w.heap.size)
    case atStart => exact ⟨0, 0, rfl, rfl, by omega, by unfold Hid; simp, by unfold Hid; simp [Ph.wid_nil]⟩
    case round =>
      obtain ⟨pos, k, rfl, rfl, hkm, HK, HP⟩ := hrel
      by_cases hp : pos < s.size
      · have hnx := fun ty => run_next_any (P := Tryd.prog) w s pos ty hp
        by_cases he : k = m
        · subst he
          go_wp2
          go_ret
          refine ⟨?_, bel_iter _ _ _⟩
          have HP' := HP.out
          subst HP'
          show Ending.returned (.string (s.extract 0 _)) = _
          rw [Ph.extract_eq, Ph.cutL, if_neg (by omega)]
          rfl
        · have he' : ((k : Int) == (m : Int)) = false := by simp; omega
          have hst := Ph.step_take (HK.out.symm.trans (Ph.rs_at s pos hp))
          have hkl : k + 1 ≤ s.size := by have := hst.1; unfold Ph.count at hcl; omega
          have HS : Hid ((Ph.rs s.data.toList).take (k + 1) = (Ph.rs s.data.toList).take k ++ [Utf8.decode s pos] ∧ (Ph.rs s.data.toList).drop (k + 1) = Ph.rs (s.data.toList.drop (pos + (Utf8.decode s pos).2))) := hst.2
          clear hst
          go_wp2
          go_roundw
          case rel =>
            refine ⟨pos + (Utf8.decode s pos).2, k + 1, rfl, by go_num, by omega, HS.out.2.symm, ?_⟩
            show _ = _
            rw [HS.out.1, Ph.wid_append, ← HP.out]
            simp [Ph.wid_cons, Ph.wid_nil]
          case measure =>
            have := Ph.width_pos s pos
            rw [World.iterPos_iter, World.iterPos_iter]
            omega
      · have hnx := fun ty => run_next_end (P := Tryd.prog) w s pos ty hp
        go_wp2
        go_ret
        have hle := Ph.drop_nil_le (HK.out.symm.trans (Ph.rs_end s pos hp))
        refine ⟨?_, bel_iter _ _ _⟩
        rw [Ph.cutL_all _ _ (by unfold Ph.count; omega) (by omega), Ph.eta_bytes]
        rfl

set_option maxHeartbeats 400000 in
theorem runes_DecodeD (s : ByteArray) (w : World) (hs : s.size ≤ 9223372036854775807) :
    Calls Tryd.prog 69 #[.string s] w fun e w' => e = .returned (.tuple #[.int .i32 (Ph.decZ s.data.toList).1, .int .i64 (Ph.decZ s.data.toList).2]) ∧ Bel w w' := by
  by_cases hp : 0 < s.size
  · have hnx := fun ty => run_next_any (P := Tryd.prog) w s 0 ty hp
    have HD : Hid (Ph.decZ s.data.toList = Utf8.decode s 0 ∧ (Ph.cutL s.data.toList 1).length = (Utf8.decode s 0).2) := Ph.decZ_at s hp
    go_enter Tryd.func69, Tryd.ntmps69
    go_wp2
    go_loopw [] (fun wr => wr = w.iter s 0) (fun wr => 0)
    case atStart => rfl
    case round =>
      obtain rfl := hrel
      go_wp2_with (go_at_call 81; refine (runes_CutD _ _ _ hs).mono ?_; rintro e w' ⟨rfl, hb⟩)
      go_ret2
      refine ⟨ret_tab ?_ ?_, (bel_iter _ _ _).trans hb⟩
      · rw [HD.out.1]
      · rw [HD.out.1, ← HD.out.2]
  · have hnx := fun ty => run_next_end (P := Tryd.prog) w s 0 ty hp
    have HD : Hid (Ph.decZ s.data.toList = (65533, 0)) := Ph.decZ_empty s hp
    go_enter Tryd.func69, Tryd.ntmps69
    go_wp2
    go_loopw [] (fun wr => wr = w.iter s 0) (fun wr => 0)
    case atStart => rfl
    case round =>
      obtain rfl := hrel
      go_wp2
      go_ret2
      rw [HD.out]
      exact ⟨rfl, bel_iter _ _ _⟩

def strLenD : Value → Nat | .string s => s.size | _ => 0

set_option maxHeartbeats 800000 in
theorem runes_LessD (a b : ByteArray) (w : World) (ha : a.size ≤ 9223372036854775807) (hb : b.size ≤ 9223372036854775807) :
    Calls Tryd.prog 37 #[.string a, .string b] w fun e w' => e = .returned (.bool (Ph.lessL a.data.toList b.data.toList)) ∧ Bel w w' := by
  go_enter Tryd.func37, Tryd.ntmps37
  go_wp2
  go_loopw [5, 6] (fun x y wr => ∃ X Y : ByteArray, x = .string X ∧ y = .string Y ∧ X.size ≤ 9223372036854775807 ∧ Y.size ≤ 9223372036854775807 ∧ Hid (Ph.lessL a.data.toList b.data.toList = Ph.lessAt a.data.toList b.data.toList X.data.toList Y.data.toList) ∧ Bel w wr) (fun x _ _ => strLenD x)
  case atStart => exact ⟨a, b, rfl, rfl, ha, hb, rfl, Bel.refl _⟩
  case round =>
    obtain ⟨X, Y, rfl, rfl, hX, hY, HL, hbw⟩ := hrel
    by_cases hx : 0 < X.size
    · have ex := Ph.empty_no hx
      by_cases hy : 0 < Y.size
      · have ey := Ph.empty_no hy
        obtain ⟨eX, lX, uX⟩ := Ph.decZ_ne hx
        obtain ⟨eY, lY, uY⟩ := Ph.decZ_ne hy
        have EX := Lib.hid eX
        have EY := Lib.hid eY
        clear eX eY
        go_wp2_with fail
        refine (runes_DecodeD X _ hX).mono ?_
        rintro e w1 ⟨rfl, hb1⟩
        go_wp2_with fail
        refine (runes_DecodeD Y _ hY).mono ?_
        rintro e w2 ⟨rfl, hb2⟩
        have hb3 : Bel w w2 := (hbw.trans hb1).trans hb2
        clear hb1 hb2
        by_cases hne : (Ph.decZ X.data.toList).1 = (Ph.decZ Y.data.toList).1
        · have hne' : (((Ph.decZ X.data.toList).1 : Int) != ((Ph.decZ Y.data.toList).1 : Int)) = false := by rw [hne]; simp
          have HN : Hid (Ph.lessAt a.data.toList b.data.toList X.data.toList Y.data.toList = Ph.lessAt a.data.toList b.data.toList (X.data.toList.drop (Ph.decZ X.data.toList).2) (Y.data.toList.drop (Ph.decZ Y.data.toList).2)) := by
            show _ = _
            rw [Ph.lessAt_eq _ _ _ _ (Ph.ne_of_size hx) (Ph.ne_of_size hy) (by rw [← EX.out, ← EY.out]; exact hne), EX.out, EY.out]
          clear hne
          generalize (Ph.decZ X.data.toList).2 = n at *
          generalize (Ph.decZ Y.data.toList).2 = m at *
          have g1 : (0 : Int) ≤ (n : Int) := by omega
          have g2 : (n : Int) ≤ (X.size : Int) := by omega
          have g3 : (0 : Int) ≤ (m : Int) := by omega
          have g4 : (m : Int) ≤ (Y.size : Int) := by omega
          go_wp2_with fail
          go_quiet (fail)
          go_wp2
          go_roundw
          case rel =>
            have e1 : (X.extract n X.size).size = X.size - n := by simp
            have e2 : (Y.extract m Y.size).size = Y.size - m := by simp
            refine ⟨X.extract n X.size, Y.extract m Y.size, rfl, rfl, by rw [e1]; omega, by rw [e2]; omega, ?_, bel_drewN hb3 _⟩
            show _ = _
            rw [HL.out, HN.out, Ph.extract_drop, Ph.extract_drop]
          case measure =>
            show (X.extract n X.size).size < X.size
            have e1 : (X.extract n X.size).size = X.size - n := by simp
            omega
        · have hne' : (((Ph.decZ X.data.toList).1 : Int) != ((Ph.decZ Y.data.toList).1 : Int)) = true := by rw [bne_iff_ne]; omega
          have HN : Hid (Ph.lessL a.data.toList b.data.toList = decide ((Ph.decZ X.data.toList).1 < (Ph.decZ Y.data.toList).1)) := by
            show _ = _
            rw [HL.out, Ph.lessAt_ne _ _ _ _ (Ph.ne_of_size hx) (Ph.ne_of_size hy) (by rw [← EX.out, ← EY.out]; exact hne), EX.out, EY.out]
          clear hne
          go_wp2
          go_ret
          exact ⟨ret_bool HN.out.symm, hb3⟩
      · have ey := Ph.empty_yes hy
        have HN : Hid (Ph.lessL a.data.toList b.data.toList = false) := by
          show _ = _
          rw [HL.out, Ph.nil_of_size hy, Ph.lessAt_right _ _ _ (Ph.ne_of_size hx)]
        go_wp2
        go_ret
        exact ⟨ret_bool HN.out.symm, hbw⟩
    · have ex := Ph.empty_yes hx
      by_cases hy : 0 < Y.size
      · have ey := Ph.empty_no hy
        have HN : Hid (Ph.lessL a.data.toList b.data.toList = true) := by
          show _ = _
          rw [HL.out, Ph.nil_of_size hx, Ph.lessAt_left _ _ _ (Ph.ne_of_size hy)]
        go_wp2
        go_ret
        exact ⟨ret_bool HN.out.symm, hbw⟩
      · have ey := Ph.empty_yes hy
        have HN : Hid (Ph.lessL a.data.toList b.data.toList = Op.bytesLess a.toList b.toList) := by
          show _ = _
          rw [HL.out, Ph.nil_of_size hx, Ph.nil_of_size hy, Ph.lessAt_none, Ph.bytesLess_toList]
        go_wp2
        go_ret
        exact ⟨ret_bool HN.out.symm, hbw⟩

/-- How two keys stand. -/
def cmpK (a b : ByteArray) : Int := if Ph.lessL a.data.toList b.data.toList = true then -1 else if Ph.lessL b.data.toList a.data.toList = true then 1 else 0
set_option maxHeartbeats 800000 in
theorem doc_Keys1 (a b : ByteArray) (w : World) (ha : a.size ≤ 9223372036854775807) (hb : b.size ≤ 9223372036854775807) :
    Calls Tryd.prog 36 #[.string a, .string b] w fun e w' => e = .returned (.int .i64 (cmpK a b)) ∧ Bel w w' := by
  have HC : Hid (cmpK a b = if Ph.lessL a.data.toList b.data.toList = true then -1 else if Ph.lessL b.data.toList a.data.toList = true then 1 else 0) := rfl
  go_enter Tryd.func36, Tryd.ntmps36
  go_wp2_with fail
  refine (runes_LessD a b _ ha hb).mono ?_
  rintro e w1 ⟨rfl, hb1⟩
  cases h1 : Ph.lessL a.data.toList b.data.toList with
  | true =>
    rw [h1] at HC
    go_wp2
    go_ret
    exact ⟨by rw [HC.out]; rfl, hb1⟩
  | false =>
    rw [h1] at HC
    go_wp2_with fail
    refine (runes_LessD b a _ hb ha).mono ?_
    rintro e w2 ⟨rfl, hb2⟩
    cases h2 : Ph.lessL b.data.toList a.data.toList with
    | true =>
      rw [h2] at HC
      go_wp2
      go_ret
      exact ⟨by rw [HC.out]; rfl, hb1.trans hb2⟩
    | false =>
      rw [h2] at HC
      go_wp2
      go_ret
      exact ⟨by rw [HC.out]; rfl, hb1.trans hb2⟩
end Go.Proofs.YthpenehgfogloaaDoor

/-
  Sx: what the library's sort leaves; its contract over cells of one's own.
-/
set_option linter.unusedVariables false
namespace Go.Sx
open Go.RowKit Go.Sort Go.Proofs
theorem put_cells {α : Type} [Inhabited α] (enc : α → Value) (d d' : Array α) (hd : d'.size = d.size) (ext : List Value) : putCells enc 0 d' ⟨d.toList.map enc ++ ext⟩ = ⟨d'.toList.map enc ++ ext⟩ := by
  apply Array.ext_getElem?
  intro k
  unfold putCells
  simp only [Array.getElem?_mapIdx, List.getElem?_toArray, Nat.zero_le, Nat.zero_add, true_and, Nat.sub_zero]
  by_cases hk : k < d'.size
  · have h1 : k < (d.toList.map enc).length := by simp; omega
    have h2 : k < (d'.toList.map enc).length := by simp; omega
    rw [List.getElem?_append_left h1, List.getElem?_append_left h2, List.getElem?_eq_getElem h1, List.getElem?_eq_getElem h2, Option.map_some, if_pos hk]
    simp [getElem!_pos d' k hk]
  · rw [List.getElem?_append_right (by simp; omega), List.getElem?_append_right (by simp; omega)]
    have e : (d.toList.map enc).length = (d'.toList.map enc).length := by simp [hd]
    rw [e]
    cases ext[k - (d'.toList.map enc).length]? with
    | none => rfl
    | some y => rw [Option.map_some, if_neg hk]
section
variable {α : Type} [Inhabited α] {enc : α → Value} {G g : Nat} {w W : World} {T : TypeId} {R : List Res} {d d' : Array α} {ext : List Value}
theorem Has.sorted (hd : d'.size = d.size) (h : Has G w W (Cells g (d.toList.map enc ++ ext) T :: R)) (m : Nat) (os : Array Obj) : Has G w (sortWorld enc W g 0 m d' os) (Cells g (d'.toList.map enc ++ ext) T :: R) := by
  obtain ⟨F1, h1, ⟨h2, h2'⟩, h3⟩ := h.has.upd (Upd.hd (r' := Cells g (d'.toList.map enc ++ ext) T))
  have hg := h1 g h2
  have hh : (sortWorld enc W g 0 m d' os).heap = W.heap.modify g (onCells (putCells enc 0 d')) ++ os := rfl
  have hsz : W.heap.size ≤ (sortWorld enc W g 0 m d' os).heap.size := by rw [hh]; simp
  have hat : (sortWorld enc W g 0 m d' os).heap[g]? = some (.cells ⟨d'.toList.map enc ++ ext⟩ T (0, 0)) := by
    rw [hh, Array.getElem?_append, if_pos (by simpa using hg.2), Array.getElem?_modify, if_pos rfl, h2', Option.map_some]
    show some (Obj.cells (putCells enc 0 d' ⟨d.toList.map enc ++ ext⟩) T (0, 0)) = _
    rw [put_cells enc d d' hd ext]
  have hne : ∀ b, b < W.heap.size → b ≠ g → (sortWorld enc W g 0 m d' os).heap[b]? = W.heap[b]? := fun b hb hn => by
    rw [hh, Array.getElem?_append, if_pos (by simpa using hb), Array.getElem?_modify, if_neg (fun e => hn e.symm)]
  refine ⟨h.ext.trans ⟨rfl, rfl, rfl, hsz, fun c hc => hne c (by have := hg.1; have := h.globW; omega) (by have := hg.1; omega)⟩, h.glob, h3 _ _ (fun c => c = g) (fun c hc => ⟨hc.1, by have := hc.2; omega⟩) ?_ ?_ ⟨rfl, hat⟩⟩
  · rintro c rfl
    exact ⟨⟨hg.1, by have := hg.2; omega⟩, fun _ => h2⟩
  · intro c hc hn
    exact hne c hc.2 fun e => hn (by rw [e]; exact h2)
theorem Has.holds (h : Has G w W (Cells g (d.toList.map enc ++ ext) T :: R)) : Holds enc W g 0 d := by
  intro j hj
  have hb := (h.block In.hd).1
  have hl : j < (d.toList.map enc).length := by simp; omega
  constructor
  · rw [cell_block hb, Nat.zero_add, List.getElem?_append_left hl, List.getElem?_eq_getElem hl]
    simp [getElem!_pos d j hj]
  · unfold World.frozen?
    simp [hb]
end
end Go.Sx

/-
  DERIVED: THE SHELF's CONTRACTS AT THIS DUMP, IN PLAIN WORDS (tools/lay-plain.mjs out of 'TrydShelfK.lean', which tools/lay-shelf.mjs wrote): THE SAME DECLARATIONS UNDER THE SAME NAMES: 'import', 'namespace', 'open', 'def', 'theorem' AND NOTHING ELSE: no command of the shelf's: FOR A HAND-IN. Each laying: the table of numbers ('.._ren') and one theorem, a field a fact of the dump's own or the kernel's comparison; each contract: ONE APPLICATION.
-/
namespace Go.Proofs
open Go.Shelf
def Tryd.keysD_ren : Go.Shelf.Ren := ⟨fun | 7 => 35 | 10 => 68 | n => n, fun | 23 => 73 | 26 => 9 | 3 => 77 | 28 => 71 | 0 => 0 | 27 => 70 | 33 => 63 | 4 => 4 | n => n, fun | n => n⟩
theorem Tryd.keysD : Go.Proofs.SlLaysZ.n7 Tryd.prog Tryd.keysD_ren := {
  mixed := by kernel_rfl
  f7 := ⟨Tryd.f35.name, by decide, Tryd.func35.trans (congrArg some (by kernel_rfl))⟩
  f10 := ⟨Tryd.f68.name, by decide, Tryd.func68.trans (congrArg some (by kernel_rfl))⟩
  t0 := Tryd.underlying0
  a0 := Tryd.isAgg0
  z0 := Tryd.sizeOf0
  v0 := Tryd.zeroValue0
  t4 := Tryd.underlying4
  a4 := Tryd.isAgg4
  z4 := Tryd.sizeOf4
  v4 := Tryd.zeroValue4
  t23 := Tryd.underlying73
  a23 := Tryd.isAgg73
  z23 := Tryd.sizeOf73
  v23 := Tryd.zeroValue73
  t26 := Tryd.underlying9
  a26 := Tryd.isAgg9
  z26 := Tryd.sizeOf9
  v26 := Tryd.zeroValue9
  t27 := Tryd.underlying70
  a27 := Tryd.isAgg70
  z27 := Tryd.sizeOf70
  v27 := Tryd.zeroValue70
  t28 := Tryd.underlying71
  a28 := Tryd.isAgg71
  z28 := Tryd.sizeOf71
  v28 := Tryd.zeroValue71
  t33 := Tryd.underlying63
  a33 := Tryd.isAgg63
  z33 := Tryd.sizeOf63
  v33 := Tryd.zeroValue63 }
def Tryd.collD_ren : Go.Shelf.Ren := ⟨fun | 8 => 66 | 11 => 78 | n => n, fun | 26 => 9 | 28 => 71 | 24 => 31 | 0 => 0 | 33 => 63 | 4 => 4 | n => n, fun | n => n⟩
theorem Tryd.collD : Go.Proofs.SlLaysZ.n8 Tryd.prog Tryd.collD_ren := {
  mixed := by kernel_rfl
  f8 := ⟨Tryd.f66.name, by decide, Tryd.func66.trans (congrArg some (by kernel_rfl))⟩
  f11 := ⟨Tryd.f78.name, by decide, Tryd.func78.trans (congrArg some (by kernel_rfl))⟩
  t0 := Tryd.underlying0
  a0 := Tryd.isAgg0
  z0 := Tryd.sizeOf0
  v0 := Tryd.zeroValue0
  t24 := Tryd.underlying31
  a24 := Tryd.isAgg31
  z24 := Tryd.sizeOf31
  v24 := Tryd.zeroValue31
  t26 := Tryd.underlying9
  a26 := Tryd.isAgg9
  z26 := Tryd.sizeOf9
  v26 := Tryd.zeroValue9
  t28 := Tryd.underlying71
  a28 := Tryd.isAgg71
  z28 := Tryd.sizeOf71
  v28 := Tryd.zeroValue71
  i26 := by kernel_rfl }
def Tryd.sortD_ren : Go.Shelf.Ren := ⟨fun | 6 => 67 | 15 => 80 | 14 => 79 | 28 => 91 | 29 => 92 | 20 => 83 | 21 => 84 | 22 => 85 | 23 => 86 | 24 => 87 | 25 => 88 | 26 => 89 | 27 => 90 | 46 => 94 | 47 => 95 | 48 => 96 | 49 => 97 | 50 => 98 | 57 => 99 | n => n, fun | 22 => 31 | 24 => 9 | 25 => 81 | 3 => 3 | 39 => 124 | 0 => 0 | 53 => 140 | 55 => 123 | 4 => 4 | 46 => 133 | 45 => 132 | 50 => 137 | 5 => 5 | 9 => 9 | 66 => 147 | 70 => 151 | 76 => 153 | 77 => 154 | n => n, fun | n => n⟩
theorem Tryd.sortD : Go.Proofs.SlLaysF.n6 Tryd.prog Tryd.sortD_ren := {
  mixed := by kernel_rfl
  f6 := ⟨Tryd.f67.name, by decide, Tryd.func67.trans (congrArg some (by kernel_rfl))⟩
  f14 := ⟨Tryd.f79.name, by decide, Tryd.func79.trans (congrArg some (by kernel_rfl))⟩
  f15 := Tryd.func80.trans (congrArg some (by kernel_rfl))
  f20 := ⟨Tryd.f83.name, by decide, Tryd.func83.trans (congrArg some (by kernel_rfl))⟩
  f21 := ⟨Tryd.f84.name, by decide, Tryd.func84.trans (congrArg some (by kernel_rfl))⟩
  f22 := ⟨Tryd.f85.name, by decide, Tryd.func85.trans (congrArg some (by kernel_rfl))⟩
  f23 := ⟨Tryd.f86.name, by decide, Tryd.func86.trans (congrArg some (by kernel_rfl))⟩
  f24 := ⟨Tryd.f87.name, by decide, Tryd.func87.trans (congrArg some (by kernel_rfl))⟩
  f25 := ⟨Tryd.f88.name, by decide, Tryd.func88.trans (congrArg some (by kernel_rfl))⟩
  f26 := ⟨Tryd.f89.name, by decide, Tryd.func89.trans (congrArg some (by kernel_rfl))⟩
  f27 := ⟨Tryd.f90.name, by decide, Tryd.func90.trans (congrArg some (by kernel_rfl))⟩
  f28 := Tryd.func91.trans (congrArg some (by kernel_rfl))
  f29 := Tryd.func92.trans (congrArg some (by kernel_rfl))
  f46 := ⟨Tryd.f94.name, by decide, Tryd.func94.trans (congrArg some (by kernel_rfl))⟩
  f47 := Tryd.func95.trans (congrArg some (by kernel_rfl))
  f48 := Tryd.func96.trans (congrArg some (by kernel_rfl))
  f49 := ⟨Tryd.f97.name, by decide, Tryd.func97.trans (congrArg some (by kernel_rfl))⟩
  f50 := ⟨Tryd.f98.name, by decide, Tryd.func98.trans (congrArg some (by kernel_rfl))⟩
  f57 := ⟨Tryd.f99.name, by decide, Tryd.func99.trans (congrArg some (by kernel_rfl))⟩
  t0 := Tryd.underlying0
  a0 := Tryd.isAgg0
  z0 := Tryd.sizeOf0
  v0 := Tryd.zeroValue0
  t3 := Tryd.underlying3
  a3 := Tryd.isAgg3
  z3 := Tryd.sizeOf3
  v3 := Tryd.zeroValue3
  t4 := Tryd.underlying4
  a4 := Tryd.isAgg4
  z4 := Tryd.sizeOf4
  v4 := Tryd.zeroValue4
  t5 := Tryd.underlying5
  a5 := Tryd.isAgg5
  z5 := Tryd.sizeOf5
  v5 := Tryd.zeroValue5
  t9 := Tryd.underlying9
  a9 := Tryd.isAgg9
  z9 := Tryd.sizeOf9
  v9 := Tryd.zeroValue9
  t22 := Tryd.underlying31
  a22 := Tryd.isAgg31
  z22 := Tryd.sizeOf31
  v22 := Tryd.zeroValue31
  a24 := Tryd.isAgg9
  z24 := Tryd.sizeOf9
  t25 := Tryd.underlying81
  a25 := Tryd.isAgg81
  z25 := Tryd.sizeOf81
  v25 := Tryd.zeroValue81
  t39 := Tryd.underlying124
  a39 := Tryd.isAgg124
  z39 := Tryd.sizeOf124
  v39 := Tryd.zeroValue124
  t45 := Tryd.underlying132
  a45 := Tryd.isAgg132
  z45 := Tryd.sizeOf132
  v45 := Tryd.zeroValue132
  t46 := Tryd.underlying133
  a46 := Tryd.isAgg133
  z46 := Tryd.sizeOf133
  v46 := Tryd.zeroValue133
  t50 := Tryd.underlying137
  a50 := Tryd.isAgg137
  z50 := Tryd.sizeOf137
  v50 := Tryd.zeroValue137
  t53 := Tryd.underlying140
  a53 := Tryd.isAgg140
  z53 := Tryd.sizeOf140
  v53 := Tryd.zeroValue140
  t55 := Tryd.underlying123
  a55 := Tryd.isAgg123
  z55 := Tryd.sizeOf123
  v55 := Tryd.zeroValue123
  t66 := Tryd.underlying147
  a66 := Tryd.isAgg147
  z66 := Tryd.sizeOf147
  v66 := Tryd.zeroValue147
  t70 := Tryd.underlying151
  a70 := Tryd.isAgg151
  z70 := Tryd.sizeOf151
  v70 := Tryd.zeroValue151
  t76 := Tryd.underlying153
  a76 := Tryd.isAgg153
  z76 := Tryd.sizeOf153
  v76 := Tryd.zeroValue153
  t77 := Tryd.underlying154
  a77 := Tryd.isAgg154
  z77 := Tryd.sizeOf154
  v77 := Tryd.zeroValue154 }
end Go.Proofs

/-
  Documents' keys: what the library's sort leaves of a slice of texts.
-/
set_option linter.unusedVariables false
set_option maxRecDepth 10000
namespace Go.Proofs.YthpenehgfogloaaDoor.Sw
open Go.RowKit Go.Sx Go.Sort Go.Proofs

/-- A text that is not too long. -/
abbrev KA := {s : ByteArray // s.size ≤ 1000000}
instance : Inhabited KA := ⟨⟨ByteArray.empty, Nat.zero_le _⟩⟩
def encA (x : KA) : Value := .string x.1
def cfA (x y : KA) : Int := cmpK x.1 y.1
theorem lt_A (x y : KA) : ltOf cfA x y = lessK x.1 y.1 := by
  unfold ltOf cfA cmpK lessK
  cases h : Ph.lessL x.1.data.toList y.1.data.toList with
  | true => simp
  | false =>
    rw [if_neg (by simp)]
    split <;> simp
theorem swo_A : SWO (ltOf cfA) := by
  refine ⟨fun x => ?_, fun x y z h1 h2 => ?_, fun x y z h1 h2 => ?_⟩
  · rw [lt_A]; exact lessK_irr _
  · rw [lt_A] at *; exact lessK_trans h1 h2
  · rw [lt_A] at *
    cases h : lessK x.1 z.1 with
    | false => rfl
    | true =>
      by_cases e : x.1 = y.1
      · rw [e, h2] at h; cases h
      · rcases lessK_total e with k | k
        · rw [h1] at k; cases k
        · rw [lessK_trans k h] at h2; cases h2
theorem enc_list (ks : List ByteArray) (hks : ∀ k ∈ ks, k.size ≤ 1000000) : (ks.pmap (fun k h => (⟨k, h⟩ : KA)) hks).toArray.toList.map encA = ks.map Value.string := by
  rw [List.map_pmap]
  exact List.pmap_eq_map ..

theorem sort_keys (w0 W : World) (sv : Value) (ks : List ByteArray) (R : List Res) (hks : ∀ k ∈ ks, k.size ≤ 1000000) (hn : ks.length < 4611686018427387904) (hw : Has 0 w0 W (Own 9 1 sv ks.length (ks.map Value.string) :: R)) :
    Calls Tryd.prog 67 ⟨[sv, .func (.func 36) #[] #[]]⟩ W fun e W' => e = .returned (.tuple #[]) ∧ ∃ ks' : List ByteArray, ks'.Perm ks ∧ ks'.Pairwise (fun a b => lessK b a = false) ∧
      Has 0 w0 W' (Own 9 1 sv ks'.length (ks'.map Value.string) :: R) := by
  obtain ⟨ad, cap, rfl⟩ : ∃ ad cap, sv = .slice ad ks.length cap := by
    obtain ⟨F1, h1, h2, h3⟩ := hw.has
    obtain ⟨_, ⟨e, h0⟩ | ⟨g, cap, cur, e, _⟩⟩ := h2
    · exact ⟨none, 0, by rw [e, h0]⟩
    · exact ⟨_, _, e⟩
  by_cases hz : ks = []
  · subst hz
    exact (AnyF.slices_SortFunc_none { Tryd.sortD with } ad cap (.func (.func 36) #[] #[]) W).mono fun e W' ⟨h1, h2⟩ => ⟨h1, [], List.Perm.refl _, List.Pairwise.nil, by rw [h2]; exact hw⟩
  have hpos : 0 < ks.length := by cases ks with | nil => exact absurd rfl hz | cons => simp
  obtain ⟨g, cur, rfl, ht, hl, hkc, hcm, hw⟩ := hw.open_own hpos
  have he := enc_list ks hks
  have hsz : (ks.pmap (fun k h => (⟨k, h⟩ : KA)) hks).toArray.size = ks.length := by simp
  generalize hd : (ks.pmap (fun k h => (⟨k, h⟩ : KA)) hks).toArray = d at he hsz
  have hcur : cur = d.toList.map encA ++ cur.drop ks.length := by rw [he, ← ht, Nat.mul_one]; exact (List.take_append_drop _ _).symm
  generalize cur.drop ks.length = ext at hcur
  subst hcur
  have hcmp : CmpLays1 Tryd.prog 36 #[] encA cfA g 0 d.size W := by
    intro m os dk hdk x y
    refine (doc_Keys1 x.1 y.1 _ (by have := x.2; omega) (by have := y.2; omega)).mono ?_
    rintro e W' ⟨rfl, hb⟩
    exact ⟨rfl, hb.grown⟩
  have hS := Any.slices_SortFunc (P := Tryd.prog) Tryd.sortD encA (fun _ => rfl) cfA swo_A 36 #[] g 0 cap d W (enters_of Tryd.func36 (by kernel_rfl) rfl) hcmp hw.holds (hw.block In.hd).2.2 (by omega)
  rw [hsz] at hS
  refine Calls.mono hS ?_
  · rintro e W' ⟨rfl, d', n, os, hp, hs, rfl⟩
    have hd' : d'.size = d.size := hp.1
    have hpm : d'.toList.Perm d.toList := by
      have := hp.2.2
      rwa [Array.extract_eq_self_of_le (by omega), Array.extract_eq_self_of_le (by omega)] at this
    have hdk : d.toList.map (·.1) = ks := by
      rw [← hd]
      show List.map _ (List.pmap _ _ _) = _
      rw [List.map_pmap]
      simp
    have hlen : (d'.toList.map (·.1)).length = ks.length := by simp; omega
    refine ⟨rfl, d'.toList.map (·.1), hdk ▸ hpm.map _, ?_, ?_⟩
    · rw [List.pairwise_map, List.pairwise_iff_getElem]
      intro i j hi hj hij
      have h := hs i j (Nat.zero_le _) hij (by simp at hj; omega)
      rw [lt_A, getElem!_pos d' i (by simp at hi; omega), getElem!_pos d' j (by simp at hj; omega)] at h
      simpa using h
    · rw [hlen]
      refine (hw.sorted hd' n os).shut_own ?_ ?_ hkc hcm
      · rw [List.map_map, Nat.mul_one]
        show List.take ks.length (d'.toList.map encA ++ ext) = d'.toList.map encA
        rw [List.take_left']
        simp; omega
      · rw [← hl]; simp [hd']
end Go.Proofs.YthpenehgfogloaaDoor.Sw

/-
  The walks of num.Put and of the reference's Put.
-/
set_option linter.unusedVariables false
namespace Go.Proofs.YthpenehgfogloaaDoor
open Go.RowKit

theorem info_byte : (Tryd.prog.info? 5).map (fun i => (i.zero, i.size, i.bytes)) = some (some (.int .u8 0), 1, 1) := by kernel_rfl
theorem ret_int3 {a a' b b' c c' : Int} (h1 : a = a') (h2 : b = b') (h3 : c = c') : Ending.returned (.tuple #[.int .i64 a, .int .i64 b, .int .i64 c]) = .returned (.tuple #[.int .i64 a', .int .i64 b', .int .i64 c']) := by rw [h1, h2, h3]

/-- Bytes that the call owns from block B on. -/
def OwnB (w : World) (B : Nat) (v : Value) (l : List UInt8) : Prop := w.ownsRow B 5 1 v l.length (Lib.byteCells l)
theorem u8w (x : Nat) (h : x < 128) : IntKind.u8.wrap (x : Int) = ((x.toUInt8).toNat : Int) := by
  rw [IntKind.wrap_u8, Ph.u8n x (by omega)]; omega
theorem u8p (x : Nat) (h : x < 128) : (x : Int) = ((x.toUInt8).toNat : Int) := by rw [Ph.u8n x (by omega)]
theorem u8o (x : Nat) : bits .or .u8 (IntKind.u8.wrap (x : Int)) 128 = (((x % 128 + 128).toUInt8).toNat : Int) := by
  have e : IntKind.u8.wrap (x : Int) = ((x % 256 : Nat) : Int) := by rw [IntKind.wrap_u8]; omega
  rw [e, Ph.or128_at _ (by omega), Ph.u8n _ (by omega)]; omega
theorem u8s (x : Nat) : IntKind.u8.wrap ((x : Int) % 128 + 128) = (((x % 128 + 128).toUInt8).toNat : Int) := by
  rw [IntKind.wrap_u8, Ph.u8n _ (by omega)]; omega


set_option maxRecDepth 100000 in
set_option maxHeartbeats 2000000 in
theorem num_Put_pos (B : Nat) (v : Value) (l : List UInt8) (n : Int) (w : World) (h0 : -9223372036854775808 ≤ n) (h1 : n ≤ 9223372036854775807) (hn : 0 ≤ n) (ho : OwnB w B v l) (hl : l.length ≤ 1000000000) (hB : B ≤ w.heap.size) :
    Calls Tryd.prog 42 #[v, .int .i64 n] w fun e w' => ∃ v', e = .returned v' ∧ OwnB w' B v' (l ++ Ph.putI n) ∧ Below B w w' ∧ B ≤ w'.heap.size := by
  obtain ⟨ib, hib, hbz, hbs, hbb⟩ := info_parts info_byte
  have HO : Hid (w.ownsRow B 5 1 v l.length (Lib.byteCells l)) := ho
  have HZ := Lib.hid (Ph.zig_small h0 h1).1
  clear ho
  go_enter Tryd.func42, Tryd.ntmps42
  go_wp2
  go_loopw [0, 5] (fun b u wr => ∃ (acc : List UInt8) (f x : Nat), u = .int .u64 x ∧ Hid (x < 128 ^ f) ∧ 1 ≤ f ∧ f ≤ 10 ∧ acc.length + f ≤ l.length + 10 ∧ Hid (wr.ownsRow B 5 1 b acc.length (Lib.byteCells acc)) ∧ Below B w wr ∧ B ≤ wr.heap.size ∧ Hid (acc ++ Ph.putN f x = l ++ Ph.putI n)) (fun _ u _ => (intOf u).toNat)
  case atStart => exact ⟨l, 10, Ph.zig n, by rw [Ph.zig_pos n hn], HZ.out, by omega, by omega, by omega, HO.out, Below.refl _ _, hB, rfl⟩
  case round =>
    obtain ⟨acc, f, x, rfl, HX, hf1, hf2, hal, HR, hbw, hBw, HE⟩ := hrel
    have hr := HR.out
    by_cases hx : x < 128
    · have hx' : (x : Int) ≤ 127 := by omega
      go_wp2_with (at_builtin; refine wpList_append_own _ rfl (.tmp 23) (.tmp 26) 44 rfl (B) 5 ib (.int .u8 0) 1 1 Tryd.underlying44 hib hbz hbs hbb rfl (by decide) _ acc.length _ rfl (hr.alloc _) ⟨wr.heap.size, 0, none⟩ 1 1 [?xv] rfl rfl ?c1 ?c2 ?c3 ?c4 ?c5 ?_)
      case c1 => exact (cell_one_new _ _ _)
      case c2 => simp [Value.oneCell']
      case c3 => unfold maxLen; omega
      case c4 => omega
      case c5 => simp; omega
      intro b1 w1 hr1 hg1 _
      have hb1 : Below (B) w w1 := (hbw.alloc hBw _).grown hg1 (by simp; omega) (fun g hg => (hr.lt g hg).1)
      have hB1 : B ≤ w1.heap.size := by have := hg1.size; simp at this; omega
      have hr2 := own_snoc (c := x.toUInt8) hr1 (u8p x hx)
      have HF : Hid (acc ++ [x.toUInt8] = l ++ Ph.putI n) := by
        show _ = _
        rw [← HE.out]
        obtain ⟨g, rfl⟩ : ∃ g, f = g + 1 := ⟨f - 1, by omega⟩
        rw [Ph.putN_last g x hx]
      clear hr hr1
      go_wp2
      go_ret
      refine ⟨_, rfl, ?_, hb1, hB1⟩
      unfold OwnB
      rw [← HF.out]
      exact hr2
    · have hx' : (127 : Int) < (x : Int) := by omega
      obtain ⟨g, hfg, hg1', hxg, hpn⟩ := Ph.putN_split f x hx HX.out
      have HPN := Lib.hid hpn
      have HXG := Lib.hid hxg
      clear hpn hxg
      go_wp2_with (at_builtin; refine wpList_append_own _ rfl (.tmp 15) (.tmp 19) 44 rfl (B) 5 ib (.int .u8 0) 1 1 Tryd.underlying44 hib hbz hbs hbb rfl (by decide) _ acc.length _ rfl (hr.alloc _) ⟨wr.heap.size, 0, none⟩ 1 1 [?yv] rfl rfl ?d1 ?d2 ?d3 ?d4 ?d5 ?_)
      case d1 => exact (cell_one_new _ _ _)
      case d2 => simp [Value.oneCell']
      case d3 => unfold maxLen; omega
      case d4 => omega
      case d5 => simp; omega
      intro b1 w1 hr1 hg1 _
      have hb1 : Below (B) w w1 := (hbw.alloc hBw _).grown hg1 (by simp; omega) (fun g hg => (hr.lt g hg).1)
      have hB1 : B ≤ w1.heap.size := by have := hg1.size; simp at this; omega
      have hr2 := own_snoc (c := (x % 128 + 128).toUInt8) hr1 (u8o x)
      have HF : Hid (acc ++ [(x % 128 + 128).toUInt8] ++ Ph.putN g (x / 128) = l ++ Ph.putI n) := by
        show _ = _
        rw [← HE.out, HPN.out]
        simp
      have HR2 := Lib.hid hr2
      clear hr hr1 hr2
      go_wp2
      go_roundw
      case rel => exact ⟨acc ++ [(x % 128 + 128).toUInt8], g, x / 128, by go_num, HXG.out, hg1', by omega, by simp; omega, HR2.out, hb1, hB1, HF.out⟩
      case measure => simp [intOf]; omega


set_option maxRecDepth 100000 in
set_option maxHeartbeats 2000000 in
theorem num_Put_neg (B : Nat) (v : Value) (l : List UInt8) (n : Int) (w : World) (h0 : -9223372036854775808 ≤ n) (h1 : n ≤ 9223372036854775807) (hn : n < 0) (ho : OwnB w B v l) (hl : l.length ≤ 1000000000) (hB : B ≤ w.heap.size) :
    Calls Tryd.prog 42 #[v, .int .i64 n] w fun e w' => ∃ v', e = .returned v' ∧ OwnB w' B v' (l ++ Ph.putI n) ∧ Below B w w' ∧ B ≤ w'.heap.size := by
  obtain ⟨ib, hib, hbz, hbs, hbb⟩ := info_parts info_byte
  have HO : Hid (w.ownsRow B 5 1 v l.length (Lib.byteCells l)) := ho
  have HZ := Lib.hid (Ph.zig_small h0 h1).1
  clear ho
  go_enter Tryd.func42, Tryd.ntmps42
  go_wp2
  go_loopw [0, 5] (fun b u wr => ∃ (acc : List UInt8) (f x : Nat), u = .int .u64 x ∧ Hid (x < 128 ^ f) ∧ 1 ≤ f ∧ f ≤ 10 ∧ acc.length + f ≤ l.length + 10 ∧ Hid (wr.ownsRow B 5 1 b acc.length (Lib.byteCells acc)) ∧ Below B w wr ∧ B ≤ wr.heap.size ∧ Hid (acc ++ Ph.putN f x = l ++ Ph.putI n)) (fun _ u _ => (intOf u).toNat)
  case atStart => exact ⟨l, 10, Ph.zig n, by rw [Ph.zig_neg n h0 hn], HZ.out, by omega, by omega, by omega, HO.out, Below.refl _ _, hB, rfl⟩
  case round =>
    obtain ⟨acc, f, x, rfl, HX, hf1, hf2, hal, HR, hbw, hBw, HE⟩ := hrel
    have hr := HR.out
    by_cases hx : x < 128
    · have hx' : (x : Int) ≤ 127 := by omega
      go_wp2_with (at_builtin; refine wpList_append_own _ rfl (.tmp 23) (.tmp 26) 44 rfl (B) 5 ib (.int .u8 0) 1 1 Tryd.underlying44 hib hbz hbs hbb rfl (by decide) _ acc.length _ rfl (hr.alloc _) ⟨wr.heap.size, 0, none⟩ 1 1 [?xv] rfl rfl ?c1 ?c2 ?c3 ?c4 ?c5 ?_)
      case c1 => exact (cell_one_new _ _ _)
      case c2 => simp [Value.oneCell']
      case c3 => unfold maxLen; omega
      case c4 => omega
      case c5 => simp; omega
      intro b1 w1 hr1 hg1 _
      have hb1 : Below (B) w w1 := (hbw.alloc hBw _).grown hg1 (by simp; omega) (fun g hg => (hr.lt g hg).1)
      have hB1 : B ≤ w1.heap.size := by have := hg1.size; simp at this; omega
      have hr2 := own_snoc (c := x.toUInt8) hr1 (u8p x hx)
      have HF : Hid (acc ++ [x.toUInt8] = l ++ Ph.putI n) := by
        show _ = _
        rw [← HE.out]
        obtain ⟨g, rfl⟩ : ∃ g, f = g + 1 := ⟨f - 1, by omega⟩
        rw [Ph.putN_last g x hx]
      clear hr hr1
      go_wp2
      go_ret
      refine ⟨_, rfl, ?_, hb1, hB1⟩
      unfold OwnB
      rw [← HF.out]
      exact hr2
    · have hx' : (127 : Int) < (x : Int) := by omega
      obtain ⟨g, hfg, hg1', hxg, hpn⟩ := Ph.putN_split f x hx HX.out
      have HPN := Lib.hid hpn
      have HXG := Lib.hid hxg
      clear hpn hxg
      go_wp2_with (at_builtin; refine wpList_append_own _ rfl (.tmp 15) (.tmp 19) 44 rfl (B) 5 ib (.int .u8 0) 1 1 Tryd.underlying44 hib hbz hbs hbb rfl (by decide) _ acc.length _ rfl (hr.alloc _) ⟨wr.heap.size, 0, none⟩ 1 1 [?yv] rfl rfl ?d1 ?d2 ?d3 ?d4 ?d5 ?_)
      case d1 => exact (cell_one_new _ _ _)
      case d2 => simp [Value.oneCell']
      case d3 => unfold maxLen; omega
      case d4 => omega
      case d5 => simp; omega
      intro b1 w1 hr1 hg1 _
      have hb1 : Below (B) w w1 := (hbw.alloc hBw _).grown hg1 (by simp; omega) (fun g hg => (hr.lt g hg).1)
      have hB1 : B ≤ w1.heap.size := by have := hg1.size; simp at this; omega
      have hr2 := own_snoc (c := (x % 128 + 128).toUInt8) hr1 (u8o x)
      have HF : Hid (acc ++ [(x % 128 + 128).toUInt8] ++ Ph.putN g (x / 128) = l ++ Ph.putI n) := by
        show _ = _
        rw [← HE.out, HPN.out]
        simp
      have HR2 := Lib.hid hr2
      clear hr hr1 hr2
      go_wp2
      go_roundw
      case rel => exact ⟨acc ++ [(x % 128 + 128).toUInt8], g, x / 128, by go_num, HXG.out, hg1', by omega, by simp; omega, HR2.out, hb1, hB1, HF.out⟩
      case measure => simp [intOf]; omega


theorem num_Put (B : Nat) (v : Value) (l : List UInt8) (n : Int) (w : World) (h0 : -9223372036854775808 ≤ n) (h1 : n ≤ 9223372036854775807) (ho : OwnB w B v l) (hl : l.length ≤ 1000000000) (hB : B ≤ w.heap.size) :
    Calls Tryd.prog 42 #[v, .int .i64 n] w fun e w' => ∃ v', e = .returned v' ∧ OwnB w' B v' (l ++ Ph.putI n) ∧ Below B w w' ∧ B ≤ w'.heap.size := by
  by_cases hn : n < 0
  · exact num_Put_neg B v l n w h0 h1 hn ho hl hB
  · exact num_Put_pos B v l n w h0 h1 (by omega) ho hl hB

end Go.Proofs.YthpenehgfogloaaDoor

/-
  The walk of num.Get.
-/
set_option linter.unusedVariables false
namespace Go.Proofs.YthpenehgfogloaaDoor
open Go.RowKit

-- pieces

theorem get_ret {l : List UInt8} {a b c : Int} (h : Ph.getI l = (a, b.toNat, c)) (hb : 0 ≤ b) : Ending.returned (.tuple #[.int .i64 a, .int .i64 b, .int .i64 c]) = .returned (.tuple #[.int .i64 (Ph.getI l).1, .int .i64 (Ph.getI l).2.1, .int .i64 (Ph.getI l).2.2]) := by
  rw [h]
  exact ret_int3 rfl (by simp; omega) rfl

theorem get_ret2 {l : List UInt8} {a b c a' c' : Int} {b' : Nat} (h : Ph.getI l = (a', b', c')) (h1 : a = a') (h2 : b = b') (h3 : c = c') : Ending.returned (.tuple #[.int .i64 a, .int .i64 b, .int .i64 c]) = .returned (.tuple #[.int .i64 (Ph.getI l).1, .int .i64 (Ph.getI l).2.1, .int .i64 (Ph.getI l).2.2]) := by
  rw [h, h1, h2, h3]

theorem num_Get_nil (c : Nat) (w : World) :
    Calls Tryd.prog 53 #[.slice none 0 c] w fun e w' => e = .returned (.tuple #[.int .i64 (Ph.getI []).1, .int .i64 (Ph.getI []).2.1, .int .i64 (Ph.getI []).2.2]) ∧ w = w' := by
  go_enter Tryd.func53, Tryd.ntmps53
  go_wp2
  go_loop [5, 11] (fun u i => u = .int .u64 0 ∧ i = .int .i64 0) (fun _ i => 0)
  case atStart => exact ⟨rfl, rfl⟩
  case round =>
    obtain ⟨rfl, rfl⟩ := hrel
    go_wp2
    go_ret3
    exact ⟨rfl, rfl⟩

set_option maxRecDepth 100000 in
set_option maxHeartbeats 4000000 in
theorem num_Get_some (b off cap : Nat) (l : List UInt8) (w : World) (hl : l.length ≤ cap) (hm : cap ≤ 9223372036854775807) (hc : ∀ j (h : j < l.length), w.cell? ⟨b, off + j, none⟩ = some (.int .u8 (l[j].toNat : Int))) :
    Calls Tryd.prog 53 #[.slice (some ⟨b, off, none⟩) l.length cap] w fun e w' => e = .returned (.tuple #[.int .i64 (Ph.getI l).1, .int .i64 (Ph.getI l).2.1, .int .i64 (Ph.getI l).2.2]) ∧ w = w' := by
  have HC := Lib.hid hc
  clear hc
  go_enter Tryd.func53, Tryd.ntmps53
  go_wp2
  go_loop [5, 11] (fun u i => ∃ k x : Nat, k ≤ l.length ∧ k ≤ 9 ∧ i = .int .i64 k ∧ u = .int .u64 x ∧ Hid (x < 128 ^ k) ∧ Hid (Ph.getI l = Ph.getN k x (l.drop k))) (fun _ i => l.length - (intOf i).toNat)
  case atStart => exact ⟨0, 0, by omega, by omega, rfl, rfl, by show 0 < 128 ^ 0; decide, rfl⟩
  case round =>
    obtain ⟨k, x, hk, hk9, rfl, rfl, HX, HK⟩ := hrel
    by_cases hlt : k < l.length
    · have hlt' : (k : Int) < (l.length : Int) := by omega
      have hcell := HC.out k hlt
      have HD : Hid (l.drop k = l[k] :: l.drop (k + 1)) := List.drop_eq_getElem_cons hlt
      have hcb := (l[k]).toNat_lt
      generalize l[k] = c at *
      by_cases h9 : k = 9
      · subst h9
        have e9 : (128 : Nat) ^ 9 = 9223372036854775808 := by decide
        by_cases hc1 : 1 < c.toNat
        · have hc1' : (1 : Int) < (c.toNat : Int) := by omega
          have HF : Hid (Ph.getI l = (0, 0, 1)) := by show _ = _; rw [HK.out, HD.out, Ph.getN_big _ _ _ _ rfl hc1]
          clear e9
          go_wp2
          go_ret3
          exact ⟨get_ret HF.out (by omega), rfl⟩
        · have hc1' : (c.toNat : Int) ≤ 1 := by omega
          have hc2' : (c.toNat : Int) ≤ 127 := by omega
          have hor := Ph.or_last x c.toNat HX.out (by omega)
          have hy : x + c.toNat % 128 * 128 ^ 9 < 18446744073709551616 := by have := HX.out; omega
          clear e9
          by_cases hz : c.toNat = 0
          · have hz' : ((c.toNat : Int) == 0) = true := by rw [beq_iff_eq]; omega
            have HF : Hid (Ph.getI l = (0, 0, 1)) := by show _ = _; rw [HK.out, HD.out, Ph.getN_zero _ _ _ _ (by omega) hz]
            have HYY := Lib.hid hy
            clear hz hy
            go_wp2
            go_ret3
            exact ⟨get_ret HF.out (by omega), rfl⟩
          · have hz' : ((c.toNat : Int) == 0) = false := by rw [beq_eq_false_iff_ne]; omega
            have HF : Hid (Ph.getI l = (Ph.unzig (x + c.toNat % 128 * 128 ^ 9), 9 + 1, 0)) := by show _ = _; rw [HK.out, HD.out, Ph.getN_last _ _ _ _ (by omega) (by omega) (by omega)]
            clear hz
            generalize x + c.toNat % 128 * 128 ^ 9 = y at *
            have HYY := Lib.hid hy
            have hod := and_one_u64 (y : Int) (by omega) (by omega)
            have hnt := i64_not (y / 2) (by omega)
            have hdv : (0 : Int) ≤ (y : Int) / 2 := by omega
            have hdv2 : (y : Int) / 2 ≤ 9223372036854775807 := by omega
            clear hy
            by_cases ho : y % 2 = 1
            · have ho' : ((y : Int) % 2 == 1) = true := by rw [beq_iff_eq]; omega
              have HU := Lib.hid (Ph.unzig_odd y ho)
              clear ho
              go_wp2
              go_ret3
              refine ⟨get_ret2 HF.out ?_ rfl rfl, rfl⟩
              have e : (y : Int) / 2 = ((y / 2 : Nat) : Int) := by omega
              show bits BinOp.xor IntKind.i64 (-1) ((y : Int) / 2) = _
              rw [e, i64_not _ (by have := HYY.out; omega), HU.out]
            · have ho' : ((y : Int) % 2 == 1) = false := by rw [beq_eq_false_iff_ne]; omega
              have HU := Lib.hid (Ph.unzig_even y (by omega))
              clear ho
              go_wp2
              go_ret3
              refine ⟨get_ret2 HF.out ?_ rfl rfl, rfl⟩
              show (y : Int) / 2 = _
              rw [HU.out]
              omega
      · have h9' : ((k : Int) == 9) = false := by rw [beq_eq_false_iff_ne]; omega
        have hsm := Ph.sum_small x c.toNat k HX.out (by omega) hcb
        have hor := Ph.or_seven x c.toNat k HX.out hcb hsm.1 (by omega)
        have hy : x + c.toNat % 128 * 128 ^ k < 9223372036854775808 := by
          have h1 := hsm.2
          have h2 : (128 : Nat) ^ (k + 1) ≤ 128 ^ 9 := Nat.pow_le_pow_right (by omega) (by omega)
          have e9 : (128 : Nat) ^ 9 = 9223372036854775808 := by decide
          omega
        have HSM := Lib.hid hsm.2
        clear hsm
        by_cases hc1 : 127 < c.toNat
        · have hc1' : (127 : Int) < (c.toNat : Int) := by omega
          have HF : Hid (Ph.getI l = Ph.getN (k + 1) (x + c.toNat % 128 * 128 ^ k) (l.drop (k + 1))) := by show _ = _; rw [HK.out, HD.out, Ph.getN_more _ _ _ _ h9 (by omega)]
          generalize x + c.toNat % 128 * 128 ^ k = y at *
          have HYY := Lib.hid hy
          clear hy
          go_wp2
          go_round
          case rel => exact ⟨k + 1, y, by omega, by omega, by go_num, rfl, HSM.out, HF.out⟩
          case measure => simp [intOf]; omega
        · have hc1' : (c.toNat : Int) ≤ 127 := by omega
          by_cases hz : 0 < k ∧ c.toNat = 0
          · obtain ⟨hz1, hz2⟩ := hz
            have hk0 : (0 : Int) < (k : Int) := by omega
            have hz' : ((c.toNat : Int) == 0) = true := by rw [beq_iff_eq]; omega
            have HF : Hid (Ph.getI l = (0, 0, 1)) := by show _ = _; rw [HK.out, HD.out, Ph.getN_zero _ _ _ _ hz1 hz2]
            have HYY := Lib.hid hy
            clear hy hz2
            go_wp2
            go_ret3
            exact ⟨get_ret HF.out (by omega), rfl⟩
          · have HF : Hid (Ph.getI l = (Ph.unzig (x + c.toNat % 128 * 128 ^ k), k + 1, 0)) := by show _ = _; rw [HK.out, HD.out, Ph.getN_last _ _ _ _ (by omega) (by omega) hz]
            have HZZ := Lib.hid hz
            clear hz
            generalize x + c.toNat % 128 * 128 ^ k = y at *
            have HYY := Lib.hid hy
            have hod := and_one_u64 (y : Int) (by omega) (by omega)
            have hdv : (0 : Int) ≤ (y : Int) / 2 := by omega
            have hdv2 : (y : Int) / 2 ≤ 9223372036854775807 := by omega
            clear hy
            by_cases hk0 : 0 < k
            all_goals
              by_cases ho : y % 2 = 1
              · have hz' : 0 < k → ((c.toNat : Int) == 0) = false := fun h => by rw [beq_eq_false_iff_ne]; have := HZZ.out; omega
                have hzk : Hid True := trivial
                first | (have hz2 := hz' hk0; clear hz') | clear hz'
                have ho' : ((y : Int) % 2 == 1) = true := by rw [beq_iff_eq]; omega
                have HU := Lib.hid (Ph.unzig_odd y ho)
                clear ho
                go_wp2
                go_ret3
                refine ⟨get_ret2 HF.out ?_ rfl rfl, rfl⟩
                have e : (y : Int) / 2 = ((y / 2 : Nat) : Int) := by omega
                show bits BinOp.xor IntKind.i64 (-1) ((y : Int) / 2) = _
                rw [e, i64_not _ (by have := HYY.out; omega), HU.out]
              · have hz' : 0 < k → ((c.toNat : Int) == 0) = false := fun h => by rw [beq_eq_false_iff_ne]; have := HZZ.out; omega
                have hzk : Hid True := trivial
                first | (have hz2 := hz' hk0; clear hz') | clear hz'
                have ho' : ((y : Int) % 2 == 1) = false := by rw [beq_eq_false_iff_ne]; omega
                have HU := Lib.hid (Ph.unzig_even y (by omega))
                clear ho
                go_wp2
                go_ret3
                refine ⟨get_ret2 HF.out ?_ rfl rfl, rfl⟩
                show (y : Int) / 2 = _
                rw [HU.out]
                omega
    · have hlt' : (l.length : Int) ≤ (k : Int) := by omega
      have HF : Hid (Ph.getI l = (0, 0, 2)) := by show _ = _; rw [HK.out, List.drop_eq_nil_of_le (by omega), Ph.getN_end]
      go_wp2
      go_ret3
      exact ⟨get_ret HF.out (by omega), rfl⟩

end Go.Proofs.YthpenehgfogloaaDoor

/-
  The walks of what reads numbers, texts and raw values, by Sx.
-/
set_option linter.unusedVariables false
-- pieces
namespace Go.Proofs.YthpenehgfogloaaDoor.Sw
open Go.RowKit Go.Sx

theorem num_Get_empty (ad : Option Addr) (cap : Nat) (w : World) :
    Calls Tryd.prog 53 ⟨[.slice ad 0 cap]⟩ w fun e W' => e = .returned (.tuple #[.int .i64 (Ph.getI []).1, .int .i64 (Ph.getI []).2.1, .int .i64 (Ph.getI []).2.2]) ∧ w = W' := by
  cases ad with
  | none => exact num_Get_nil cap w
  | some a =>
    go_enter Tryd.func53, Tryd.ntmps53
    go_wp2
    go_loop [5, 11] (fun u i => u = .int .u64 0 ∧ i = .int .i64 0) (fun _ i => 0)
    case atStart => exact ⟨rfl, rfl⟩
    case round =>
      obtain ⟨rfl, rfl⟩ := hrel
      go_wp2
      go_ret3
      exact ⟨rfl, rfl⟩
theorem num_Get (W : World) (v : Value) (l : List UInt8) (r : RdB W v l) :
    Calls Tryd.prog 53 ⟨[v]⟩ W fun e W' => e = .returned (.tuple #[.int .i64 (Ph.getI l).1, .int .i64 (Ph.getI l).2.1, .int .i64 (Ph.getI l).2.2]) ∧ W = W' := by
  obtain ⟨ad, cap, rfl, h3, h4, rfl | ⟨b, o, rfl, hc⟩⟩ := r.cells
  · exact num_Get_empty ad cap W
  · exact num_Get_some b o cap l W h3 h4 hc
theorem bys_drop (l : List UInt8) (k : Nat) : (bys l).drop (k * 1) = bys (l.drop k) := by simp
theorem bys_cut (l : List UInt8) (k m : Nat) : ((bys l).drop (k * 1)).take (m * 1) = bys ((l.drop k).take m) := by simp
theorem i64s {x : Int} (h0 : -9223372036854775808 ≤ x) (h1 : x ≤ 9223372036854775807) : IntKind.i64.wrap x = x := IntWalk.i64_in _ (by omega)
set_option maxHeartbeats 4000000 in
theorem num_GetText (W : World) (v : Value) (l : List UInt8) (r : RdB W v l) :
    Calls Tryd.prog 54 ⟨[v]⟩ W fun e W' => e = .returned (.tuple #[.string ⟨(Ph.getT l).1.toArray⟩, .int .i64 (Ph.getT l).2.1, .int .i64 (Ph.getT l).2.2]) ∧ W = W' := by
  have hlen : l.length ≤ 9223372036854775807 := by have := r.len; exact this
  have hle := Ph.getI_le l
  have hG := num_Get W v l r
  obtain ⟨ad, cap, rfl, -⟩ := r.cells
  have hw := Has.start (G := 0) (w := W) (Nat.zero_le _)
  refine enter Tryd.func54 Tryd.ntmps54 rfl rfl fun a hs => ?_
  repeat (first | (refine sxv hs hw ?_; clear hs; intro a hs) | refine sxc hs ?_ | (refine sxa hs hw ?_; clear hs hw; intro a b W hw hs) | (refine sxs hs hw ?_; clear hs hw; intro W hs hw))
  refine st_call hs (hc := hG) (k := ?_); rintro e0 W1 ⟨rfl, rfl⟩; refine ⟨_, rfl, ?_⟩; clear hs hG; intro a hs
  generalize hg : Ph.getI l = g at *
  obtain ⟨n, k, e⟩ := g
  simp only at hle hs
  by_cases he : e = 0
  · subst he
    by_cases hn : n < 0
    · have e1 : decide (n < 0) = true := by simpa using hn
      have hT : Ph.getT l = ([], 0, 1) := by simp [Ph.getT, hg, hn]
      repeat (first | (refine sxv hs hw ?_; clear hs; intro a hs) | refine sxc hs ?_ | (refine sxa hs hw ?_; clear hs hw; intro a b W hw hs) | (refine sxs hs hw ?_; clear hs hw; intro W hs hw))
      rw [e1] at hs
      repeat (first | (refine sxv hs hw ?_; clear hs; intro a hs) | refine sxc hs ?_ | (refine sxa hs hw ?_; clear hs hw; intro a b W hw hs) | (refine sxs hs hw ?_; clear hs hw; intro W hs hw))
      exact rt3 hs rfl rfl rfl rfl ⟨by rw [hT]; rfl, rfl⟩
    · have e1 : decide (n < 0) = false := by simpa using hn
      repeat (first | (refine sxv hs hw ?_; clear hs; intro a hs) | refine sxc hs ?_ | (refine sxa hs hw ?_; clear hs hw; intro a b W hw hs) | (refine sxs hs hw ?_; clear hs hw; intro W hs hw))
      rw [e1] at hs
      repeat (first | (refine sxv hs hw ?_; clear hs; intro a hs) | refine sxc hs ?_ | (refine sxa hs hw ?_; clear hs hw; intro a b W hw hs) | (refine sxs hs hw ?_; clear hs hw; intro W hs hw))
      by_cases hb : n > 1048576
      · have e2 : decide (n > 1048576) = true := by simpa using hb
        have hT : Ph.getT l = ([], 0, 1) := by simp [Ph.getT, hg, hb]
        rw [e2] at hs
        repeat (first | (refine sxv hs hw ?_; clear hs; intro a hs) | refine sxc hs ?_ | (refine sxa hs hw ?_; clear hs hw; intro a b W hw hs) | (refine sxs hs hw ?_; clear hs hw; intro W hs hw))
        exact rt3 hs rfl rfl rfl rfl ⟨by rw [hT]; rfl, rfl⟩
      · have e2 : decide (n > 1048576) = false := by simpa using hb
        rw [e2] at hs
        repeat (first | (refine sxv hs hw ?_; clear hs; intro a hs) | refine sxc hs ?_ | (refine sxa hs hw ?_; clear hs hw; intro a b W hw hs) | (refine sxs hs hw ?_; clear hs hw; intro W hs hw))
        have e3 : IntKind.i64.wrap ((l.length : Int) - (k : Int)) = (l.length : Int) - k := i64s (by omega) (by omega)
        rw [e3] at hs
        by_cases hm : n > (l.length : Int) - k
        · have e4 : decide (n > (l.length : Int) - k) = true := by simpa using hm
          have hT : Ph.getT l = ([], 0, 2) := by
            simp only [Ph.getT, hg]
            rw [if_neg (by simp), if_neg (by omega), if_pos (by omega)]
          rw [e4] at hs
          repeat (first | (refine sxv hs hw ?_; clear hs; intro a hs) | refine sxc hs ?_ | (refine sxa hs hw ?_; clear hs hw; intro a b W hw hs) | (refine sxs hs hw ?_; clear hs hw; intro W hs hw))
          exact rt3 hs rfl rfl rfl rfl ⟨by rw [hT]; rfl, rfl⟩
        · have e4 : decide (n > (l.length : Int) - k) = false := by simpa using hm
          have hT : Ph.getT l = ((l.drop k).take n.toNat, k + n.toNat, 0) := by
            simp only [Ph.getT, hg]
            rw [if_neg (by simp), if_neg (by omega), if_neg (by omega)]
          rw [e4] at hs
          repeat (first | (refine sxv hs hw ?_; clear hs; intro a hs) | refine sxc hs ?_ | (refine sxa hs hw ?_; clear hs hw; intro a b W hw hs) | (refine sxs hs hw ?_; clear hs hw; intro W hs hw))
          have e5 : IntKind.i64.wrap ((k : Int) + n) = (k : Int) + n := i64s (by omega) (by omega)
          rw [e5] at hs
          refine st_slice_lh_b (hs := hs) (r := r) (h0 := by omega) (h1 := by omega) (h2 := by omega) (m := (l.drop k).take n.toNat) (hm := by rw [show ((k : Int) + n).toNat - (k : Int).toNat = n.toNat by omega, show (k : Int).toNat = k by omega]) (c := ?_)
          clear hs; intro a ad2 cap2 hr2 hs
          refine st_string_b hs (r := hr2) (k := ?_)
          clear hs; intro a hs
          repeat (first | (refine sxv hs hw ?_; clear hs; intro a hs) | refine sxc hs ?_ | (refine sxa hs hw ?_; clear hs hw; intro a b W hw hs) | (refine sxs hs hw ?_; clear hs hw; intro W hs hw))
          rw [e5] at hs
          repeat (first | (refine sxv hs hw ?_; clear hs; intro a hs) | refine sxc hs ?_ | (refine sxa hs hw ?_; clear hs hw; intro a b W hw hs) | (refine sxs hs hw ?_; clear hs hw; intro W hs hw))
          refine rt3 hs rfl rfl rfl rfl ⟨?_, rfl⟩
          rw [hT]
          simp only
          rw [show (((k + n.toNat : Nat) : Int)) = (k : Int) + n by omega]
  · have e1 : (e != 0) = true := by simpa using he
    have hT : Ph.getT l = ([], 0, e) := by simp [Ph.getT, hg, he]
    repeat (first | (refine sxv hs hw ?_; clear hs; intro a hs) | refine sxc hs ?_ | (refine sxa hs hw ?_; clear hs hw; intro a b W hw hs) | (refine sxs hs hw ?_; clear hs hw; intro W hs hw))
    rw [e1] at hs
    repeat (first | (refine sxv hs hw ?_; clear hs; intro a hs) | refine sxc hs ?_ | (refine sxa hs hw ?_; clear hs hw; intro a b W hw hs) | (refine sxs hs hw ?_; clear hs hw; intro W hs hw))
    exact rt3 hs rfl rfl rfl rfl ⟨by rw [hT]; rfl, rfl⟩

/-- What bytes begin with, as a raw value. -/
def getR (l : List UInt8) : (Int × Int × ByteArray) × Nat × Int :=
  let g := Ph.getI l
  if g.2.2 ≠ 0 then ((0, 0, ⟨#[]⟩), 0, g.2.2)
  else if g.1 = 0 then ((0, 0, ⟨#[]⟩), g.2.1, 0)
  else if g.1 = 1 then
    let h := Ph.getI (l.drop g.2.1)
    if h.2.2 ≠ 0 then ((0, 0, ⟨#[]⟩), 0, h.2.2) else ((1, h.1, ⟨#[]⟩), g.2.1 + h.2.1, 0)
  else if g.1 = 2 then
    let h := Ph.getT (l.drop g.2.1)
    if h.2.2 ≠ 0 then ((0, 0, ⟨#[]⟩), 0, h.2.2)
    else if (ofRaw 2 0 ⟨h.1.toArray⟩).2 ≠ 0 then ((0, 0, ⟨#[]⟩), 0, 1)
    else ((2, 0, ⟨h.1.toArray⟩), g.2.1 + h.2.1, 0)
  else ((0, 0, ⟨#[]⟩), 0, 1)
theorem ofRaw_err (k n : Int) (s : ByteArray) : (ofRaw k n s).2 = 0 ∨ (ofRaw k n s).2 = 1 := by
  unfold ofRaw
  split
  · exact .inl rfl
  · split
    · exact .inl rfl
    · split
      · exact .inl rfl
      · exact .inr rfl
theorem ofRaw_int (n : Int) : (ofRaw 1 n ⟨#[]⟩).2 = 0 := by
  unfold ofRaw
  rw [if_neg (fun h => by have := h.1; omega), if_pos ⟨rfl, rfl⟩]
theorem ofRaw_zero : (ofRaw 0 0 ⟨#[]⟩).2 = 0 := by
  unfold ofRaw
  rw [if_pos ⟨rfl, rfl, rfl⟩]
theorem ofRaw_other (k : Int) (h0 : k ≠ 0) (h1 : k ≠ 1) (h2 : k ≠ 2) : (ofRaw k 0 ⟨#[]⟩).2 = 1 := by
  unfold ofRaw
  rw [if_neg (fun h => h0 h.1), if_neg (fun h => h1 h.1), if_neg (fun h => h2 h.1)]
theorem getT_size (l : List UInt8) : (⟨(Ph.getT l).1.toArray⟩ : ByteArray).size ≤ l.length := by
  show (Ph.getT l).1.toArray.size ≤ _
  unfold Ph.getT
  simp only
  split
  · simp
  · split
    · simp
    · split
      · simp
      · simp; omega
theorem getT_le (l : List UInt8) : (Ph.getT l).2.1 ≤ l.length := by
  have := Ph.getI_le l
  unfold Ph.getT
  simp only
  split
  · simp
  · split
    · simp
    · split
      · simp
      · simp only; omega

set_option maxHeartbeats 8000000 in
theorem value_Get (w : World) (v : Value) (l : List UInt8) (r : RdB w v l) (hT : Tabs w) :
    Calls Tryd.prog 56 ⟨[v]⟩ w fun e W' => e = .returned (.tuple #[.agg #[.int .i64 (getR l).1.1, .int .i64 (getR l).1.2.1, .string (getR l).1.2.2], .int .i64 (getR l).2.1, .int .i64 (getR l).2.2]) ∧ Below w.heap.size w W' := by
  have hlen : l.length ≤ 9223372036854775807 := by have := r.len; exact this
  have hw := Has.start (G := 0) (w := w) (Nat.zero_le _)
  obtain ⟨ad, cap, rfl, -⟩ := r.cells
  have hle := Ph.getI_le l
  refine enter Tryd.func56 Tryd.ntmps56 rfl rfl fun a hs => ?_
  repeat (first | (refine sxv hs hw ?_; clear hs; intro a hs) | refine sxc hs ?_ | (refine sxa hs hw ?_; clear hs hw; intro a b W hw hs) | (refine sxs hs hw ?_; clear hs hw; intro W hs hw))
  have hG := num_Get _ _ l (hw.rd (by repeat (first | exact In.hd | apply In.tl)) hw.ext.size r)
  refine st_call hs (hc := hG) (k := ?_); rintro e0 W1 ⟨rfl, rfl⟩; refine ⟨_, rfl, ?_⟩; clear hs hG; intro a hs
  have gR := getR.eq_1 l
  generalize hg : Ph.getI l = g at *
  obtain ⟨k, m, e⟩ := g
  simp only at hle hs gR
  by_cases he : e = 0
  · subst he
    simp only [ne_eq, not_true_eq_false, if_false] at gR
    by_cases k1 : k = 1
    · subst k1
      simp only [if_neg (show ¬ ((1 : Int) = 0) by decide), if_true] at gR
      repeat (first | (refine sxv hs hw ?_; clear hs; intro a hs) | refine sxc hs ?_ | (refine sxa hs hw ?_; clear hs hw; intro a b W hw hs) | (refine sxs hs hw ?_; clear hs hw; intro W hs hw))
      refine st_slice_lo_b (hs := hs) (r := r) (h0 := by omega) (h1 := by omega) (c := ?_)
      clear hs; intro a ad2 cap2 hr hs
      have hr2 := hw.rd (by repeat (first | exact In.hd | apply In.tl)) hw.ext.size hr
      rw [show (m : Int).toNat = m by omega] at hr hs hr2
      have hle2 := Ph.getI_le (l.drop m)
      rw [List.length_drop] at hle2
      have hG := num_Get _ _ _ hr2
      refine st_call hs (hc := hG) (k := ?_); rintro e0 W1 ⟨rfl, rfl⟩; refine ⟨_, rfl, ?_⟩; clear hs hG hr hr2; intro a hs
      generalize Ph.getI (l.drop m) = g at *
      obtain ⟨n, m2, e2⟩ := g
      simp only at hle2 hs gR
      by_cases he2 : e2 = 0
      · subst he2
        simp only [not_true_eq_false, if_false] at gR
        repeat (first | (refine sxv hs hw ?_; clear hs; intro a hs) | refine sxc hs ?_ | (refine sxa hs hw ?_; clear hs hw; intro a b W hw hs) | (refine sxs hs hw ?_; clear hs hw; intro W hs hw))
        have hO := ofRaw_int n
        refine st_call hs (hc := value_Of 1 n ⟨#[]⟩ _ (by decide) (hT.keep (hw.end (by repeat (first | exact In.hd | apply In.tl))))) (k := ?_); rintro e0 W1 ⟨rfl, hb⟩; refine ⟨_, rfl, ?_⟩; clear hs; intro a hs; replace hw := hw.below hb; clear hb
        rw [hO] at hs
        repeat (first | (refine sxv hs hw ?_; clear hs; intro a hs) | refine sxc hs ?_ | (refine sxa hs hw ?_; clear hs hw; intro a b W hw hs) | (refine sxs hs hw ?_; clear hs hw; intro W hs hw))
        rw [i64s (x := (m : Int) + (m2 : Int)) (by omega) (by omega)] at hs
        repeat (first | (refine sxv hs hw ?_; clear hs; intro a hs) | refine sxc hs ?_ | (refine sxa hs hw ?_; clear hs hw; intro a b W hw hs) | (refine sxs hs hw ?_; clear hs hw; intro W hs hw))
        exact rc3 hs rfl rfl hw (by repeat (first | exact In.hd | apply In.tl)) rfl rfl rfl ⟨by rw [gR]; rfl, hw.end (by repeat (first | exact In.hd | apply In.tl))⟩
      · have e1 : (e2 != 0) = true := by simpa using he2
        rw [if_pos he2] at gR
        repeat (first | (refine sxv hs hw ?_; clear hs; intro a hs) | refine sxc hs ?_ | (refine sxa hs hw ?_; clear hs hw; intro a b W hw hs) | (refine sxs hs hw ?_; clear hs hw; intro W hs hw))
        rw [e1] at hs
        repeat (first | (refine sxv hs hw ?_; clear hs; intro a hs) | refine sxc hs ?_ | (refine sxa hs hw ?_; clear hs hw; intro a b W hw hs) | (refine sxs hs hw ?_; clear hs hw; intro W hs hw))
        exact rc3 hs rfl rfl hw (by repeat (first | exact In.hd | apply In.tl)) rfl rfl rfl ⟨by rw [gR]; rfl, hw.end (by repeat (first | exact In.hd | apply In.tl))⟩
    · by_cases k2 : k = 2
      · subst k2
        simp only [if_neg (show ¬ ((2 : Int) = 0) by decide), if_neg (show ¬ ((2 : Int) = 1) by decide), if_true] at gR
        repeat (first | (refine sxv hs hw ?_; clear hs; intro a hs) | refine sxc hs ?_ | (refine sxa hs hw ?_; clear hs hw; intro a b W hw hs) | (refine sxs hs hw ?_; clear hs hw; intro W hs hw))
        refine st_slice_lo_b (hs := hs) (r := r) (h0 := by omega) (h1 := by omega) (c := ?_)
        clear hs; intro a ad2 cap2 hr hs
        have hr2 := hw.rd (by repeat (first | exact In.hd | apply In.tl)) hw.ext.size hr
        rw [show (m : Int).toNat = m by omega] at hr hs hr2
        have hle2 := getT_le (l.drop m)
        have hsz := getT_size (l.drop m)
        rw [List.length_drop] at hle2 hsz
        have hG := num_GetText _ _ _ hr2
        refine st_call hs (hc := hG) (k := ?_); rintro e0 W1 ⟨rfl, rfl⟩; refine ⟨_, rfl, ?_⟩; clear hs hG hr hr2; intro a hs
        generalize Ph.getT (l.drop m) = g at *
        obtain ⟨s, m2, e2⟩ := g
        simp only at hle2 hsz hs gR
        generalize (⟨s.toArray⟩ : ByteArray) = s at *
        by_cases he2 : e2 = 0
        · subst he2
          simp only [not_true_eq_false, if_false] at gR
          repeat (first | (refine sxv hs hw ?_; clear hs; intro a hs) | refine sxc hs ?_ | (refine sxa hs hw ?_; clear hs hw; intro a b W hw hs) | (refine sxs hs hw ?_; clear hs hw; intro W hs hw))
          refine st_call hs (hc := value_Of 2 0 s _ (by omega) (hT.keep (hw.end (by repeat (first | exact In.hd | apply In.tl))))) (k := ?_); rintro e0 W1 ⟨rfl, hb⟩; refine ⟨_, rfl, ?_⟩; clear hs; intro a hs; replace hw := hw.below hb; clear hb
          rcases ofRaw_err 2 0 s with hO | hO
          · rw [hO] at hs gR
            repeat (first | (refine sxv hs hw ?_; clear hs; intro a hs) | refine sxc hs ?_ | (refine sxa hs hw ?_; clear hs hw; intro a b W hw hs) | (refine sxs hs hw ?_; clear hs hw; intro W hs hw))
            rw [i64s (x := (m : Int) + (m2 : Int)) (by omega) (by omega)] at hs
            repeat (first | (refine sxv hs hw ?_; clear hs; intro a hs) | refine sxc hs ?_ | (refine sxa hs hw ?_; clear hs hw; intro a b W hw hs) | (refine sxs hs hw ?_; clear hs hw; intro W hs hw))
            exact rc3 hs rfl rfl hw (by repeat (first | exact In.hd | apply In.tl)) rfl rfl rfl ⟨by rw [gR]; rfl, hw.end (by repeat (first | exact In.hd | apply In.tl))⟩
          · rw [hO] at hs gR
            repeat (first | (refine sxv hs hw ?_; clear hs; intro a hs) | refine sxc hs ?_ | (refine sxa hs hw ?_; clear hs hw; intro a b W hw hs) | (refine sxs hs hw ?_; clear hs hw; intro W hs hw))
            exact rc3 hs rfl rfl hw (by repeat (first | exact In.hd | apply In.tl)) rfl rfl rfl ⟨by rw [gR]; rfl, hw.end (by repeat (first | exact In.hd | apply In.tl))⟩
        · have e1 : (e2 != 0) = true := by simpa using he2
          rw [if_pos he2] at gR
          repeat (first | (refine sxv hs hw ?_; clear hs; intro a hs) | refine sxc hs ?_ | (refine sxa hs hw ?_; clear hs hw; intro a b W hw hs) | (refine sxs hs hw ?_; clear hs hw; intro W hs hw))
          rw [e1] at hs
          repeat (first | (refine sxv hs hw ?_; clear hs; intro a hs) | refine sxc hs ?_ | (refine sxa hs hw ?_; clear hs hw; intro a b W hw hs) | (refine sxs hs hw ?_; clear hs hw; intro W hs hw))
          exact rc3 hs rfl rfl hw (by repeat (first | exact In.hd | apply In.tl)) rfl rfl rfl ⟨by rw [gR]; rfl, hw.end (by repeat (first | exact In.hd | apply In.tl))⟩
      · have e1 : (k == 1) = false := by simpa using k1
        have e2 : (k == 2) = false := by simpa using k2
        repeat (first | (refine sxv hs hw ?_; clear hs; intro a hs) | refine sxc hs ?_ | (refine sxa hs hw ?_; clear hs hw; intro a b W hw hs) | (refine sxs hs hw ?_; clear hs hw; intro W hs hw))
        rw [e1] at hs
        repeat (first | (refine sxv hs hw ?_; clear hs; intro a hs) | refine sxc hs ?_ | (refine sxa hs hw ?_; clear hs hw; intro a b W hw hs) | (refine sxs hs hw ?_; clear hs hw; intro W hs hw))
        rw [e2] at hs
        repeat (first | (refine sxv hs hw ?_; clear hs; intro a hs) | refine sxc hs ?_ | (refine sxa hs hw ?_; clear hs hw; intro a b W hw hs) | (refine sxs hs hw ?_; clear hs hw; intro W hs hw))
        refine st_call hs (hc := value_Of k 0 ⟨#[]⟩ _ (by decide) (hT.keep (hw.end (by repeat (first | exact In.hd | apply In.tl))))) (k := ?_); rintro e0 W1 ⟨rfl, hb⟩; refine ⟨_, rfl, ?_⟩; clear hs; intro a hs; replace hw := hw.below hb; clear hb
        by_cases k0 : k = 0
        · subst k0
          have hO := ofRaw_zero
          rw [hO] at hs
          repeat (first | (refine sxv hs hw ?_; clear hs; intro a hs) | refine sxc hs ?_ | (refine sxa hs hw ?_; clear hs hw; intro a b W hw hs) | (refine sxs hs hw ?_; clear hs hw; intro W hs hw))
          rw [i64s (x := (m : Int) + 0) (by omega) (by omega), Int.add_zero] at hs
          repeat (first | (refine sxv hs hw ?_; clear hs; intro a hs) | refine sxc hs ?_ | (refine sxa hs hw ?_; clear hs hw; intro a b W hw hs) | (refine sxs hs hw ?_; clear hs hw; intro W hs hw))
          exact rc3 hs rfl rfl hw (by repeat (first | exact In.hd | apply In.tl)) rfl rfl rfl ⟨by rw [gR]; rfl, hw.end (by repeat (first | exact In.hd | apply In.tl))⟩
        · have hO := ofRaw_other k k0 k1 k2
          rw [if_neg k0, if_neg k1, if_neg k2] at gR
          rw [hO] at hs
          repeat (first | (refine sxv hs hw ?_; clear hs; intro a hs) | refine sxc hs ?_ | (refine sxa hs hw ?_; clear hs hw; intro a b W hw hs) | (refine sxs hs hw ?_; clear hs hw; intro W hs hw))
          exact rc3 hs rfl rfl hw (by repeat (first | exact In.hd | apply In.tl)) rfl rfl rfl ⟨by rw [gR]; rfl, hw.end (by repeat (first | exact In.hd | apply In.tl))⟩
  · have e1 : (e != 0) = true := by simpa using he
    rw [if_pos he] at gR
    repeat (first | (refine sxv hs hw ?_; clear hs; intro a hs) | refine sxc hs ?_ | (refine sxa hs hw ?_; clear hs hw; intro a b W hw hs) | (refine sxs hs hw ?_; clear hs hw; intro W hs hw))
    rw [e1] at hs
    repeat (first | (refine sxv hs hw ?_; clear hs; intro a hs) | refine sxc hs ?_ | (refine sxa hs hw ?_; clear hs hw; intro a b W hw hs) | (refine sxs hs hw ?_; clear hs hw; intro W hs hw))
    exact rc3 hs rfl rfl hw (by repeat (first | exact In.hd | apply In.tl)) rfl rfl rfl ⟨by rw [gR]; rfl, hw.end (by repeat (first | exact In.hd | apply In.tl))⟩

end Go.Proofs.YthpenehgfogloaaDoor.Sw

/-
  The walks of op's reader: took, num, value.
-/
set_option linter.unusedVariables false
set_option maxRecDepth 10000
namespace Go.Proofs.YthpenehgfogloaaDoor.Sw
open Go.RowKit Go.Sx

-- pieces

/-- The reader takes bytes off. -/
def tk (s : List UInt8 × Bool) (n : Nat) (err : Int) : List UInt8 × Bool := (if s.2 || err != 0 then s.1 else s.1.drop n, s.2 || err != 0)

theorem getR_le (l : List UInt8) : (getR l).2.1 ≤ l.length := by
  have h1 := Ph.getI_le l
  unfold getR
  simp only
  split
  · simp
  · split
    · exact h1
    · split
      · split
        · simp
        · have := Ph.getI_le (l.drop (Ph.getI l).2.1)
          rw [List.length_drop] at this
          simp only; omega
      · split
        · split
          · simp
          · have := getT_le (l.drop (Ph.getI l).2.1)
            rw [List.length_drop] at this
            split <;> simp only <;> omega
        · simp

theorem Has_rot3 {G : Nat} {w W : World} {x y q : Res} {R : List Res} (h : Has G w W (x :: y :: q :: R)) : Has G w W (q :: x :: y :: R) :=
  ⟨h.ext, h.glob, HasIn.swap (let ⟨F1, h1, h2, h3⟩ := h.has; ⟨F1, h1, h2, HasIn.swap h3⟩)⟩

end Go.Proofs.YthpenehgfogloaaDoor.Sw
