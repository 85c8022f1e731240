/-
  Texts of the proof, one behind the other (part 5).
-/
import Derived.Test.YtmalklakaalaoaaGreatDoorM4
set_option linter.unusedVariables false
set_option maxRecDepth 10000
namespace Go.Proofs.YtmalklakaalaoaaGreatDoor.Sw
open Go.RowKit Go.Sx
def unV : Value → DV
  | .agg ⟨[.iface _ (.int _ n)]⟩ => .inl n
  | .agg ⟨[.iface _ (.string s)]⟩ => .inr s
  | _ => .inl 0
theorem unV_vOf (x : DV) : unV (vOf x) = x := by rcases x with n | s <;> rfl
theorem kvOf_perm {d d' : Dm} (h : (kvOf d).Perm (kvOf d')) : d.Perm d' := by
  have := h.map fun p => (p.1, unV p.2)
  unfold kvOf at this
  rw [List.map_map, List.map_map] at this
  have e : ((fun p : ByteArray × Value => (p.1, unV p.2)) ∘ fun p : ByteArray × DV => (p.1, vOf p.2)) = id := by
    funext p
    simp [unV_vOf]
  rw [e] at this
  simpa using this
theorem kvOf_keys (d : Dm) : (kvOf d).map (·.1) = d.map (·.1) := by simp [kvOf]
structure CopS where
  dn : Dm
  left : KV
  cur : Option (ByteArray × Value)
set_option maxHeartbeats 8000000 in
theorem maps_Copy (w0 W : World) (m1 m2 : Nat) (d : Dm) (R : List Res) (hk : dKeys d) (hw : Has 0 w0 W (MapOf m1 [] :: MapOf m2 (kvOf d) :: R)) :
    Calls Tryz.prog 105 ⟨[.map (some m1), .map (some m2)]⟩ W fun e W' => e = .returned (.tuple #[]) ∧ ∃ d', d'.Perm d ∧ Has 0 w0 W' (MapOf m1 (kvOf d') :: MapOf m2 (kvOf d) :: R) := by
  refine enter Tryz.func105 Tryz.ntmps105 rfl rfl fun a hs => ?_
  repeat (first | (refine sxv hs hw ?_; clear hs; intro a hs) | refine sxc hs ?_ | (refine sxa hs hw ?_; clear hs hw; intro a b W hw hs) | (refine sxs hs hw ?_; clear hs hw; intro W hs hw))
  refine st_range hs (hw := hw.swap2) (c := ?_); clear hs hw; intro a it W hw hs
  repeat (first | (refine sxv hs hw ?_; clear hs; intro a hs) | refine sxc hs ?_ | (refine sxa hs hw ?_; clear hs hw; intro a b W hw hs) | (refine sxs hs hw ?_; clear hs hw; intro W hs hw))
  refine st_loop (σ := CopS) (fun t => [(0, .map (some m1)), (7, .pointer (some ⟨it, 0, none⟩))]) (fun t => Ranged m2 it (kvOf d) t.left t.cur :: MapOf m1 (kvOf t.dn) :: R) (fun t => (kvOf t.dn ++ t.left).Perm (kvOf d)) (fun t => t.left.length) ⟨[], kvOf d, none⟩ (List.Perm.refl _) hs ⟨rfl, rfl, trivial⟩ hw ?_
  clear hs hw
  rintro ⟨dn, left, cur⟩ a W hp hs hw
  simp only at hp hs hw
  repeat (first | (refine sxv hs hw ?_; clear hs; intro a hs) | refine sxc hs ?_ | (refine sxa hs hw ?_; clear hs hw; intro a b W hw hs) | (refine sxs hs hw ?_; clear hs hw; intro W hs hw))
  refine st_next hs (hw := hw) (c1 := ?_) (c2 := ?_)
  · clear hs; intro a hl hs
    subst hl
    repeat (first | (refine sxv hs hw ?_; clear hs; intro a hs) | refine sxc hs ?_ | (refine sxa hs hw ?_; clear hs hw; intro a b W hw hs) | (refine sxs hs hw ?_; clear hs hw; intro W hs hw))
    rw [List.append_nil] at hp
    exact rt0n hs rfl ⟨rfl, dn, kvOf_perm hp, hw.unranged.swap2⟩
  · clear hs hw; intro a W p left' hpl hw hs
    have hp2 : (kvOf dn ++ p :: left').Perm (kvOf d) := (List.Perm.append_left _ hpl.symm).trans hp
    obtain ⟨k, x, rfl⟩ : ∃ k x, p = (k, vOf x) := by
      have : p ∈ kvOf d := hp2.mem_iff.1 (by simp)
      obtain ⟨q, _, rfl⟩ := List.mem_map.1 this
      exact ⟨q.1, q.2, rfl⟩
    have hnk : k ∉ (kvOf dn).map (·.1) := by
      have h1 : ((kvOf dn ++ (k, vOf x) :: left').map (·.1)).Nodup := (hp2.map _).nodup_iff.2 (by rw [kvOf_keys]; exact hk)
      rw [List.map_append, List.nodup_append] at h1
      intro h2
      exact h1.2.2 k h2 k (by simp) rfl
    have hnew : dset (kvOf dn) k (vOf x) = kvOf (dn ++ [(k, x)]) := by
      rw [dset_new _ hnk]; simp [kvOf]
    simp only at hs
    repeat (first | (refine sxv hs hw ?_; clear hs; intro a hs) | refine sxc hs ?_ | (refine sxa hs hw ?_; clear hs hw; intro a b W hw hs) | (refine sxs hs hw ?_; clear hs hw; intro W hs hw))
    refine st_entry hs (hw := hw) (c := ?_); clear hs; intro a hs
    simp only at hs
    repeat (first | (refine sxv hs hw ?_; clear hs; intro a hs) | refine sxc hs ?_ | (refine sxa hs hw ?_; clear hs hw; intro a b W hw hs) | (refine sxs hs hw ?_; clear hs hw; intro W hs hw))
    refine st_store hs (hw := hw) (h1 := one_cellX (some x)) (k := ?_); clear hs hw; intro W hs hw
    repeat (first | (refine sxv hs hw ?_; clear hs; intro a hs) | refine sxc hs ?_ | (refine sxa hs hw ?_; clear hs hw; intro a b W hw hs) | (refine sxs hs hw ?_; clear hs hw; intro W hs hw))
    refine st_update hs (hw := hw) (v := vOf x) (c := ?_); clear hs hw; intro W hs hw
    rw [hnew] at hw
    repeat (first | (refine sxv hs hw ?_; clear hs; intro a hs) | refine sxc hs ?_ | (refine sxa hs hw ?_; clear hs hw; intro a b W hw hs) | (refine sxs hs hw ?_; clear hs hw; intro W hs hw))
    refine st_again ⟨dn ++ [(k, x)], left', some (k, vOf x)⟩ hs (hw.sub (List.Sublist.cons _ (List.Sublist.refl _))) ?_ ?_ ⟨rfl, rfl, trivial⟩
    · show (kvOf (dn ++ [(k, x)]) ++ left').Perm _
      have : kvOf (dn ++ [(k, x)]) ++ left' = kvOf dn ++ (k, vOf x) :: left' := by simp [kvOf]
      rw [this]; exact hp2
    · show left'.length < left.length
      rw [hpl.length_eq]; simp
set_option maxHeartbeats 8000000 in
theorem doc_Copy (w0 W : World) (p : Nat) (d : Dm) (R : List Res) (hw : Has 0 w0 W (DocAt p d :: R)) :
    Calls Tryz.prog 77 ⟨[.pointer (some ⟨p, 0, none⟩)]⟩ W fun e W' => ∃ c, e = .returned (.pointer (some ⟨c, 0, none⟩)) ∧ Has 0 w0 W' (DocAt c d :: DocAt p d :: R) := by
  refine enter Tryz.func77 Tryz.ntmps77 rfl rfl fun a hs => ?_
  repeat (first | (refine sxv hs hw ?_; clear hs; intro a hs) | refine sxc hs ?_ | (refine sxa hs hw ?_; clear hs hw; intro a b W hw hs) | (refine sxs hs hw ?_; clear hs hw; intro W hs hw) | ((with_reducible first | refine st_ptrSome hs (k := ?_) | refine st_ptrNone hs (k := ?_)); clear hs; intro a hs))
  refine st_call hs (hc := doc_New w0 _ _ hw) (k := ?_); rintro e0 W1 ⟨c, rfl, hw1⟩; refine ⟨_, rfl, ?_⟩; clear hs hw; intro a hs; have hw := hw1; clear hw1
  repeat (first | (refine sxv hs hw ?_; clear hs; intro a hs) | refine sxc hs ?_ | (refine sxa hs hw ?_; clear hs hw; intro a b W hw hs) | (refine sxs hs hw ?_; clear hs hw; intro W hs hw) | ((with_reducible first | refine st_ptrSome hs (k := ?_) | refine st_ptrNone hs (k := ?_)); clear hs; intro a hs))
  obtain ⟨m1, d1, hp1, -, hw⟩ := docOpen hw
  obtain rfl : d1 = [] := List.Perm.eq_nil hp1
  obtain ⟨m2, d2, hp2, hk2, hw⟩ := docOpen (hw.perm ((List.Perm.cons _ (List.Perm.swap _ _ _)).trans (List.Perm.swap _ _ _)))
  have hw : Has 0 w0 _ (Cells c [.map (some m1)] 141 :: Cells p [.map (some m2)] 141 :: MapOf m1 (kvOf []) :: MapOf m2 (kvOf d2) :: R) := hw.perm (by repeat (first | exact List.Perm.refl _ | refine perm_pick (by repeat (first | exact Pick.hd | apply Pick.tl)) ?_))
  refine rg_draw (V := [.pointer (some ⟨c, 0, none⟩), .pointer (some ⟨c, 0, none⟩), .pointer (some ⟨c, 0 + 0, none⟩), .map (some m1), .pointer (some ⟨p, 0, none⟩), .pointer (some ⟨p, 0, none⟩), .pointer (some ⟨p, 0 + 0, none⟩), .map (some m2), .tuple #[]])
    (Rs := fun D => Cells c [.map (some m1)] 141 :: Cells p [.map (some m2)] 141 :: (if D 8 then Ex (fun d3 : Dm => MapOf m1 (kvOf d3) :: Fact (d3.Perm d2) :: []) else MapOf m1 (kvOf [])) :: MapOf m2 (kvOf d2) :: R) hs hw (ho := ⟨?_, ?_, ?_, ?_, ?_, ?_, ?_, ?_, ?c8_2, trivial⟩) (k := ?k_2)
  case c8_2 =>
    intro LD D a W hcl hi hp hs hw
    simp only [hi, Bool.false_eq_true, if_false] at hw
    have hw : Has 0 w0 W (MapOf m1 [] :: MapOf m2 (kvOf d2) :: Cells c [.map (some m1)] 141 :: Cells p [.map (some m2)] 141 :: R) := hw.perm (by repeat (first | exact List.Perm.refl _ | refine perm_pick (by repeat (first | exact Pick.hd | apply Pick.tl)) ?_))
    refine st_call hs (hc := maps_Copy w0 _ m1 m2 d2 _ ((dKeys_perm hp2).2 hk2) hw) (k := ?_); rintro e0 W1 ⟨rfl, d3, h3, hw1⟩; refine ⟨_, rfl, ?_⟩; clear hs hw; intro a hs; have hw := hw1; clear hw1
    repeat (first | (refine sxv hs hw ?_; clear hs; intro a hs) | refine sxc hs ?_ | (refine sxa hs hw ?_; clear hs hw; intro a b W hw hs) | (refine sxs hs hw ?_; clear hs hw; intro W hs hw))
    refine ⟨hs, ?_⟩
    have hw := Has.shut (Ls := fun d3 : Dm => MapOf m1 (kvOf d3) :: Fact (d3.Perm d2) :: []) d3 (hw.fact h3 |>.perm (List.Perm.swap _ _ _))
    exact hw.perm (by repeat (first | exact List.Perm.refl _ | refine perm_pick (by repeat (first | exact Pick.hd | apply Pick.tl)) ?_))
  case k_2 =>
    clear hs hw
    intro a W hs hw
    replace hw : Has 0 w0 W (Cells c [.map (some m1)] 141 :: Cells p [.map (some m2)] 141 :: Ex (fun d3 : Dm => MapOf m1 (kvOf d3) :: Fact (d3.Perm d2) :: []) :: MapOf m2 (kvOf d2) :: R) := hw
    obtain ⟨d3, hw⟩ := Has.open (hw.perm (List.Perm.trans (List.Perm.cons _ (List.Perm.swap _ _ _)) (List.Perm.swap _ _ _)))
    have hw : Has 0 w0 W (MapOf m1 (kvOf d3) :: Fact (d3.Perm d2) :: Cells c [.map (some m1)] 141 :: Cells p [.map (some m2)] 141 :: MapOf m2 (kvOf d2) :: R) := hw
    have h3 := hw.told (In.tl In.hd)
    repeat (first | (refine sxv hs hw ?_; clear hs; intro a hs) | refine sxc hs ?_ | (refine sxa hs hw ?_; clear hs hw; intro a b W hw hs) | (refine sxs hs hw ?_; clear hs hw; intro W hs hw))
    have hw : Has 0 w0 _ (Cells p [.map (some m2)] 141 :: MapOf m2 (kvOf d2) :: Cells c [.map (some m1)] 141 :: MapOf m1 (kvOf d3) :: R) := hw.drop2.perm (by repeat (first | exact List.Perm.refl _ | refine perm_pick (by repeat (first | exact Pick.hd | apply Pick.tl)) ?_))
    have hw := docShut hw hp2 hk2
    have hw : Has 0 w0 _ (Cells c [.map (some m1)] 141 :: MapOf m1 (kvOf d3) :: DocAt p d :: R) := hw.perm (by repeat (first | exact List.Perm.refl _ | refine perm_pick (by repeat (first | exact Pick.hd | apply Pick.tl)) ?_))
    have hw := docShut hw (h3.trans hp2) hk2
    exact rt1 hs rfl rfl ⟨c, rfl, hw⟩
  all_goals
    intro LD D a W hcl hi hp hs hw
    repeat (first | (refine sxv hs hw ?_; clear hs; intro a hs) | refine sxc hs ?_ | (refine sxa hs hw ?_; clear hs hw; intro a b W hw hs) | (refine sxs hs hw ?_; clear hs hw; intro W hs hw))
    exact ⟨hs, hw⟩
end Go.Proofs.YtmalklakaalaoaaGreatDoor.Sw

set_option linter.unusedVariables false
set_option maxRecDepth 10000
namespace Go.Proofs.YtmalklakaalaoaaGreatDoor.Sw
open Go.RowKit Go.Sx
-- pieces
def mayD (o : OpD) : Bool := mayOp o.kind o.key o.vk o.vn o.vs o.ok o.on o.os o.n
def mayBatch (c q : Int) (l : List OpD) : Bool :=
  !(decide (c < 1)) && !(decide (c > 5)) && !(decide (q < 1)) && !(decide (q > 1099511627776)) && !(decide ((l.length : Int) < 1)) && !(decide ((l.length : Int) > 8)) && l.all mayD && decide (((textB c q l).length : Int) ≤ 1200)
set_option maxHeartbeats 8000000 in
theorem op_MayBatch (c q : Int) (l : List OpD) (sv : Value) (w : World) (hc : i64 c) (hq : i64 q) (ho : ∀ o ∈ l, OpOk o) (r : Rd w 9 sv l.length (l.flatMap opCells)) (hT : Tabs w) :
    Calls Tryz.prog 66 ⟨[.agg ⟨[.int .i64 c, .int .i64 q, sv]⟩]⟩ w fun e w' => e = .returned (.bool (mayBatch c q l)) ∧ Below w.heap.size w w' := by
  have hw := Has.start (G := 0) (w := w) (Nat.zero_le _)
  obtain ⟨sad, scap, rfl⟩ : ∃ ad cap, sv = .slice ad l.length cap := by obtain ⟨_, ad, cap, e, _⟩ := r; exact ⟨ad, cap, e⟩
  have hlen : l.length ≤ 9223372036854775807 := r.len
  refine enter Tryz.func66 Tryz.ntmps66 rfl rfl fun a hs => ?_
  repeat (first | (refine sxv hs hw ?_; clear hs; intro a hs) | refine sxc hs ?_ | (refine sxa hs hw ?_; clear hs hw; intro a b W hw hs) | (refine sxs hs hw ?_; clear hs hw; intro W hs hw))
  cases h0 : decide (c < 1) with
  | true =>
    rw [h0] at hs
    repeat (first | (refine sxv hs hw ?_; clear hs; intro a hs) | refine sxc hs ?_ | (refine sxa hs hw ?_; clear hs hw; intro a b W hw hs) | (refine sxs hs hw ?_; clear hs hw; intro W hs hw))
    exact rt1 hs rfl rfl ⟨by simp only [mayBatch, h0]; rfl, hw.end (by repeat (first | exact In.hd | apply In.tl))⟩
  | false =>
  rw [h0] at hs
  repeat (first | (refine sxv hs hw ?_; clear hs; intro a hs) | refine sxc hs ?_ | (refine sxa hs hw ?_; clear hs hw; intro a b W hw hs) | (refine sxs hs hw ?_; clear hs hw; intro W hs hw))
  cases h1 : decide (c > 5) with
  | true =>
    rw [h1] at hs
    repeat (first | (refine sxv hs hw ?_; clear hs; intro a hs) | refine sxc hs ?_ | (refine sxa hs hw ?_; clear hs hw; intro a b W hw hs) | (refine sxs hs hw ?_; clear hs hw; intro W hs hw))
    exact rt1 hs rfl rfl ⟨by simp only [mayBatch, h0, h1]; rfl, hw.end (by repeat (first | exact In.hd | apply In.tl))⟩
  | false =>
  rw [h1] at hs
  repeat (first | (refine sxv hs hw ?_; clear hs; intro a hs) | refine sxc hs ?_ | (refine sxa hs hw ?_; clear hs hw; intro a b W hw hs) | (refine sxs hs hw ?_; clear hs hw; intro W hs hw))
  cases h2 : decide (q < 1) with
  | true =>
    rw [h2] at hs
    repeat (first | (refine sxv hs hw ?_; clear hs; intro a hs) | refine sxc hs ?_ | (refine sxa hs hw ?_; clear hs hw; intro a b W hw hs) | (refine sxs hs hw ?_; clear hs hw; intro W hs hw))
    exact rt1 hs rfl rfl ⟨by simp only [mayBatch, h0, h1, h2]; rfl, hw.end (by repeat (first | exact In.hd | apply In.tl))⟩
  | false =>
  rw [h2] at hs
  repeat (first | (refine sxv hs hw ?_; clear hs; intro a hs) | refine sxc hs ?_ | (refine sxa hs hw ?_; clear hs hw; intro a b W hw hs) | (refine sxs hs hw ?_; clear hs hw; intro W hs hw))
  cases h3 : decide (q > 1099511627776) with
  | true =>
    rw [h3] at hs
    repeat (first | (refine sxv hs hw ?_; clear hs; intro a hs) | refine sxc hs ?_ | (refine sxa hs hw ?_; clear hs hw; intro a b W hw hs) | (refine sxs hs hw ?_; clear hs hw; intro W hs hw))
    exact rt1 hs rfl rfl ⟨by simp only [mayBatch, h0, h1, h2, h3]; rfl, hw.end (by repeat (first | exact In.hd | apply In.tl))⟩
  | false =>
  rw [h3] at hs
  repeat (first | (refine sxv hs hw ?_; clear hs; intro a hs) | refine sxc hs ?_ | (refine sxa hs hw ?_; clear hs hw; intro a b W hw hs) | (refine sxs hs hw ?_; clear hs hw; intro W hs hw))
  cases h4 : decide ((l.length : Int) < 1) with
  | true =>
    rw [h4] at hs
    repeat (first | (refine sxv hs hw ?_; clear hs; intro a hs) | refine sxc hs ?_ | (refine sxa hs hw ?_; clear hs hw; intro a b W hw hs) | (refine sxs hs hw ?_; clear hs hw; intro W hs hw))
    exact rt1 hs rfl rfl ⟨by simp only [mayBatch, h0, h1, h2, h3, h4]; rfl, hw.end (by repeat (first | exact In.hd | apply In.tl))⟩
  | false =>
  rw [h4] at hs
  repeat (first | (refine sxv hs hw ?_; clear hs; intro a hs) | refine sxc hs ?_ | (refine sxa hs hw ?_; clear hs hw; intro a b W hw hs) | (refine sxs hs hw ?_; clear hs hw; intro W hs hw))
  cases h5 : decide ((l.length : Int) > 8) with
  | true =>
    rw [h5] at hs
    repeat (first | (refine sxv hs hw ?_; clear hs; intro a hs) | refine sxc hs ?_ | (refine sxa hs hw ?_; clear hs hw; intro a b W hw hs) | (refine sxs hs hw ?_; clear hs hw; intro W hs hw))
    exact rt1 hs rfl rfl ⟨by simp only [mayBatch, h0, h1, h2, h3, h4, h5]; rfl, hw.end (by repeat (first | exact In.hd | apply In.tl))⟩
  | false =>
  rw [h5] at hs
  repeat (first | (refine sxv hs hw ?_; clear hs; intro a hs) | refine sxc hs ?_ | (refine sxa hs hw ?_; clear hs hw; intro a b W hw hs) | (refine sxs hs hw ?_; clear hs hw; intro W hs hw))
  have h8 : l.length ≤ 8 := by simp at h5; omega
  have hmb : mayBatch c q l = (l.all mayD && decide (((textB c q l).length : Int) ≤ 1200)) := by unfold mayBatch; rw [h0, h1, h2, h3, h4, h5]; simp
  rw [hmb]
  clear hmb h0 h1 h2 h3 h4 h5
  obtain ⟨b1, q1⟩ := nm1 hw; subst q1
  have hw : Has 0 w _ (Cells b1 [.int .i64 c, .int .i64 q, .slice sad l.length scap] 36 :: Old w 0 :: []) := hw
  refine st_loop (σ := Nat) (fun i => [(1, .pointer (some ⟨b1, 0, none⟩)), (36, .slice sad l.length scap), (37, .int .i64 (l.length : Int)), (38, .int .i64 (i : Int))]) (fun _ => Cells b1 [.int .i64 c, .int .i64 q, .slice sad l.length scap] 36 :: Old w 0 :: []) (fun i => i ≤ l.length ∧ (l.take i).all mayD = true) (fun i => l.length - i) 0 ⟨Nat.zero_le _, rfl⟩ hs ⟨rfl, rfl, rfl, rfl, trivial⟩ hw ?_
  clear hs hw
  rintro i a W ⟨hi, ha⟩ hs hw
  repeat (first | (refine sxv hs hw ?_; clear hs; intro a hs) | refine sxc hs ?_ | (refine sxa hs hw ?_; clear hs hw; intro a b W hw hs) | (refine sxs hs hw ?_; clear hs hw; intro W hs hw))
  refine cd_split hs (kt := fun hcc => ?_) (kf := fun hcc => ?_)
  · have hi' : i < l.length := by simpa using hcc
    obtain ⟨o, hoi⟩ : ∃ o, l[i]? = some o := ⟨l[i], List.getElem?_eq_getElem hi'⟩
    have hok := ho o (List.mem_of_getElem? hoi)
    have hnext : (l.take (i + 1)).all mayD = mayD o := by
      rw [List.take_add_one, hoi, List.all_append, ha]; simp
    have hall : mayD o = false → l.all mayD = false := fun h => by
      rw [List.all_eq_false]
      exact ⟨o, List.mem_of_getElem? hoi, by rw [h]; simp⟩
    repeat (first | (refine sxv hs hw ?_; clear hs; intro a hs) | refine sxc hs ?_ | (refine sxa hs hw ?_; clear hs hw; intro a b W hw hs) | (refine sxs hs hw ?_; clear hs hw; intro W hs hw))
    refine st_index_op hs (r := hw.rd (by repeat (first | exact In.hd | apply In.tl)) hw.ext.size r) (ho := hoi) (c := ?_); clear hs; intro a p off hpc hs
    refine st_load_ats (z := opCells ⟨0, ⟨#[]⟩, 0, 0, ⟨#[]⟩, 0, 0, ⟨#[]⟩, 0⟩) hs (hc := hpc) (hl := rfl) (c := ?_); clear hs; intro a hs
    obtain ⟨kind, key, vk, vn, vs, ok, on, os, n⟩ := o
    simp only [opCells] at hs
    clear hpc
    have hkey := hok.key
    have hvs := hok.vs
    have hos := hok.os
    simp only at hkey hvs hos
    repeat (first | (refine sxv hs hw ?_; clear hs; intro a hs) | refine sxc hs ?_ | (refine sxa hs hw ?_; clear hs hw; intro a b W hw hs) | (refine sxs hs hw ?_; clear hs hw; intro W hs hw))
    refine st_call hs (hc := op_May kind key vk vn vs ok on os n _ (by omega) (by omega) (by omega) (hT.keep (hw.end (by repeat (first | exact In.hd | apply In.tl))))) (k := ?_); rintro e0 W1 ⟨rfl, hb⟩; refine ⟨_, rfl, ?_⟩; clear hs; intro a hs; replace hw := hw.below hb; clear hb
    rw [show mayOp kind key vk vn vs ok on os n = mayD ⟨kind, key, vk, vn, vs, ok, on, os, n⟩ from rfl] at hs
    cases hm : mayD ⟨kind, key, vk, vn, vs, ok, on, os, n⟩ with
    | false =>
      rw [hm] at hs
      repeat (first | (refine sxv hs hw ?_; clear hs; intro a hs) | refine sxc hs ?_ | (refine sxa hs hw ?_; clear hs hw; intro a b W hw hs) | (refine sxs hs hw ?_; clear hs hw; intro W hs hw))
      exact rt1 hs rfl rfl ⟨by rw [hall hm]; rfl, hw.end (by repeat (first | exact In.hd | apply In.tl))⟩
    | true =>
      rw [hm] at hs hnext
      repeat (first | (refine sxv hs hw ?_; clear hs; intro a hs) | refine sxc hs ?_ | (refine sxa hs hw ?_; clear hs hw; intro a b W hw hs) | (refine sxs hs hw ?_; clear hs hw; intro W hs hw))
      have hw := hw.sub (List.Sublist.cons _ (List.Sublist.refl _))
      exact st_again (i + 1) hs hw ⟨by omega, hnext⟩ (by show l.length - (i + 1) < l.length - i; omega) ⟨rfl, rfl, rfl, int_eq (by show IntKind.i64.wrap ((i : Int) + 1) = ((i + 1 : Nat) : Int); rw [IntWalk.i64_in _ (by omega)]; omega), trivial⟩
  · have hi' : i = l.length := by simp at hcc; omega
    subst hi'
    rw [List.take_length] at ha
    rw [ha]
    repeat (first | (refine sxv hs hw ?_; clear hs; intro a hs) | refine sxc hs ?_ | (refine sxa hs hw ?_; clear hs hw; intro a b W hw hs) | (refine sxs hs hw ?_; clear hs hw; intro W hs hw))
    refine st_call hs (hc := op_text c q l _ _ hc hq (by omega) ho (hw.rd (by repeat (first | exact In.hd | apply In.tl)) hw.ext.size r)) (k := ?_); rintro e0 W1 ⟨ad, cap, rfl, hw1⟩; refine ⟨_, rfl, ?_⟩; clear hs; intro a hs; replace hw := hw.call hw1; clear hw1
    repeat (first | (refine sxv hs hw ?_; clear hs; intro a hs) | refine sxc hs ?_ | (refine sxa hs hw ?_; clear hs hw; intro a b W hw hs) | (refine sxs hs hw ?_; clear hs hw; intro W hs hw))
    exact rt1 hs rfl rfl ⟨by simp, hw.end (by repeat (first | exact In.hd | apply In.tl))⟩
set_option maxHeartbeats 4000000 in
theorem op_Encode (c q : Int) (l : List OpD) (sv : Value) (w : World) (hc : i64 c) (hq : i64 q) (ho : ∀ o ∈ l, OpOk o) (r : Rd w 9 sv l.length (l.flatMap opCells)) (hT : Tabs w) :
    Calls Tryz.prog 63 ⟨[.agg ⟨[.int .i64 c, .int .i64 q, sv]⟩]⟩ w fun e w' => ∃ ad cap, e = .returned (.slice ad (if mayBatch c q l then textB c q l else []).length cap) ∧ (mayBatch c q l = false → ad = none ∧ cap = 0) ∧ Has 0 w w' (OwnB 5 (.slice ad (if mayBatch c q l then textB c q l else []).length cap) (if mayBatch c q l then textB c q l else []) :: Old w 0 :: []) := by
  have hw := Has.start (G := 0) (w := w) (Nat.zero_le _)
  obtain ⟨sad, scap, rfl⟩ : ∃ ad cap, sv = .slice ad l.length cap := by obtain ⟨_, ad, cap, e, _⟩ := r; exact ⟨ad, cap, e⟩
  have hlen : l.length ≤ 9223372036854775807 := r.len
  refine enter Tryz.func63 Tryz.ntmps63 rfl rfl fun a hs => ?_
  repeat (first | (refine sxv hs hw ?_; clear hs; intro a hs) | refine sxc hs ?_ | (refine sxa hs hw ?_; clear hs hw; intro a b W hw hs) | (refine sxs hs hw ?_; clear hs hw; intro W hs hw))
  refine st_call hs (hc := op_MayBatch c q l _ _ hc hq ho (hw.rd (by repeat (first | exact In.hd | apply In.tl)) hw.ext.size r) (hT.keep (hw.end (by repeat (first | exact In.hd | apply In.tl))))) (k := ?_); rintro e0 W1 ⟨rfl, hb⟩; refine ⟨_, rfl, ?_⟩; clear hs; intro a hs; replace hw := hw.below hb; clear hb
  cases hm : mayBatch c q l with
  | false =>
    rw [hm] at hs
    repeat (first | (refine sxv hs hw ?_; clear hs; intro a hs) | refine sxc hs ?_ | (refine sxa hs hw ?_; clear hs hw; intro a b W hw hs) | (refine sxs hs hw ?_; clear hs hw; intro W hs hw))
    have hw := (hw.nilB 5).sub (List.Sublist.cons_cons _ (List.Sublist.cons _ (List.Sublist.refl _)))
    exact rt1 hs rfl rfl ⟨none, 0, rfl, fun _ => ⟨rfl, rfl⟩, hw⟩
  | true =>
    rw [hm] at hs
    have h8 : l.length ≤ 8 := by
      unfold mayBatch at hm
      simp only [Bool.and_eq_true, Bool.not_eq_true', decide_eq_false_iff_not] at hm
      omega
    repeat (first | (refine sxv hs hw ?_; clear hs; intro a hs) | refine sxc hs ?_ | (refine sxa hs hw ?_; clear hs hw; intro a b W hw hs) | (refine sxs hs hw ?_; clear hs hw; intro W hs hw))
    refine st_call hs (hc := op_text c q l _ _ hc hq (by omega) ho (hw.rd (by repeat (first | exact In.hd | apply In.tl)) hw.ext.size r)) (k := ?_); rintro e0 W1 ⟨ad, cap, rfl, hw1⟩; refine ⟨_, rfl, ?_⟩; clear hs; intro a hs; replace hw := hw.call hw1; clear hw1
    repeat (first | (refine sxv hs hw ?_; clear hs; intro a hs) | refine sxc hs ?_ | (refine sxa hs hw ?_; clear hs hw; intro a b W hw hs) | (refine sxs hs hw ?_; clear hs hw; intro W hs hw))
    have hw := hw.sub (List.Sublist.cons_cons _ (List.Sublist.cons _ (List.Sublist.refl _)))
    exact rt1 hs rfl rfl ⟨ad, cap, rfl, fun h => (Bool.noConfusion h), hw⟩
end Go.Proofs.YtmalklakaalaoaaGreatDoor.Sw

set_option linter.unusedVariables false
set_option maxRecDepth 10000
namespace Go.Proofs.YtmalklakaalaoaaGreatDoor.Sw
open Go.RowKit Go.Sx
def goD : List OpD → Dm → Int × Dm
  | [], d => (0, d)
  | o :: l, d => if mayD o = false then (1, d) else if (doOp d o).1 = 0 then goD l (doOp d o).2 else ((doOp d o).1, d)
def applyD (d : Dm) (l : List OpD) : Int × Dm :=
  if l.length = 0 ∨ 8 < l.length then (1, d) else if (goD l d).1 = 0 then (0, (goD l d).2) else ((goD l d).1, d)
structure OpW (o : OpD) : Prop where
  key : o.key.size ≤ 9223372036854775807
  vs : o.vs.size ≤ 9223372036854775807
  os : o.os.size ≤ 9223372036854775807
  ok : mayD o = true → OpOk o
theorem OpOk.w {o : OpD} (h : OpOk o) : OpW o := ⟨by have := h.key; omega, by have := h.vs; omega, by have := h.os; omega, fun _ => h⟩
set_option maxHeartbeats 16000000 in
theorem doc_ApplyW (w0 W : World) (H : Fh) (p : Nat) (d : Dm) (l : List OpD) (sv : Value) (R : List Res) (ho : ∀ o ∈ l, OpW o) (r : RdH H 9 sv l.length (l.flatMap opCells)) (i : In (Fz H) R) (hH : (fr w0).le H) (hT : Tabs w0) (hw : Has 0 w0 W (DocAt p d :: R)) :
    Calls Tryz.prog 44 ⟨[.pointer (some ⟨p, 0, none⟩), sv]⟩ W fun e W' => e = .returned (.int .i64 (applyD d l).1) ∧ Has 0 w0 W' (DocAt p (applyD d l).2 :: R) := by
  obtain ⟨sad, scap, rfl⟩ := r.slice
  have hlen := r.len
  refine enter Tryz.func44 Tryz.ntmps44 rfl rfl fun a hs => ?_
  repeat (first | (refine sxv hs hw ?_; clear hs; intro a hs) | refine sxc hs ?_ | (refine sxa hs hw ?_; clear hs hw; intro a b W hw hs) | (refine sxs hs hw ?_; clear hs hw; intro W hs hw) | ((with_reducible first | refine st_ptrSome hs (k := ?_) | refine st_ptrNone hs (k := ?_)); clear hs; intro a hs))
  cases h0 : ((l.length : Int) == 0) with
  | true =>
    rw [h0] at hs
    repeat (first | (refine sxv hs hw ?_; clear hs; intro a hs) | refine sxc hs ?_ | (refine sxa hs hw ?_; clear hs hw; intro a b W hw hs) | (refine sxs hs hw ?_; clear hs hw; intro W hs hw) | ((with_reducible first | refine st_ptrSome hs (k := ?_) | refine st_ptrNone hs (k := ?_)); clear hs; intro a hs))
    have hX : applyD d l = (1, d) := by
      unfold applyD
      rw [if_pos (.inl (by have : (l.length : Int) = 0 := by simpa using h0
                           omega))]
    exact rt1 hs rfl rfl ⟨by rw [hX], by rw [hX]; exact hw⟩
  | false =>
  rw [h0] at hs
  repeat (first | (refine sxv hs hw ?_; clear hs; intro a hs) | refine sxc hs ?_ | (refine sxa hs hw ?_; clear hs hw; intro a b W hw hs) | (refine sxs hs hw ?_; clear hs hw; intro W hs hw) | ((with_reducible first | refine st_ptrSome hs (k := ?_) | refine st_ptrNone hs (k := ?_)); clear hs; intro a hs))
  cases h8 : decide ((l.length : Int) > 8) with
  | true =>
    rw [h8] at hs
    repeat (first | (refine sxv hs hw ?_; clear hs; intro a hs) | refine sxc hs ?_ | (refine sxa hs hw ?_; clear hs hw; intro a b W hw hs) | (refine sxs hs hw ?_; clear hs hw; intro W hs hw) | ((with_reducible first | refine st_ptrSome hs (k := ?_) | refine st_ptrNone hs (k := ?_)); clear hs; intro a hs))
    have hX : applyD d l = (1, d) := by
      unfold applyD
      rw [if_pos (.inr (by have := of_decide_eq_true h8; omega))]
    exact rt1 hs rfl rfl ⟨by rw [hX], by rw [hX]; exact hw⟩
  | false =>
  rw [h8] at hs
  repeat (first | (refine sxv hs hw ?_; clear hs; intro a hs) | refine sxc hs ?_ | (refine sxa hs hw ?_; clear hs hw; intro a b W hw hs) | (refine sxs hs hw ?_; clear hs hw; intro W hs hw) | ((with_reducible first | refine st_ptrSome hs (k := ?_) | refine st_ptrNone hs (k := ?_)); clear hs; intro a hs))
  have hX : applyD d l = (if (goD l d).1 = 0 then (0, (goD l d).2) else ((goD l d).1, d)) := by
    unfold applyD
    rw [if_neg]
    rintro (h | h)
    · rw [h] at h0; simp at h0
    · have := of_decide_eq_false h8; omega
  rw [hX]
  clear hX h0 h8
  refine st_call hs (hc := doc_Copy w0 _ p d _ hw) (k := ?_); rintro e0 W1 ⟨c, rfl, hw1⟩; refine ⟨_, rfl, ?_⟩; clear hs hw; intro a hs; have hw := hw1; clear hw1
  repeat (first | (refine sxv hs hw ?_; clear hs; intro a hs) | refine sxc hs ?_ | (refine sxa hs hw ?_; clear hs hw; intro a b W hw hs) | (refine sxs hs hw ?_; clear hs hw; intro W hs hw) | ((with_reducible first | refine st_ptrSome hs (k := ?_) | refine st_ptrNone hs (k := ?_)); clear hs; intro a hs))
  refine st_loop (σ := Nat × Dm) (fun t => [(0, .pointer (some ⟨p, 0, none⟩)), (5, .pointer (some ⟨c, 0, none⟩)), (23, .slice sad l.length scap), (24, .int .i64 (l.length : Int)), (25, .int .i64 (t.1 : Int))]) (fun t => DocAt c t.2 :: DocAt p d :: R) (fun t => t.1 ≤ l.length ∧ goD (l.drop t.1) t.2 = goD l d) (fun t => l.length - t.1) (0, d) ⟨Nat.zero_le _, rfl⟩ hs ⟨rfl, rfl, rfl, rfl, rfl, trivial⟩ hw ?_
  clear hs hw
  rintro ⟨j, dc⟩ a W ⟨hj, hgo⟩ hs hw
  simp only at hj hgo hs hw
  repeat (first | (refine sxv hs hw ?_; clear hs; intro a hs) | refine sxc hs ?_ | (refine sxa hs hw ?_; clear hs hw; intro a b W hw hs) | (refine sxs hs hw ?_; clear hs hw; intro W hs hw) | ((with_reducible first | refine st_ptrSome hs (k := ?_) | refine st_ptrNone hs (k := ?_)); clear hs; intro a hs))
  refine cd_split hs (kt := fun hcc => ?_) (kf := fun hcc => ?_)
  · have hj' : j < l.length := by have := of_decide_eq_true hcc; omega
    obtain ⟨o, hoi⟩ : ∃ o, l[j]? = some o := ⟨l[j], List.getElem?_eq_getElem hj'⟩
    have hok := ho o (List.mem_of_getElem? hoi)
    have hdrop : l.drop j = o :: l.drop (j + 1) := by
      rw [List.drop_eq_getElem_cons hj']
      congr 1
      rw [List.getElem?_eq_getElem hj'] at hoi
      exact Option.some.inj hoi
    rw [hdrop] at hgo
    simp only [goD] at hgo
    repeat (first | (refine sxv hs hw ?_; clear hs; intro a hs) | refine sxc hs ?_ | (refine sxa hs hw ?_; clear hs hw; intro a b W hw hs) | (refine sxs hs hw ?_; clear hs hw; intro W hs hw) | ((with_reducible first | refine st_ptrSome hs (k := ?_) | refine st_ptrNone hs (k := ?_)); clear hs; intro a hs))
    refine st_index_op hs (r := hw.rdH (by repeat (first | exact i | apply In.tl)) r) (ho := hoi) (c := ?_); clear hs; intro a q off hpc hs
    refine st_load_ats (z := opCells ⟨0, ⟨#[]⟩, 0, 0, ⟨#[]⟩, 0, 0, ⟨#[]⟩, 0⟩) hs (hc := hpc) (hl := rfl) (c := ?_); clear hs; intro a hs
    clear hpc
    have hM := fun W hT => op_May o.kind o.key o.vk o.vn o.vs o.ok o.on o.os o.n W hok.key hok.vs hok.os hT
    have hM : ∀ W, Tabs W → Calls Tryz.prog 78 ⟨[.agg ⟨opCells o⟩]⟩ W fun e w' => e = .returned (.bool (mayD o)) ∧ Below W.heap.size W w' := hM
    repeat (first | (refine sxv hs hw ?_; clear hs; intro a hs) | refine sxc hs ?_ | (refine sxa hs hw ?_; clear hs hw; intro a b W hw hs) | (refine sxs hs hw ?_; clear hs hw; intro W hs hw) | ((with_reducible first | refine st_ptrSome hs (k := ?_) | refine st_ptrNone hs (k := ?_)); clear hs; intro a hs))
    obtain ⟨b7, q7⟩ := nm1 hw; subst q7
    have hw : Has 0 w0 _ (Cells b7 (opCells o) 95 :: DocAt c dc :: DocAt p d :: R) := hw
    refine st_call hs (hc := hM _ (hT.keep (hw.endF (by repeat (first | exact i | apply In.tl)) hH))) (k := ?_); rintro e0 W1 ⟨rfl, hb⟩; refine ⟨_, rfl, ?_⟩; clear hs; intro a hs; replace hw := hw.below hb; clear hb
    repeat (first | (refine sxv hs hw ?_; clear hs; intro a hs) | refine sxc hs ?_ | (refine sxa hs hw ?_; clear hs hw; intro a b W hw hs) | (refine sxs hs hw ?_; clear hs hw; intro W hs hw) | ((with_reducible first | refine st_ptrSome hs (k := ?_) | refine st_ptrNone hs (k := ?_)); clear hs; intro a hs))
    cases hm : mayD o with
    | false =>
      rw [hm] at hs hgo
      rw [if_pos rfl] at hgo
      repeat (first | (refine sxv hs hw ?_; clear hs; intro a hs) | refine sxc hs ?_ | (refine sxa hs hw ?_; clear hs hw; intro a b W hw hs) | (refine sxs hs hw ?_; clear hs hw; intro W hs hw) | ((with_reducible first | refine st_ptrSome hs (k := ?_) | refine st_ptrNone hs (k := ?_)); clear hs; intro a hs))
      rw [← hgo, if_neg (by show ¬ (1 : Int) = 0; decide)]
      exact rt1 hs rfl rfl ⟨rfl, hw.sub (List.Sublist.cons _ (List.Sublist.cons _ (List.Sublist.refl _)))⟩
    | true =>
    rw [hm] at hs hgo
    rw [if_neg (by decide)] at hgo
    repeat (first | (refine sxv hs hw ?_; clear hs; intro a hs) | refine sxc hs ?_ | (refine sxa hs hw ?_; clear hs hw; intro a b W hw hs) | (refine sxs hs hw ?_; clear hs hw; intro W hs hw) | ((with_reducible first | refine st_ptrSome hs (k := ?_) | refine st_ptrNone hs (k := ?_)); clear hs; intro a hs))
    refine st_call hs (hc := doc_do w0 _ H c dc o _ (hok.ok hm) (by repeat (first | exact i | apply In.tl)) hH hT hw.swap2) (k := ?_); rintro e0 W1 ⟨rfl, hw1⟩; refine ⟨_, rfl, ?_⟩; clear hs hw; intro a hs; have hw := hw1; clear hw1
    repeat (first | (refine sxv hs hw ?_; clear hs; intro a hs) | refine sxc hs ?_ | (refine sxa hs hw ?_; clear hs hw; intro a b W hw hs) | (refine sxs hs hw ?_; clear hs hw; intro W hs hw) | ((with_reducible first | refine st_ptrSome hs (k := ?_) | refine st_ptrNone hs (k := ?_)); clear hs; intro a hs))
    cases he : ((doOp dc o).1 != 0) with
    | true =>
      rw [he] at hs
      rw [if_neg (by simpa using he)] at hgo
      repeat (first | (refine sxv hs hw ?_; clear hs; intro a hs) | refine sxc hs ?_ | (refine sxa hs hw ?_; clear hs hw; intro a b W hw hs) | (refine sxs hs hw ?_; clear hs hw; intro W hs hw) | ((with_reducible first | refine st_ptrSome hs (k := ?_) | refine st_ptrNone hs (k := ?_)); clear hs; intro a hs))
      rw [← hgo, if_neg (by simpa using he)]
      exact rt1 hs rfl rfl ⟨rfl, hw.sub (List.Sublist.cons _ (List.Sublist.cons _ (List.Sublist.refl _)))⟩
    | false =>
    rw [he] at hs
    rw [if_pos (by simpa using he)] at hgo
    repeat (first | (refine sxv hs hw ?_; clear hs; intro a hs) | refine sxc hs ?_ | (refine sxa hs hw ?_; clear hs hw; intro a b W hw hs) | (refine sxs hs hw ?_; clear hs hw; intro W hs hw) | ((with_reducible first | refine st_ptrSome hs (k := ?_) | refine st_ptrNone hs (k := ?_)); clear hs; intro a hs))
    exact st_again (j + 1, (doOp dc o).2) hs hw.drop2 ⟨by show j + 1 ≤ l.length; omega, hgo⟩ (by show l.length - (j + 1) < l.length - j; omega) ⟨rfl, rfl, rfl, rfl, int_eq (by show IntKind.i64.wrap ((j : Int) + 1) = ((j + 1 : Nat) : Int); rw [IntWalk.i64_in _ (by omega)]; omega), trivial⟩
  · have hj' : j = l.length := by have := of_decide_eq_false hcc; omega
    subst hj'
    rw [List.drop_length] at hgo
    rw [← hgo]
    simp only [goD, if_true]
    obtain ⟨m1, d1, hp1, hk1, hw⟩ := docOpen hw
    have hw : Has 0 w0 _ (DocAt p d :: Cells c [.map (some m1)] 141 :: MapOf m1 (kvOf d1) :: R) := hw.perm (by repeat (first | exact List.Perm.refl _ | refine perm_pick (by repeat (first | exact Pick.hd | apply Pick.tl)) ?_))
    obtain ⟨m2, d2, hp2, hk2, hw⟩ := docOpen hw
    repeat (first | (refine sxv hs hw ?_; clear hs; intro a hs) | refine sxc hs ?_ | (refine sxa hs hw ?_; clear hs hw; intro a b W hw hs) | (refine sxs hs hw ?_; clear hs hw; intro W hs hw) | ((with_reducible first | refine st_ptrSome hs (k := ?_) | refine st_ptrNone hs (k := ?_)); clear hs; intro a hs))
    have hw : Has 0 w0 _ (Cells p [.map (some m1)] 141 :: MapOf m1 (kvOf d1) :: MapOf m2 (kvOf d2) :: Cells c [.map (some m1)] 141 :: R) := hw.perm (by repeat (first | exact List.Perm.refl _ | refine perm_pick (by repeat (first | exact Pick.hd | apply Pick.tl)) ?_))
    have hw := docShut hw hp1 hk1
    exact rt1 hs rfl rfl ⟨rfl, hw.sub (List.Sublist.cons_cons _ (List.Sublist.cons _ (List.Sublist.cons _ (List.Sublist.refl _))))⟩
theorem doc_Apply (w0 W : World) (H : Fh) (p : Nat) (d : Dm) (l : List OpD) (sv : Value) (R : List Res) (ho : ∀ o ∈ l, OpOk o) (r : RdH H 9 sv l.length (l.flatMap opCells)) (i : In (Fz H) R) (hH : (fr w0).le H) (hT : Tabs w0) (hw : Has 0 w0 W (DocAt p d :: R)) :
    Calls Tryz.prog 44 ⟨[.pointer (some ⟨p, 0, none⟩), sv]⟩ W fun e W' => e = .returned (.int .i64 (applyD d l).1) ∧ Has 0 w0 W' (DocAt p (applyD d l).2 :: R) :=
  doc_ApplyW w0 W H p d l sv R (fun o h => (ho o h).w) r i hH hT hw
end Go.Proofs.YtmalklakaalaoaaGreatDoor.Sw

set_option linter.unusedVariables false
namespace Go.Proofs.YtmalklakaalaoaaGreatDoor.Sw
open Go.RowKit
theorem ofRaw_ok {k n : Int} {s : ByteArray} (h : (ofRaw k n s).2 = 0) : kindOf (ofRaw k n s).1 = k ∧ intIn (ofRaw k n s).1 = n ∧ (textIn (ofRaw k n s).1).toList = s.toList := by
  have hz : ∀ s : ByteArray, s.size = 0 → (⟨#[]⟩ : ByteArray).toList = s.toList := fun s h => by
    have : s = ⟨#[]⟩ := by
      apply ByteArray.ext
      exact Array.eq_empty_of_size_eq_zero h
    rw [this]
  unfold ofRaw at *
  split at h
  · rename_i c; rw [if_pos c]; exact ⟨c.1.symm, c.2.1.symm, hz s c.2.2⟩
  · rename_i c; rw [if_neg c]
    split at h
    · rename_i c2; rw [if_pos c2]; exact ⟨c2.1.symm, rfl, hz s c2.2⟩
    · rename_i c2; rw [if_neg c2]
      split at h
      · rename_i c3; rw [if_pos c3]; exact ⟨c3.1.symm, c3.2.1.symm, rfl⟩
      · cases h
end Go.Proofs.YtmalklakaalaoaaGreatDoor.Sw

set_option linter.unusedVariables false
set_option maxRecDepth 10000
namespace Go.Proofs.YtmalklakaalaoaaGreatDoor.Sw
open Go.RowKit Go.Sx
theorem ba_eq {s t : ByteArray} (h : s.toList = t.toList) : s = t := by
  rw [Go.ByteArray.toList_eq, Go.ByteArray.toList_eq] at h
  apply ByteArray.ext
  exact Array.toList_inj.1 h
theorem ba_mk (s : ByteArray) : (⟨s.data.toList.toArray⟩ : ByteArray) = s := by
  apply ByteArray.ext
  simp
theorem rawEq_iff {k n : Int} {s : ByteArray} {k' n' : Int} {s' : ByteArray} : rawEq k n s k' n' s' = true ↔ k = k' ∧ n = n' ∧ s = s' := by
  unfold rawEq
  simp only [Bool.and_eq_true, beq_iff_eq]
  constructor
  · rintro ⟨⟨h1, h2⟩, h3⟩
    exact ⟨h1, h2, ba_eq h3⟩
  · rintro ⟨rfl, rfl, rfl⟩
    exact ⟨⟨rfl, rfl⟩, rfl⟩
theorem mayBatch_parts {c q : Int} {l : List OpD} (h : mayBatch c q l = true) : (1 ≤ c ∧ c ≤ 5) ∧ (1 ≤ q ∧ q ≤ 1099511627776) ∧ (1 ≤ l.length ∧ l.length ≤ 8) ∧ l.all mayD = true ∧ (textB c q l).length ≤ 1200 := by
  unfold mayBatch at h
  simp only [Bool.and_eq_true, Bool.not_eq_true', decide_eq_false_iff_not, decide_eq_true_eq] at h
  obtain ⟨⟨⟨⟨⟨⟨⟨h1, h2⟩, h3⟩, h4⟩, h5⟩, h6⟩, h7⟩, h8⟩ := h
  exact ⟨by omega, by omega, by omega, h7, by omega⟩
def eqOp (o o' : OpD) : Bool := (o.kind == o'.kind) && (o.key.toList == o'.key.toList) && rawEq o.vk o.vn o.vs o'.vk o'.vn o'.vs && rawEq o.ok o.on o.os o'.ok o'.on o'.os && (o.n == o'.n)
def eqOps (l l' : List OpD) : Bool := (l.zip l').all fun p => eqOp p.1 p.2
def eqBatch (c q : Int) (l : List OpD) (c' q' : Int) (l' : List OpD) : Bool := (c == c') && (q == q') && (l.length == l'.length) && eqOps l l'
theorem eqOp_iff {o o' : OpD} : eqOp o o' = true ↔ o = o' := by
  obtain ⟨kind, key, vk, vn, vs, ok, on, os, n⟩ := o
  obtain ⟨kind', key', vk', vn', vs', ok', on', os', n'⟩ := o'
  unfold eqOp
  simp only [Bool.and_eq_true, beq_iff_eq, rawEq_iff, OpD.mk.injEq]
  constructor
  · rintro ⟨⟨⟨⟨h1, h2⟩, h3, h4, h5⟩, h6, h7, h8⟩, h9⟩
    exact ⟨h1, ba_eq h2, h3, h4, h5, h6, h7, h8, h9⟩
  · rintro ⟨h1, h2, h3, h4, h5, h6, h7, h8, h9⟩
    exact ⟨⟨⟨⟨h1, by rw [h2]⟩, h3, h4, h5⟩, h6, h7, h8⟩, h9⟩
theorem eqOps_iff : ∀ {l l' : List OpD}, l.length = l'.length → (eqOps l l' = true ↔ l = l')
  | [], [], _ => by simp [eqOps]
  | [], _ :: _, h => by simp at h
  | _ :: _, [], h => by simp at h
  | o :: l, o' :: l', h => by
    have ih := eqOps_iff (l := l) (l' := l') (by simpa using h)
    unfold eqOps at *
    rw [List.zip_cons_cons, List.all_cons, Bool.and_eq_true, ih, eqOp_iff, List.cons.injEq]
theorem eqBatch_iff {c q : Int} {l : List OpD} {c' q' : Int} {l' : List OpD} : eqBatch c q l c' q' l' = true ↔ c = c' ∧ q = q' ∧ l = l' := by
  unfold eqBatch
  simp only [Bool.and_eq_true, beq_iff_eq]
  constructor
  · rintro ⟨⟨⟨h1, h2⟩, h3⟩, h4⟩
    exact ⟨h1, h2, (eqOps_iff h3).1 h4⟩
  · rintro ⟨h1, h2, rfl⟩
    exact ⟨⟨⟨h1, h2⟩, rfl⟩, (eqOps_iff rfl).2 rfl⟩
theorem textB_pos (c q : Int) (l : List OpD) : 0 < (textB c q l).length := by
  have h4 : 0 < (Ph.putI c).length := List.length_pos_iff.2 (Ph.putI_ne_nil c)
  unfold textB headB
  simp only [List.length_append]
  omega
end Go.Proofs.YtmalklakaalaoaaGreatDoor.Sw

set_option linter.unusedVariables false
namespace Go.Sx
open Go.RowKit
def Ch {α : Type} (R : α → List Value → Prop) : List α → List Value → Prop
  | [], cs => cs = []
  | a :: l, cs => ∃ c cs', cs = c ++ cs' ∧ R a c ∧ Ch R l cs'
section
variable {α : Type} {R R' : α → List Value → Prop} {k : Nat}
theorem Ch.length (hk : ∀ a c, R a c → c.length = k) : ∀ {l : List α} {cs : List Value}, Ch R l cs → cs.length = l.length * k
  | [], cs, h => by
    have h : cs = [] := h
    subst h; simp
  | a :: l, _, ⟨c, cs', rfl, h1, h2⟩ => by
    have := Ch.length hk h2
    have := hk a c h1
    rw [List.length_append, List.length_cons, Nat.add_mul]; omega
theorem Ch.app : ∀ {l m : List α} {cs ds : List Value}, Ch R l cs → Ch R m ds → Ch R (l ++ m) (cs ++ ds)
  | [], m, cs, ds, h, h2 => by
    have h : cs = [] := h
    subst h; exact h2
  | a :: l, m, _, ds, ⟨c, cs', rfl, h1, h2⟩, h3 => ⟨c, cs' ++ ds, by simp, h1, Ch.app h2 h3⟩
theorem Ch.unit {a : α} {c : List Value} (h : R a c) : Ch R [a] c := ⟨c, [], by simp, h, rfl⟩
theorem Ch.mono (h : ∀ a c, R a c → R' a c) : ∀ {l : List α} {cs : List Value}, Ch R l cs → Ch R' l cs
  | [], cs, h0 => h0
  | a :: l, _, ⟨c, cs', e, h1, h2⟩ => ⟨c, cs', e, h a c h1, Ch.mono h h2⟩
theorem Ch.split (hk : ∀ a c, R a c → c.length = k) : ∀ {l : List α} {cs : List Value} {i : Nat} {a : α}, Ch R l cs → l[i]? = some a →
    ∃ cs1 c cs2, cs = cs1 ++ (c ++ cs2) ∧ cs1.length = i * k ∧ R a c ∧ Ch R (l.take i) cs1 ∧ Ch R (l.drop (i + 1)) cs2
  | [], _, _, _, _, h => by simp at h
  | b :: l, _, 0, a, ⟨c, cs', rfl, h1, h2⟩, h => by
    simp only [List.getElem?_cons_zero, Option.some.injEq] at h
    subst h
    exact ⟨[], c, cs', rfl, by simp, h1, rfl, h2⟩
  | b :: l, _, i + 1, a, ⟨c, cs', rfl, h1, h2⟩, h => by
    rw [List.getElem?_cons_succ] at h
    obtain ⟨cs1, c', cs2, rfl, h3, h4, h5, h6⟩ := Ch.split hk h2 h
    refine ⟨c ++ cs1, c', cs2, by simp, ?_, h4, ⟨c, cs1, rfl, h1, h5⟩, h6⟩
    have := hk b c h1
    rw [List.length_append, Nat.add_mul]; omega
theorem Ch.get (hk : ∀ a c, R a c → c.length = k) {l : List α} {cs : List Value} {i : Nat} {a : α} (h : Ch R l cs) (hi : l[i]? = some a) : ∃ c, R a c ∧ c.length = k ∧ cut cs (i * k) k = c := by
  obtain ⟨cs1, c, cs2, rfl, h1, h2, _, _⟩ := h.split hk hi
  have := hk a c h2
  refine ⟨c, h2, this, ?_⟩
  rw [cut_eq, List.drop_append, h1, Nat.sub_self, List.drop_of_length_le (by omega), List.nil_append, List.drop_zero, List.take_append_of_le_length (by omega), List.take_of_length_le (by omega)]
theorem Ch.set (hk : ∀ a c, R a c → c.length = k) {l : List α} {cs : List Value} {i : Nat} {a : α} {c : List Value} (h : Ch R l cs) (hi : i < l.length) (ha : R a c) : Ch R (l.set i a) (ov cs (i * k) c) := by
  obtain ⟨cs1, c0, cs2, rfl, h1, h2, h3, h4⟩ := h.split hk (i := i) (a := l[i]) (by simp [hi])
  have e1 := hk _ _ h2
  have e2 := hk _ _ ha
  rw [ov_eq _ _ _ (by simp; omega), List.set_eq_take_append_cons_drop, if_pos hi]
  have e3 : (cs1 ++ (c0 ++ cs2)).take (i * k) = cs1 := by rw [← h1]; simp
  have e4 : (cs1 ++ (c0 ++ cs2)).drop (i * k + c.length) = cs2 := by
    rw [← List.append_assoc, ← h1, e2, ← e1, ← List.length_append, List.drop_left]
  rw [e3, e4, List.append_assoc]
  exact h3.app ⟨c, cs2, rfl, ha, h4⟩
theorem Ch.ones (h1 : ∀ a c, R a c → ∀ v ∈ c, v.oneCell' = true) : ∀ {l : List α} {cs : List Value}, Ch R l cs → ∀ v ∈ cs, v.oneCell' = true
  | [], cs, h => by
    have h : cs = [] := h
    subst h; simp
  | a :: l, _, ⟨c, cs', rfl, h2, h3⟩ => fun v hv => by
    rcases List.mem_append.1 hv with hv | hv
    · exact h1 a c h2 v hv
    · exact Ch.ones h1 h3 v hv
end
section
variable {P : Program} {ops : Array Oper} {rest : List Oper} {Q : Exit → Act → World → Prop} {a : Act} {n : Nat} {L : List (Nat × Value)} {W : World} {d k : Nat} {T S E : TypeId} {p : String} {e : Array Edge} {x y : Operand} {v : Value} {xs : List Value} {i : Nat} {q : IntKind} {z : List Value} {α : Type} {R : α → List Value → Prop} {l : List α} {u : α}
theorem st_index_ch {agg : Bool} {sz : Nat} [sl : Sl P S E] [t : Ty P E agg z] (hs : Slots a n L) (r : Rd W sz v k xs) (hk : ∀ a c, R a c → c.length = sz) (ch : Ch R l xs) (ho : l[i]? = some u) (hlen : l.length = k) (hx : ev L x = some v := by with_unfolding_all exact rfl) (hy : ev L y = some (.int q (i : Int)) := by with_unfolding_all exact rfl) (hd : Nat.blt d n = true := by with_unfolding_all exact rfl) (hz : z.length = sz := by with_unfolding_all exact rfl)
    (c : ∀ a' b o c, R u c → c.length = sz → (∀ j u, c[j]? = some u → W.cell? ⟨b, o + j, none⟩ = some u) → b < W.heap.size → Slots a' n ((d, .pointer (some ⟨b, o, none⟩)) :: L) → wpList P ops Q rest a' W) : wpList P ops Q (⟨some d, .indexAddr S x y, T, p, e, none⟩ :: rest) a W := by
  subst hz
  have hi := (List.getElem?_eq_some_iff.1 ho).1
  obtain ⟨cc, h1, h2, h3⟩ := ch.get hk ho
  refine st_indexAddr hs hx hy r (by omega) (by omega) hd fun a' b o h4 h5 h6 => c a' b o cc h1 h2 ?_ h5 h6
  rw [Int.toNat_natCast] at h4
  rw [← h3]
  exact h4
end
section
variable {P : Program} {ops : Array Oper} {rest : List Oper} {Q : Exit → Act → World → Prop} {a : Act} {n G : Nat} {L : List (Nat × Value)} {w W : World} {R : List Res} {d b size bytes m : Nat} {T S S' E : TypeId} {p : String} {e : Array Edge} {x y : Operand} {v : Value} {xs c : List Value} {α : Type} {Rr : α → List Value → Prop} {l : List α} {u : α}
theorem st_append1 [sl : Sl P S E] [el : El P E size bytes] (hs : Slots a n L) (hw : Has G w W (Own E size v l.length xs :: R)) (hi : In (Cells b c E) R) (ch : Ch Rr l xs) (ha : Rr u c) (hl : Nat.beq c.length (1 * size) = true) (h1 : c.all (·.oneCell') = true) (hb : (l.length + 1) * bytes ≤ 140737488355328) (h63 : l.length + 1 ≤ 9223372036854775807) (hx : ev L x = some v := by with_unfolding_all exact rfl) (hy : ev L y = some (.slice (some ⟨b, 0, none⟩) 1 1) := by with_unfolding_all exact rfl) (hd : Nat.blt d n = true := by with_unfolding_all exact rfl)
    (k : ∀ a' ad cap W', Slots a' n ((d, .slice ad (l ++ [u]).length cap) :: L) → Has G w W' (Own E size (.slice ad (l ++ [u]).length cap) (l ++ [u]).length (xs ++ c) :: R) → Ch Rr (l ++ [u]) (xs ++ c) → wpList P ops Q rest a' W') : wpList P ops Q (⟨some d, .call { callee := .builtin .append, args := #[x, y], argTypes := #[S, S] }, T, p, e, none⟩ :: rest) a W := by
  refine st_append_lit (b := b) (k := l.length) (m := 1) (xs := xs) (news := c) (v := v) (R' := fun v' => Own E size v' (l.length + 1) (xs ++ c) :: R) hs hw hx hy (In.tl hi) (fun v' => Upd.hd) hl h1 h63 hb hd ?_
  intro a' ad cap W' hs' hw'
  have e : l.length + 1 = (l ++ [u]).length := by simp
  rw [e] at hs' hw'
  exact k a' ad cap W' hs' hw' (ch.app (Ch.unit ha))
end
section
variable {G : Nat} {w W : World} {R : List Res} {H : Fh}
def FzF (H : Fh) (p : Prop) : Res where
  ok F W := p ∧ (Fz H).ok F W
  loc F W W' h k := ⟨k.1, (Fz H).loc F W W' h k.2⟩
theorem Has.fzf {q : Prop} (h : Has G w W (Fz H :: R)) (hq : q) : Has G w W (FzF H q :: R) := by
  obtain ⟨F1, h1, h2, h3⟩ := h.has
  exact ⟨h.ext, h.glob, F1, h1, ⟨hq, h2⟩, h3⟩
theorem Has.unfzf {q : Prop} (h : Has G w W (FzF H q :: R)) : q ∧ Has G w W (Fz H :: R) := by
  obtain ⟨F1, h1, ⟨hq, h2⟩, h3⟩ := h.has
  exact ⟨hq, h.ext, h.glob, F1, h1, h2, h3⟩
end
theorem take_of {α : Type} {l : List α} {j : Nat} {o : α} (h : l[j]? = some o) : l.take (j + 1) = l.take j ++ [o] := by
  rw [List.take_add_one, h]; rfl
end Go.Sx

set_option linter.unusedVariables false
set_option maxRecDepth 10000
namespace Go.Proofs.YtmalklakaalaoaaGreatDoor.Sw
open Go.RowKit Go.Sx
def lessK (a b : ByteArray) : Bool := Ph.lessL a.data.toList b.data.toList
def setL : Dm → ByteArray → DV → Dm
  | [], k, v => [(k, v)]
  | p :: d, k, v => match lessK p.1 k with
    | false => (k, v) :: delD (p :: d) k
    | true => match ks k p.1 with
      | true => setL d k v
      | false => p :: setL d k v
theorem delD_cons (p : ByteArray × DV) (d : Dm) (k : ByteArray) : delD (p :: d) k = match ks k p.1 with | true => delD d k | false => p :: delD d k := by
  unfold delD
  rw [List.filter_cons]
  cases ks k p.1 <;> rfl
theorem setL_perm : ∀ (d : Dm) (k : ByteArray) (v : DV), (setL d k v).Perm (setD d k v)
  | [], k, v => List.Perm.refl _
  | p :: d, k, v => by
    have ih := setL_perm d k v
    unfold setD at ih ⊢
    simp only [setL]
    cases lessK p.1 k with
    | false => exact List.Perm.refl _
    | true =>
      simp only
      rw [delD_cons]
      cases ks k p.1 with
      | true => exact ih
      | false => exact (ih.cons p).trans (List.Perm.swap _ _ _)
def setRL (d : Dm) (k : ByteArray) (x : Option DV) : Int × Dm :=
  match x with
  | none => (0, delD d k)
  | some v => if (getK d k).isSome = false ∧ 50 ≤ d.length then (6, d) else (0, setL d k v)
def doL (d : Dm) (o : OpD) : Int × Dm :=
  if o.kind = 3 then (if eqV (getK d o.key) (ofRaw o.ok o.on o.os).1 then setRL d o.key (ofRaw o.vk o.vn o.vs).1 else (8, d))
  else if o.kind = 4 then
    if (kindOf (getK d o.key) != 0 && !isInt (getK d o.key)) = true then (7, d)
    else if (!inB (intIn (getK d o.key)) || !inB (IntKind.i64.wrap (intIn (getK d o.key) + o.n))) = true then (4, d)
    else setRL d o.key (some (.inl (IntKind.i64.wrap (intIn (getK d o.key) + o.n))))
  else setRL d o.key (ofRaw o.vk o.vn o.vs).1
def goL : List OpD → Dm → Int × Dm
  | [], d => (0, d)
  | o :: l, d => if mayD o = false then (1, d) else if (doL d o).1 = 0 then goL l (doL d o).2 else ((doL d o).1, d)
def applyL (d : Dm) (l : List OpD) : Int × Dm :=
  if l.length = 0 ∨ 8 < l.length then (1, d) else if (goL l d).1 = 0 then (0, (goL l d).2) else ((goL l d).1, d)
def Like (a b : Int × Dm) : Prop := a.1 = b.1 ∧ a.2.Perm b.2 ∧ dKeys b.2
theorem setRL_like {d d' : Dm} (hp : d'.Perm d) (hk : dKeys d) (k : ByteArray) (x : Option DV) : Like (setR d' k x) (setRL d k x) := by
  cases x with
  | none => exact ⟨rfl, delD_perm hp k, delD_keys hk k⟩
  | some v =>
    unfold setR setRL
    simp only
    rw [getK_perm hp ((dKeys_perm hp).2 hk), hp.length_eq]
    by_cases h : (getK d k).isSome = false ∧ 50 ≤ d.length
    · rw [if_pos h, if_pos h]
      exact ⟨rfl, hp, hk⟩
    · rw [if_neg h, if_neg h]
      exact ⟨rfl, (setD_perm hp k v).trans (setL_perm d k v).symm, (dKeys_perm (setL_perm d k v)).2 (setD_keys hk k v)⟩
theorem doL_like {d d' : Dm} (hp : d'.Perm d) (hk : dKeys d) (o : OpD) : Like (doOp d' o) (doL d o) := by
  unfold doOp doL
  rw [getK_perm hp ((dKeys_perm hp).2 hk)]
  split
  · split
    · exact setRL_like hp hk _ _
    · exact ⟨rfl, hp, hk⟩
  · split
    · split
      · exact ⟨rfl, hp, hk⟩
      · split
        · exact ⟨rfl, hp, hk⟩
        · exact setRL_like hp hk _ _
    · exact setRL_like hp hk _ _
theorem goL_like : ∀ (l : List OpD) {d d' : Dm}, d'.Perm d → dKeys d → Like (goD l d') (goL l d)
  | [], d, d', hp, hk => ⟨rfl, hp, hk⟩
  | o :: l, d, d', hp, hk => by
    unfold goD goL
    obtain ⟨h1, h2, h3⟩ := doL_like hp hk o
    by_cases hm : mayD o = false
    · rw [if_pos hm, if_pos hm]
      exact ⟨rfl, hp, hk⟩
    · rw [if_neg hm, if_neg hm, h1]
      by_cases he : (doL d o).1 = 0
      · rw [if_pos he, if_pos he]
        exact goL_like l h2 h3
      · rw [if_neg he, if_neg he]
        exact ⟨rfl, hp, hk⟩
theorem applyL_like {d d' : Dm} (hp : d'.Perm d) (hk : dKeys d) (l : List OpD) : Like (applyD d' l) (applyL d l) := by
  unfold applyD applyL
  obtain ⟨h1, h2, h3⟩ := goL_like l hp hk
  by_cases h : l.length = 0 ∨ 8 < l.length
  · rw [if_pos h, if_pos h]
    exact ⟨rfl, hp, hk⟩
  · rw [if_neg h, if_neg h, h1]
    by_cases he : (goL l d).1 = 0
    · rw [if_pos he, if_pos he]
      exact ⟨rfl, h2, h3⟩
    · rw [if_neg he, if_neg he]
      exact ⟨rfl, hp, hk⟩
theorem docLike {G p : Nat} {w W : World} {R : List Res} {d d' : Dm} (h : Has G w W (DocAt p d :: R)) (hp : d.Perm d') : Has G w W (DocAt p d' :: R) := by
  obtain ⟨m, d2, h1, h2, h3⟩ := docOpen h
  exact docShut h3 (h1.trans hp) ((dKeys_perm hp).1 h2)
theorem docKeys {G p : Nat} {w W : World} {R : List Res} {d : Dm} (h : Has G w W (DocAt p d :: R)) : dKeys d := by
  obtain ⟨m, d2, h1, h2, h3⟩ := docOpen h
  exact h2
theorem doc_ApplyL (w0 W : World) (H : Fh) (p : Nat) (d : Dm) (l : List OpD) (sv : Value) (R : List Res) (ho : ∀ o ∈ l, OpOk o) (r : RdH H 9 sv l.length (l.flatMap opCells)) (i : In (Fz H) R) (hH : (fr w0).le H) (hT : Tabs w0) (hw : Has 0 w0 W (DocAt p d :: R)) :
    Calls Tryz.prog 44 ⟨[.pointer (some ⟨p, 0, none⟩), sv]⟩ W fun e W' => e = .returned (.int .i64 (applyL d l).1) ∧ Has 0 w0 W' (DocAt p (applyL d l).2 :: R) := by
  have hk := docKeys hw
  obtain ⟨h1, h2, h3⟩ := applyL_like (List.Perm.refl d) hk l
  refine (doc_Apply w0 W H p d l sv R ho r i hH hT hw).mono ?_
  rintro e W' ⟨rfl, h⟩
  exact ⟨by rw [h1], docLike h h2⟩
structure PairOk (p : ByteArray × DV) : Prop where
  key : p.1.size ≤ 1000000
  num : ∀ n, p.2 = .inl n → i64 n
  txt : ∀ s, p.2 = .inr s → s.size ≤ 200 ∧ Lib.validD s.data.toList = true
structure DocOk (d : Dm) : Prop where
  keys : dKeys d
  len : d.length ≤ 50
  all : ∀ p ∈ d, PairOk p
theorem DocOk.nil : DocOk [] := ⟨by unfold dKeys; simp, by simp, by simp⟩
theorem delD_len (d : Dm) (k : ByteArray) : (delD d k).length ≤ d.length := List.length_filter_le _ _
theorem delD_less {d : Dm} {k : ByteArray} (h : (getK d k).isSome = true) : (delD d k).length < d.length := by
  have h1 : k ∈ d.map (·.1) := by
    cases hg : getK d k with
    | none => rw [hg] at h; cases h
    | some v => exact Classical.byContradiction fun hn => by rw [getK_none.2 hn] at hg; cases hg
  obtain ⟨p, hp, rfl⟩ := List.mem_map.1 h1
  have h3 := List.length_eq_countP_add_countP (fun q : ByteArray × DV => !ks p.1 q.1) (l := d)
  have h4 : 0 < d.countP (fun q => decide ¬(!ks p.1 q.1) = true) := List.countP_pos_iff.2 ⟨p, hp, by simp [ks_self]⟩
  have h5 : (delD d p.1).length = d.countP (fun q => !ks p.1 q.1) := by unfold delD; rw [List.countP_eq_length_filter]
  omega
theorem setRL_ok {d : Dm} (h : DocOk d) {k : ByteArray} {x : Option DV} (hx : ∀ v, x = some v → PairOk (k, v)) : DocOk (setRL d k x).2 := by
  cases x with
  | none => exact ⟨delD_keys h.keys k, Nat.le_trans (delD_len d k) h.len, fun p hp => h.all p ((List.mem_filter.1 hp).1)⟩
  | some v =>
    unfold setRL
    simp only
    by_cases hc : (getK d k).isSome = false ∧ 50 ≤ d.length
    · rw [if_pos hc]; exact h
    · rw [if_neg hc]
      have hp := setL_perm d k v
      refine ⟨(dKeys_perm hp).2 (setD_keys h.keys k v), ?_, fun p hm => ?_⟩
      · rw [hp.length_eq]
        show (delD d k).length + 1 ≤ 50
        cases hg : (getK d k).isSome with
        | true =>
          have := delD_less hg
          have := h.len
          omega
        | false =>
          have := delD_len d k
          have : ¬ 50 ≤ d.length := fun hh => hc ⟨hg, hh⟩
          omega
      · rcases List.mem_cons.1 (hp.mem_iff.1 hm) with rfl | hm
        · exact hx v rfl
        · exact h.all p ((List.mem_filter.1 hm).1)
theorem ofRaw_pair {k n : Int} {s key : ByteArray} (hk : key.size ≤ 1000000) (hn : i64 n) : ∀ v, (ofRaw k n s).1 = some v → PairOk (key, v) := by
  intro v hv
  unfold ofRaw at hv
  split at hv
  · cases hv
  · split at hv
    · cases hv
      exact ⟨hk, (fun m h => by cases h; exact hn), (fun t h => by cases h)⟩
    · split at hv
      · rename_i c
        cases hv
        exact ⟨hk, (fun m h => by cases h), (fun t h => by cases h; exact ⟨c.2.2.1, c.2.2.2⟩)⟩
      · cases hv
theorem wrap_i64 (n : Int) : i64 (IntKind.i64.wrap n) := by
  unfold i64
  rw [IntKind.wrap_i64]; omega
theorem doL_ok {d : Dm} (h : DocOk d) {o : OpD} (ho : OpOk o) : DocOk (doL d o).2 := by
  unfold doL
  split
  · split
    · exact setRL_ok h (ofRaw_pair ho.key ho.vn)
    · exact h
  · split
    · split
      · exact h
      · split
        · exact h
        · exact setRL_ok h fun v hv => by
            cases hv
            exact ⟨ho.key, (fun n hn => by cases hn; exact wrap_i64 _), (fun s hs => by cases hs)⟩
    · exact setRL_ok h (ofRaw_pair ho.key ho.vn)
theorem goL_ok : ∀ (l : List OpD) {d : Dm}, DocOk d → (∀ o ∈ l, OpOk o) → DocOk (goL l d).2
  | [], d, h, _ => h
  | o :: l, d, h, ho => by
    unfold goL
    split
    · exact h
    · split
      · exact goL_ok l (doL_ok h (ho o (by simp))) fun o' ho' => ho o' (by simp [ho'])
      · exact h
theorem applyL_ok {d : Dm} (h : DocOk d) {l : List OpD} (ho : ∀ o ∈ l, OpOk o) : DocOk (applyL d l).2 := by
  unfold applyL
  split
  · exact h
  · split
    · exact goL_ok l h ho
    · exact h
end Go.Proofs.YtmalklakaalaoaaGreatDoor.Sw

set_option linter.unusedVariables false
namespace Go.Proofs.YtmalklakaalaoaaGreatDoor
open Go.RowKit
-- pieces
theorem bdrew {B : Nat} {x y : World} (h : Below B x y) (n : Nat) : Below B x (y.drewN n) := h.trans ⟨rfl, rfl, rfl, Nat.le_refl _, fun _ _ => rfl⟩
set_option maxHeartbeats 1000000 in
theorem ref_Less (a b : ByteArray) (w : World) (ha : a.size ≤ 1000000) (hb : b.size ≤ 1000000) :
    Calls Tryz.prog 118 #[.string a, .string b] w fun e w' => e = .returned (.bool (Ph.lessL a.data.toList b.data.toList)) ∧ Below w.heap.size w w' := by
  have hca : (Ph.rs a.data.toList).length ≤ a.size := Ph.count_le a
  have hcb : (Ph.rs b.data.toList).length ≤ b.size := Ph.count_le b
  have HOA := Lib.hid (Ph.rs_small a.data.toList)
  have HOB := Lib.hid (Ph.rs_small b.data.toList)
  have HL := Lib.hid (Ph.lessD_all a.data.toList b.data.toList)
  go_enter Tryz.func118, Tryz.ntmps118
  go_wp2_with fail
  refine (ref_Runes a _ ha).mono ?_
  rintro e w1 ⟨vl, va, rfl, hl, _, hb1⟩
  go_wp2_with fail
  refine (ref_Runes b _ hb).mono ?_
  rintro e w2 ⟨vm, vb, rfl, hm, _, hb2⟩
  have hl2 := own_below hl hb2
  have hb3 : Below w.heap.size w w2 := hb1.trans (hb2.mono hb1.size)
  clear hl hb1 hb2
  obtain ⟨Al, cl, rfl, _, _, fl⟩ := own_slice hl2
  obtain ⟨Am, cm, rfl, _, _, fm⟩ := own_slice hm
  have HLL := Lib.hid hl2
  have HMM := Lib.hid hm
  clear hl2 hm
  generalize hx : Ph.rs a.data.toList = X at *
  generalize hy : Ph.rs b.data.toList = Y at *
  clear hx hy
  go_wp2
  go_loopw [11] (fun i wr => ∃ k : Nat, k ≤ X.length ∧ k ≤ Y.length ∧ i = .int .i64 k ∧ Below w2.heap.size w2 wr ∧ Hid (Ph.lessL a.data.toList b.data.toList = Ph.lessD a.data.toList b.data.toList (X.drop k) (Y.drop k))) (fun i _ => X.length - (intOf i).toNat)
  case atStart => exact ⟨0, by omega, by omega, rfl, Below.refl _ _, by show _ = _; rw [HL.out]; rfl⟩
  case round =>
    obtain ⟨k, hk1, hk2, rfl, hbw, HK⟩ := hrel
    by_cases hlt : k < X.length ∧ k < Y.length
    · obtain ⟨h1, h2⟩ := hlt
      have h1' : (k : Int) < (X.length : Int) := by omega
      have h2' : (k : Int) < (Y.length : Int) := by omega
      obtain ⟨g, rfl, fc⟩ := fl (by omega)
      obtain ⟨g', rfl, fc'⟩ := fm (by omega)
      have hg := (HLL.out.lt g rfl).2
      have hg' := (HMM.out.lt g' rfl).2
      have hc : wr.cell? ⟨g, k, none⟩ = some (.int .i32 (X[k]).1) := by
        rw [hbw.cell (p := ⟨g, k, none⟩) hg, fc k (by omega), Ph.runeVals_get _ k h1]
      have hc' : wr.cell? ⟨g', k, none⟩ = some (.int .i32 (Y[k]).1) := by
        rw [hbw.cell (p := ⟨g', k, none⟩) hg', fc' k (by omega), Ph.runeVals_get _ k h2]
      have HD : Hid (X.drop k = X[k] :: X.drop (k + 1)) := List.drop_eq_getElem_cons h1
      have HD' : Hid (Y.drop k = Y[k] :: Y.drop (k + 1)) := List.drop_eq_getElem_cons h2
      clear fc fc' fl fm
      generalize X[k] = p at *
      generalize Y[k] = q at *
      have g1 : (0 : Int) ≤ (k : Int) := by omega
      by_cases hpq : p.1 = q.1
      · have HN : Hid (Ph.lessL a.data.toList b.data.toList = Ph.lessD a.data.toList b.data.toList (X.drop (k + 1)) (Y.drop (k + 1))) := by
          show _ = _
          rw [HK.out, HD.out, HD'.out, Ph.lessD_eq _ _ _ _ _ _ hpq]
        have hne : ((p.1 : Int) != (q.1 : Int)) = false := by rw [hpq]; simp
        clear hpq
        go_wp2_with fail
        go_quiet (fail)
        go_wp2
        go_roundw
        case rel => exact ⟨k + 1, by omega, by omega, by go_num, bdrew hbw _, HN⟩
        case measure => simp [intOf]; omega
      · have HN : Hid (Ph.lessL a.data.toList b.data.toList = decide (p.1 < q.1)) := by
          show _ = _
          rw [HK.out, HD.out, HD'.out, Ph.lessD_ne _ _ _ _ _ _ hpq]
        have hne : ((p.1 : Int) != (q.1 : Int)) = true := by rw [bne_iff_ne]; omega
        clear hpq
        go_wp2_with fail
        go_quiet (fail)
        go_wp2
        go_quiet (fail)
        go_wp2
        go_ret
        exact ⟨ret_bool HN.out.symm, hb3.trans (bdrew (bdrew (hbw.mono hb3.size) _) _)⟩
    · have H := Lib.hid hlt
      clear hlt
      by_cases e1 : k < X.length
      · have e1' : (k : Int) < (X.length : Int) := by omega
        have e2' : (Y.length : Int) ≤ (k : Int) := by have := H.out; omega
        have HN : Hid (Ph.lessL a.data.toList b.data.toList = false) := by
          show _ = _
          rw [HK.out, Ph.lessD_cn _ _ (by simp; omega) (by simp; omega)]
        have hne : ((X.length : Int) != (Y.length : Int)) = true := by rw [bne_iff_ne]; omega
        have hlt : ¬ X.length < Y.length := by omega
        go_wp2
        go_ret
        exact ⟨ret_bool HN.out.symm, hb3.trans (hbw.mono hb3.size)⟩
      · have e1' : (X.length : Int) ≤ (k : Int) := by omega
        by_cases e2 : k < Y.length
        · have HN : Hid (Ph.lessL a.data.toList b.data.toList = true) := by
            show _ = _
            rw [HK.out, Ph.lessD_nc _ _ (by simp; omega) (by simp; omega)]
          have hne : ((X.length : Int) != (Y.length : Int)) = true := by rw [bne_iff_ne]; omega
          go_wp2
          go_ret
          exact ⟨ret_bool (by rw [HN.out]; exact decide_eq_true (by omega)), hb3.trans (hbw.mono hb3.size)⟩
        · have HN : Hid (Ph.lessL a.data.toList b.data.toList = Op.bytesLess a.toList b.toList) := by
            show _ = _
            rw [HK.out, List.drop_eq_nil_of_le (by omega), List.drop_eq_nil_of_le (by omega), Ph.lessD_nn, Ph.bytesLess_toList]
          have hne : ((X.length : Int) != (Y.length : Int)) = false := by rw [bne_eq_false_iff_eq]; omega
          go_wp2
          go_ret
          exact ⟨ret_bool HN.out.symm, hb3.trans (hbw.mono hb3.size)⟩
end Go.Proofs.YtmalklakaalaoaaGreatDoor

set_option linter.unusedVariables false
set_option maxRecDepth 10000
namespace Go.Proofs.YtmalklakaalaoaaGreatDoor.Sw
open Go.RowKit Go.Sx
-- pieces
theorem chFlat {α : Type} (f : α → List Value) : ∀ l : List α, Ch (fun a c => c = f a) l (l.flatMap f)
  | [] => rfl
  | a :: l => ⟨f a, l.flatMap f, rfl, rfl, chFlat f l⟩
def rawCells (x : Option DV) : List Value := [.int .i64 (kindOf x), .int .i64 (intIn x), .string (textIn x)]
def pairCells (p : ByteArray × DV) : List Value := .string p.1 :: rawCells (some p.2)
theorem pair_len : ∀ (p : ByteArray × DV) (c : List Value), c = pairCells p → c.length = 4 := by rintro p c rfl; rfl
theorem ks_list (a b : ByteArray) : (a.toList == b.toList) = ks b a := by
  cases h : ks b a with
  | true => rw [ks_iff.1 h]; simp
  | false =>
    cases h2 : (a.toList == b.toList) with
    | false => rfl
    | true => rw [beq_iff_eq] at h2; rw [ks_iff.2 (ba_eq h2).symm] at h; cases h
set_option maxHeartbeats 4000000 in
theorem ref_Get (d : Dm) (sv : Value) (key : ByteArray) (w : World) (r : Rd w 4 sv d.length (d.flatMap pairCells)) :
    Calls Tryz.prog 90 ⟨[.agg ⟨[sv]⟩, .string key]⟩ w fun e w' => e = .returned (.tuple ⟨[.agg ⟨rawCells (getK d key)⟩, .bool (getK d key).isSome]⟩) ∧ Below w.heap.size w w' := by
  have hw := Has.start (G := 0) (w := w) (Nat.zero_le _)
  obtain ⟨sad, scap, rfl⟩ : ∃ ad cap, sv = .slice ad d.length cap := by obtain ⟨_, ad, cap, e, _⟩ := r; exact ⟨ad, cap, e⟩
  have hlen : d.length ≤ 9223372036854775807 := r.len
  refine enter Tryz.func90 Tryz.ntmps90 rfl rfl fun a hs => ?_
  repeat (first | (refine sxv hs hw ?_; clear hs; intro a hs) | refine sxc hs ?_ | (refine sxa hs hw ?_; clear hs hw; intro a b W hw hs) | (refine sxs hs hw ?_; clear hs hw; intro W hs hw))
  obtain ⟨b4, q4⟩ := nm1 hw; subst q4
  obtain ⟨b2, q2⟩ := nm2 hw; subst q2
  refine st_loop (σ := Nat) (fun i => [(2, .pointer (some ⟨b2, 0, none⟩)), (1, .string key), (4, .pointer (some ⟨b4, 0, none⟩)), (6, .int .i64 (i : Int))]) (fun _ => Cells b4 (rawCells none) 93 :: Cells b2 [.slice sad d.length scap] 32 :: Old w 0 :: []) (fun i => i ≤ d.length ∧ getK (d.drop i) key = getK d key) (fun i => d.length - i) 0 ⟨Nat.zero_le _, rfl⟩ hs ⟨rfl, rfl, rfl, rfl, trivial⟩ hw ?_
  clear hs hw
  rintro i a W ⟨hi, hg⟩ hs hw
  repeat (first | (refine sxv hs hw ?_; clear hs; intro a hs) | refine sxc hs ?_ | (refine sxa hs hw ?_; clear hs hw; intro a b W hw hs) | (refine sxs hs hw ?_; clear hs hw; intro W hs hw))
  refine cd_split hs (kt := fun hcc => ?_) (kf := fun hcc => ?_)
  · have hi' : i < d.length := by simpa using hcc
    obtain ⟨o, hoi⟩ : ∃ o, d[i]? = some o := ⟨d[i], List.getElem?_eq_getElem hi'⟩
    have hdrop : d.drop i = o :: d.drop (i + 1) := by
      rw [List.drop_eq_getElem_cons hi']
      congr 1
      rw [List.getElem?_eq_getElem hi'] at hoi
      exact Option.some.inj hoi
    rw [hdrop] at hg
    simp only [getK] at hg
    repeat (first | (refine sxv hs hw ?_; clear hs; intro a hs) | refine sxc hs ?_ | (refine sxa hs hw ?_; clear hs hw; intro a b W hw hs) | (refine sxs hs hw ?_; clear hs hw; intro W hs hw))
    refine st_index_ch hs (r := hw.rd (by repeat (first | exact In.hd | apply In.tl)) hw.ext.size r) (hk := pair_len) (ch := chFlat pairCells d) (ho := hoi) (hlen := rfl) (c := ?_); clear hs; intro a g off c hc hcl hpc hlt hs
    subst hc
    repeat (first | (refine sxv hs hw ?_; clear hs; intro a hs) | refine sxc hs ?_ | (refine sxa hs hw ?_; clear hs hw; intro a b W hw hs) | (refine sxs hs hw ?_; clear hs hw; intro W hs hw))
    refine st_load_at hs (hc := hpc 0 _ rfl) (c := ?_); clear hs; intro a hs
    repeat (first | (refine sxv hs hw ?_; clear hs; intro a hs) | refine sxc hs ?_ | (refine sxa hs hw ?_; clear hs hw; intro a b W hw hs) | (refine sxs hs hw ?_; clear hs hw; intro W hs hw))
    rw [ks_list] at hs
    cases hk : ks key o.1 with
    | true =>
      rw [hk] at hs hg
      simp only at hg
      repeat (first | (refine sxv hs hw ?_; clear hs; intro a hs) | refine sxc hs ?_ | (refine sxa hs hw ?_; clear hs hw; intro a b W hw hs) | (refine sxs hs hw ?_; clear hs hw; intro W hs hw))
      refine st_index_ch hs (r := hw.rd (by repeat (first | exact In.hd | apply In.tl)) hw.ext.size r) (hk := pair_len) (ch := chFlat pairCells d) (ho := hoi) (hlen := rfl) (c := ?_); clear hs; intro a g2 off2 c hc hcl2 hpc2 hlt2 hs
      subst hc
      repeat (first | (refine sxv hs hw ?_; clear hs; intro a hs) | refine sxc hs ?_ | (refine sxa hs hw ?_; clear hs hw; intro a b W hw hs) | (refine sxs hs hw ?_; clear hs hw; intro W hs hw))
      refine st_load_ats hs (cs := rawCells (some o.2)) (hc := fun j u h => by rw [Nat.add_assoc, Nat.add_comm 1 j]; exact hpc2 (j + 1) u h) (hl := by rfl) (c := ?_); clear hs; intro a hs
      repeat (first | (refine sxv hs hw ?_; clear hs; intro a hs) | refine sxc hs ?_ | (refine sxa hs hw ?_; clear hs hw; intro a b W hw hs) | (refine sxs hs hw ?_; clear hs hw; intro W hs hw))
      refine rc2 hs rfl rfl hw (In.hd) rfl rfl ?_
      rw [← hg]
      exact ⟨rfl, hw.end (by repeat (first | exact In.hd | apply In.tl))⟩
    | false =>
      rw [hk] at hs hg
      simp only at hg
      repeat (first | (refine sxv hs hw ?_; clear hs; intro a hs) | refine sxc hs ?_ | (refine sxa hs hw ?_; clear hs hw; intro a b W hw hs) | (refine sxs hs hw ?_; clear hs hw; intro W hs hw))
      exact st_again (i + 1) hs hw ⟨hi', hg⟩ (by show d.length - (i + 1) < d.length - i; omega) ⟨rfl, rfl, rfl, int_eq (by show IntKind.i64.wrap ((i : Int) + 1) = ((i + 1 : Nat) : Int); rw [IntWalk.i64_in _ (by omega)]; omega), trivial⟩
  · have hi' : i = d.length := by have : ¬ i < d.length := by simpa using hcc
                                  omega
    subst hi'
    rw [List.drop_length] at hg
    repeat (first | (refine sxv hs hw ?_; clear hs; intro a hs) | refine sxc hs ?_ | (refine sxa hs hw ?_; clear hs hw; intro a b W hw hs) | (refine sxs hs hw ?_; clear hs hw; intro W hs hw))
    refine rc2 hs rfl rfl hw (In.hd) rfl rfl ?_
    rw [← hg]
    exact ⟨rfl, hw.end (by repeat (first | exact In.hd | apply In.tl))⟩
theorem ref_far (n : Int) (w : World) : Calls Tryz.prog 91 ⟨[.int .i64 n]⟩ w fun e w' => e = .returned (.bool (!inB n)) ∧ Below w.heap.size w w' := by
  have hw := Has.start (G := 0) (w := w) (Nat.zero_le _)
  refine enter Tryz.func91 Tryz.ntmps91 rfl rfl fun a hs => ?_
  repeat (first | (refine sxv hs hw ?_; clear hs; intro a hs) | refine sxc hs ?_ | (refine sxa hs hw ?_; clear hs hw; intro a b W hw hs) | (refine sxs hs hw ?_; clear hs hw; intro W hs hw))
  cases h : decide (n < -4611686018427387904) with
  | true =>
    rw [h] at hs
    repeat (first | (refine sxv hs hw ?_; clear hs; intro a hs) | refine sxc hs ?_ | (refine sxa hs hw ?_; clear hs hw; intro a b W hw hs) | (refine sxs hs hw ?_; clear hs hw; intro W hs hw))
    have h2 := of_decide_eq_true h
    have h3 : inB n = false := by unfold inB; rw [decide_eq_false (by omega)]; rfl
    exact rt1 hs rfl rfl ⟨by rw [h3]; rfl, hw.end (by repeat (first | exact In.hd | apply In.tl))⟩
  | false =>
    rw [h] at hs
    repeat (first | (refine sxv hs hw ?_; clear hs; intro a hs) | refine sxc hs ?_ | (refine sxa hs hw ?_; clear hs hw; intro a b W hw hs) | (refine sxs hs hw ?_; clear hs hw; intro W hs hw))
    have h2 := of_decide_eq_false h
    have h3 : inB n = !decide (n > 4611686018427387904) := by
      unfold inB
      rw [decide_eq_true (by omega), Bool.true_and]
      by_cases h5 : n ≤ 4611686018427387904
      · rw [decide_eq_true h5, decide_eq_false (by omega)]; rfl
      · rw [decide_eq_false h5, decide_eq_true (by omega)]; rfl
    exact rt1 hs rfl rfl ⟨by rw [h3, Bool.not_not]; rfl, hw.end (by repeat (first | exact In.hd | apply In.tl))⟩
def goSet (inb : Bool) (k : ByteArray) (v : DV) (d : Dm) : Dm := match inb with | true => delD d k | false => setL d k v
structure SetS where
  i : Nat
  inb : Bool
  out : Dm
  ad : Option Addr
  cap : Nat
theorem goSet_step (k : ByteArray) (v : DV) (p : ByteArray × DV) (d : Dm) (inb : Bool) : goSet inb k v (p :: d) = (if (!inb && !lessK p.1 k) = true then [(k, v)] else []) ++ ((if ks k p.1 then [] else [p]) ++ goSet (inb || !lessK p.1 k) k v d) := by
  cases inb with
  | true =>
    simp only [goSet, delD_cons]
    cases ks k p.1 <;> simp
  | false =>
    simp only [goSet, setL]
    cases lessK p.1 k with
    | false =>
      simp only [delD_cons]
      cases ks k p.1 <;> simp
    | true => cases ks k p.1 <;> simp
def setX (d : Dm) (k : ByteArray) (x : Option DV) : Dm := match x with | none => delD d k | some v => setL d k v
theorem chPair (d : Dm) : Ch (fun p c => c = pairCells p) d (d.flatMap pairCells) := chFlat pairCells d
theorem chPair_eq : ∀ {d : Dm} {xs : List Value}, Ch (fun p c => c = pairCells p) d xs → xs = d.flatMap pairCells
  | [], xs, h => h
  | p :: d, _, ⟨c, cs', rfl, h1, h2⟩ => by rw [h1, chPair_eq h2]; rfl
theorem zero_kind (x : Option DV) : ((kindOf x : Int) == 0) = x.isNone := by rcases x with _ | n | s <;> rfl
set_option maxHeartbeats 8000000 in
theorem ref_set (w0 W : World) (H : Fh) (d : Dm) (sv : Value) (k : ByteArray) (x : Option DV) (R : List Res) (hk : k.size ≤ 1000000) (hd : ∀ p ∈ d, p.1.size ≤ 1000000) (hl : d.length ≤ 1000) (r : RdH H 4 sv d.length (d.flatMap pairCells)) (hw : Has 0 w0 W (Fz H :: R)) :
    Calls Tryz.prog 92 ⟨[.agg ⟨[sv]⟩, .string k, .agg ⟨rawCells x⟩]⟩ W fun e W' => ∃ sv' H', e = .returned (.agg ⟨[sv']⟩) ∧ H.le H' ∧ RdH H' 4 sv' (setX d k x).length ((setX d k x).flatMap pairCells) ∧ Has 0 w0 W' (Fz H' :: R) := by
  obtain ⟨sad, scap, rfl⟩ := r.slice
  obtain ⟨v, hv⟩ : ∃ v, ∀ y, x = some y → y = v := by
    cases x with
    | none => exact ⟨.inl 0, fun y h => by cases h⟩
    | some y => exact ⟨y, fun z h => by cases h; rfl⟩
  have htarget : setX d k x = goSet x.isNone k v d := by
    cases x with
    | none => rfl
    | some y => rw [hv y rfl]; rfl
  refine enter Tryz.func92 Tryz.ntmps92 rfl rfl fun a hs => ?_
  repeat (first | (refine sxv hs hw ?_; clear hs; intro a hs) | refine sxc hs ?_ | (refine sxa hs hw ?_; clear hs hw; intro a b W hw hs) | (refine sxs hs hw ?_; clear hs hw; intro W hs hw))
  rw [zero_kind] at hs
  obtain ⟨b6, q6⟩ := nm1 hw; subst q6
  obtain ⟨b5, q5⟩ := nm2 hw; subst q5
  obtain ⟨b3, q3⟩ := nm3 hw; subst q3
  have hw := hw.nilOwn 147 4
  refine st_loop (σ := SetS) (fun s => [(3, .pointer (some ⟨b3, 0, none⟩)), (5, .pointer (some ⟨b5, 0, none⟩)), (6, .pointer (some ⟨b6, 0, none⟩)), (1, .string k), (7, .slice s.ad s.out.length s.cap), (8, .bool s.inb), (9, .int .i64 (s.i : Int))]) (fun s => Sx.Own 147 4 (.slice s.ad s.out.length s.cap) s.out.length (s.out.flatMap pairCells) :: Cells b6 [.slice none 0 0] 32 :: Cells b5 (rawCells x) 93 :: Cells b3 [.slice sad d.length scap] 32 :: Fz H :: R) (fun s => s.i ≤ d.length ∧ s.out.length ≤ 2 * s.i ∧ (s.inb = false → x = some v) ∧ s.out ++ goSet s.inb k v (d.drop s.i) = setX d k x) (fun s => d.length - s.i) ⟨0, x.isNone, [], none, 0⟩ ⟨Nat.zero_le _, Nat.zero_le _, fun h => by cases x with | none => cases h | some y => rw [hv y rfl], htarget.symm⟩ hs ⟨rfl, rfl, rfl, rfl, rfl, rfl, rfl, trivial⟩ hw ?_
  clear hs hw
  rintro ⟨i, inb, out, ad, cap⟩ a W ⟨hi, ho, hinb, hg⟩ hs hw
  simp only at hi ho hinb hg hs hw
  repeat (first | (refine sxv hs hw ?_; clear hs; intro a hs) | refine sxc hs ?_ | (refine sxa hs hw ?_; clear hs hw; intro a b W hw hs) | (refine sxs hs hw ?_; clear hs hw; intro W hs hw))
  refine cd_split hs (kt := fun hcc => ?_) (kf := fun hcc => ?_)
  · have hi' : i < d.length := by simpa using hcc
    obtain ⟨o, hoi⟩ : ∃ o, d[i]? = some o := ⟨d[i], List.getElem?_eq_getElem hi'⟩
    have hdo := hd o (List.mem_of_getElem? hoi)
    have hdrop : d.drop i = o :: d.drop (i + 1) := by
      rw [List.drop_eq_getElem_cons hi']
      congr 1
      rw [List.getElem?_eq_getElem hi'] at hoi
      exact Option.some.inj hoi
    rw [hdrop, goSet_step] at hg
    refine wp_skip ?_; refine ex_then_n ?_; refine sq ?_; refine wp_block ?_; refine sq ?_
    refine merge (M := fun a W => ∃ inb' out' ad' cap', out'.length ≤ 2 * i + 1 ∧ (inb' = false → x = some v) ∧ out' ++ ((if ks k o.1 then [] else [o]) ++ goSet inb' k v (d.drop (i + 1))) = setX d k x ∧ Slots a 65 [(3, .pointer (some ⟨b3, 0, none⟩)), (5, .pointer (some ⟨b5, 0, none⟩)), (6, .pointer (some ⟨b6, 0, none⟩)), (1, .string k), (7, .slice ad' out'.length cap'), (8, .bool inb'), (9, .int .i64 (i : Int))] ∧ Has 0 w0 W (Sx.Own 147 4 (.slice ad' out'.length cap') out'.length (out'.flatMap pairCells) :: Cells b6 [.slice none 0 0] 32 :: Cells b5 (rawCells x) 93 :: Cells b3 [.slice sad d.length scap] 32 :: Fz H :: R)) ?_ ?_
    · cases inb with
      | true =>
        repeat (first | (refine sxv hs hw ?_; clear hs; intro a hs) | refine sxc hs ?_ | (refine sxa hs hw ?_; clear hs hw; intro a b W hw hs) | (refine sxs hs hw ?_; clear hs hw; intro W hs hw))
        exact ⟨true, out, ad, cap, by omega, (fun h => by cases h), by simpa using hg, hs.of ⟨rfl, rfl, rfl, rfl, rfl, rfl, rfl, trivial⟩, hw⟩
      | false =>
        have hx := hinb rfl
        subst hx
        repeat (first | (refine sxv hs hw ?_; clear hs; intro a hs) | refine sxc hs ?_ | (refine sxa hs hw ?_; clear hs hw; intro a b W hw hs) | (refine sxs hs hw ?_; clear hs hw; intro W hs hw))
        refine st_index_ch hs (r := hw.rdH (by repeat (first | exact In.hd | apply In.tl)) r) (hk := pair_len) (ch := chFlat pairCells d) (ho := hoi) (hlen := rfl) (c := ?_); clear hs; intro a g off c hc hcl hpc hlt hs
        subst hc
        repeat (first | (refine sxv hs hw ?_; clear hs; intro a hs) | refine sxc hs ?_ | (refine sxa hs hw ?_; clear hs hw; intro a b W hw hs) | (refine sxs hs hw ?_; clear hs hw; intro W hs hw))
        refine st_load_at hs (hc := hpc 0 _ rfl) (c := ?_); clear hs; intro a hs
        repeat (first | (refine sxv hs hw ?_; clear hs; intro a hs) | refine sxc hs ?_ | (refine sxa hs hw ?_; clear hs hw; intro a b W hw hs) | (refine sxs hs hw ?_; clear hs hw; intro W hs hw))
        refine st_call hs (hc := ref_Less o.1 k _ hdo hk) (k := ?_); rintro e0 W1 ⟨rfl, hb⟩; refine ⟨_, rfl, ?_⟩; clear hs; intro a hs; replace hw := hw.below hb; clear hb
        rw [show Ph.lessL o.1.data.toList k.data.toList = lessK o.1 k from rfl] at hs
        cases hL : lessK o.1 k with
        | true =>
          rw [hL] at hs hg
          repeat (first | (refine sxv hs hw ?_; clear hs; intro a hs) | refine sxc hs ?_ | (refine sxa hs hw ?_; clear hs hw; intro a b W hw hs) | (refine sxs hs hw ?_; clear hs hw; intro W hs hw))
          exact ⟨false, out, ad, cap, by omega, (fun h => rfl), by simpa using hg, hs.of ⟨rfl, rfl, rfl, rfl, rfl, rfl, rfl, trivial⟩, hw⟩
        | false =>
          rw [hL] at hs hg
          repeat (first | (refine sxv hs hw ?_; clear hs; intro a hs) | refine sxc hs ?_ | (refine sxa hs hw ?_; clear hs hw; intro a b W hw hs) | (refine sxs hs hw ?_; clear hs hw; intro W hs hw))
          refine st_append1 hs (hw := hw.swap2) (hi := In.hd) (ch := chPair out) (ha := (rfl : _ = pairCells (k, v))) (hl := rfl) (h1 := rfl) (hb := by omega) (h63 := by omega) (k := ?_)
          clear hs hw; intro a ad2 cap2 W hs hw hc2
          rw [chPair_eq hc2] at hw
          have hw := hw.drop2
          repeat (first | (refine sxv hs hw ?_; clear hs; intro a hs) | refine sxc hs ?_ | (refine sxa hs hw ?_; clear hs hw; intro a b W hw hs) | (refine sxs hs hw ?_; clear hs hw; intro W hs hw))
          exact ⟨true, out ++ [(k, v)], ad2, cap2, (by simp; omega), (fun h => by cases h), by simpa using hg, hs.of ⟨rfl, rfl, rfl, rfl, rfl, rfl, rfl, trivial⟩, hw⟩
    · clear hs hw hg hinb ho
      rintro a W ⟨inb', out', ad', cap', ho', hinb', hg', hs, hw⟩
      repeat (first | (refine sxv hs hw ?_; clear hs; intro a hs) | refine sxc hs ?_ | (refine sxa hs hw ?_; clear hs hw; intro a b W hw hs) | (refine sxs hs hw ?_; clear hs hw; intro W hs hw))
      refine st_index_ch hs (r := hw.rdH (by repeat (first | exact In.hd | apply In.tl)) r) (hk := pair_len) (ch := chFlat pairCells d) (ho := hoi) (hlen := rfl) (c := ?_); clear hs; intro a g off c hc hcl hpc hlt hs
      subst hc
      repeat (first | (refine sxv hs hw ?_; clear hs; intro a hs) | refine sxc hs ?_ | (refine sxa hs hw ?_; clear hs hw; intro a b W hw hs) | (refine sxs hs hw ?_; clear hs hw; intro W hs hw))
      refine st_load_at hs (hc := hpc 0 _ rfl) (c := ?_); clear hs; intro a hs
      repeat (first | (refine sxv hs hw ?_; clear hs; intro a hs) | refine sxc hs ?_ | (refine sxa hs hw ?_; clear hs hw; intro a b W hw hs) | (refine sxs hs hw ?_; clear hs hw; intro W hs hw))
      rw [ks_list] at hs
      cases hks : ks k o.1 with
      | true =>
        rw [hks] at hs hg'
        repeat (first | (refine sxv hs hw ?_; clear hs; intro a hs) | refine sxc hs ?_ | (refine sxa hs hw ?_; clear hs hw; intro a b W hw hs) | (refine sxs hs hw ?_; clear hs hw; intro W hs hw))
        exact st_again ⟨i + 1, inb', out', ad', cap'⟩ hs hw ⟨hi', by show out'.length ≤ 2 * (i + 1); omega, hinb', by simpa using hg'⟩ (by show d.length - (i + 1) < d.length - i; omega) ⟨rfl, rfl, rfl, rfl, rfl, rfl, int_eq (by show IntKind.i64.wrap ((i : Int) + 1) = ((i + 1 : Nat) : Int); rw [IntWalk.i64_in _ (by omega)]; omega), trivial⟩
      | false =>
        rw [hks] at hs hg'
        repeat (first | (refine sxv hs hw ?_; clear hs; intro a hs) | refine sxc hs ?_ | (refine sxa hs hw ?_; clear hs hw; intro a b W hw hs) | (refine sxs hs hw ?_; clear hs hw; intro W hs hw))
        refine st_index_ch hs (r := hw.rdH (by repeat (first | exact In.hd | apply In.tl)) r) (hk := pair_len) (ch := chFlat pairCells d) (ho := hoi) (hlen := rfl) (c := ?_); clear hs; intro a g2 off2 c hc hcl2 hpc2 hlt2 hs
        subst hc
        refine st_load_ats hs (cs := pairCells o) (hc := hpc2) (hl := by rfl) (c := ?_); clear hs; intro a hs
        repeat (first | (refine sxv hs hw ?_; clear hs; intro a hs) | refine sxc hs ?_ | (refine sxa hs hw ?_; clear hs hw; intro a b W hw hs) | (refine sxs hs hw ?_; clear hs hw; intro W hs hw))
        refine st_append1 hs (hw := hw.swap2) (hi := In.hd) (ch := chPair out') (ha := (rfl : _ = pairCells o)) (hl := rfl) (h1 := rfl) (hb := by omega) (h63 := by omega) (k := ?_)
        clear hs hw; intro a ad2 cap2 W hs hw hc2
        rw [chPair_eq hc2] at hw
        have hw := hw.drop2
        repeat (first | (refine sxv hs hw ?_; clear hs; intro a hs) | refine sxc hs ?_ | (refine sxa hs hw ?_; clear hs hw; intro a b W hw hs) | (refine sxs hs hw ?_; clear hs hw; intro W hs hw))
        exact st_again ⟨i + 1, inb', out' ++ [o], ad2, cap2⟩ hs hw ⟨hi', by show (out' ++ [o]).length ≤ 2 * (i + 1); simp; omega, hinb', by simpa using hg'⟩ (by show d.length - (i + 1) < d.length - i; omega) ⟨rfl, rfl, rfl, rfl, rfl, rfl, int_eq (by show IntKind.i64.wrap ((i : Int) + 1) = ((i + 1 : Nat) : Int); rw [IntWalk.i64_in _ (by omega)]; omega), trivial⟩
  · have hi' : i = d.length := by have : ¬ i < d.length := by simpa using hcc
                                  omega
    subst hi'
    rw [List.drop_length] at hg
    cases inb with
    | true =>
      have hg2 : out = setX d k x := by rw [← hg]; simp [goSet, delD]
      subst hg2
      repeat (first | (refine sxv hs hw ?_; clear hs; intro a hs) | refine sxc hs ?_ | (refine sxa hs hw ?_; clear hs hw; intro a b W hw hs) | (refine sxs hs hw ?_; clear hs hw; intro W hs hw))
      have hw : Has 0 w0 _ (Sx.Own 147 4 (.slice ad (setX d k x).length cap) (setX d k x).length ((setX d k x).flatMap pairCells) :: Fz H :: Cells b6 [.slice ad (setX d k x).length cap] 32 :: Cells b5 (rawCells x) 93 :: Cells b3 [.slice sad d.length scap] 32 :: R) := hw.perm (by repeat (first | exact List.Perm.refl _ | refine perm_pick (by repeat (first | exact Pick.hd | apply Pick.tl)) ?_))
      obtain ⟨H', h1, h2, h3⟩ := hw.freeze_own
      refine rc1 hs rfl rfl h2 (In.tl In.hd) rfl ?_
      exact ⟨_, H', rfl, h1, h3, h2.drop2.drop2.drop2⟩
    | false =>
      have hx := hinb rfl
      subst hx
      have hg2 : out ++ [(k, v)] = setX d k (some v) := hg
      repeat (first | (refine sxv hs hw ?_; clear hs; intro a hs) | refine sxc hs ?_ | (refine sxa hs hw ?_; clear hs hw; intro a b W hw hs) | (refine sxs hs hw ?_; clear hs hw; intro W hs hw))
      refine st_append1 hs (hw := hw.swap2) (hi := In.hd) (ch := chPair out) (ha := (rfl : _ = pairCells (k, v))) (hl := rfl) (h1 := rfl) (hb := by omega) (h63 := by omega) (k := ?_)
      clear hs hw; intro a ad2 cap2 W hs hw hc2
      rw [chPair_eq hc2, hg2] at hw
      rw [hg2] at hs
      have hw := hw.drop2
      repeat (first | (refine sxv hs hw ?_; clear hs; intro a hs) | refine sxc hs ?_ | (refine sxa hs hw ?_; clear hs hw; intro a b W hw hs) | (refine sxs hs hw ?_; clear hs hw; intro W hs hw))
      have hw : Has 0 w0 _ (Sx.Own 147 4 (.slice ad2 (setX d k (some v)).length cap2) (setX d k (some v)).length ((setX d k (some v)).flatMap pairCells) :: Fz H :: Cells b6 [.slice ad2 (setX d k (some v)).length cap2] 32 :: Cells b5 (rawCells (some v)) 93 :: Cells b3 [.slice sad d.length scap] 32 :: R) := hw.perm (by repeat (first | exact List.Perm.refl _ | refine perm_pick (by repeat (first | exact Pick.hd | apply Pick.tl)) ?_))
      obtain ⟨H', h1, h2, h3⟩ := hw.freeze_own
      refine rc1 hs rfl rfl h2 (In.tl In.hd) rfl ?_
      exact ⟨_, H', rfl, h1, h3, h2.drop2.drop2.drop2⟩
end Go.Proofs.YtmalklakaalaoaaGreatDoor.Sw

set_option linter.unusedVariables false
set_option maxRecDepth 10000
namespace Go.Proofs.YtmalklakaalaoaaGreatDoor.Sw
open Go.RowKit Go.Sx
-- pieces
theorem raw_zero_may {k n : Int} {s : ByteArray} (h : rawEq k n s 0 0 ⟨#[]⟩ = true) : ((ofRaw k n s).2 == 0) = true := by
  simp only [rawEq, Bool.and_eq_true, beq_iff_eq] at h
  obtain ⟨⟨rfl, rfl⟩, h3⟩ := h
  have hz : s.size = 0 := by
    have := congrArg List.length h3
    rw [toList_size, toList_size] at this
    exact this
  unfold ofRaw; rw [if_pos ⟨rfl, rfl, hz⟩]; rfl
theorem may_zero {k n : Int} {s : ByteArray} (h : ((ofRaw k n s).2 == 0) = true) : rawEq k n s 0 0 ⟨#[]⟩ = !(k != 0) := by
  by_cases hk : k = 0
  · subst hk
    unfold ofRaw at h
    split at h
    · rename_i c
      have e := empty_eq s c.2.2
      rw [c.2.1]; unfold rawEq; rw [e]; rfl
    · split at h
      · rename_i c; omega
      · split at h
        · rename_i c; omega
        · simp at h
  · have : (k == 0) = false := by simpa using hk
    simp [rawEq, this, hk]
def refMayOp (kind : Int) (key : ByteArray) (vk vn : Int) (vs : ByteArray) (ok on : Int) (os : ByteArray) (n : Int) : Bool :=
  Ph.keyB key.data.toList &&
    (if kind = 1 then (vk != 0) && ((ofRaw vk vn vs).2 == 0) && rawEq ok on os 0 0 ⟨#[]⟩ && (n == 0)
     else if kind = 2 then rawEq vk vn vs 0 0 ⟨#[]⟩ && rawEq ok on os 0 0 ⟨#[]⟩ && (n == 0)
     else if kind = 3 then ((ofRaw vk vn vs).2 == 0) && ((ofRaw ok on os).2 == 0) && ((vk != 0) || (ok != 0)) && (n == 0)
     else if kind = 4 then rawEq vk vn vs 0 0 ⟨#[]⟩ && rawEq ok on os 0 0 ⟨#[]⟩ && decide (n ≥ -1099511627776) && decide (n ≤ 1099511627776)
     else false)
theorem mayOp_eq (kind : Int) (key : ByteArray) (vk vn : Int) (vs : ByteArray) (ok on : Int) (os : ByteArray) (n : Int) : refMayOp kind key vk vn vs ok on os n = mayOp kind key vk vn vs ok on os n := by
  have a1 := @raw_zero_may vk vn vs
  have a2 := @may_zero vk vn vs
  have b1 := @raw_zero_may ok on os
  have b2 := @may_zero ok on os
  unfold refMayOp mayOp
  generalize rawEq vk vn vs 0 0 ⟨#[]⟩ = zv at *
  generalize rawEq ok on os 0 0 ⟨#[]⟩ = zo at *
  generalize ((ofRaw vk vn vs).2 == 0) = mv at *
  generalize ((ofRaw ok on os).2 == 0) = mo at *
  generalize (vk != 0) = kv at *
  generalize (ok != 0) = ko at *
  generalize Ph.keyB key.data.toList = kb at *
  generalize (n == 0) = n0 at *
  generalize decide (n ≥ -1099511627776) = n1 at *
  generalize decide (n ≤ 1099511627776) = n2 at *
  by_cases k1 : kind = 1
  · simp only [if_pos k1]
    revert a1 a2 b1 b2; revert zv zo mv mo kv ko kb n0; decide
  by_cases k2 : kind = 2
  · simp only [if_neg k1, if_pos k2]
    revert a1 a2 b1 b2; revert zv zo mv mo kv ko kb n0; decide
  by_cases k3 : kind = 3
  · simp only [if_neg k1, if_neg k2, if_pos k3]
    revert a1 a2 b1 b2; revert zv zo mv mo kv ko kb n0; decide
  by_cases k4 : kind = 4
  · simp only [if_neg k1, if_neg k2, if_neg k3, if_pos k4]
    clear n0
    generalize (n1 && n2) = q
    cases zv <;> cases zo <;> cases mv <;> cases mo <;> cases kb <;> cases n1 <;> cases n2 <;> simp_all
  simp only [if_neg k1, if_neg k2, if_neg k3, if_neg k4]
  simp
theorem ref_EqS (k n : Int) (s : ByteArray) (k' n' : Int) (s' : ByteArray) (w : World) :
    Calls Tryz.prog 84 ⟨[.agg #[.int .i64 k, .int .i64 n, .string s], .agg #[.int .i64 k', .int .i64 n', .string s']]⟩ w fun e w' => e = .returned (.bool (rawEq k n s k' n' s')) ∧ Below w.heap.size w w' := by
  have hw := Has.start (G := 0) (w := w) (Nat.zero_le _)
  refine enter Tryz.func84 Tryz.ntmps84 rfl rfl fun a hs => ?_
  repeat (first | (refine sxv hs hw ?_; clear hs; intro a hs) | refine sxc hs ?_ | (refine sxa hs hw ?_; clear hs hw; intro a b W hw hs) | (refine sxs hs hw ?_; clear hs hw; intro W hs hw))
  cases h1 : (k == k') with
  | false =>
    rw [h1] at hs
    repeat (first | (refine sxv hs hw ?_; clear hs; intro a hs) | refine sxc hs ?_ | (refine sxa hs hw ?_; clear hs hw; intro a b W hw hs) | (refine sxs hs hw ?_; clear hs hw; intro W hs hw))
    exact rt1 hs rfl rfl ⟨by simp [rawEq, h1], hw.end (by repeat (first | exact In.hd | apply In.tl))⟩
  | true =>
    rw [h1] at hs
    repeat (first | (refine sxv hs hw ?_; clear hs; intro a hs) | refine sxc hs ?_ | (refine sxa hs hw ?_; clear hs hw; intro a b W hw hs) | (refine sxs hs hw ?_; clear hs hw; intro W hs hw))
    cases h2 : (n == n') with
    | false =>
      rw [h2] at hs
      repeat (first | (refine sxv hs hw ?_; clear hs; intro a hs) | refine sxc hs ?_ | (refine sxa hs hw ?_; clear hs hw; intro a b W hw hs) | (refine sxs hs hw ?_; clear hs hw; intro W hs hw))
      exact rt1 hs rfl rfl ⟨by simp [rawEq, h2], hw.end (by repeat (first | exact In.hd | apply In.tl))⟩
    | true =>
      rw [h2] at hs
      repeat (first | (refine sxv hs hw ?_; clear hs; intro a hs) | refine sxc hs ?_ | (refine sxa hs hw ?_; clear hs hw; intro a b W hw hs) | (refine sxs hs hw ?_; clear hs hw; intro W hs hw))
      exact rt1 hs rfl rfl ⟨by simp [rawEq, h1, h2], hw.end (by repeat (first | exact In.hd | apply In.tl))⟩
set_option maxHeartbeats 8000000 in
theorem ref_MayOp0 (kind : Int) (key : ByteArray) (vk vn : Int) (vs : ByteArray) (ok on : Int) (os : ByteArray) (n : Int) (w : World) (hs0 : key.size ≤ 1000000) (hs1 : vs.size ≤ 1000000) (hs2 : os.size ≤ 1000000) :
    Calls Tryz.prog 87 ⟨[.agg #[.int .i64 kind, .string key, .int .i64 vk, .int .i64 vn, .string vs, .int .i64 ok, .int .i64 on, .string os, .int .i64 n]]⟩ w fun e w' => e = .returned (.bool (refMayOp kind key vk vn vs ok on os n)) ∧ Below w.heap.size w w' := by
  have hw := Has.start (G := 0) (w := w) (Nat.zero_le _)
  refine enter Tryz.func87 Tryz.ntmps87 rfl rfl fun a hs => ?_
  repeat (first | (refine sxv hs hw ?_; clear hs; intro a hs) | refine sxc hs ?_ | (refine sxa hs hw ?_; clear hs hw; intro a b W hw hs) | (refine sxs hs hw ?_; clear hs hw; intro W hs hw))
  refine st_call hs (hc := ref_Key key _ hs0) (k := ?_); rintro e0 W1 ⟨rfl, hb⟩; refine ⟨_, rfl, ?_⟩; clear hs; intro a hs; replace hw := hw.below hb; clear hb
  cases h1 : (Ph.keyB key.data.toList) with
  | false =>
    rw [h1] at hs
    repeat (first | (refine sxv hs hw ?_; clear hs; intro a hs) | refine sxc hs ?_ | (refine sxa hs hw ?_; clear hs hw; intro a b W hw hs) | (refine sxs hs hw ?_; clear hs hw; intro W hs hw))
    exact rt1 hs rfl rfl ⟨by simp [refMayOp, h1], hw.end (by repeat (first | exact In.hd | apply In.tl))⟩
  | true =>
    rw [h1] at hs
    repeat (first | (refine sxv hs hw ?_; clear hs; intro a hs) | refine sxc hs ?_ | (refine sxa hs hw ?_; clear hs hw; intro a b W hw hs) | (refine sxs hs hw ?_; clear hs hw; intro W hs hw))
    obtain ⟨b1, q1⟩ := nm1 hw; subst q1
    have hw : Has 0 w _ [Cells b1 [.int .i64 kind, .string key, .int .i64 vk, .int .i64 vn, .string vs, .int .i64 ok, .int .i64 on, .string os, .int .i64 n] 95, Old w 0] := hw
    refine rg_draw (V := [.pointer (some ⟨b1, 0 + 2, none⟩), .pointer (some ⟨b1, 0 + 2 + 0, none⟩), .int .i64 vk, .pointer (some ⟨b1, 0 + 5, none⟩), .pointer (some ⟨b1, 0 + 5 + 0, none⟩), .int .i64 ok, .int .i64 vk, .int .i64 ok])
      (Rs := fun _ => [Cells b1 [.int .i64 kind, .string key, .int .i64 vk, .int .i64 vn, .string vs, .int .i64 ok, .int .i64 on, .string os, .int .i64 n] 95, Old w 0]) hs hw (ho := ⟨?_, ?_, ?_, ?_, ?_, ?_, ?_, ?_, trivial⟩) (k := ?k_a)
    case k_a =>
      clear hs hw
      intro a W hs hw
      repeat (first | (refine sxv hs hw ?_; clear hs; intro a hs) | refine sxc hs ?_ | (refine sxa hs hw ?_; clear hs hw; intro a b W hw hs) | (refine sxs hs hw ?_; clear hs hw; intro W hs hw))
      by_cases k1 : kind = 1
      · subst k1
        repeat (first | (refine sxv hs hw ?_; clear hs; intro a hs) | refine sxc hs ?_ | (refine sxa hs hw ?_; clear hs hw; intro a b W hw hs) | (refine sxs hs hw ?_; clear hs hw; intro W hs hw))
        cases h6 : (vk != 0) with
        | false =>
          rw [h6] at hs
          repeat (first | (refine sxv hs hw ?_; clear hs; intro a hs) | refine sxc hs ?_ | (refine sxa hs hw ?_; clear hs hw; intro a b W hw hs) | (refine sxs hs hw ?_; clear hs hw; intro W hs hw))
          exact rt1 hs rfl rfl ⟨by simp [refMayOp, h1, h6], hw.end (by repeat (first | exact In.hd | apply In.tl))⟩
        | true =>
          rw [h6] at hs
          repeat (first | (refine sxv hs hw ?_; clear hs; intro a hs) | refine sxc hs ?_ | (refine sxa hs hw ?_; clear hs hw; intro a b W hw hs) | (refine sxs hs hw ?_; clear hs hw; intro W hs hw))
          refine st_call hs (hc := ref_May vk vn vs _ hs1) (k := ?_); rintro e0 W1 ⟨rfl, hb⟩; refine ⟨_, rfl, ?_⟩; clear hs; intro a hs; replace hw := hw.below hb; clear hb
          cases h2 : ((ofRaw vk vn vs).2 == 0) with
          | false =>
            rw [h2] at hs
            repeat (first | (refine sxv hs hw ?_; clear hs; intro a hs) | refine sxc hs ?_ | (refine sxa hs hw ?_; clear hs hw; intro a b W hw hs) | (refine sxs hs hw ?_; clear hs hw; intro W hs hw))
            exact rt1 hs rfl rfl ⟨by simp [refMayOp, h1, h6, h2], hw.end (by repeat (first | exact In.hd | apply In.tl))⟩
          | true =>
            rw [h2] at hs
            repeat (first | (refine sxv hs hw ?_; clear hs; intro a hs) | refine sxc hs ?_ | (refine sxa hs hw ?_; clear hs hw; intro a b W hw hs) | (refine sxs hs hw ?_; clear hs hw; intro W hs hw))
            refine st_call hs (hc := ref_EqS ok on os 0 0 ⟨#[]⟩ _) (k := ?_); rintro e0 W1 ⟨rfl, hb⟩; refine ⟨_, rfl, ?_⟩; clear hs; intro a hs; replace hw := hw.below hb; clear hb
            cases h5 : (rawEq ok on os 0 0 ⟨#[]⟩) with
            | false =>
              rw [h5] at hs
              repeat (first | (refine sxv hs hw ?_; clear hs; intro a hs) | refine sxc hs ?_ | (refine sxa hs hw ?_; clear hs hw; intro a b W hw hs) | (refine sxs hs hw ?_; clear hs hw; intro W hs hw))
              exact rt1 hs rfl rfl ⟨by simp [refMayOp, h1, h6, h2, h5], hw.end (by repeat (first | exact In.hd | apply In.tl))⟩
            | true =>
              rw [h5] at hs
              repeat (first | (refine sxv hs hw ?_; clear hs; intro a hs) | refine sxc hs ?_ | (refine sxa hs hw ?_; clear hs hw; intro a b W hw hs) | (refine sxs hs hw ?_; clear hs hw; intro W hs hw))
              exact rt1 hs rfl rfl ⟨by simp [refMayOp, h1, h6, h2, h5], hw.end (by repeat (first | exact In.hd | apply In.tl))⟩
      have e1 : (kind == 1) = false := by simpa using k1
      rw [e1] at hs
      repeat (first | (refine sxv hs hw ?_; clear hs; intro a hs) | refine sxc hs ?_ | (refine sxa hs hw ?_; clear hs hw; intro a b W hw hs) | (refine sxs hs hw ?_; clear hs hw; intro W hs hw))
      by_cases k2 : kind = 2
      · subst k2
        repeat (first | (refine sxv hs hw ?_; clear hs; intro a hs) | refine sxc hs ?_ | (refine sxa hs hw ?_; clear hs hw; intro a b W hw hs) | (refine sxs hs hw ?_; clear hs hw; intro W hs hw))
        repeat (first | (refine sxv hs hw ?_; clear hs; intro a hs) | refine sxc hs ?_ | (refine sxa hs hw ?_; clear hs hw; intro a b W hw hs) | (refine sxs hs hw ?_; clear hs hw; intro W hs hw))
        refine st_call hs (hc := ref_EqS vk vn vs 0 0 ⟨#[]⟩ _) (k := ?_); rintro e0 W1 ⟨rfl, hb⟩; refine ⟨_, rfl, ?_⟩; clear hs; intro a hs; replace hw := hw.below hb; clear hb
        cases h4 : (rawEq vk vn vs 0 0 ⟨#[]⟩) with
        | false =>
          rw [h4] at hs
          repeat (first | (refine sxv hs hw ?_; clear hs; intro a hs) | refine sxc hs ?_ | (refine sxa hs hw ?_; clear hs hw; intro a b W hw hs) | (refine sxs hs hw ?_; clear hs hw; intro W hs hw))
          exact rt1 hs rfl rfl ⟨by simp [refMayOp, h1, h4], hw.end (by repeat (first | exact In.hd | apply In.tl))⟩
        | true =>
          rw [h4] at hs
          repeat (first | (refine sxv hs hw ?_; clear hs; intro a hs) | refine sxc hs ?_ | (refine sxa hs hw ?_; clear hs hw; intro a b W hw hs) | (refine sxs hs hw ?_; clear hs hw; intro W hs hw))
          refine st_call hs (hc := ref_EqS ok on os 0 0 ⟨#[]⟩ _) (k := ?_); rintro e0 W1 ⟨rfl, hb⟩; refine ⟨_, rfl, ?_⟩; clear hs; intro a hs; replace hw := hw.below hb; clear hb
          cases h5 : (rawEq ok on os 0 0 ⟨#[]⟩) with
          | false =>
            rw [h5] at hs
            repeat (first | (refine sxv hs hw ?_; clear hs; intro a hs) | refine sxc hs ?_ | (refine sxa hs hw ?_; clear hs hw; intro a b W hw hs) | (refine sxs hs hw ?_; clear hs hw; intro W hs hw))
            exact rt1 hs rfl rfl ⟨by simp [refMayOp, h1, h4, h5], hw.end (by repeat (first | exact In.hd | apply In.tl))⟩
          | true =>
            rw [h5] at hs
            repeat (first | (refine sxv hs hw ?_; clear hs; intro a hs) | refine sxc hs ?_ | (refine sxa hs hw ?_; clear hs hw; intro a b W hw hs) | (refine sxs hs hw ?_; clear hs hw; intro W hs hw))
            exact rt1 hs rfl rfl ⟨by simp [refMayOp, h1, h4, h5], hw.end (by repeat (first | exact In.hd | apply In.tl))⟩
      have e2 : (kind == 2) = false := by simpa using k2
      rw [e2] at hs
      repeat (first | (refine sxv hs hw ?_; clear hs; intro a hs) | refine sxc hs ?_ | (refine sxa hs hw ?_; clear hs hw; intro a b W hw hs) | (refine sxs hs hw ?_; clear hs hw; intro W hs hw))
      by_cases k3 : kind = 3
      · subst k3
        repeat (first | (refine sxv hs hw ?_; clear hs; intro a hs) | refine sxc hs ?_ | (refine sxa hs hw ?_; clear hs hw; intro a b W hw hs) | (refine sxs hs hw ?_; clear hs hw; intro W hs hw))
        repeat (first | (refine sxv hs hw ?_; clear hs; intro a hs) | refine sxc hs ?_ | (refine sxa hs hw ?_; clear hs hw; intro a b W hw hs) | (refine sxs hs hw ?_; clear hs hw; intro W hs hw))
        refine st_call hs (hc := ref_May vk vn vs _ hs1) (k := ?_); rintro e0 W1 ⟨rfl, hb⟩; refine ⟨_, rfl, ?_⟩; clear hs; intro a hs; replace hw := hw.below hb; clear hb
        cases h2 : ((ofRaw vk vn vs).2 == 0) with
        | false =>
          rw [h2] at hs
          repeat (first | (refine sxv hs hw ?_; clear hs; intro a hs) | refine sxc hs ?_ | (refine sxa hs hw ?_; clear hs hw; intro a b W hw hs) | (refine sxs hs hw ?_; clear hs hw; intro W hs hw))
          exact rt1 hs rfl rfl ⟨by simp [refMayOp, h1, h2], hw.end (by repeat (first | exact In.hd | apply In.tl))⟩
        | true =>
          rw [h2] at hs
          repeat (first | (refine sxv hs hw ?_; clear hs; intro a hs) | refine sxc hs ?_ | (refine sxa hs hw ?_; clear hs hw; intro a b W hw hs) | (refine sxs hs hw ?_; clear hs hw; intro W hs hw))
          refine st_call hs (hc := ref_May ok on os _ hs2) (k := ?_); rintro e0 W1 ⟨rfl, hb⟩; refine ⟨_, rfl, ?_⟩; clear hs; intro a hs; replace hw := hw.below hb; clear hb
          cases h3 : ((ofRaw ok on os).2 == 0) with
          | false =>
            rw [h3] at hs
            repeat (first | (refine sxv hs hw ?_; clear hs; intro a hs) | refine sxc hs ?_ | (refine sxa hs hw ?_; clear hs hw; intro a b W hw hs) | (refine sxs hs hw ?_; clear hs hw; intro W hs hw))
            exact rt1 hs rfl rfl ⟨by simp [refMayOp, h1, h2, h3], hw.end (by repeat (first | exact In.hd | apply In.tl))⟩
          | true =>
            rw [h3] at hs
            repeat (first | (refine sxv hs hw ?_; clear hs; intro a hs) | refine sxc hs ?_ | (refine sxa hs hw ?_; clear hs hw; intro a b W hw hs) | (refine sxs hs hw ?_; clear hs hw; intro W hs hw))
            cases h6 : (vk != 0) with
            | false =>
              rw [h6] at hs
              repeat (first | (refine sxv hs hw ?_; clear hs; intro a hs) | refine sxc hs ?_ | (refine sxa hs hw ?_; clear hs hw; intro a b W hw hs) | (refine sxs hs hw ?_; clear hs hw; intro W hs hw))
              cases h7 : (ok != 0) with
              | false =>
                rw [h7] at hs
                repeat (first | (refine sxv hs hw ?_; clear hs; intro a hs) | refine sxc hs ?_ | (refine sxa hs hw ?_; clear hs hw; intro a b W hw hs) | (refine sxs hs hw ?_; clear hs hw; intro W hs hw))
                exact rt1 hs rfl rfl ⟨by simp [refMayOp, h1, h2, h3, h6, h7], hw.end (by repeat (first | exact In.hd | apply In.tl))⟩
              | true =>
                rw [h7] at hs
                repeat (first | (refine sxv hs hw ?_; clear hs; intro a hs) | refine sxc hs ?_ | (refine sxa hs hw ?_; clear hs hw; intro a b W hw hs) | (refine sxs hs hw ?_; clear hs hw; intro W hs hw))
                exact rt1 hs rfl rfl ⟨by simp [refMayOp, h1, h2, h3, h6, h7], hw.end (by repeat (first | exact In.hd | apply In.tl))⟩
            | true =>
              rw [h6] at hs
              repeat (first | (refine sxv hs hw ?_; clear hs; intro a hs) | refine sxc hs ?_ | (refine sxa hs hw ?_; clear hs hw; intro a b W hw hs) | (refine sxs hs hw ?_; clear hs hw; intro W hs hw))
              exact rt1 hs rfl rfl ⟨by simp [refMayOp, h1, h2, h3, h6], hw.end (by repeat (first | exact In.hd | apply In.tl))⟩
      have e3 : (kind == 3) = false := by simpa using k3
      rw [e3] at hs
      repeat (first | (refine sxv hs hw ?_; clear hs; intro a hs) | refine sxc hs ?_ | (refine sxa hs hw ?_; clear hs hw; intro a b W hw hs) | (refine sxs hs hw ?_; clear hs hw; intro W hs hw))
      by_cases k4 : kind = 4
      · subst k4
        repeat (first | (refine sxv hs hw ?_; clear hs; intro a hs) | refine sxc hs ?_ | (refine sxa hs hw ?_; clear hs hw; intro a b W hw hs) | (refine sxs hs hw ?_; clear hs hw; intro W hs hw))
        repeat (first | (refine sxv hs hw ?_; clear hs; intro a hs) | refine sxc hs ?_ | (refine sxa hs hw ?_; clear hs hw; intro a b W hw hs) | (refine sxs hs hw ?_; clear hs hw; intro W hs hw))
        refine st_call hs (hc := ref_EqS vk vn vs 0 0 ⟨#[]⟩ _) (k := ?_); rintro e0 W1 ⟨rfl, hb⟩; refine ⟨_, rfl, ?_⟩; clear hs; intro a hs; replace hw := hw.below hb; clear hb
        cases h4 : (rawEq vk vn vs 0 0 ⟨#[]⟩) with
        | false =>
          rw [h4] at hs
          repeat (first | (refine sxv hs hw ?_; clear hs; intro a hs) | refine sxc hs ?_ | (refine sxa hs hw ?_; clear hs hw; intro a b W hw hs) | (refine sxs hs hw ?_; clear hs hw; intro W hs hw))
          exact rt1 hs rfl rfl ⟨by simp [refMayOp, h1, h4], hw.end (by repeat (first | exact In.hd | apply In.tl))⟩
        | true =>
          rw [h4] at hs
          repeat (first | (refine sxv hs hw ?_; clear hs; intro a hs) | refine sxc hs ?_ | (refine sxa hs hw ?_; clear hs hw; intro a b W hw hs) | (refine sxs hs hw ?_; clear hs hw; intro W hs hw))
          refine st_call hs (hc := ref_EqS ok on os 0 0 ⟨#[]⟩ _) (k := ?_); rintro e0 W1 ⟨rfl, hb⟩; refine ⟨_, rfl, ?_⟩; clear hs; intro a hs; replace hw := hw.below hb; clear hb
          cases h5 : (rawEq ok on os 0 0 ⟨#[]⟩) with
          | false =>
            rw [h5] at hs
            repeat (first | (refine sxv hs hw ?_; clear hs; intro a hs) | refine sxc hs ?_ | (refine sxa hs hw ?_; clear hs hw; intro a b W hw hs) | (refine sxs hs hw ?_; clear hs hw; intro W hs hw))
            exact rt1 hs rfl rfl ⟨by simp [refMayOp, h1, h4, h5], hw.end (by repeat (first | exact In.hd | apply In.tl))⟩
          | true =>
            rw [h5] at hs
            repeat (first | (refine sxv hs hw ?_; clear hs; intro a hs) | refine sxc hs ?_ | (refine sxa hs hw ?_; clear hs hw; intro a b W hw hs) | (refine sxs hs hw ?_; clear hs hw; intro W hs hw))
            cases h6 : (decide (n ≥ -1099511627776)) with
            | false =>
              rw [h6] at hs
              repeat (first | (refine sxv hs hw ?_; clear hs; intro a hs) | refine sxc hs ?_ | (refine sxa hs hw ?_; clear hs hw; intro a b W hw hs) | (refine sxs hs hw ?_; clear hs hw; intro W hs hw))
              exact rt1 hs rfl rfl ⟨by simp [refMayOp, h1, h4, h5, h6], hw.end (by repeat (first | exact In.hd | apply In.tl))⟩
            | true =>
              rw [h6] at hs
              repeat (first | (refine sxv hs hw ?_; clear hs; intro a hs) | refine sxc hs ?_ | (refine sxa hs hw ?_; clear hs hw; intro a b W hw hs) | (refine sxs hs hw ?_; clear hs hw; intro W hs hw))
              exact rt1 hs rfl rfl ⟨by simp [refMayOp, h1, h4, h5, h6], hw.end (by repeat (first | exact In.hd | apply In.tl))⟩
      have e4 : (kind == 4) = false := by simpa using k4
      rw [e4] at hs
      repeat (first | (refine sxv hs hw ?_; clear hs; intro a hs) | refine sxc hs ?_ | (refine sxa hs hw ?_; clear hs hw; intro a b W hw hs) | (refine sxs hs hw ?_; clear hs hw; intro W hs hw))
      repeat (first | (refine sxv hs hw ?_; clear hs; intro a hs) | refine sxc hs ?_ | (refine sxa hs hw ?_; clear hs hw; intro a b W hw hs) | (refine sxs hs hw ?_; clear hs hw; intro W hs hw))
      exact rt1 hs rfl rfl ⟨by simp [refMayOp, h1, k1, k2, k3, k4], hw.end (by repeat (first | exact In.hd | apply In.tl))⟩
    all_goals
      intro LD D a W hcl hi hp hs hw
      repeat (first | (refine sxv hs hw ?_; clear hs; intro a hs) | refine sxc hs ?_ | (refine sxa hs hw ?_; clear hs hw; intro a b W hw hs) | (refine sxs hs hw ?_; clear hs hw; intro W hs hw))
      exact ⟨hs, hw⟩
theorem ref_MayOp (kind : Int) (key : ByteArray) (vk vn : Int) (vs : ByteArray) (ok on : Int) (os : ByteArray) (n : Int) (w : World) (hs0 : key.size ≤ 1000000) (hs1 : vs.size ≤ 1000000) (hs2 : os.size ≤ 1000000) :
    Calls Tryz.prog 87 ⟨[.agg #[.int .i64 kind, .string key, .int .i64 vk, .int .i64 vn, .string vs, .int .i64 ok, .int .i64 on, .string os, .int .i64 n]]⟩ w fun e w' => e = .returned (.bool (mayOp kind key vk vn vs ok on os n)) ∧ Below w.heap.size w w' := by
  rw [← mayOp_eq]
  exact ref_MayOp0 kind key vk vn vs ok on os n w hs0 hs1 hs2
end Go.Proofs.YtmalklakaalaoaaGreatDoor.Sw

set_option linter.unusedVariables false
set_option maxRecDepth 10000
namespace Go.Proofs.YtmalklakaalaoaaGreatDoor.Sw
open Go.RowKit Go.Sx
-- pieces
set_option maxHeartbeats 4000000 in
theorem bytes_Equal (l m : List UInt8) (v u : Value) (w : World) (r : RdB w v l) (r' : RdB w u m) :
    Calls Tryz.prog 60 ⟨[v, u]⟩ w fun e w' => e = .returned (.bool (l == m)) ∧ Below w.heap.size w w' := by
  have hw := Has.start (G := 0) (w := w) (Nat.zero_le _)
  refine enter Tryz.func60 Tryz.ntmps60 rfl rfl fun a hs => ?_
  repeat (first | (refine sxv hs hw ?_; clear hs; intro a hs) | refine sxc hs ?_ | (refine sxa hs hw ?_; clear hs hw; intro a b W hw hs) | (refine sxs hs hw ?_; clear hs hw; intro W hs hw))
  refine st_string_b (hs := hs) (r := r) (k := ?_); clear hs; intro a hs
  repeat (first | (refine sxv hs hw ?_; clear hs; intro a hs) | refine sxc hs ?_ | (refine sxa hs hw ?_; clear hs hw; intro a b W hw hs) | (refine sxs hs hw ?_; clear hs hw; intro W hs hw))
  refine st_string_b (hs := hs) (r := r') (k := ?_); clear hs; intro a hs
  repeat (first | (refine sxv hs hw ?_; clear hs; intro a hs) | refine sxc hs ?_ | (refine sxa hs hw ?_; clear hs hw; intro a b W hw hs) | (refine sxs hs hw ?_; clear hs hw; intro W hs hw))
  have e : ((⟨l.toArray⟩ : ByteArray).toList == (⟨m.toArray⟩ : ByteArray).toList) = (l == m) := by
    rw [Go.ByteArray.toList_eq, Go.ByteArray.toList_eq]
  rw [e] at hs
  exact rt1 hs rfl rfl ⟨rfl, hw.end (by repeat (first | exact In.hd | apply In.tl))⟩
theorem op_at {W : World} {sad : Option Addr} {scap : Nat} {l : List OpD} {i : Nat} {o : OpD} (r : Rd W 9 (.slice sad l.length scap) l.length (l.flatMap opCells)) (h : l[i]? = some o) :
    ∃ g off, sad = some ⟨g, off, none⟩ ∧ g < W.heap.size ∧ ∀ j u, (opCells o)[j]? = some u → W.cell? ⟨g, off + i * 9 + j, none⟩ = some u := by
  have hi : i < l.length := (List.getElem?_eq_some_iff.1 h).1
  obtain ⟨h1, ad, cap, e, h3, h4, h5⟩ := r
  injection e with e1 e2 e3
  subst e1
  rcases h5 with h5 | ⟨b, off, rfl, hlt, hc⟩
  · omega
  · refine ⟨b, off, rfl, hlt, fun j u hu => ?_⟩
    rw [Nat.add_assoc]
    refine hc _ _ ?_
    have e := (congrArg (fun t => t[j]?) (cut_ops l i o h)).trans hu
    simp only [List.getElem?_take] at e
    split at e
    · rw [List.getElem?_drop] at e; exact e
    · cases e
theorem eqOps_snoc {l l' : List OpD} {i : Nat} {o o' : OpD} (h : l[i]? = some o) (h' : l'[i]? = some o') (e : eqOps (l.take i) (l'.take i) = true) : eqOps (l.take (i + 1)) (l'.take (i + 1)) = eqOp o o' := by
  unfold eqOps at *
  have h1 := (List.getElem?_eq_some_iff.1 h).1
  have h2 := (List.getElem?_eq_some_iff.1 h').1
  rw [List.take_add_one, List.take_add_one, h, h', List.zip_append (by simp; omega), List.all_append, e]
  simp
theorem eqOps_no {l l' : List OpD} {i : Nat} {o o' : OpD} (h : l[i]? = some o) (h' : l'[i]? = some o') (e : eqOp o o' = false) : eqOps l l' = false := by
  unfold eqOps
  rw [List.all_eq_false]
  exact ⟨(o, o'), List.mem_of_getElem? (i := i) (by rw [List.getElem?_zip_eq_some]; exact ⟨h, h'⟩), by rw [e]; simp⟩
set_option maxHeartbeats 8000000 in
theorem ref_EqBatch (c q : Int) (l : List OpD) (sv : Value) (c' q' : Int) (l' : List OpD) (sv' : Value) (w : World) (r : Rd w 9 sv l.length (l.flatMap opCells)) (r' : Rd w 9 sv' l'.length (l'.flatMap opCells)) :
    Calls Tryz.prog 57 ⟨[.agg ⟨[.int .i64 c, .int .i64 q, sv]⟩, .agg ⟨[.int .i64 c', .int .i64 q', sv']⟩]⟩ w fun e w' => e = .returned (.bool (eqBatch c q l c' q' l')) ∧ Below w.heap.size w w' := by
  have hw := Has.start (G := 0) (w := w) (Nat.zero_le _)
  obtain ⟨sad, scap, rfl⟩ : ∃ ad cap, sv = .slice ad l.length cap := by obtain ⟨_, ad, cap, e, _⟩ := r; exact ⟨ad, cap, e⟩
  obtain ⟨tad, tcap, rfl⟩ : ∃ ad cap, sv' = .slice ad l'.length cap := by obtain ⟨_, ad, cap, e, _⟩ := r'; exact ⟨ad, cap, e⟩
  have hlen : l.length ≤ 9223372036854775807 := r.len
  refine enter Tryz.func57 Tryz.ntmps57 rfl rfl fun a hs => ?_
  repeat (first | (refine sxv hs hw ?_; clear hs; intro a hs) | refine sxc hs ?_ | (refine sxa hs hw ?_; clear hs hw; intro a b W hw hs) | (refine sxs hs hw ?_; clear hs hw; intro W hs hw))
  cases h0 : (c != c') with
  | true =>
    rw [h0] at hs
    repeat (first | (refine sxv hs hw ?_; clear hs; intro a hs) | refine sxc hs ?_ | (refine sxa hs hw ?_; clear hs hw; intro a b W hw hs) | (refine sxs hs hw ?_; clear hs hw; intro W hs hw))
    exact rt1 hs rfl rfl ⟨by rw [bne_iff_ne] at h0; simp [eqBatch, h0], hw.end (by repeat (first | exact In.hd | apply In.tl))⟩
  | false =>
  rw [h0] at hs
  repeat (first | (refine sxv hs hw ?_; clear hs; intro a hs) | refine sxc hs ?_ | (refine sxa hs hw ?_; clear hs hw; intro a b W hw hs) | (refine sxs hs hw ?_; clear hs hw; intro W hs hw))
  cases h1 : (q != q') with
  | true =>
    rw [h1] at hs
    repeat (first | (refine sxv hs hw ?_; clear hs; intro a hs) | refine sxc hs ?_ | (refine sxa hs hw ?_; clear hs hw; intro a b W hw hs) | (refine sxs hs hw ?_; clear hs hw; intro W hs hw))
    exact rt1 hs rfl rfl ⟨by rw [bne_iff_ne] at h1; simp [eqBatch, h1], hw.end (by repeat (first | exact In.hd | apply In.tl))⟩
  | false =>
  rw [h1] at hs
  repeat (first | (refine sxv hs hw ?_; clear hs; intro a hs) | refine sxc hs ?_ | (refine sxa hs hw ?_; clear hs hw; intro a b W hw hs) | (refine sxs hs hw ?_; clear hs hw; intro W hs hw))
  cases h2 : ((l.length : Int) != (l'.length : Int)) with
  | true =>
    rw [h2] at hs
    repeat (first | (refine sxv hs hw ?_; clear hs; intro a hs) | refine sxc hs ?_ | (refine sxa hs hw ?_; clear hs hw; intro a b W hw hs) | (refine sxs hs hw ?_; clear hs hw; intro W hs hw))
    have h3 : ¬ l.length = l'.length := by rw [bne_iff_ne] at h2; omega
    exact rt1 hs rfl rfl ⟨by simp [eqBatch, h3], hw.end (by repeat (first | exact In.hd | apply In.tl))⟩
  | false =>
  rw [h2] at hs
  repeat (first | (refine sxv hs hw ?_; clear hs; intro a hs) | refine sxc hs ?_ | (refine sxa hs hw ?_; clear hs hw; intro a b W hw hs) | (refine sxs hs hw ?_; clear hs hw; intro W hs hw))
  have hL : l.length = l'.length := by
    have : (l.length : Int) = (l'.length : Int) := by simpa using h2
    omega
  have hmb : eqBatch c q l c' q' l' = eqOps l l' := by
    have e0 : c = c' := by simpa using h0
    have e1 : q = q' := by simpa using h1
    simp [eqBatch, e0, e1, hL]
  rw [hmb]
  clear hmb h0 h1 h2
  obtain ⟨b2, q2⟩ := nm1 hw; subst q2
  obtain ⟨b1, q1⟩ := nm2 hw; subst q1
  have hw : Has 0 w _ (Cells b2 [.int .i64 c', .int .i64 q', .slice tad l'.length tcap] 36 :: Cells b1 [.int .i64 c, .int .i64 q, .slice sad l.length scap] 36 :: Old w 0 :: []) := hw
  refine st_loop (σ := Nat) (fun i => [(2, .pointer (some ⟨b1, 0, none⟩)), (3, .pointer (some ⟨b2, 0, none⟩)), (5, .int .i64 (i : Int))]) (fun _ => Cells b2 [.int .i64 c', .int .i64 q', .slice tad l'.length tcap] 36 :: Cells b1 [.int .i64 c, .int .i64 q, .slice sad l.length scap] 36 :: Old w 0 :: []) (fun i => i ≤ l.length ∧ eqOps (l.take i) (l'.take i) = true) (fun i => l.length - i) 0 ⟨Nat.zero_le _, rfl⟩ hs ⟨rfl, rfl, rfl, trivial⟩ hw ?_
  clear hs hw
  rintro i a W ⟨hi, ha⟩ hs hw
  repeat (first | (refine sxv hs hw ?_; clear hs; intro a hs) | refine sxc hs ?_ | (refine sxa hs hw ?_; clear hs hw; intro a b W hw hs) | (refine sxs hs hw ?_; clear hs hw; intro W hs hw))
  refine cd_split hs (kt := fun hcc => ?_) (kf := fun hcc => ?_)
  · have hi' : i < l.length := by simpa using hcc
    obtain ⟨o, hoi⟩ : ∃ o, l[i]? = some o := ⟨l[i], List.getElem?_eq_getElem hi'⟩
    obtain ⟨o', hoi'⟩ : ∃ o, l'[i]? = some o := ⟨l'[i], List.getElem?_eq_getElem (by omega)⟩
    have hnext := eqOps_snoc hoi hoi' ha
    have hall := eqOps_no hoi hoi'
    obtain ⟨g1, f1, rfl, hg1, hc1⟩ := op_at r hoi
    obtain ⟨g2, f2, rfl, hg2, hc2⟩ := op_at r' hoi'
    repeat (first | (refine sxv hs hw ?_; clear hs; intro a hs) | refine sxc hs ?_ | (refine sxa hs hw ?_; clear hs hw; intro a b W hw hs) | (refine sxs hs hw ?_; clear hs hw; intro W hs hw))
    have hw := hw.free.free
    refine rg_drawU (σ := Nat) (V := fun u => [.pointer (some ⟨b1, 0 + 2, none⟩), .slice (some ⟨g1, f1, none⟩) l.length scap, .int .i64 (i : Int), .pointer (some ⟨g1, f1 + i * 9, none⟩), .agg ⟨opCells o⟩, .pointer (some ⟨b2, 0 + 2, none⟩), .slice (some ⟨g2, f2, none⟩) l'.length tcap, .int .i64 (i : Int), .pointer (some ⟨g2, f2 + i * 9, none⟩), .agg ⟨opCells o'⟩, .pointer (some ⟨u 10, 0, none⟩), .pointer (some ⟨u 11, 0, none⟩), .bool true, .bool true])
      (Rs := fun u D => (if D 10 then Cells (u 10) (if D 12 then opCells o else opCells ⟨0, ⟨#[]⟩, 0, 0, ⟨#[]⟩, 0, 0, ⟨#[]⟩, 0⟩) 95 else Free) :: (if D 11 then Cells (u 11) (if D 13 then opCells o' else opCells ⟨0, ⟨#[]⟩, 0, 0, ⟨#[]⟩, 0, 0, ⟨#[]⟩, 0⟩) 95 else Free) :: Cells b2 [.int .i64 c', .int .i64 q', .slice (some ⟨g2, f2, none⟩) l'.length tcap] 36 :: Cells b1 [.int .i64 c, .int .i64 q, .slice (some ⟨g1, f1, none⟩) l.length scap] 36 :: Old w 0 :: []) (fun _ => 0) hs hw (hVu := ?vu_c) (ho := ⟨?_, ?_, ?_, ?c3_c, ?c4_c, ?_, ?_, ?_, ?c8_c, ?c9_c, ?c10_c, ?c11_c, ?c12_c, ?c13_c, trivial⟩) (k := ?k_c)
    case vu_c =>
      intro u u' j h
      rcases j with _ | _ | _ | _ | _ | _ | _ | _ | _ | _ | _ | _ | j
      all_goals first | rfl | simp [h]
    case c3_c =>
      intro u LD D a W hcl hi hp hs hw
      refine st_index_at hs (z := opCells ⟨0, ⟨#[]⟩, 0, 0, ⟨#[]⟩, 0, 0, ⟨#[]⟩, 0⟩) (h0 := by omega) (h1 := by omega) (c := ?_); clear hs; intro a hs
      repeat (first | (refine sxv hs hw ?_; clear hs; intro a hs) | refine sxc hs ?_ | (refine sxa hs hw ?_; clear hs hw; intro a b W hw hs) | (refine sxs hs hw ?_; clear hs hw; intro W hs hw))
      exact Or.inl ⟨hs, hw⟩
    case c8_c =>
      intro u LD D a W hcl hi hp hs hw
      refine st_index_at hs (z := opCells ⟨0, ⟨#[]⟩, 0, 0, ⟨#[]⟩, 0, 0, ⟨#[]⟩, 0⟩) (h0 := by omega) (h1 := by omega) (c := ?_); clear hs; intro a hs
      repeat (first | (refine sxv hs hw ?_; clear hs; intro a hs) | refine sxc hs ?_ | (refine sxa hs hw ?_; clear hs hw; intro a b W hw hs) | (refine sxs hs hw ?_; clear hs hw; intro W hs hw))
      exact Or.inl ⟨hs, hw⟩
    case c4_c =>
      intro u LD D a W hcl hi hp hs hw
      refine st_load_ats (z := opCells ⟨0, ⟨#[]⟩, 0, 0, ⟨#[]⟩, 0, 0, ⟨#[]⟩, 0⟩) hs (hc := fun j u h => ((hw.end (In.tl (In.tl (In.tl (In.tl In.hd))))).cell hg1).trans (hc1 j u h)) (hl := rfl) (c := ?_); clear hs; intro a hs
      repeat (first | (refine sxv hs hw ?_; clear hs; intro a hs) | refine sxc hs ?_ | (refine sxa hs hw ?_; clear hs hw; intro a b W hw hs) | (refine sxs hs hw ?_; clear hs hw; intro W hs hw))
      exact Or.inl ⟨hs, hw⟩
    case c9_c =>
      intro u LD D a W hcl hi hp hs hw
      refine st_load_ats (z := opCells ⟨0, ⟨#[]⟩, 0, 0, ⟨#[]⟩, 0, 0, ⟨#[]⟩, 0⟩) hs (hc := fun j u h => ((hw.end (In.tl (In.tl (In.tl (In.tl In.hd))))).cell hg2).trans (hc2 j u h)) (hl := rfl) (c := ?_); clear hs; intro a hs
      repeat (first | (refine sxv hs hw ?_; clear hs; intro a hs) | refine sxc hs ?_ | (refine sxa hs hw ?_; clear hs hw; intro a b W hw hs) | (refine sxs hs hw ?_; clear hs hw; intro W hs hw))
      exact Or.inl ⟨hs, hw⟩
    case c10_c =>
      intro u LD D a W hcl hi hp hs hw
      have h12 := Go.Sx.not_done hcl hi 12 (by kernel_rfl)
      simp only [hi, Bool.false_eq_true, if_false] at hw
      repeat (first | (refine sxv hs hw ?_; clear hs; intro a hs) | refine sxc hs ?_ | (refine sxa hs hw ?_; clear hs hw; intro a b W hw hs) | (refine sxs hs hw ?_; clear hs hw; intro W hs hw))
      refine Or.inr ⟨_, hs, ?_⟩
      show Has 0 w _ (Cells _ (if (Nat.beq 12 10 || D 12) = true then _ else _) _ :: _)
      rw [h12]
      exact hw.fill Upd.hd
    case c11_c =>
      intro u LD D a W hcl hi hp hs hw
      have h13 := Go.Sx.not_done hcl hi 13 (by kernel_rfl)
      simp only [hi, Bool.false_eq_true, if_false] at hw
      repeat (first | (refine sxv hs hw ?_; clear hs; intro a hs) | refine sxc hs ?_ | (refine sxa hs hw ?_; clear hs hw; intro a b W hw hs) | (refine sxs hs hw ?_; clear hs hw; intro W hs hw))
      refine Or.inr ⟨_, hs, ?_⟩
      show Has 0 w _ (_ :: Cells _ (if (Nat.beq 13 11 || D 13) = true then _ else _) _ :: _)
      rw [h13]
      exact hw.fill (Upd.tl Upd.hd)
    case c12_c =>
      intro u LD D a W hcl hi hp hs hw
      have h10 := Go.Sx.done hp 10 (by kernel_rfl)
      simp only [hi, h10, Bool.false_eq_true, if_false, if_true] at hw
      repeat (first | (refine sxv hs hw ?_; clear hs; intro a hs) | refine sxc hs ?_ | (refine sxa hs hw ?_; clear hs hw; intro a b W hw hs) | (refine sxs hs hw ?_; clear hs hw; intro W hs hw))
      refine Or.inl ⟨hs, ?_⟩
      show Has 0 w _ ((if (Nat.beq 10 12 || D 10) = true then _ else _) :: _)
      rw [h10]
      exact hw
    case c13_c =>
      intro u LD D a W hcl hi hp hs hw
      have h11 := Go.Sx.done hp 11 (by kernel_rfl)
      simp only [hi, h11, Bool.false_eq_true, if_false, if_true] at hw
      repeat (first | (refine sxv hs hw ?_; clear hs; intro a hs) | refine sxc hs ?_ | (refine sxa hs hw ?_; clear hs hw; intro a b W hw hs) | (refine sxs hs hw ?_; clear hs hw; intro W hs hw))
      refine Or.inl ⟨hs, ?_⟩
      show Has 0 w _ (_ :: (if (Nat.beq 11 13 || D 11) = true then _ else _) :: _)
      rw [h11]
      exact hw
    case k_c =>
      clear hs hw
      intro u a W hs hw
      obtain ⟨kind, key, vk, vn, vs, ok, on, os, n⟩ := o
      obtain ⟨kind', key', vk', vn', vs', ok', on', os', n'⟩ := o'
      replace hw : Has 0 w W (Cells (u 10) [.int .i64 kind, .string key, .int .i64 vk, .int .i64 vn, .string vs, .int .i64 ok, .int .i64 on, .string os, .int .i64 n] 95 :: Cells (u 11) [.int .i64 kind', .string key', .int .i64 vk', .int .i64 vn', .string vs', .int .i64 ok', .int .i64 on', .string os', .int .i64 n'] 95 :: Cells b2 [.int .i64 c', .int .i64 q', .slice (some ⟨g2, f2, none⟩) l'.length tcap] 36 :: Cells b1 [.int .i64 c, .int .i64 q, .slice (some ⟨g1, f1, none⟩) l.length scap] 36 :: Old w 0 :: []) := hw
      replace hs : Slots a 81 [(2, .pointer (some ⟨b1, 0, none⟩)), (3, .pointer (some ⟨b2, 0, none⟩)), (5, .int .i64 (i : Int)), (6, .pointer (some ⟨u 10, 0, none⟩)), (7, .pointer (some ⟨u 11, 0, none⟩))] := hs.of ⟨rfl, rfl, rfl, rfl, rfl, trivial⟩
      generalize u 10 = x1 at *
      generalize u 11 = x2 at *
      clear u
      have hdrop := fun W (hw : Has 0 w W (Cells x1 [.int .i64 kind, .string key, .int .i64 vk, .int .i64 vn, .string vs, .int .i64 ok, .int .i64 on, .string os, .int .i64 n] 95 :: Cells x2 [.int .i64 kind', .string key', .int .i64 vk', .int .i64 vn', .string vs', .int .i64 ok', .int .i64 on', .string os', .int .i64 n'] 95 :: Cells b2 [.int .i64 c', .int .i64 q', .slice (some ⟨g2, f2, none⟩) l'.length tcap] 36 :: Cells b1 [.int .i64 c, .int .i64 q, .slice (some ⟨g1, f1, none⟩) l.length scap] 36 :: Old w 0 :: [])) => hw.sub (L' := Cells b2 [.int .i64 c', .int .i64 q', .slice (some ⟨g2, f2, none⟩) l'.length tcap] 36 :: Cells b1 [.int .i64 c, .int .i64 q, .slice (some ⟨g1, f1, none⟩) l.length scap] 36 :: Old w 0 :: []) (List.Sublist.cons _ (List.Sublist.cons _ (List.Sublist.refl _)))
      repeat (first | (refine sxv hs hw ?_; clear hs; intro a hs) | refine sxc hs ?_ | (refine sxa hs hw ?_; clear hs hw; intro a b W hw hs) | (refine sxs hs hw ?_; clear hs hw; intro W hs hw))
      cases k0 : (kind != kind') with
      | true =>
        rw [k0] at hs
        repeat (first | (refine sxv hs hw ?_; clear hs; intro a hs) | refine sxc hs ?_ | (refine sxa hs hw ?_; clear hs hw; intro a b W hw hs) | (refine sxs hs hw ?_; clear hs hw; intro W hs hw))
        rw [bne_iff_ne] at k0
        exact rt1 hs rfl rfl ⟨by rw [hall (by simp [eqOp, k0])], hw.end (by repeat (first | exact In.hd | apply In.tl))⟩
      | false =>
      rw [k0] at hs
      repeat (first | (refine sxv hs hw ?_; clear hs; intro a hs) | refine sxc hs ?_ | (refine sxa hs hw ?_; clear hs hw; intro a b W hw hs) | (refine sxs hs hw ?_; clear hs hw; intro W hs hw))
      cases k1 : (!(key.toList == key'.toList)) with
      | true =>
        rw [k1] at hs
        repeat (first | (refine sxv hs hw ?_; clear hs; intro a hs) | refine sxc hs ?_ | (refine sxa hs hw ?_; clear hs hw; intro a b W hw hs) | (refine sxs hs hw ?_; clear hs hw; intro W hs hw))
        have k1 : (key.toList == key'.toList) = false := by simpa only [Bool.not_eq_true'] using k1
        exact rt1 hs rfl rfl ⟨by rw [hall (by simp only [eqOp, k1, Bool.and_false, Bool.false_and])], hw.end (by repeat (first | exact In.hd | apply In.tl))⟩
      | false =>
      rw [k1] at hs
      repeat (first | (refine sxv hs hw ?_; clear hs; intro a hs) | refine sxc hs ?_ | (refine sxa hs hw ?_; clear hs hw; intro a b W hw hs) | (refine sxs hs hw ?_; clear hs hw; intro W hs hw))
      refine st_call hs (hc := ref_EqS vk vn vs vk' vn' vs' _) (k := ?_); rintro e0 W1 ⟨rfl, hb⟩; refine ⟨_, rfl, ?_⟩; clear hs; intro a hs; replace hw := hw.below hb; clear hb
      repeat (first | (refine sxv hs hw ?_; clear hs; intro a hs) | refine sxc hs ?_ | (refine sxa hs hw ?_; clear hs hw; intro a b W hw hs) | (refine sxs hs hw ?_; clear hs hw; intro W hs hw))
      cases k2 : (!rawEq vk vn vs vk' vn' vs') with
      | true =>
        rw [k2] at hs
        repeat (first | (refine sxv hs hw ?_; clear hs; intro a hs) | refine sxc hs ?_ | (refine sxa hs hw ?_; clear hs hw; intro a b W hw hs) | (refine sxs hs hw ?_; clear hs hw; intro W hs hw))
        have k2 : rawEq vk vn vs vk' vn' vs' = false := by simpa only [Bool.not_eq_true'] using k2
        exact rt1 hs rfl rfl ⟨by rw [hall (by simp only [eqOp, k2, Bool.and_false, Bool.false_and])], hw.end (by repeat (first | exact In.hd | apply In.tl))⟩
      | false =>
      rw [k2] at hs
      repeat (first | (refine sxv hs hw ?_; clear hs; intro a hs) | refine sxc hs ?_ | (refine sxa hs hw ?_; clear hs hw; intro a b W hw hs) | (refine sxs hs hw ?_; clear hs hw; intro W hs hw))
      refine st_call hs (hc := ref_EqS ok on os ok' on' os' _) (k := ?_); rintro e0 W1 ⟨rfl, hb⟩; refine ⟨_, rfl, ?_⟩; clear hs; intro a hs; replace hw := hw.below hb; clear hb
      repeat (first | (refine sxv hs hw ?_; clear hs; intro a hs) | refine sxc hs ?_ | (refine sxa hs hw ?_; clear hs hw; intro a b W hw hs) | (refine sxs hs hw ?_; clear hs hw; intro W hs hw))
      cases k3 : (!rawEq ok on os ok' on' os') with
      | true =>
        rw [k3] at hs
        repeat (first | (refine sxv hs hw ?_; clear hs; intro a hs) | refine sxc hs ?_ | (refine sxa hs hw ?_; clear hs hw; intro a b W hw hs) | (refine sxs hs hw ?_; clear hs hw; intro W hs hw))
        have k3 : rawEq ok on os ok' on' os' = false := by simpa only [Bool.not_eq_true'] using k3
        exact rt1 hs rfl rfl ⟨by rw [hall (by simp only [eqOp, k3, Bool.and_false, Bool.false_and])], hw.end (by repeat (first | exact In.hd | apply In.tl))⟩
      | false =>
      rw [k3] at hs
      repeat (first | (refine sxv hs hw ?_; clear hs; intro a hs) | refine sxc hs ?_ | (refine sxa hs hw ?_; clear hs hw; intro a b W hw hs) | (refine sxs hs hw ?_; clear hs hw; intro W hs hw))
      cases k4 : (n != n') with
      | true =>
        rw [k4] at hs
        repeat (first | (refine sxv hs hw ?_; clear hs; intro a hs) | refine sxc hs ?_ | (refine sxa hs hw ?_; clear hs hw; intro a b W hw hs) | (refine sxs hs hw ?_; clear hs hw; intro W hs hw))
        have k4 : (n == n') = false := by rw [bne_iff_ne] at k4; rw [beq_eq_false_iff_ne]; exact k4
        exact rt1 hs rfl rfl ⟨by rw [hall (by simp only [eqOp, k4, Bool.and_false])], hw.end (by repeat (first | exact In.hd | apply In.tl))⟩
      | false =>
      rw [k4] at hs
      repeat (first | (refine sxv hs hw ?_; clear hs; intro a hs) | refine sxc hs ?_ | (refine sxa hs hw ?_; clear hs hw; intro a b W hw hs) | (refine sxs hs hw ?_; clear hs hw; intro W hs hw))
      have hw := hdrop _ hw
      have he : eqOp ⟨kind, key, vk, vn, vs, ok, on, os, n⟩ ⟨kind', key', vk', vn', vs', ok', on', os', n'⟩ = true := by
        have k0 : (kind == kind') = true := by simpa using k0
        have k4 : (n == n') = true := by simpa using k4
        have k1 : (key.toList == key'.toList) = true := by simpa only [Bool.not_eq_false'] using k1
        have k2 : rawEq vk vn vs vk' vn' vs' = true := by simpa only [Bool.not_eq_false'] using k2
        have k3 : rawEq ok on os ok' on' os' = true := by simpa only [Bool.not_eq_false'] using k3
        simp only [eqOp, k0, k1, k2, k3, k4, Bool.and_true]
      exact st_again (i + 1) hs hw ⟨by omega, by rw [hnext, he]⟩ (by show l.length - (i + 1) < l.length - i; omega) ⟨rfl, rfl, int_eq (by show IntKind.i64.wrap ((i : Int) + 1) = ((i + 1 : Nat) : Int); rw [IntWalk.i64_in _ (by omega)]; omega), trivial⟩
    all_goals
      intro u LD D a W hcl hi hp hs hw
      repeat (first | (refine sxv hs hw ?_; clear hs; intro a hs) | refine sxc hs ?_ | (refine sxa hs hw ?_; clear hs hw; intro a b W hw hs) | (refine sxs hs hw ?_; clear hs hw; intro W hs hw))
      exact Or.inl ⟨hs, hw⟩
  · have hi' : i = l.length := by have h9 := of_decide_eq_false hcc; omega
    subst hi'
    rw [List.take_length, hL, List.take_length] at ha
    rw [ha]
    repeat (first | (refine sxv hs hw ?_; clear hs; intro a hs) | refine sxc hs ?_ | (refine sxa hs hw ?_; clear hs hw; intro a b W hw hs) | (refine sxs hs hw ?_; clear hs hw; intro W hs hw))
    exact rt1 hs rfl rfl ⟨rfl, hw.end (by repeat (first | exact In.hd | apply In.tl))⟩
end Go.Proofs.YtmalklakaalaoaaGreatDoor.Sw
