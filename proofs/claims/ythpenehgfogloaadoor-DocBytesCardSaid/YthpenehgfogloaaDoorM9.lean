/-
  Texts of the proof, one behind the other (part 9).
-/
import Derived.Test.YthpenehgfogloaaDoorM8
/-
  The walk of DocOwn.
-/
set_option linter.unusedVariables false
set_option maxRecDepth 10000
namespace Go.Proofs.YthpenehgfogloaaDoor.Sw
open Go.RowKit Go.Sx

theorem bys_int (l : List UInt8) : ∀ y ∈ bys l, ∃ i : Int, y = .int .u8 i := by
  intro y hy
  obtain ⟨x, _, rfl⟩ := List.mem_map.1 hy
  exact ⟨_, rfl⟩

set_option maxHeartbeats 32000000 in
theorem walk_DocOwn (l : List OpD) (v : Value) (w : World) (ho : ∀ o ∈ l, OpWf o) (hr : Rd w 9 v l.length (l.flatMap opCells)) (hT : Tabs w) :
    Calls Tryd.prog 10 ⟨[v]⟩ w fun e w' => e = .returned (.bool true) ∧ Below w.heap.size w w' := by
  have hw := Has.startF w
  have hso : OpsH (fr w) v l := RdH.of_rd hr (Fh.le.refl _) (by decide)
  obtain ⟨sad, scap, rfl⟩ := hso.slice
  refine enter Tryd.func10 Tryd.ntmps10 rfl rfl fun a hs => ?_
  repeat (first | (refine sxv hs hw ?_; clear hs; intro a hs) | refine sxc hs ?_ | (refine sxa hs hw ?_; clear hs hw; intro a b W hw hs) | (refine sxs hs hw ?_; clear hs hw; intro W hs hw))
  refine st_call hs (hc := law6_begun _ hT) (k := ?_); rintro e0 W1 ⟨rfl, hb⟩; refine ⟨_, rfl, ?_⟩; clear hs; intro a hs; replace hw := hw.below hb; clear hb
  repeat (first | (refine sxv hs hw ?_; clear hs; intro a hs) | refine sxc hs ?_ | (refine sxa hs hw ?_; clear hs hw; intro a b W hw hs) | (refine sxs hs hw ?_; clear hs hw; intro W hs hw))
  refine st_call hs (hc := law5_Cut l _ _ (wf_sizes ho) (hw.rdH In.hd hso)) (k := ?_); rintro e0 W1 ⟨nad, ncap, rfl, hw1⟩; refine ⟨_, rfl, ?_⟩; clear hs; intro a hs; replace hw := hw.call hw1; clear hw1
  have hmo := cutD_ok ho
  have hml : (cutD l).length ≤ 10 := by unfold cutD; rw [List.length_map, List.length_take]; omega
  generalize cutD l = m at *
  repeat (first | (refine sxv hs hw ?_; clear hs; intro a hs) | refine sxc hs ?_ | (refine sxa hs hw ?_; clear hs hw; intro a b W hw hs) | (refine sxs hs hw ?_; clear hs hw; intro W hs hw))
  refine st_call hs (hc := doc_New w _ _ hw) (k := ?_); rintro e0 W1 ⟨p, rfl, hw1⟩; refine ⟨_, rfl, ?_⟩; clear hs hw; intro a hs; have hw := hw1; clear hw1
  repeat (first | (refine sxv hs hw ?_; clear hs; intro a hs) | refine sxc hs ?_ | (refine sxa hs hw ?_; clear hs hw; intro a b W hw hs) | (refine sxs hs hw ?_; clear hs hw; intro W hs hw))
  obtain ⟨H, hz, hown, hw2, back⟩ := hw.lend
  refine st_call hs (hc := doc_ApplyL w _ H p [] m _ _ hmo (hown In.hd) In.hd (hz (In.tl In.hd)) hT hw2) (k := ?_); rintro e0 W1 ⟨rfl, hw1⟩; refine ⟨_, rfl, ?_⟩; clear hs hw hw2; intro a hs; have hw := back hw1; clear hw1 back hown hz
  have hdf := applyL_fine DocFine.nil hmo
  generalize (applyL [] m).1 = er at *
  generalize (applyL [] m).2 = d at *
  have hdl := hdf.ok.len
  repeat (first | (refine sxv hs hw ?_; clear hs; intro a hs) | refine sxc hs ?_ | (refine sxa hs hw ?_; clear hs hw; intro a b W hw hs) | (refine sxs hs hw ?_; clear hs hw; intro W hs hw))
  refine st_call hs (hc := doc_Encode w _ p d _ hdf hw) (k := ?_); rintro e0 W1 ⟨ad, cap, rfl, hw1⟩; refine ⟨_, rfl, ?_⟩; clear hs hw; intro a hs; have hw := hw1; clear hw1
  refine st_string_b hs (r := hw.rd_own In.hd) (k := ?_); clear hs; intro a hs
  replace hw : Has 0 w _ (Sx.Own 47 9 (.slice nad m.length ncap) m.length (m.flatMap opCells) :: DocAt p d :: Fz (fr w) :: []) := hw.sel (by repeat (first | exact Sel.nil | exact Sel.refl _ | refine Sel.cons (by repeat (first | exact Pick.hd | apply Pick.tl)) ?_ | refine Sel.skip ?_))
  repeat (first | (refine sxv hs hw ?_; clear hs; intro a hs) | refine sxc hs ?_ | (refine sxa hs hw ?_; clear hs hw; intro a b W hw hs) | (refine sxs hs hw ?_; clear hs hw; intro W hs hw))
  refine st_loop (σ := Nat × Option Addr × List Value) (fun t => [(0, .slice t.2.1 m.length ncap), (4, .pointer (some ⟨p, 0, none⟩)), (5, .string ⟨(docB d).toArray⟩), (6, .int .i64 (t.1 : Int))]) (fun t => Sx.Own 47 9 (.slice t.2.1 m.length ncap) m.length t.2.2 :: DocAt p d :: Fz (fr w) :: []) (fun t => t.1 ≤ m.length) (fun t => m.length - t.1) (0, nad, m.flatMap opCells) (Nat.zero_le _) hs ⟨rfl, rfl, rfl, rfl, trivial⟩ hw ?_
  clear hs hw
  rintro ⟨j, nad, xs⟩ a W hj hs hw
  simp only at hj hs hw
  repeat (first | (refine sxv hs hw ?_; clear hs; intro a hs) | refine sxc hs ?_ | (refine sxa hs hw ?_; clear hs hw; intro a b W hw hs) | (refine sxs hs hw ?_; clear hs hw; intro W hs hw))
  refine cd_split hs (kt := fun hcc => ?_) (kf := fun hcc => ?_)
  · have hj' : j < m.length := by simpa using hcc
    obtain ⟨g, cur, rfl, hcur, hcl0, hkc, hcm, hw2⟩ := hw.open_own (by omega)
    clear hw; have hw := hw2; clear hw2
    repeat (first | (refine sxv hs hw ?_; clear hs; intro a hs) | refine sxc hs ?_ | (refine sxa hs hw ?_; clear hs hw; intro a b W hw hs) | (refine sxs hs hw ?_; clear hs hw; intro W hs hw))
    refine st_index_at hs (z := opCells ⟨0, ⟨#[]⟩, 0, 0, ⟨#[]⟩, 0, 0, ⟨#[]⟩, 0⟩) (h0 := by omega) (h1 := by omega) (c := ?_); clear hs; intro a hs
    repeat (first | (refine sxv hs hw ?_; clear hs; intro a hs) | refine sxc hs ?_ | (refine sxa hs hw ?_; clear hs hw; intro a b W hw hs) | (refine sxs hs hw ?_; clear hs hw; intro W hs hw))
    refine st_store hs (hw := hw) (vs := [.string ⟨#[115, 112, 111, 105, 108, 116]⟩]) (hl := by show Nat.ble (0 + j * 9 + 1 + 1) cur.length = true; rw [hcl0]; apply Nat.ble_eq_true_of_le; omega) (k := ?_); clear hs hw; intro W hs hw
    rw [ov_one] at hw
    repeat (first | (refine sxv hs hw ?_; clear hs; intro a hs) | refine sxc hs ?_ | (refine sxa hs hw ?_; clear hs hw; intro a b W hw hs) | (refine sxs hs hw ?_; clear hs hw; intro W hs hw))
    replace hw := hw.shut_own (k := m.length) (size := 9) (cap := ncap) rfl (by rw [List.length_set]; exact hcl0) hkc hcm
    exact st_again (j + 1, _, _) hs hw hj' (by show m.length - (j + 1) < m.length - j; omega) ⟨rfl, rfl, rfl, int_eq (by show IntKind.i64.wrap ((j : Int) + 1) = ((j + 1 : Nat) : Int); rw [IntWalk.i64_in _ (by omega)]; omega), trivial⟩
  clear hcc hj
  replace hw : Has 0 w _ (DocAt p d :: Fz (fr w) :: []) := hw.sub (List.Sublist.cons _ (List.Sublist.refl _))
  replace hs : Slots a 63 [(4, .pointer (some ⟨p, 0, none⟩)), (5, .string ⟨(docB d).toArray⟩)] := hs.of ⟨rfl, rfl, trivial⟩
  repeat (first | (refine sxv hs hw ?_; clear hs; intro a hs) | refine sxc hs ?_ | (refine sxa hs hw ?_; clear hs hw; intro a b W hw hs) | (refine sxs hs hw ?_; clear hs hw; intro W hs hw))
  refine st_call hs (hc := doc_Keys w _ p d _ hdf hw) (k := ?_); rintro e0 W1 ⟨kv, rfl, hw1⟩; refine ⟨_, rfl, ?_⟩; clear hs hw; intro a hs; have hw := hw1; clear hw1
  obtain ⟨kad, kcap, rfl⟩ := hw.own_slice
  repeat (first | (refine sxv hs hw ?_; clear hs; intro a hs) | refine sxc hs ?_ | (refine sxa hs hw ?_; clear hs hw; intro a b W hw hs) | (refine sxs hs hw ?_; clear hs hw; intro W hs hw))
  refine st_loop (σ := Nat × Option Addr × List Value) (fun t => [(7, .slice t.2.1 d.length kcap), (4, .pointer (some ⟨p, 0, none⟩)), (5, .string ⟨(docB d).toArray⟩), (8, .int .i64 (t.1 : Int))]) (fun t => Sx.Own 9 1 (.slice t.2.1 d.length kcap) d.length t.2.2 :: DocAt p d :: Fz (fr w) :: []) (fun t => t.1 ≤ d.length) (fun t => d.length - t.1) (0, kad, d.map fun x => Value.string x.1) (Nat.zero_le _) hs ⟨rfl, rfl, rfl, rfl, trivial⟩ hw ?_
  clear hs hw
  rintro ⟨j, kad, xs⟩ a W hj hs hw
  simp only at hj hs hw
  repeat (first | (refine sxv hs hw ?_; clear hs; intro a hs) | refine sxc hs ?_ | (refine sxa hs hw ?_; clear hs hw; intro a b W hw hs) | (refine sxs hs hw ?_; clear hs hw; intro W hs hw))
  refine cd_split hs (kt := fun hcc => ?_) (kf := fun hcc => ?_)
  · have hj' : j < d.length := by simpa using hcc
    obtain ⟨g, cur, rfl, hcur, hcl0, hkc, hcm, hw2⟩ := hw.open_own (by omega)
    clear hw; have hw := hw2; clear hw2
    repeat (first | (refine sxv hs hw ?_; clear hs; intro a hs) | refine sxc hs ?_ | (refine sxa hs hw ?_; clear hs hw; intro a b W hw hs) | (refine sxs hs hw ?_; clear hs hw; intro W hs hw))
    refine st_index_at hs (z := [.string ⟨#[]⟩]) (h0 := by omega) (h1 := by omega) (c := ?_); clear hs; intro a hs
    repeat (first | (refine sxv hs hw ?_; clear hs; intro a hs) | refine sxc hs ?_ | (refine sxa hs hw ?_; clear hs hw; intro a b W hw hs) | (refine sxs hs hw ?_; clear hs hw; intro W hs hw))
    refine st_store hs (hw := hw) (vs := [.string ⟨#[115, 112, 111, 105, 108, 116]⟩]) (hl := by show Nat.ble (0 + j * 1 + 1) cur.length = true; rw [hcl0]; apply Nat.ble_eq_true_of_le; omega) (k := ?_); clear hs hw; intro W hs hw
    rw [ov_one] at hw
    repeat (first | (refine sxv hs hw ?_; clear hs; intro a hs) | refine sxc hs ?_ | (refine sxa hs hw ?_; clear hs hw; intro a b W hw hs) | (refine sxs hs hw ?_; clear hs hw; intro W hs hw))
    replace hw := hw.shut_own (k := d.length) (size := 1) (cap := kcap) rfl (by rw [List.length_set]; exact hcl0) hkc hcm
    exact st_again (j + 1, _, _) hs hw hj' (by show d.length - (j + 1) < d.length - j; omega) ⟨rfl, rfl, rfl, int_eq (by show IntKind.i64.wrap ((j : Int) + 1) = ((j + 1 : Nat) : Int); rw [IntWalk.i64_in _ (by omega)]; omega), trivial⟩
  clear hcc hj
  replace hw : Has 0 w _ (DocAt p d :: Fz (fr w) :: []) := hw.sub (List.Sublist.cons _ (List.Sublist.refl _))
  replace hs : Slots a 63 [(4, .pointer (some ⟨p, 0, none⟩)), (5, .string ⟨(docB d).toArray⟩)] := hs.of ⟨rfl, rfl, trivial⟩
  repeat (first | (refine sxv hs hw ?_; clear hs; intro a hs) | refine sxc hs ?_ | (refine sxa hs hw ?_; clear hs hw; intro a b W hw hs) | (refine sxs hs hw ?_; clear hs hw; intro W hs hw))
  refine st_call hs (hc := doc_Encode w _ p d _ hdf hw) (k := ?_); rintro e0 W1 ⟨bad, bcap, rfl, hw1⟩; refine ⟨_, rfl, ?_⟩; clear hs hw; intro a hs; have hw := hw1; clear hw1
  have hbl : (docB d).length ≤ 60000000 := by have := docA_len hdf.ok d.length; rw [docA_all] at this; exact this
  repeat (first | (refine sxv hs hw ?_; clear hs; intro a hs) | refine sxc hs ?_ | (refine sxa hs hw ?_; clear hs hw; intro a b W hw hs) | (refine sxs hs hw ?_; clear hs hw; intro W hs hw))
  refine st_loop (σ := Nat × Option Addr × List Value) (fun t => [(9, .slice t.2.1 (docB d).length bcap), (4, .pointer (some ⟨p, 0, none⟩)), (5, .string ⟨(docB d).toArray⟩), (10, .int .i64 (t.1 : Int))]) (fun t => Sx.Own 5 1 (.slice t.2.1 (docB d).length bcap) (docB d).length t.2.2 :: DocAt p d :: Fz (fr w) :: []) (fun t => t.1 ≤ (docB d).length ∧ t.2.2.length = (docB d).length ∧ ∀ y ∈ t.2.2, ∃ i : Int, y = .int .u8 i) (fun t => (docB d).length - t.1) (0, bad, bys (docB d)) ⟨Nat.zero_le _, by simp [bys], bys_int _⟩ hs ⟨rfl, rfl, rfl, rfl, trivial⟩ hw ?_
  clear hs hw
  rintro ⟨j, bad, xs⟩ a W ⟨hj, hxl, hxi⟩ hs hw
  simp only at hj hxl hxi hs hw
  repeat (first | (refine sxv hs hw ?_; clear hs; intro a hs) | refine sxc hs ?_ | (refine sxa hs hw ?_; clear hs hw; intro a b W hw hs) | (refine sxs hs hw ?_; clear hs hw; intro W hs hw))
  refine cd_split hs (kt := fun hcc => ?_) (kf := fun hcc => ?_)
  · have hj' : j < (docB d).length := by simpa using hcc
    obtain ⟨g, cur, rfl, hcur, hcl0, hkc, hcm, hw2⟩ := hw.open_own (by omega)
    clear hw; have hw := hw2; clear hw2
    obtain ⟨y, hy⟩ : ∃ y, xs[j]? = some y := ⟨xs[j], List.getElem?_eq_getElem (by omega)⟩
    obtain ⟨i, rfl⟩ := hxi y (List.mem_of_getElem? hy)
    have hcj : cur[j]? = some (.int .u8 i) := by
      rw [← hcur, List.getElem?_take] at hy
      split at hy
      · exact hy
      · cases hy
    repeat (first | (refine sxv hs hw ?_; clear hs; intro a hs) | refine sxc hs ?_ | (refine sxa hs hw ?_; clear hs hw; intro a b W hw hs) | (refine sxs hs hw ?_; clear hs hw; intro W hs hw))
    refine st_index_at hs (z := [.int .u8 0]) (h0 := by omega) (h1 := by omega) (c := ?_); clear hs; intro a hs
    repeat (first | (refine sxv hs hw ?_; clear hs; intro a hs) | refine sxc hs ?_ | (refine sxa hs hw ?_; clear hs hw; intro a b W hw hs) | (refine sxs hs hw ?_; clear hs hw; intro W hs hw))
    refine st_load_one hs (hw := hw) (hi := In.hd) (hv := by show cur[0 + j * 1]? = _; rw [Nat.zero_add, Nat.mul_one]; exact hcj) (k := ?_); clear hs; intro a hs
    repeat (first | (refine sxv hs hw ?_; clear hs; intro a hs) | refine sxc hs ?_ | (refine sxa hs hw ?_; clear hs hw; intro a b W hw hs) | (refine sxs hs hw ?_; clear hs hw; intro W hs hw))
    refine st_index_at hs (z := [.int .u8 0]) (h0 := by omega) (h1 := by omega) (c := ?_); clear hs; intro a hs
    repeat (first | (refine sxv hs hw ?_; clear hs; intro a hs) | refine sxc hs ?_ | (refine sxa hs hw ?_; clear hs hw; intro a b W hw hs) | (refine sxs hs hw ?_; clear hs hw; intro W hs hw))
    refine st_store hs (hw := hw) (vs := [.int .u8 (IntKind.u8.wrap (i + 1))]) (hl := by show Nat.ble (0 + j * 1 + 1) cur.length = true; rw [hcl0]; apply Nat.ble_eq_true_of_le; omega) (k := ?_); clear hs hw; intro W hs hw
    rw [ov_one] at hw
    repeat (first | (refine sxv hs hw ?_; clear hs; intro a hs) | refine sxc hs ?_ | (refine sxa hs hw ?_; clear hs hw; intro a b W hw hs) | (refine sxs hs hw ?_; clear hs hw; intro W hs hw))
    replace hw : Has 0 w W (Cells g (cur.set j (.int .u8 (IntKind.u8.wrap (i + 1)))) 5 :: DocAt p d :: Fz (fr w) :: []) := by
      have e : 0 + j * 1 = j := by omega
      have this : Has 0 w W (Cells g (cur.set (0 + j * 1) (.int .u8 (IntKind.u8.wrap (i + 1)))) 5 :: DocAt p d :: Fz (fr w) :: []) := hw
      rw [e] at this
      exact this
    replace hw := hw.shut_own (k := (docB d).length) (size := 1) (cap := bcap) (xs := xs.set j (.int .u8 (IntKind.u8.wrap (i + 1)))) (by rw [List.take_set, hcur]) (by rw [List.length_set]; exact hcl0) hkc hcm
    exact st_again (j + 1, _, _) hs hw ⟨hj', by rw [List.length_set]; exact hxl, fun y hy => by
      rcases List.mem_or_eq_of_mem_set hy with hy | rfl
      · exact hxi y hy
      · exact ⟨_, rfl⟩⟩ (by show (docB d).length - (j + 1) < (docB d).length - j; omega) ⟨rfl, rfl, rfl, int_eq (by show IntKind.i64.wrap ((j : Int) + 1) = ((j + 1 : Nat) : Int); rw [IntWalk.i64_in _ (by omega)]; omega), trivial⟩
  clear hcc hj
  replace hw : Has 0 w _ (DocAt p d :: Fz (fr w) :: []) := hw.sub (List.Sublist.cons _ (List.Sublist.refl _))
  replace hs : Slots a 63 [(4, .pointer (some ⟨p, 0, none⟩)), (5, .string ⟨(docB d).toArray⟩)] := hs.of ⟨rfl, rfl, trivial⟩
  repeat (first | (refine sxv hs hw ?_; clear hs; intro a hs) | refine sxc hs ?_ | (refine sxa hs hw ?_; clear hs hw; intro a b W hw hs) | (refine sxs hs hw ?_; clear hs hw; intro W hs hw))
  refine st_call hs (hc := doc_Encode w _ p d _ hdf hw) (k := ?_); rintro e0 W1 ⟨ad2, cap2, rfl, hw1⟩; refine ⟨_, rfl, ?_⟩; clear hs hw; intro a hs; have hw := hw1; clear hw1
  refine st_string_b hs (r := hw.rd_own In.hd) (k := ?_); clear hs; intro a hs
  repeat (first | (refine sxv hs hw ?_; clear hs; intro a hs) | refine sxc hs ?_ | (refine sxa hs hw ?_; clear hs hw; intro a b W hw hs) | (refine sxs hs hw ?_; clear hs hw; intro W hs hw))
  rw [beq_self_eq_true] at hs
  repeat (first | (refine sxv hs hw ?_; clear hs; intro a hs) | refine sxc hs ?_ | (refine sxa hs hw ?_; clear hs hw; intro a b W hw hs) | (refine sxs hs hw ?_; clear hs hw; intro W hs hw))
  exact rt1 hs rfl rfl ⟨rfl, hw.endF (by repeat (first | exact In.hd | apply In.tl)) (Fh.le.refl _)⟩
end Go.Proofs.YthpenehgfogloaaDoor.Sw

/-
  Sx: a literal's block, read as a slice.
-/
set_option linter.unusedVariables false
set_option maxRecDepth 10000
namespace Go.Sx
theorem Has.rd_lit {G : Nat} {w W : World} {R : List Res} {E : TypeId} {b n size : Nat} {cs : List Value} (h : Has G w W R) (i : In (Cells b cs E) R) (hl : cs.length = n * size) (hn : n ≤ 9223372036854775807) : Rd W size (.slice (some ⟨b, 0, none⟩) n n) n cs := by
  have hb := (h.block i).1
  refine ⟨hl, _, _, rfl, Nat.le_refl _, hn, .inr ⟨b, 0, rfl, (h.block i).2.2, fun j x hx => ?_⟩⟩
  rw [cell_block hb]
  simpa using hx
end Go.Sx

/-
  The walk of DocEnds.
-/
set_option linter.unusedVariables false
set_option maxRecDepth 10000
namespace Go.Proofs.YthpenehgfogloaaDoor.Sw
open Go.RowKit Go.Sx

def kE (i : Nat) : ByteArray := ⟨#[(65 + i / 10).toUInt8, (48 + i % 10).toUInt8]⟩
def dE (j : Nat) : Dm := (List.range (min j 50)).map fun i => (kE i, .inl 1)
theorem kE_key : ∀ j : Nat, j < 60 → Ph.keyB (kE j).data.toList = true := by decide +kernel
theorem kE_less : ∀ j : Nat, j < 60 → ∀ i : Nat, i < j → Ph.lessL (kE i).data.toList (kE j).data.toList = true := by decide +kernel
theorem kE_b1 : ∀ j : Nat, j < 60 → IntKind.u8.wrap (IntKind.i64.wrap (65 + IntKind.i64.wrap ((j : Int).tdiv 10))) = (((65 + j / 10).toUInt8).toNat : Int) := by decide +kernel
theorem kE_b2 : ∀ j : Nat, j < 60 → IntKind.u8.wrap (IntKind.i64.wrap (48 + (j : Int).tmod 10)) = (((48 + j % 10).toUInt8).toNat : Int) := by decide +kernel
theorem dE_len (j : Nat) : (dE j).length = min j 50 := by simp [dE]
theorem dE_less {j : Nat} (hj : j < 60) : ∀ p ∈ dE j, lessK p.1 (kE j) = true := by
  intro p hp
  obtain ⟨i, hi, rfl⟩ := List.mem_map.1 hp
  have := List.mem_range.1 hi
  exact kE_less j hj i (by omega)
theorem dE_none {j : Nat} (hj : j < 60) : getK (dE j) (kE j) = none := by
  refine getK_none.2 fun h => ?_
  obtain ⟨p, hp, e⟩ := List.mem_map.1 h
  have := dE_less hj p hp
  rw [e, lessK_irr] at this
  cases this
theorem setRL_full {d : Dm} {k : ByteArray} (v : DV) (hg : getK d k = none) (hl : 50 ≤ d.length) : setRL d k (some v) = (6, d) := by
  unfold setRL
  simp only
  rw [if_pos ⟨by rw [hg]; rfl, hl⟩]
theorem setRL_old {d : Dm} {k : ByteArray} (v : DV) (hg : (getK d k).isSome = true) : setRL d k (some v) = (0, setL d k v) := by
  unfold setRL
  simp only
  rw [if_neg (fun h => by rw [hg] at h; exact absurd h.1 (by simp))]
theorem app_full {d : Dm} {k : ByteArray} (n : Int) (hk : Ph.keyB k.data.toList = true) (hg : getK d k = none) (hl : 50 ≤ d.length) : applyL d [putO k n] = (6, d) := by
  unfold applyL goL
  rw [putO_may hk, doL_put, setRL_full _ hg hl]
  simp
theorem app_old {d : Dm} {k : ByteArray} (n : Int) (hk : Ph.keyB k.data.toList = true) (hg : (getK d k).isSome = true) : applyL d [putO k n] = (0, setL d k (.inl n)) := by
  unfold applyL goL
  rw [putO_may hk, doL_put, setRL_old _ hg]
  simp [goL]
theorem dE_next {j : Nat} (hj : j < 60) : (applyL (dE j) [putO (kE j) 1]).1 = (if j < 50 then 0 else 6) ∧ (applyL (dE j) [putO (kE j) 1]).2 = dE (j + 1) := by
  have hl := dE_len j
  by_cases h : j < 50
  · rw [app_put 1 (kE_key j hj) (by omega), setL_last _ (dE_less hj), if_pos h]
    refine ⟨rfl, ?_⟩
    show dE j ++ [(kE j, .inl 1)] = dE (j + 1)
    unfold dE
    rw [show min (j + 1) 50 = min j 50 + 1 from by omega, List.range_succ, List.map_append, show min j 50 = j from by omega]
    rfl
  · rw [app_full 1 (kE_key j hj) (dE_none hj) (by omega), if_neg h]
    refine ⟨rfl, ?_⟩
    show dE j = dE (j + 1)
    unfold dE
    rw [show min (j + 1) 50 = min j 50 from by omega]
theorem dE_zero {n : Nat} (h : 0 < n) : (getK (dE n) (kE 0)).isSome = true := by
  cases hg : getK (dE n) (kE 0) with
  | some v => rfl
  | none =>
    exfalso
    refine getK_none.1 hg (List.mem_map.2 ⟨(kE 0, .inl 1), ?_, rfl⟩)
    exact List.mem_map.2 ⟨0, List.mem_range.2 (by omega), rfl⟩
theorem getK_setL {d : Dm} (hk : dKeys d) (k : ByteArray) (v : DV) : getK (setL d k v) k = some v := by
  have hs : dKeys (setD d k v) := setD_keys hk k v
  rw [getK_perm (setL_perm d k v) ((dKeys_perm (setL_perm d k v)).2 hs)]
  simp [setD, getK, ks_self]
abbrev addO (k : ByteArray) (n : Int) : OpD := ⟨4, k, 0, 0, ⟨#[]⟩, 0, 0, ⟨#[]⟩, n⟩
theorem addO_ok {k : ByteArray} {n : Int} (h : k.size ≤ 1000000) (hn : i64 n) : OpOk (addO k n) := by
  have z : i64 0 := ⟨by decide, by decide⟩
  have o : i64 4 := ⟨by decide, by decide⟩
  have e : (⟨#[]⟩ : ByteArray).size ≤ 1000000 := by decide
  exact ⟨o, z, z, z, z, hn, h, e, e⟩
theorem addO_may {k : ByteArray} {n : Int} (h : Ph.keyB k.data.toList = true) (h1 : n ≥ -1099511627776) (h2 : n ≤ 1099511627776) : mayD (addO k n) = true := by
  unfold mayD mayOp
  have h3 : rawEq 0 0 ⟨#[]⟩ 0 0 ⟨#[]⟩ = true := rawEq_iff.2 ⟨rfl, rfl, rfl⟩
  simp [h, ofRaw_zero, h3, h1, h2]
/-- What adding to a number that is there gives. -/
def farB (a b : Int) : Bool := !inB a || !inB (IntKind.i64.wrap (a + b))
theorem app_add {d : Dm} {k : ByteArray} {a b : Int} (hk : Ph.keyB k.data.toList = true) (hd : dKeys d) (hg : getK d k = some (.inl a)) (h1 : b ≥ -1099511627776) (h2 : b ≤ 1099511627776) :
    (applyL d [addO k b]).1 = (if farB a b then 4 else 0) ∧ getK (applyL d [addO k b]).2 k = some (.inl (if farB a b then a else IntKind.i64.wrap (a + b))) := by
  have hdo : doL d (addO k b) = if farB a b = true then (4, d) else (0, setL d k (.inl (IntKind.i64.wrap (a + b)))) := by
    unfold doL
    rw [if_neg (by show ¬ (4 : Int) = 3; decide), if_pos rfl, hg]
    rw [if_neg (by show ¬ ((1 : Int) != 0 && !true) = true; decide)]
    show (if (!inB a || !inB (IntKind.i64.wrap (a + b))) = true then (4, d) else setRL d k (some (.inl (IntKind.i64.wrap (a + b))))) = _
    rw [setRL_old _ (by rw [hg]; rfl)]
    rfl
  unfold applyL goL
  rw [addO_may hk h1 h2, hdo]
  by_cases hf : farB a b = true
  · rw [if_pos hf, if_pos hf, if_pos hf]
    simp
    exact hg
  · rw [if_neg hf, if_neg hf, if_neg hf]
    simp [goL]
    exact getK_setL hd k _

set_option maxHeartbeats 32000000 in
theorem walk_DocEnds (n a0 b0 : Int) (w : World) (hn : (Lit.int .i64 n).wf = true) (ha : (Lit.int .i64 a0).wf = true) (hb : (Lit.int .i64 b0).wf = true) (hT : Tabs w) :
    Calls Tryd.prog 7 ⟨[.int .i64 n, .int .i64 a0, .int .i64 b0]⟩ w fun e w' => e = .returned (.bool true) ∧ Below w.heap.size w w' := by
  have hw := Has.startF w
  have hai := wf_i64 ha
  have hbi := wf_i64 hb
  refine enter Tryd.func7 Tryd.ntmps7 rfl rfl fun a hs => ?_
  repeat (first | (refine sxv hs hw ?_; clear hs; intro a hs) | refine sxc hs ?_ | (refine sxa hs hw ?_; clear hs hw; intro a b W hw hs) | (refine sxs hs hw ?_; clear hs hw; intro W hs hw))
  refine st_call hs (hc := law6_begun _ hT) (k := ?_); rintro e0 W1 ⟨rfl, hb⟩; refine ⟨_, rfl, ?_⟩; clear hs; intro a hs; replace hw := hw.below hb; clear hb
  repeat (first | (refine sxv hs hw ?_; clear hs; intro a hs) | refine sxc hs ?_ | (refine sxa hs hw ?_; clear hs hw; intro a b W hw hs) | (refine sxs hs hw ?_; clear hs hw; intro W hs hw))
  cases c1 : decide (n < 0) with
  | true =>
    rw [c1] at hs
    repeat (first | (refine sxv hs hw ?_; clear hs; intro a hs) | refine sxc hs ?_ | (refine sxa hs hw ?_; clear hs hw; intro a b W hw hs) | (refine sxs hs hw ?_; clear hs hw; intro W hs hw))
    exact rt1 hs rfl rfl ⟨rfl, hw.endF (by repeat (first | exact In.hd | apply In.tl)) (Fh.le.refl _)⟩
  | false =>
  rw [c1] at hs
  have g1 := of_decide_eq_false c1
  repeat (first | (refine sxv hs hw ?_; clear hs; intro a hs) | refine sxc hs ?_ | (refine sxa hs hw ?_; clear hs hw; intro a b W hw hs) | (refine sxs hs hw ?_; clear hs hw; intro W hs hw))
  cases c2 : decide (n > 60) with
  | true =>
    rw [c2] at hs
    repeat (first | (refine sxv hs hw ?_; clear hs; intro a hs) | refine sxc hs ?_ | (refine sxa hs hw ?_; clear hs hw; intro a b W hw hs) | (refine sxs hs hw ?_; clear hs hw; intro W hs hw))
    exact rt1 hs rfl rfl ⟨rfl, hw.endF (by repeat (first | exact In.hd | apply In.tl)) (Fh.le.refl _)⟩
  | false =>
  rw [c2] at hs
  have g2 := of_decide_eq_false c2
  repeat (first | (refine sxv hs hw ?_; clear hs; intro a hs) | refine sxc hs ?_ | (refine sxa hs hw ?_; clear hs hw; intro a b W hw hs) | (refine sxs hs hw ?_; clear hs hw; intro W hs hw))
  cases c3 : decide (b0 < -1099511627776) with
  | true =>
    rw [c3] at hs
    repeat (first | (refine sxv hs hw ?_; clear hs; intro a hs) | refine sxc hs ?_ | (refine sxa hs hw ?_; clear hs hw; intro a b W hw hs) | (refine sxs hs hw ?_; clear hs hw; intro W hs hw))
    exact rt1 hs rfl rfl ⟨rfl, hw.endF (by repeat (first | exact In.hd | apply In.tl)) (Fh.le.refl _)⟩
  | false =>
  rw [c3] at hs
  have g3 := of_decide_eq_false c3
  repeat (first | (refine sxv hs hw ?_; clear hs; intro a hs) | refine sxc hs ?_ | (refine sxa hs hw ?_; clear hs hw; intro a b W hw hs) | (refine sxs hs hw ?_; clear hs hw; intro W hs hw))
  cases c4 : decide (b0 > 1099511627776) with
  | true =>
    rw [c4] at hs
    repeat (first | (refine sxv hs hw ?_; clear hs; intro a hs) | refine sxc hs ?_ | (refine sxa hs hw ?_; clear hs hw; intro a b W hw hs) | (refine sxs hs hw ?_; clear hs hw; intro W hs hw))
    exact rt1 hs rfl rfl ⟨rfl, hw.endF (by repeat (first | exact In.hd | apply In.tl)) (Fh.le.refl _)⟩
  | false =>
  rw [c4] at hs
  have g4 := of_decide_eq_false c4
  repeat (first | (refine sxv hs hw ?_; clear hs; intro a hs) | refine sxc hs ?_ | (refine sxa hs hw ?_; clear hs hw; intro a b W hw hs) | (refine sxs hs hw ?_; clear hs hw; intro W hs hw))
  obtain ⟨nn, rfl⟩ : ∃ nn : Nat, n = (nn : Int) := ⟨n.toNat, by omega⟩
  refine st_call hs (hc := doc_New w _ _ hw) (k := ?_); rintro e0 W1 ⟨p, rfl, hw1⟩; refine ⟨_, rfl, ?_⟩; clear hs hw; intro a hs; have hw := hw1; clear hw1
  repeat (first | (refine sxv hs hw ?_; clear hs; intro a hs) | refine sxc hs ?_ | (refine sxa hs hw ?_; clear hs hw; intro a b W hw hs) | (refine sxs hs hw ?_; clear hs hw; intro W hs hw))
  refine st_loop (σ := Nat × Fh) (fun t => [(0, .int .i64 (nn : Int)), (1, .int .i64 a0), (2, .int .i64 b0), (8, .pointer (some ⟨p, 0, none⟩)), (9, .int .i64 (t.1 : Int))]) (fun t => DocAt p (dE t.1) :: Fz t.2 :: []) (fun t => t.1 ≤ nn ∧ (fr w).le t.2 ∧ DocFine (dE t.1)) (fun t => nn - t.1) (0, fr w) ⟨Nat.zero_le _, Fh.le.refl _, DocFine.nil⟩ hs ⟨rfl, rfl, rfl, rfl, rfl, trivial⟩ hw ?_
  clear hs hw
  rintro ⟨j, H⟩ a W ⟨hj, hH, hdf⟩ hs hw
  simp only at hj hH hdf hs hw
  repeat (first | (refine sxv hs hw ?_; clear hs; intro a hs) | refine sxc hs ?_ | (refine sxa hs hw ?_; clear hs hw; intro a b W hw hs) | (refine sxs hs hw ?_; clear hs hw; intro W hs hw))
  refine cd_split hs (kt := fun hcc => ?_) (kf := fun hcc => ?_)
  · have hj' : j < nn := by simpa using hcc
    have h60 : j < 60 := by omega
    obtain ⟨hn1, hn2⟩ := dE_next h60
    have hko := kE_key j h60
    have hpo : ∀ o ∈ [putO (kE j) 1], OpOk o := by intro o ho; rw [List.mem_singleton.1 ho]; exact putO_ok (by show 2 ≤ 1000000; omega) ⟨by decide, by decide⟩
    have hnf := applyL_fine hdf hpo
    rw [hn2] at hnf
    repeat (first | (refine sxv hs hw ?_; clear hs; intro a hs) | refine sxc hs ?_ | (refine sxa hs hw ?_; clear hs hw; intro a b W hw hs) | (refine sxs hs hw ?_; clear hs hw; intro W hs hw))
    rw [kE_b1 j h60, kE_b2 j h60] at hs
    repeat (first | (refine sxv hs hw ?_; clear hs; intro a hs) | refine sxc hs ?_ | (refine sxa hs hw ?_; clear hs hw; intro a b W hw hs) | (refine sxs hs hw ?_; clear hs hw; intro W hs hw))
    obtain ⟨bk, qk⟩ := nm1 hw; subst qk
    replace hw : Has 0 w _ (Cells bk [.int .u8 (IntKind.u8.wrap (IntKind.i64.wrap (65 + IntKind.i64.wrap ((j : Int).tdiv 10)))), .int .u8 (IntKind.u8.wrap (IntKind.i64.wrap (48 + (j : Int).tmod 10)))] 5 :: DocAt p (dE j) :: Fz H :: []) := hw
    rw [kE_b1 j h60, kE_b2 j h60] at hw
    refine st_string_b hs (l := [(65 + j / 10).toUInt8, (48 + j % 10).toUInt8]) (r := hw.rd_lit In.hd rfl (by show 2 ≤ 9223372036854775807; decide)) (k := ?_); clear hs; intro a hs
    repeat (first | (refine sxv hs hw ?_; clear hs; intro a hs) | refine sxc hs ?_ | (refine sxa hs hw ?_; clear hs hw; intro a b W hw hs) | (refine sxs hs hw ?_; clear hs hw; intro W hs hw))
    obtain ⟨bo, qo⟩ := nm1 hw; subst qo
    replace hw : Has 0 w _ (Cells bo ([putO (kE j) 1].flatMap opCells) 47 :: Fz H :: DocAt p (dE j) :: []) := hw.sel (by repeat (first | exact Sel.nil | exact Sel.refl _ | refine Sel.cons (by repeat (first | exact Pick.hd | apply Pick.tl)) ?_ | refine Sel.skip ?_))
    obtain ⟨H2, hle2, hw2, hop⟩ := hw.freeze_lit (m := 1) (sz := 9) rfl (by decide)
    clear hw; have hw := hw2; clear hw2
    replace hw : Has 0 w _ (DocAt p (dE j) :: Fz H2 :: []) := hw.perm (by repeat (first | exact List.Perm.refl _ | refine perm_pick (by repeat (first | exact Pick.hd | apply Pick.tl)) ?_))
    refine st_call hs (hc := doc_ApplyL w _ H2 p (dE j) [putO (kE j) 1] _ _ hpo hop (by repeat (first | exact In.hd | apply In.tl)) (hH.trans hle2) hT hw) (k := ?_); rw [hn1, hn2]; rintro e0 W1 ⟨rfl, hw1⟩; refine ⟨_, rfl, ?_⟩; clear hs hw; intro a hs; have hw := hw1; clear hw1
    by_cases h50 : j < 50
    · rw [if_pos h50] at hs
      have e1 : decide ((j : Int) < 50) = true := decide_eq_true (by omega)
      repeat (first | (refine sxv hs hw ?_; clear hs; intro a hs) | refine sxc hs ?_ | (refine sxa hs hw ?_; clear hs hw; intro a b W hw hs) | (refine sxs hs hw ?_; clear hs hw; intro W hs hw))
      rw [e1] at hs
      repeat (first | (refine sxv hs hw ?_; clear hs; intro a hs) | refine sxc hs ?_ | (refine sxa hs hw ?_; clear hs hw; intro a b W hw hs) | (refine sxs hs hw ?_; clear hs hw; intro W hs hw))
      exact st_again (j + 1, H2) hs hw ⟨hj', hH.trans hle2, hnf⟩ (by show nn - (j + 1) < nn - j; omega) ⟨rfl, rfl, rfl, rfl, int_eq (by show IntKind.i64.wrap ((j : Int) + 1) = ((j + 1 : Nat) : Int); rw [IntWalk.i64_in _ (by omega)]; omega), trivial⟩
    · rw [if_neg h50] at hs
      have e1 : decide ((j : Int) < 50) = false := decide_eq_false (by omega)
      repeat (first | (refine sxv hs hw ?_; clear hs; intro a hs) | refine sxc hs ?_ | (refine sxa hs hw ?_; clear hs hw; intro a b W hw hs) | (refine sxs hs hw ?_; clear hs hw; intro W hs hw))
      rw [e1] at hs
      repeat (first | (refine sxv hs hw ?_; clear hs; intro a hs) | refine sxc hs ?_ | (refine sxa hs hw ?_; clear hs hw; intro a b W hw hs) | (refine sxs hs hw ?_; clear hs hw; intro W hs hw))
      exact st_again (j + 1, H2) hs hw ⟨hj', hH.trans hle2, hnf⟩ (by show nn - (j + 1) < nn - j; omega) ⟨rfl, rfl, rfl, rfl, int_eq (by show IntKind.i64.wrap ((j : Int) + 1) = ((j + 1 : Nat) : Int); rw [IntWalk.i64_in _ (by omega)]; omega), trivial⟩
  have hj' : j = nn := by have h9 : ¬ j < nn := by simpa using hcc
                          omega
  subst hj'
  clear hcc hj
  have hlen := dE_len j
  by_cases h0 : j = 0
  · subst h0
    repeat (first | (refine sxv hs hw ?_; clear hs; intro a hs) | refine sxc hs ?_ | (refine sxa hs hw ?_; clear hs hw; intro a b W hw hs) | (refine sxs hs hw ?_; clear hs hw; intro W hs hw))
    refine st_call hs (hc := doc_Keys w _ p (dE 0) _ hdf hw) (k := ?_); rintro e0 W1 ⟨kv, rfl, hw1⟩; refine ⟨_, rfl, ?_⟩; clear hs hw; intro a hs; have hw := hw1; clear hw1
    obtain ⟨kad, kcap, rfl⟩ := hw.own_slice
    repeat (first | (refine sxv hs hw ?_; clear hs; intro a hs) | refine sxc hs ?_ | (refine sxa hs hw ?_; clear hs hw; intro a b W hw hs) | (refine sxs hs hw ?_; clear hs hw; intro W hs hw))
    refine st_min hs (k := ?_); clear hs; intro a hs
    repeat (first | (refine sxv hs hw ?_; clear hs; intro a hs) | refine sxc hs ?_ | (refine sxa hs hw ?_; clear hs hw; intro a b W hw hs) | (refine sxs hs hw ?_; clear hs hw; intro W hs hw))
    exact rt1 hs rfl rfl ⟨rfl, hw.endF (by repeat (first | exact In.hd | apply In.tl)) hH⟩
  have e0 : ((j : Int) == 0) = false := by rw [beq_eq_false_iff_ne]; omega
  repeat (first | (refine sxv hs hw ?_; clear hs; intro a hs) | refine sxc hs ?_ | (refine sxa hs hw ?_; clear hs hw; intro a b W hw hs) | (refine sxs hs hw ?_; clear hs hw; intro W hs hw))
  rw [e0] at hs
  repeat (first | (refine sxv hs hw ?_; clear hs; intro a hs) | refine sxc hs ?_ | (refine sxa hs hw ?_; clear hs hw; intro a b W hw hs) | (refine sxs hs hw ?_; clear hs hw; intro W hs hw))
  by_cases h50 : 50 < j
  · have e1 : decide ((j : Int) > 50) = true := decide_eq_true (by omega)
    rw [e1] at hs
    repeat (first | (refine sxv hs hw ?_; clear hs; intro a hs) | refine sxc hs ?_ | (refine sxa hs hw ?_; clear hs hw; intro a b W hw hs) | (refine sxs hs hw ?_; clear hs hw; intro W hs hw))
    refine st_call hs (hc := doc_Keys w _ p (dE j) _ hdf hw) (k := ?_); rintro e0 W1 ⟨kv, rfl, hw1⟩; refine ⟨_, rfl, ?_⟩; clear hs hw; intro a hs; have hw := hw1; clear hw1
    obtain ⟨kad, kcap, rfl⟩ := hw.own_slice
    repeat (first | (refine sxv hs hw ?_; clear hs; intro a hs) | refine sxc hs ?_ | (refine sxa hs hw ?_; clear hs hw; intro a b W hw hs) | (refine sxs hs hw ?_; clear hs hw; intro W hs hw))
    refine st_min hs (k := ?_); clear hs; intro a hs
    rw [if_pos (by omega), show ((dE j).length : Int) = 50 from by rw [hlen]; omega] at hs
    repeat (first | (refine sxv hs hw ?_; clear hs; intro a hs) | refine sxc hs ?_ | (refine sxa hs hw ?_; clear hs hw; intro a b W hw hs) | (refine sxs hs hw ?_; clear hs hw; intro W hs hw))
    exact rt1 hs rfl rfl ⟨rfl, hw.endF (by repeat (first | exact In.hd | apply In.tl)) hH⟩
  have e1 : decide ((j : Int) > 50) = false := decide_eq_false (by omega)
  rw [e1] at hs
  have hz := dE_zero (n := j) (by omega)
  have hk0 := kE_key 0 (by decide)
  have hao := app_old a0 hk0 hz
  have hao1 : (applyL (dE j) [putO (kE 0) a0]).1 = 0 := by rw [hao]
  have hao2 : (applyL (dE j) [putO (kE 0) a0]).2 = setL (dE j) (kE 0) (.inl a0) := by rw [hao]
  have hgk := getK_setL hdf.ok.keys (kE 0) (.inl a0)
  have hpo : ∀ o ∈ [putO (kE 0) a0], OpOk o := by intro o ho; rw [List.mem_singleton.1 ho]; exact putO_ok (by show 2 ≤ 1000000; omega) hai
  have haf := applyL_fine hdf hpo
  rw [hao2] at haf
  generalize setL (dE j) (kE 0) (.inl a0) = d2 at *
  repeat (first | (refine sxv hs hw ?_; clear hs; intro a hs) | refine sxc hs ?_ | (refine sxa hs hw ?_; clear hs hw; intro a b W hw hs) | (refine sxs hs hw ?_; clear hs hw; intro W hs hw))
  obtain ⟨bo, qo⟩ := nm1 hw; subst qo
  replace hw : Has 0 w _ (Cells bo ([putO (kE 0) a0].flatMap opCells) 47 :: Fz H :: DocAt p (dE j) :: []) := hw.sel (by repeat (first | exact Sel.nil | exact Sel.refl _ | refine Sel.cons (by repeat (first | exact Pick.hd | apply Pick.tl)) ?_ | refine Sel.skip ?_))
  obtain ⟨H2, hle2, hw2, hop⟩ := hw.freeze_lit (m := 1) (sz := 9) rfl (by decide)
  clear hw; have hw := hw2; clear hw2
  replace hw : Has 0 w _ (DocAt p (dE j) :: Fz H2 :: []) := hw.perm (by repeat (first | exact List.Perm.refl _ | refine perm_pick (by repeat (first | exact Pick.hd | apply Pick.tl)) ?_))
  refine st_call hs (hc := doc_ApplyL w _ H2 p (dE j) [putO (kE 0) a0] _ _ hpo hop (by repeat (first | exact In.hd | apply In.tl)) (hH.trans hle2) hT hw) (k := ?_); rw [hao1, hao2]; rintro e0 W1 ⟨rfl, hw1⟩; refine ⟨_, rfl, ?_⟩; clear hs hw; intro a hs; have hw := hw1; clear hw1
  repeat (first | (refine sxv hs hw ?_; clear hs; intro a hs) | refine sxn hs ?_ | (refine sxa hs hw ?_; clear hs hw; intro a b W hw hs) | (refine sxs hs hw ?_; clear hs hw; intro W hs hw))
  refine mergeL (M := fun a W => Slots a 132 [(1, .int .i64 a0), (2, .int .i64 b0), (8, .pointer (some ⟨p, 0, none⟩)), (11, .bool (farB a0 b0))] ∧ Has 0 w W (DocAt p d2 :: Fz H2 :: [])) ?_ ?_
  rotate_left
  · repeat (first | (refine sxv hs hw ?_; clear hs; intro a hs) | refine sxc hs ?_ | (refine sxa hs hw ?_; clear hs hw; intro a b W hw hs) | (refine sxs hs hw ?_; clear hs hw; intro W hs hw))
    cases k1 : decide (a0 < -4611686018427387904) with
    | true =>
      rw [k1] at hs
      have g := of_decide_eq_true k1
      have hf : farB a0 b0 = true := by
        unfold farB inB
        rw [decide_eq_false (by omega : ¬ a0 ≥ -4611686018427387904)]; rfl
      repeat (first | (refine sxv hs hw ?_; clear hs; intro a hs) | refine sxc hs ?_ | (refine sxa hs hw ?_; clear hs hw; intro a b W hw hs) | (refine sxs hs hw ?_; clear hs hw; intro W hs hw))
      exact ⟨hs.of ⟨rfl, rfl, rfl, bool_eq (by rw [hf]), trivial⟩, hw⟩
    | false =>
    rw [k1] at hs
    have k1g := of_decide_eq_false k1
    repeat (first | (refine sxv hs hw ?_; clear hs; intro a hs) | refine sxc hs ?_ | (refine sxa hs hw ?_; clear hs hw; intro a b W hw hs) | (refine sxs hs hw ?_; clear hs hw; intro W hs hw))
    cases k2 : decide (a0 > 4611686018427387904) with
    | true =>
      rw [k2] at hs
      have g := of_decide_eq_true k2
      have hf : farB a0 b0 = true := by
        unfold farB inB
        rw [decide_eq_false (by omega : ¬ a0 ≤ 4611686018427387904), Bool.and_false]; rfl
      repeat (first | (refine sxv hs hw ?_; clear hs; intro a hs) | refine sxc hs ?_ | (refine sxa hs hw ?_; clear hs hw; intro a b W hw hs) | (refine sxs hs hw ?_; clear hs hw; intro W hs hw))
      exact ⟨hs.of ⟨rfl, rfl, rfl, bool_eq (by rw [hf]), trivial⟩, hw⟩
    | false =>
    rw [k2] at hs
    have k2g := of_decide_eq_false k2
    repeat (first | (refine sxv hs hw ?_; clear hs; intro a hs) | refine sxc hs ?_ | (refine sxa hs hw ?_; clear hs hw; intro a b W hw hs) | (refine sxs hs hw ?_; clear hs hw; intro W hs hw))
    cases k3 : decide (IntKind.i64.wrap (a0 + b0) < -4611686018427387904) with
    | true =>
      rw [k3] at hs
      have g := of_decide_eq_true k3
      have hf : farB a0 b0 = true := by
        unfold farB inB
        rw [decide_eq_false (by omega : ¬ IntKind.i64.wrap (a0 + b0) ≥ -4611686018427387904), Bool.false_and, Bool.not_false, Bool.or_true]
      repeat (first | (refine sxv hs hw ?_; clear hs; intro a hs) | refine sxc hs ?_ | (refine sxa hs hw ?_; clear hs hw; intro a b W hw hs) | (refine sxs hs hw ?_; clear hs hw; intro W hs hw))
      exact ⟨hs.of ⟨rfl, rfl, rfl, bool_eq (by rw [hf]), trivial⟩, hw⟩
    | false =>
    rw [k3] at hs
    have k3g := of_decide_eq_false k3
    repeat (first | (refine sxv hs hw ?_; clear hs; intro a hs) | refine sxc hs ?_ | (refine sxa hs hw ?_; clear hs hw; intro a b W hw hs) | (refine sxs hs hw ?_; clear hs hw; intro W hs hw))
    cases k4 : decide (IntKind.i64.wrap (a0 + b0) > 4611686018427387904) with
    | true =>
      rw [k4] at hs
      have g := of_decide_eq_true k4
      have hf : farB a0 b0 = true := by
        unfold farB inB
        rw [decide_eq_false (by omega : ¬ IntKind.i64.wrap (a0 + b0) ≤ 4611686018427387904), Bool.and_false, Bool.not_false, Bool.or_true]
      repeat (first | (refine sxv hs hw ?_; clear hs; intro a hs) | refine sxc hs ?_ | (refine sxa hs hw ?_; clear hs hw; intro a b W hw hs) | (refine sxs hs hw ?_; clear hs hw; intro W hs hw))
      exact ⟨hs.of ⟨rfl, rfl, rfl, bool_eq (by rw [hf]), trivial⟩, hw⟩
    | false =>
    rw [k4] at hs
    have k4g := of_decide_eq_false k4
    repeat (first | (refine sxv hs hw ?_; clear hs; intro a hs) | refine sxc hs ?_ | (refine sxa hs hw ?_; clear hs hw; intro a b W hw hs) | (refine sxs hs hw ?_; clear hs hw; intro W hs hw))
    have hf : farB a0 b0 = false := by
      unfold farB inB
      rw [decide_eq_true (by omega : a0 ≥ -4611686018427387904), decide_eq_true (by omega : a0 ≤ 4611686018427387904), decide_eq_true (by omega : IntKind.i64.wrap (a0 + b0) ≥ -4611686018427387904), decide_eq_true (by omega : IntKind.i64.wrap (a0 + b0) ≤ 4611686018427387904)]
      rfl
    exact ⟨hs.of ⟨rfl, rfl, rfl, bool_eq (by rw [hf]), trivial⟩, hw⟩
  clear hs hw
  rintro a W ⟨hs, hw⟩
  obtain ⟨had1, hadg⟩ := app_add hk0 haf.ok.keys hgk (b := b0) (by omega) (by omega)
  have hdo : ∀ o ∈ [addO (kE 0) b0], OpOk o := by intro o ho; rw [List.mem_singleton.1 ho]; exact addO_ok (by show 2 ≤ 1000000; omega) hbi
  repeat (first | (refine sxv hs hw ?_; clear hs; intro a hs) | refine sxc hs ?_ | (refine sxa hs hw ?_; clear hs hw; intro a b W hw hs) | (refine sxs hs hw ?_; clear hs hw; intro W hs hw))
  obtain ⟨bq, qq⟩ := nm1 hw; subst qq
  replace hw : Has 0 w _ (Cells bq ([addO (kE 0) b0].flatMap opCells) 47 :: Fz H2 :: DocAt p d2 :: []) := hw.perm (by repeat (first | exact List.Perm.refl _ | refine perm_pick (by repeat (first | exact Pick.hd | apply Pick.tl)) ?_))
  obtain ⟨H3, hle3, hw2, hop3⟩ := hw.freeze_lit (m := 1) (sz := 9) rfl (by decide)
  clear hw; have hw := hw2; clear hw2
  replace hw : Has 0 w _ (DocAt p d2 :: Fz H3 :: []) := hw.perm (by repeat (first | exact List.Perm.refl _ | refine perm_pick (by repeat (first | exact Pick.hd | apply Pick.tl)) ?_))
  have hle := (hH.trans hle2).trans hle3
  refine st_call hs (hc := doc_ApplyL w _ H3 p d2 [addO (kE 0) b0] _ _ hdo hop3 (by repeat (first | exact In.hd | apply In.tl)) hle hT hw) (k := ?_); rw [had1]; rintro e0 W1 ⟨rfl, hw1⟩; refine ⟨_, rfl, ?_⟩; clear hs hw; intro a hs; have hw := hw1; clear hw1
  generalize (applyL d2 [addO (kE 0) b0]).2 = d3 at *
  repeat (first | (refine sxv hs hw ?_; clear hs; intro a hs) | refine sxc hs ?_ | (refine sxa hs hw ?_; clear hs hw; intro a b W hw hs) | (refine sxs hs hw ?_; clear hs hw; intro W hs hw))
  refine st_call hs (hc := doc_Get w _ p d3 (kE 0) _ hw) (k := ?_); rw [hadg]; rintro e0 W1 ⟨rfl, hw1⟩; refine ⟨_, rfl, ?_⟩; clear hs hw; intro a hs; have hw := hw1; clear hw1
  cases hf : farB a0 b0 with
  | true =>
    simp only [hf, if_true] at hs
    repeat (first | (refine sxv hs hw ?_; clear hs; intro a hs) | refine sxc hs ?_ | (refine sxa hs hw ?_; clear hs hw; intro a b W hw hs) | (refine sxs hs hw ?_; clear hs hw; intro W hs hw))
    exact rt1 hs rfl rfl ⟨by simp [intIn], hw.endF (by repeat (first | exact In.hd | apply In.tl)) hle⟩
  | false =>
    simp only [hf, Bool.false_eq_true, if_false] at hs
    repeat (first | (refine sxv hs hw ?_; clear hs; intro a hs) | refine sxc hs ?_ | (refine sxa hs hw ?_; clear hs hw; intro a b W hw hs) | (refine sxs hs hw ?_; clear hs hw; intro W hs hw))
    exact rt1 hs rfl rfl ⟨by simp [intIn], hw.endF (by repeat (first | exact In.hd | apply In.tl)) hle⟩
end Go.Proofs.YthpenehgfogloaaDoor.Sw

/-
  The walk of chapter 1's Short, by Sx.
-/
set_option linter.unusedVariables false
namespace Go.Proofs.YthpenehgfogloaaDoor.Sw
open Go.RowKit Go.Sx

set_option maxHeartbeats 4000000 in
theorem law1_Short (w w0 : World) (v : Value) (l : List UInt8) (n : Nat) (r : RdB w0 v l) (hn : n ≤ 1000000) :
    Calls Tryd.prog 29 ⟨[v, .int .i64 n]⟩ w fun e W' => (∃ ad cap, e = .returned (.slice ad (l.take n).length cap) ∧ RdB w0 (.slice ad (l.take n).length cap) (l.take n)) ∧ Below w.heap.size w W' := by
  have hw := Has.start (G := 0) (w := w) (Nat.zero_le _)
  obtain ⟨ad, cap, rfl, -⟩ := r.cells
  refine enter Tryd.func29 Tryd.ntmps29 rfl rfl fun a hs => ?_
  repeat (first | (refine sxv hs hw ?_; clear hs; intro a hs) | refine sxc hs ?_ | (refine sxa hs hw ?_; clear hs hw; intro a b W hw hs) | (refine sxs hs hw ?_; clear hs hw; intro W hs hw))
  by_cases h : (l.length : Int) > (n : Int)
  · have e1 : decide ((l.length : Int) > (n : Int)) = true := by simpa using h
    rw [e1] at hs
    repeat (first | (refine sxv hs hw ?_; clear hs; intro a hs) | refine sxc hs ?_ | (refine sxa hs hw ?_; clear hs hw; intro a b W hw hs) | (refine sxs hs hw ?_; clear hs hw; intro W hs hw))
    refine st_slice_hi_b (hs := hs) (r := r) (h0 := by omega) (h1 := by omega) (c := ?_)
    clear hs; intro a ad2 cap2 hr hs
    rw [show (n : Int).toNat = n by omega] at hr hs
    repeat (first | (refine sxv hs hw ?_; clear hs; intro a hs) | refine sxc hs ?_ | (refine sxa hs hw ?_; clear hs hw; intro a b W hw hs) | (refine sxs hs hw ?_; clear hs hw; intro W hs hw))
    exact rt1 hs rfl rfl ⟨⟨_, _, rfl, hr⟩, hw.end (by repeat (first | exact In.hd | apply In.tl))⟩
  · have e1 : decide ((l.length : Int) > (n : Int)) = false := by simpa using h
    rw [e1] at hs
    repeat (first | (refine sxv hs hw ?_; clear hs; intro a hs) | refine sxc hs ?_ | (refine sxa hs hw ?_; clear hs hw; intro a b W hw hs) | (refine sxs hs hw ?_; clear hs hw; intro W hs hw))
    have e2 : l.take n = l := List.take_of_length_le (by omega)
    rw [e2]
    exact rt1 hs rfl rfl ⟨⟨_, _, rfl, r⟩, hw.end (by repeat (first | exact In.hd | apply In.tl))⟩

end Go.Proofs.YthpenehgfogloaaDoor.Sw

/-
  The walk of DocBytes.
-/
set_option linter.unusedVariables false
set_option maxRecDepth 10000
namespace Go.Proofs.YthpenehgfogloaaDoor.Sw
open Go.RowKit Go.Sx

theorem setRL_keys {P : ByteArray → Prop} {d : Dm} (h : ∀ p ∈ d, P p.1) {k : ByteArray} (hk : P k) (x : Option DV) : ∀ p ∈ (setRL d k x).2, P p.1 := by
  cases x with
  | none => exact fun p hp => h p (delD_mem hp).1
  | some v =>
    unfold setRL
    simp only
    split
    · exact h
    · intro p hp
      rcases List.mem_cons.1 ((setL_perm d k v).mem_iff.1 hp) with rfl | hp
      · exact hk
      · exact h p (delD_mem hp).1
theorem doL_keys {P : ByteArray → Prop} {d : Dm} (h : ∀ p ∈ d, P p.1) {o : OpD} (hk : P o.key) : ∀ p ∈ (doL d o).2, P p.1 := by
  unfold doL
  split
  · split
    · exact setRL_keys h hk _
    · exact h
  · split
    · split
      · exact h
      · split
        · exact h
        · exact setRL_keys h hk _
    · exact setRL_keys h hk _
theorem goL_keys {P : ByteArray → Prop} : ∀ (l : List OpD) {d : Dm}, (∀ p ∈ d, P p.1) → (∀ o ∈ l, P o.key) → ∀ p ∈ (goL l d).2, P p.1
  | [], d, h, _ => h
  | o :: l, d, h, ho => by
    unfold goL
    split
    · exact h
    · split
      · exact goL_keys l (doL_keys h (ho o (by simp))) fun x hx => ho x (by simp [hx])
      · exact h
theorem applyL_keys {P : ByteArray → Prop} {d : Dm} (h : ∀ p ∈ d, P p.1) {l : List OpD} (ho : ∀ o ∈ l, P o.key) : ∀ p ∈ (applyL d l).2, P p.1 := by
  unfold applyL
  split
  · exact h
  · split
    · exact goL_keys l h ho
    · exact h
theorem cutD_key (l : List OpD) : ∀ o ∈ cutD l, o.key.size ≤ 10000 := by
  intro o ho
  obtain ⟨x, _, rfl⟩ := List.mem_map.1 ho
  have := cutS_size x.key 90
  show (cutS x.key 90).size ≤ 10000
  omega
theorem docB_pos (d : Dm) : 0 < (docB d).length := by
  have : 0 < (Ph.putI (d.length : Int)).length := List.length_pos_iff.2 (Ph.putI_ne_nil _)
  unfold docB
  rw [List.length_append]; omega
theorem xorB (b c : Int) : ∃ d : UInt8, bits .xor .u8 b c = (d.toNat : Int) := by
  have h := bits_within .xor .u8 b c
  have h1 : 0 ≤ bits .xor .u8 b c ∧ bits .xor .u8 b c ≤ 255 := by
    simpa [IntKind.min, IntKind.max, IntKind.signed, IntKind.bits] using h
  obtain ⟨n, hn⟩ := Int.eq_ofNat_of_zero_le h1.1
  refine ⟨n.toUInt8, ?_⟩
  rw [hn]
  have : n < 256 := by omega
  simp [Nat.mod_eq_of_lt this]

set_option maxHeartbeats 64000000 in
theorem walk_DocBytes (ll : List (List OpD)) (v : Value) (at_ x : Int) (rl : List UInt8) (rv : Value) (w : World) (hll : ∀ x ∈ ll, ∀ o ∈ x, OpWf o) (hr : OpllRd w v ll) (hat : (Lit.int .i64 at_).wf = true) (hx : (Lit.int .u8 x).wf = true) (hrb : RdB w rv rl) (hT : Tabs w) :
    Calls Tryd.prog 6 ⟨[v, .int .i64 at_, .int .u8 x, rv]⟩ w fun e w' => e = .returned (.bool true) ∧ Below w.heap.size w w' := by
  have hw := Has.startF w
  obtain ⟨xs, hrl, hch⟩ := hr.h
  obtain ⟨sad, scap, rfl⟩ := hrl.slice
  obtain ⟨rad, rcap, rfl, -⟩ := hrb.cells
  refine enter Tryd.func6 Tryd.ntmps6 rfl rfl fun a hs => ?_
  repeat (first | (refine sxv hs hw ?_; clear hs; intro a hs) | refine sxc hs ?_ | (refine sxa hs hw ?_; clear hs hw; intro a b W hw hs) | (refine sxs hs hw ?_; clear hs hw; intro W hs hw))
  refine st_call hs (hc := law6_begun _ hT) (k := ?_); rintro e0 W1 ⟨rfl, hb⟩; refine ⟨_, rfl, ?_⟩; clear hs; intro a hs; replace hw := hw.below hb; clear hb
  repeat (first | (refine sxv hs hw ?_; clear hs; intro a hs) | refine sxc hs ?_ | (refine sxa hs hw ?_; clear hs hw; intro a b W hw hs) | (refine sxs hs hw ?_; clear hs hw; intro W hs hw))
  refine st_call hs (hc := doc_New w _ _ hw) (k := ?_); rintro e0 W1 ⟨p, rfl, hw1⟩; refine ⟨_, rfl, ?_⟩; clear hs hw; intro a hs; have hw := hw1; clear hw1
  repeat (first | (refine sxv hs hw ?_; clear hs; intro a hs) | refine sxn hs ?_ | (refine sxa hs hw ?_; clear hs hw; intro a b W hw hs) | (refine sxs hs hw ?_; clear hs hw; intro W hs hw))
  obtain ⟨b11, q11⟩ := nm1 hw; subst q11
  refine sq ?_
  refine merge (M := fun a W => ∃ (d : Dm) (dv : Value) (H : Fh), DocFine d ∧ (∀ p ∈ d, p.1.size ≤ 10000) ∧ DocH H dv d ∧ (fr w).le H ∧ Slots a 98 [(1, .int .i64 at_), (2, .int .u8 x), (3, .slice rad rl.length rcap), (10, .pointer (some ⟨p, 0, none⟩)), (11, .pointer (some ⟨b11, 0, none⟩))] ∧ Has 0 w W (DocAt p d :: Cells b11 [dv] 52 :: Fz H :: [])) ?_ ?_
  rotate_left
  · clear hs hw
    rintro a W ⟨d, dv, H, hdf, hdk, hdv, hH, hs, hw⟩
    obtain ⟨dad, dcap, rfl⟩ := hdv.slice
    have hlen := dec_fine_len hdf hdk
    have hpos := docB_pos d
    repeat (first | (refine sxv hs hw ?_; clear hs; intro a hs) | refine sxc hs ?_ | (refine sxa hs hw ?_; clear hs hw; intro a b W hw hs) | (refine sxs hs hw ?_; clear hs hw; intro W hs hw))
    refine st_call hs (hc := doc_Encode w _ p d _ hdf hw) (k := ?_); rintro e0 W1 ⟨ad, cap, rfl, hw1⟩; refine ⟨_, rfl, ?_⟩; clear hs hw; intro a hs; have hw := hw1; clear hw1
    replace hw : Has 0 w _ (Sx.OwnB 5 (.slice ad (docB d).length cap) (docB d) :: Fz H :: DocAt p d :: Cells b11 [.slice dad d.length dcap] 52 :: []) := hw.perm (by repeat (first | exact List.Perm.refl _ | refine perm_pick (by repeat (first | exact Pick.hd | apply Pick.tl)) ?_))
    obtain ⟨H1, hle1, hw2, hbb⟩ := hw.freeze_own
    clear hw; have hw := hw2; clear hw2
    have hle := hH.trans hle1
    have hdv1 := RdH.le hdv hle1
    repeat (first | (refine sxv hs hw ?_; clear hs; intro a hs) | refine sxc hs ?_ | (refine sxa hs hw ?_; clear hs hw; intro a b W hw hs) | (refine sxs hs hw ?_; clear hs hw; intro W hs hw))
    refine st_call hs (hc := doc_DecodeOf w _ H1 d _ _ hdf hlen hbb (by repeat (first | exact In.hd | apply In.tl)) hle hT hw) (k := ?_); rintro e0 W1 ⟨c, rfl, hw1⟩; refine ⟨_, rfl, ?_⟩; clear hs hw; intro a hs; have hw := hw1; clear hw1
    repeat (first | (refine sxv hs hw ?_; clear hs; intro a hs) | refine sxc hs ?_ | (refine sxa hs hw ?_; clear hs hw; intro a b W hw hs) | (refine sxs hs hw ?_; clear hs hw; intro W hs hw))
    have hw := hw.free
    refine rg_drawU (σ := Option Addr × Nat) (V := fun u => [.slice ad (docB d).length cap, .string ⟨(docB d).toArray⟩, .agg ⟨[.slice dad d.length dcap]⟩, (.slice (u 3).1 (docB d).length (u 3).2), .string ⟨(docB d).toArray⟩, .bool false, .bool false, .int .i64 0, .bool false, .bool false, .bool false, .pointer (some ⟨c, 0, none⟩), .agg ⟨[.slice dad d.length dcap]⟩, .bool true, .bool false, .bool false, .bool false, .pointer (some ⟨c, 0, none⟩), .pointer (some ⟨p, 0, none⟩), .bool true, .bool false, .bool false])
      (Rs := fun u D => (if D 3 then Sx.OwnB 5 (.slice (u 3).1 (docB d).length (u 3).2) (docB d) else Free) :: DocAt c d :: Fz H1 :: DocAt p d :: Cells b11 [.slice dad d.length dcap] 52 :: []) (fun _ => (none, 0)) hs hw (hVu := ?vu_c) (ho := ⟨?_, ?c1_c, ?_, ?c3_c, ?c4_c, ?c5_c, ?_, ?_, ?_, ?_, ?_, ?_, ?_, ?c13_c, ?_, ?_, ?_, ?_, ?_, ?c19_c, ?_, ?_, trivial⟩) (k := ?k_c)
    case vu_c =>
      intro u u' j h
      rcases j with _ | _ | _ | _ | _ | _ | _ | _ | _ | _ | _ | _ | _ | _ | _ | _ | _ | _ | _ | _ | _ | _ | j
      all_goals first | rfl | simp [h]
    case c1_c =>
      intro u LD D a W hcl hi hp hs hw
      refine st_string_b hs (r := hw.rdH (by repeat (first | exact In.hd | apply In.tl)) hbb) (k := ?_); clear hs; intro a hs
      repeat (first | (refine sxv hs hw ?_; clear hs; intro a hs) | refine sxc hs ?_ | (refine sxa hs hw ?_; clear hs hw; intro a b W hw hs) | (refine sxs hs hw ?_; clear hs hw; intro W hs hw))
      exact Or.inl ⟨hs, hw⟩
    case c3_c =>
      intro u LD D a W hcl hi hp hs hw
      simp only [hi, Bool.false_eq_true, if_false] at hw
      refine st_call hs (hc := ref_DocEncode w _ H1 d _ _ hdf hdv1 (In.tl (In.tl In.hd)) hw) (k := ?_); rintro e0 W1 ⟨ad3, cap3, rfl, hw1⟩; refine ⟨_, rfl, ?_⟩; clear hs hw; intro a hs; have hw := hw1; clear hw1
      repeat (first | (refine sxv hs hw ?_; clear hs; intro a hs) | refine sxc hs ?_ | (refine sxa hs hw ?_; clear hs hw; intro a b W hw hs) | (refine sxs hs hw ?_; clear hs hw; intro W hs hw))
      exact Or.inr ⟨(ad3, cap3), hs, hw.fill Upd.hd⟩
    case c4_c =>
      intro u LD D a W hcl hi hp hs hw
      have h3 := Go.Sx.done hp 3 (by kernel_rfl)
      have hw0 := hw
      simp only [h3, if_true] at hw
      refine st_string_b hs (r := hw.rd_own In.hd) (k := ?_); clear hs; intro a hs
      repeat (first | (refine sxv hs hw ?_; clear hs; intro a hs) | refine sxc hs ?_ | (refine sxa hs hw ?_; clear hs hw; intro a b W hw hs) | (refine sxs hs hw ?_; clear hs hw; intro W hs hw))
      exact Or.inl ⟨hs, hw0⟩
    case c5_c =>
      intro u LD D a W hcl hi hp hs hw
      repeat (first | (refine sxv hs hw ?_; clear hs; intro a hs) | refine sxc hs ?_ | (refine sxa hs hw ?_; clear hs hw; intro a b W hw hs) | (refine sxs hs hw ?_; clear hs hw; intro W hs hw))
      rw [beq_self_eq_true] at hs
      exact Or.inl ⟨hs, hw⟩
    case c13_c =>
      intro u LD D a W hcl hi hp hs hw
      have hw0 : ∀ {W' : World}, Has 0 w W' (DocAt c d :: Fz H1 :: (if D 3 then Sx.OwnB 5 (.slice (u 3).1 (docB d).length (u 3).2) (docB d) else Free) :: DocAt p d :: Cells b11 [.slice dad d.length dcap] 52 :: []) → Has 0 w W' ((if D 3 then Sx.OwnB 5 (.slice (u 3).1 (docB d).length (u 3).2) (docB d) else Free) :: DocAt c d :: Fz H1 :: DocAt p d :: Cells b11 [.slice dad d.length dcap] 52 :: []) := fun h => h.perm (by repeat (first | exact List.Perm.refl _ | refine perm_pick (by repeat (first | exact Pick.hd | apply Pick.tl)) ?_))
      replace hw : Has 0 w _ (DocAt c d :: Fz H1 :: (if D 3 then Sx.OwnB 5 (.slice (u 3).1 (docB d).length (u 3).2) (docB d) else Free) :: DocAt p d :: Cells b11 [.slice dad d.length dcap] 52 :: []) := hw.perm (by repeat (first | exact List.Perm.refl _ | refine perm_pick (by repeat (first | exact Pick.hd | apply Pick.tl)) ?_))
      repeat (first | (refine sxv hs hw ?_; clear hs; intro a hs) | refine sxc hs ?_ | (refine sxa hs hw ?_; clear hs hw; intro a b W hw hs) | (refine sxs hs hw ?_; clear hs hw; intro W hs hw))
      refine st_call hs (hc := law6_Same w _ H1 c d _ _ hdf hdv1 hw) (k := ?_); rintro e0 W1 ⟨rfl, hw1⟩; refine ⟨_, rfl, ?_⟩; clear hs hw; intro a hs; have hw := hw1; clear hw1
      repeat (first | (refine sxv hs hw ?_; clear hs; intro a hs) | refine sxc hs ?_ | (refine sxa hs hw ?_; clear hs hw; intro a b W hw hs) | (refine sxs hs hw ?_; clear hs hw; intro W hs hw))
      exact Or.inl ⟨hs, hw0 hw⟩
    case c19_c =>
      intro u LD D a W hcl hi hp hs hw
      have hw0 : ∀ {W' : World}, Has 0 w W' (DocAt c d :: DocAt p d :: (if D 3 then Sx.OwnB 5 (.slice (u 3).1 (docB d).length (u 3).2) (docB d) else Free) :: Fz H1 :: Cells b11 [.slice dad d.length dcap] 52 :: []) → Has 0 w W' ((if D 3 then Sx.OwnB 5 (.slice (u 3).1 (docB d).length (u 3).2) (docB d) else Free) :: DocAt c d :: Fz H1 :: DocAt p d :: Cells b11 [.slice dad d.length dcap] 52 :: []) := fun h => h.perm (by repeat (first | exact List.Perm.refl _ | refine perm_pick (by repeat (first | exact Pick.hd | apply Pick.tl)) ?_))
      replace hw : Has 0 w _ (DocAt c d :: DocAt p d :: (if D 3 then Sx.OwnB 5 (.slice (u 3).1 (docB d).length (u 3).2) (docB d) else Free) :: Fz H1 :: Cells b11 [.slice dad d.length dcap] 52 :: []) := hw.perm (by repeat (first | exact List.Perm.refl _ | refine perm_pick (by repeat (first | exact Pick.hd | apply Pick.tl)) ?_))
      repeat (first | (refine sxv hs hw ?_; clear hs; intro a hs) | refine sxc hs ?_ | (refine sxa hs hw ?_; clear hs hw; intro a b W hw hs) | (refine sxs hs hw ?_; clear hs hw; intro W hs hw))
      refine st_call hs (hc := doc_Eq w _ c p d d _ hdf (by have := hdf.ok.len; omega) hw) (k := ?_); rw [eqD_self hdf.ok.keys]; rintro e0 W1 ⟨rfl, hw1⟩; refine ⟨_, rfl, ?_⟩; clear hs hw; intro a hs; have hw := hw1; clear hw1
      repeat (first | (refine sxv hs hw ?_; clear hs; intro a hs) | refine sxc hs ?_ | (refine sxa hs hw ?_; clear hs hw; intro a b W hw hs) | (refine sxs hs hw ?_; clear hs hw; intro W hs hw))
      exact Or.inl ⟨hs, hw0 hw⟩
    case k_c =>
      clear hs hw
      intro u a W hs hw
      replace hw : Has 0 w W (Sx.OwnB 5 (.slice (u 3).1 (docB d).length (u 3).2) (docB d) :: DocAt c d :: Fz H1 :: DocAt p d :: Cells b11 [.slice dad d.length dcap] 52 :: []) := hw
      replace hw : Has 0 w W (Fz H1 :: []) := hw.sel (by repeat (first | exact Sel.nil | exact Sel.refl _ | refine Sel.cons (by repeat (first | exact Pick.hd | apply Pick.tl)) ?_ | refine Sel.skip ?_))
      replace hs : Slots a 98 [(76, .bool false), (1, .int .i64 at_), (2, .int .u8 x), (3, .slice rad rl.length rcap), (16, .slice ad (docB d).length cap)] := hs.of ⟨rfl, rfl, rfl, rfl, rfl, trivial⟩
      clear u
      generalize docB d = X at *
      repeat (first | (refine sxv hs hw ?_; clear hs; intro a hs) | refine sxn hs ?_ | (refine sxa hs hw ?_; clear hs hw; intro a b W hw hs) | (refine sxs hs hw ?_; clear hs hw; intro W hs hw))
      refine sq ?_
      refine merge (M := fun a W => ∃ (l2 : List UInt8) (a2 : Option Addr) (c2 : Nat) (H2 : Fh), l2.length ≤ 1000000 ∧ (fr w).le H2 ∧ RdH H2 1 (.slice a2 l2.length c2) l2.length (bys l2) ∧ Slots a 98 [(3, .slice rad rl.length rcap), (16, .slice a2 l2.length c2)] ∧ Has 0 w W (Fz H2 :: [])) ?_ ?_
      · repeat (first | (refine sxv hs hw ?_; clear hs; intro a hs) | refine sxc hs ?_ | (refine sxa hs hw ?_; clear hs hw; intro a b W hw hs) | (refine sxs hs hw ?_; clear hs hw; intro W hs hw))
        cases c5 : decide (at_ ≥ 0) with
        | false =>
          rw [c5] at hs
          repeat (first | (refine sxv hs hw ?_; clear hs; intro a hs) | refine sxc hs ?_ | (refine sxa hs hw ?_; clear hs hw; intro a b W hw hs) | (refine sxs hs hw ?_; clear hs hw; intro W hs hw))
          exact ⟨X, ad, cap, H1, hlen, hle, hbb, hs.of ⟨rfl, rfl, trivial⟩, hw⟩
        | true =>
        rw [c5] at hs
        have h0 := of_decide_eq_true c5
        repeat (first | (refine sxv hs hw ?_; clear hs; intro a hs) | refine sxc hs ?_ | (refine sxa hs hw ?_; clear hs hw; intro a b W hw hs) | (refine sxs hs hw ?_; clear hs hw; intro W hs hw))
        have hw := hw.nilB 5
        refine st_append_b hs hw (l := []) (m := X) (hr := src_rd (hw.rdH (In.tl In.hd) hbb) (bys_one _)) (hb := by simp; omega) (c := ?_); clear hs hw; intro a ad5 cap5 W hs hw
        rw [List.nil_append] at hs hw
        repeat (first | (refine sxv hs hw ?_; clear hs; intro a hs) | refine sxc hs ?_ | (refine sxa hs hw ?_; clear hs hw; intro a b W hw hs) | (refine sxs hs hw ?_; clear hs hw; intro W hs hw))
        obtain ⟨kk, hkk⟩ : ∃ kk : Nat, at_.tmod (X.length : Int) = (kk : Int) := ⟨(at_.tmod (X.length : Int)).toNat, by have := Int.tmod_nonneg (X.length : Int) h0; omega⟩
        have hidx : kk < X.length := by
          have := Int.tmod_lt_of_pos at_ (b := (X.length : Int)) (by omega)
          omega
        obtain ⟨c0, hc0⟩ : ∃ c0, X[kk]? = some c0 := ⟨X[kk], by simp [hidx]⟩
        refine st_idiv hs (hne := by rw [beq_eq_false_iff_ne]; omega) (k := ?_); clear hs; intro a hs
        rw [hkk] at hs
        obtain ⟨g, cur, rfl, htk, hcl, hkc, hcm, hw2⟩ := hw.open_own hpos
        clear hw; have hw := hw2; clear hw2
        rw [Nat.mul_one] at htk hcl
        refine st_index_at hs (z := [.int .u8 0]) (h0 := by omega) (h1 := by omega) (c := ?_); clear hs; intro a hs
        have hcur : cur[kk]? = some (.int .u8 (c0.toNat : Int)) := by
          have : (bys X)[kk]? = some (.int .u8 (c0.toNat : Int)) := by simp [hc0]
          rw [← htk, List.getElem?_take, if_pos hidx] at this
          exact this
        have hoff : 0 + (kk : Int).toNat * [Value.int .u8 0].length = kk := by
          rw [Int.toNat_natCast]
          show 0 + _ * 1 = _
          omega
        rw [hoff] at hs
        refine st_load_one hs (hw := hw) (hi := In.hd) (hv := hcur) (k := ?_); clear hs; intro a hs
        repeat (first | (refine sxv hs hw ?_; clear hs; intro a hs) | refine sxc hs ?_ | (refine sxa hs hw ?_; clear hs hw; intro a b W hw hs) | (refine sxs hs hw ?_; clear hs hw; intro W hs hw))
        obtain ⟨d2, hd2⟩ := xorB (c0.toNat : Int) x
        rw [hd2] at hs
        refine st_index_at hs (z := [.int .u8 0]) (h0 := by omega) (h1 := by omega) (c := ?_); clear hs; intro a hs
        rw [hoff] at hs
        have hbl : Nat.ble (kk + [Value.int .u8 (d2.toNat : Int)].length) cur.length = true := by
          rw [Nat.ble_eq]
          show _ + 1 ≤ _
          omega
        refine st_store hs (hw := hw) (hu := Upd.hd) (hl := hbl) (k := ?_); clear hs hw; intro W hs hw
        rw [ov_one] at hw
        have hbs : (bys X).set kk (.int .u8 (d2.toNat : Int)) = bys (X.set kk d2) := by simp [bys, List.map_set]
        have hw2 := hw.shut_own (k := X.length) (cap := cap5) (size := 1) (xs := bys (X.set kk d2)) (by rw [Nat.mul_one, List.take_set, htk, hbs]) (by simp [hcl]) hkc hcm
        clear hw
        have hl2 : (X.set kk d2).length = X.length := by simp
        obtain ⟨H2, hle2, hw, hb2⟩ := hw2.freeze_own
        repeat (first | (refine sxv hs hw ?_; clear hs; intro a hs) | refine sxc hs ?_ | (refine sxa hs hw ?_; clear hs hw; intro a b W hw hs) | (refine sxs hs hw ?_; clear hs hw; intro W hs hw))
        exact ⟨X.set kk d2, some ⟨g, 0, none⟩, cap5, H2, by omega, hle.trans hle2, by rw [hl2]; exact hb2, hs.of ⟨rfl, by rw [hl2]; rfl, trivial⟩, hw⟩
      clear hs hw
      rintro a W ⟨l2, a2, c2, H2, hl2, hle2, hr2, hs, hw⟩
      repeat (first | (refine sxv hs hw ?_; clear hs; intro a hs) | refine sxc hs ?_ | (refine sxa hs hw ?_; clear hs hw; intro a b W hw hs) | (refine sxs hs hw ?_; clear hs hw; intro W hs hw))
      refine st_call hs (hc := law6_tells w _ H2 l2 _ _ hl2 hr2 In.hd hle2 hT hw) (k := ?_); rintro e0 W1 ⟨rfl, hw1⟩; refine ⟨_, rfl, ?_⟩; clear hs hw; intro a hs; have hw := hw1; clear hw1
      repeat (first | (refine sxv hs hw ?_; clear hs; intro a hs) | refine sxc hs ?_ | (refine sxa hs hw ?_; clear hs hw; intro a b W hw hs) | (refine sxs hs hw ?_; clear hs hw; intro W hs hw))
      refine st_call hs (hc := law1_Short _ w _ rl 60 hrb (by omega)) (k := ?_); rintro e0 W1 ⟨⟨ad6, cap6, rfl, hr6⟩, hbb6⟩; refine ⟨_, rfl, ?_⟩; clear hs; intro a hs; replace hw := hw.below hbb6; clear hbb6
      have hl6 : (rl.take 60).length ≤ 1000000 := by rw [List.length_take]; omega
      repeat (first | (refine sxv hs hw ?_; clear hs; intro a hs) | refine sxc hs ?_ | (refine sxa hs hw ?_; clear hs hw; intro a b W hw hs) | (refine sxs hs hw ?_; clear hs hw; intro W hs hw))
      refine st_call hs (hc := law6_tells w _ H2 (rl.take 60) _ _ hl6 (RdH.of_rd hr6 hle2 (by decide)) In.hd hle2 hT hw) (k := ?_); rintro e0 W1 ⟨rfl, hw1⟩; refine ⟨_, rfl, ?_⟩; clear hs hw; intro a hs; have hw := hw1; clear hw1
      repeat (first | (refine sxv hs hw ?_; clear hs; intro a hs) | refine sxc hs ?_ | (refine sxa hs hw ?_; clear hs hw; intro a b W hw hs) | (refine sxs hs hw ?_; clear hs hw; intro W hs hw))
      exact rt1 hs rfl rfl ⟨rfl, hw.endF (by repeat (first | exact In.hd | apply In.tl)) hle2⟩
    all_goals
      intro u LD D a W hcl hi hp hs hw
      repeat (first | (refine sxv hs hw ?_; clear hs; intro a hs) | refine sxc hs ?_ | (refine sxa hs hw ?_; clear hs hw; intro a b W hw hs) | (refine sxs hs hw ?_; clear hs hw; intro W hs hw))
      exact Or.inl ⟨hs, hw⟩
  repeat (first | (refine sxv hs hw ?_; clear hs; intro a hs) | refine sxc hs ?_ | (refine sxa hs hw ?_; clear hs hw; intro a b W hw hs) | (refine sxs hs hw ?_; clear hs hw; intro W hs hw))
  have hw : Has 0 w _ (DocAt p [] :: Cells b11 [.slice none 0 0] 52 :: Fz (fr w) :: []) := hw.swap2
  refine st_loop (σ := Nat × Dm × Value × Fh) (fun t => [(0, .slice sad ll.length scap), (1, .int .i64 at_), (2, .int .u8 x), (3, .slice rad rl.length rcap), (10, .pointer (some ⟨p, 0, none⟩)), (11, .pointer (some ⟨b11, 0, none⟩)), (12, .int .i64 (t.1 : Int))]) (fun t => DocAt p t.2.1 :: Cells b11 [t.2.2.1] 52 :: Fz t.2.2.2 :: []) (fun t => t.1 ≤ ll.length ∧ t.1 ≤ 20 ∧ DocFine t.2.1 ∧ (∀ p ∈ t.2.1, p.1.size ≤ 10000) ∧ DocH t.2.2.2 t.2.2.1 t.2.1 ∧ (fr w).le t.2.2.2) (fun t => ll.length - t.1) (0, [], .slice none 0 0, fr w) ⟨Nat.zero_le _, Nat.zero_le _, DocFine.nil, by simp, RdH.nil _ _ _ (by omega), Fh.le.refl _⟩ hs ⟨rfl, rfl, rfl, rfl, rfl, rfl, rfl, trivial⟩ hw ?_
  clear hs hw
  rintro ⟨j, d, dv, H⟩ a W ⟨hj, hj20, hdf, hdk, hdv, hH⟩ hs hw
  simp only at hj hj20 hdf hdk hdv hH hs hw
  obtain ⟨dad, dcap, rfl⟩ := hdv.slice
  repeat (first | (refine sxv hs hw ?_; clear hs; intro a hs) | refine sxc hs ?_ | (refine sxa hs hw ?_; clear hs hw; intro a b W hw hs) | (refine sxs hs hw ?_; clear hs hw; intro W hs hw))
  cases c1 : decide ((j : Int) < (ll.length : Int)) with
  | false =>
    rw [c1] at hs
    repeat (first | (refine sxv hs hw ?_; clear hs; intro a hs) | refine sxc hs ?_ | (refine sxa hs hw ?_; clear hs hw; intro a b W hw hs) | (refine sxs hs hw ?_; clear hs hw; intro W hs hw))
    exact ⟨d, _, H, hdf, hdk, hdv, hH, hs.of ⟨rfl, rfl, rfl, rfl, rfl, trivial⟩, hw⟩
  | true =>
  rw [c1] at hs
  have hj' : j < ll.length := by have := of_decide_eq_true c1; omega
  repeat (first | (refine sxv hs hw ?_; clear hs; intro a hs) | refine sxc hs ?_ | (refine sxa hs hw ?_; clear hs hw; intro a b W hw hs) | (refine sxs hs hw ?_; clear hs hw; intro W hs hw))
  cases c2 : decide ((j : Int) < 20) with
  | false =>
    rw [c2] at hs
    repeat (first | (refine sxv hs hw ?_; clear hs; intro a hs) | refine sxc hs ?_ | (refine sxa hs hw ?_; clear hs hw; intro a b W hw hs) | (refine sxs hs hw ?_; clear hs hw; intro W hs hw))
    exact ⟨d, _, H, hdf, hdk, hdv, hH, hs.of ⟨rfl, rfl, rfl, rfl, rfl, trivial⟩, hw⟩
  | true =>
  rw [c2] at hs
  have hj2 : j < 20 := by have := of_decide_eq_true c2; omega
  obtain ⟨o, hoi⟩ : ∃ o, ll[j]? = some o := ⟨ll[j], List.getElem?_eq_getElem hj'⟩
  have hwf := hll o (List.mem_of_getElem? hoi)
  repeat (first | (refine sxv hs hw ?_; clear hs; intro a hs) | refine sxc hs ?_ | (refine sxa hs hw ?_; clear hs hw; intro a b W hw hs) | (refine sxs hs hw ?_; clear hs hw; intro W hs hw))
  refine st_index_ch hs (r := hw.rdH (by repeat (first | exact In.hd | apply In.tl)) (hrl.le hH)) (hk := OplIn.len) (ch := hch.mono (OplIn.le hH)) (ho := hoi) (hlen := rfl) (c := ?_); clear hs; intro a g off cc hc hcl hpc hlt hs
  obtain ⟨ov, rfl, hov⟩ := hc
  repeat (first | (refine sxv hs hw ?_; clear hs; intro a hs) | refine sxc hs ?_ | (refine sxa hs hw ?_; clear hs hw; intro a b W hw hs) | (refine sxs hs hw ?_; clear hs hw; intro W hs hw))
  refine st_load_at hs (hc := hpc 0 _ rfl) (c := ?_); clear hs hpc; intro a hs
  repeat (first | (refine sxv hs hw ?_; clear hs; intro a hs) | refine sxc hs ?_ | (refine sxa hs hw ?_; clear hs hw; intro a b W hw hs) | (refine sxs hs hw ?_; clear hs hw; intro W hs hw))
  refine st_call hs (hc := law5_Cut o _ _ (wf_sizes hwf) (hw.rdH (by repeat (first | exact In.hd | apply In.tl)) hov)) (k := ?_); rintro e0 W1 ⟨nad, ncap, rfl, hw1⟩; refine ⟨_, rfl, ?_⟩; clear hs; intro a hs; replace hw := hw.call hw1; clear hw1
  have hmo := cutD_ok hwf
  have hmk := cutD_key o
  generalize cutD o = m at *
  replace hw : Has 0 w _ (Sx.Own 47 9 (.slice nad m.length ncap) m.length (m.flatMap opCells) :: Fz H :: DocAt p d :: Cells b11 [.slice dad d.length dcap] 52 :: []) := hw.perm (by repeat (first | exact List.Perm.refl _ | refine perm_pick (by repeat (first | exact Pick.hd | apply Pick.tl)) ?_))
  obtain ⟨H1, hle1, hw2, hops⟩ := hw.freeze_own
  clear hw; have hw := hw2; clear hw2
  replace hw : Has 0 w _ (DocAt p d :: Fz H1 :: Cells b11 [.slice dad d.length dcap] 52 :: []) := hw.swap2
  have hle := hH.trans hle1
  repeat (first | (refine sxv hs hw ?_; clear hs; intro a hs) | refine sxc hs ?_ | (refine sxa hs hw ?_; clear hs hw; intro a b W hw hs) | (refine sxs hs hw ?_; clear hs hw; intro W hs hw))
  refine st_call hs (hc := doc_ApplyL w _ H1 p d m _ _ hmo hops (by repeat (first | exact In.hd | apply In.tl)) hle hT hw) (k := ?_); rintro e0 W1 ⟨rfl, hw1⟩; refine ⟨_, rfl, ?_⟩; clear hs hw; intro a hs; have hw := hw1; clear hw1
  have hwB := hw.endF (In.tl In.hd) hle
  repeat (first | (refine sxv hs hw ?_; clear hs; intro a hs) | refine sxc hs ?_ | (refine sxa hs hw ?_; clear hs hw; intro a b W hw hs) | (refine sxs hs hw ?_; clear hs hw; intro W hs hw))
  replace hw : Has 0 w _ (Fz H1 :: DocAt p (applyL d m).2 :: Cells b11 [.slice dad d.length dcap] 52 :: []) := hw.swap2
  refine st_call hs (hc := ref_Apply w _ H1 d _ m _ _ hdf.ok hmo (hdv.le hle1) hops hw) (k := ?_); rintro e0 W1 ⟨dv', H2, rfl, hle2, hdv2, hw1⟩; refine ⟨_, rfl, ?_⟩; clear hs hw; intro a hs; have hw := hw1; clear hw1
  have hdf2 := applyL_fine hdf hmo
  have hdk2 := applyL_keys (P := fun k => k.size ≤ 10000) hdk hmk
  obtain ⟨ead, ecap, rfl⟩ := hdv2.slice
  repeat (first | (refine sxv hs hw ?_; clear hs; intro a hs) | refine sxc hs ?_ | (refine sxa hs hw ?_; clear hs hw; intro a b W hw hs) | (refine sxs hs hw ?_; clear hs hw; intro W hs hw))
  replace hw : Has 0 w _ (DocAt p (applyL d m).2 :: Cells b11 [.slice ead (applyL d m).2.length ecap] 52 :: Fz H2 :: []) := hw.sel (by repeat (first | exact Sel.nil | exact Sel.refl _ | refine Sel.cons (by repeat (first | exact Pick.hd | apply Pick.tl)) ?_ | refine Sel.skip ?_))
  exact st_again (j + 1, (applyL d m).2, .slice ead (applyL d m).2.length ecap, H2) hs hw ⟨hj', by show j + 1 ≤ 20; omega, hdf2, hdk2, hdv2, hle.trans hle2⟩ (by show ll.length - (j + 1) < ll.length - j; omega) ⟨rfl, rfl, rfl, rfl, rfl, rfl, int_eq (by show IntKind.i64.wrap ((j : Int) + 1) = ((j + 1 : Nat) : Int); rw [IntWalk.i64_in _ (by omega)]; omega), trivial⟩
end Go.Proofs.YthpenehgfogloaaDoor.Sw
