/-
  Texts of the proof, one behind the other (part 7).
-/
import Derived.Test.YthpenehgfogloaaDoorM6
import Derived.DataShut
import Derived.Lib.SmallJoins
import Derived.Deep.Slices
/-
  Documents: the walk of Encode.
-/
set_option linter.unusedVariables false
set_option maxRecDepth 10000
namespace Go.Proofs.YthpenehgfogloaaDoor.Sw
open Go.RowKit Go.Sx

theorem pairs_len : ∀ {m : Dm}, (∀ p ∈ m, PairOk p) → (m.flatMap pairB).length ≤ m.length * 1000300
  | [], _ => by simp
  | p :: m, h => by
    have h1 := pairB_len (h p (by simp))
    have h2 := (h p (by simp)).key
    have h3 := pairs_len (m := m) fun q hq => h q (by simp [hq])
    rw [List.flatMap_cons, List.length_append, List.length_cons]
    omega
/-- A document's bytes, of its first keys. -/
def docA (d : Dm) (i : Nat) : List UInt8 := Ph.putI (d.length : Int) ++ (d.take i).flatMap pairB
theorem docA_len {d : Dm} (h : DocOk d) (i : Nat) : (docA d i).length ≤ 60000000 := by
  have h1 := pairs_len (m := d.take i) fun q hq => h.all q (List.mem_of_mem_take hq)
  have h2 := Ph.putI_length_le (d.length : Int)
  have h3 := h.len
  have h4 : (d.take i).length ≤ 50 := by rw [List.length_take]; omega
  unfold docA
  rw [List.length_append]
  omega
theorem docA_all (d : Dm) : docA d d.length = docB d := by unfold docA docB; rw [List.take_length]
theorem docA_next {d : Dm} {i : Nat} {o : ByteArray × DV} (h : d[i]? = some o) : docA d (i + 1) = docA d i ++ Ph.putT o.1.data.toList ++ putR (kindOf (some o.2)) (intIn (some o.2)) (textIn (some o.2)) := by
  unfold docA
  rw [List.take_add_one, h, List.flatMap_append]
  simp [pairB, rawB]
theorem kind_i64 (v : DV) : -9223372036854775808 ≤ kindOf (some v) ∧ kindOf (some v) ≤ 9223372036854775807 := by
  rcases v with n | s
  · exact ⟨(by decide : (-9223372036854775808 : Int) ≤ 1), (by decide : (1 : Int) ≤ 9223372036854775807)⟩
  · exact ⟨(by decide : (-9223372036854775808 : Int) ≤ 2), (by decide : (2 : Int) ≤ 9223372036854775807)⟩

set_option maxHeartbeats 16000000 in
theorem doc_Encode (w0 W : World) (p : Nat) (d : Dm) (R : List Res) (hd : DocFine d) (hw : Has 0 w0 W (DocAt p d :: R)) :
    Calls Tryd.prog 20 ⟨[.pointer (some ⟨p, 0, none⟩)]⟩ W fun e W' => ∃ ad cap, e = .returned (.slice ad (docB d).length cap) ∧ Has 0 w0 W' (Sx.OwnB 5 (.slice ad (docB d).length cap) (docB d) :: DocAt p d :: R) := by
  have hl := hd.ok.len
  obtain ⟨m, d', hp, hk, hw⟩ := docOpen hw
  have hlen : d'.length = d.length := hp.length_eq
  have hlen' : (kvOf d').length = d'.length := by simp [kvOf]
  refine enter Tryd.func20 Tryd.ntmps20 rfl rfl fun a hs => ?_
  repeat (first | (refine sxv hs hw ?_; clear hs; intro a hs) | refine sxc hs ?_ | (refine sxa hs hw ?_; clear hs hw; intro a b W hw hs) | (refine sxs hs hw ?_; clear hs hw; intro W hs hw) | ((with_reducible first | refine st_ptrSome hs (k := ?_) | refine st_ptrNone hs (k := ?_)); clear hs; intro a hs))
  refine st_len_map hs (hw := hw) (c := ?_); clear hs; intro a hs
  rw [hlen', hlen] at hs
  repeat (first | (refine sxv hs hw ?_; clear hs; intro a hs) | refine sxc hs ?_ | (refine sxa hs hw ?_; clear hs hw; intro a b W hw hs) | (refine sxs hs hw ?_; clear hs hw; intro W hs hw) | ((with_reducible first | refine st_ptrSome hs (k := ?_) | refine st_ptrNone hs (k := ?_)); clear hs; intro a hs))
  have hw := hw.nilB 5
  refine st_call hs (hc := num_Put w0 _ (.slice none 0 0) [] (d.length : Int) _ (by omega) (by omega) (by simp) hw) (k := ?_); rintro e0 W1 ⟨ad, cap, rfl, hw1⟩; refine ⟨_, rfl, ?_⟩; clear hs hw; intro a hs; have hw := hw1; clear hw1
  rw [List.nil_append] at hs hw
  repeat (first | (refine sxv hs hw ?_; clear hs; intro a hs) | refine sxc hs ?_ | (refine sxa hs hw ?_; clear hs hw; intro a b W hw hs) | (refine sxs hs hw ?_; clear hs hw; intro W hs hw) | ((with_reducible first | refine st_ptrSome hs (k := ?_) | refine st_ptrNone hs (k := ?_)); clear hs; intro a hs))
  have hw : Has 0 w0 _ (Cells p [.map (some m)] 79 :: MapOf m (kvOf d') :: Sx.OwnB 5 (.slice ad (Ph.putI (d.length : Int)).length cap) (Ph.putI (d.length : Int)) :: R) := hw.perm (by repeat (first | exact List.Perm.refl _ | refine perm_pick (by repeat (first | exact Pick.hd | apply Pick.tl)) ?_))
  have hw := docShut hw hp hk
  clear hp hk hlen hlen'
  refine st_call hs (hc := doc_Keys w0 _ p d _ hd hw) (k := ?_); rintro e0 W1 ⟨kv, rfl, hw1⟩; refine ⟨_, rfl, ?_⟩; clear hs hw; intro a hs; have hw := hw1; clear hw1
  obtain ⟨kad, kcap, rfl⟩ : ∃ kad kcap, kv = .slice kad d.length kcap := by
    obtain ⟨_, ad, cap, e, _⟩ := hw.rd_own In.hd
    exact ⟨ad, cap, e⟩
  obtain ⟨m, d', hp, hk, hw⟩ := docOpen (hw.perm (List.Perm.swap _ _ _))
  repeat (first | (refine sxv hs hw ?_; clear hs; intro a hs) | refine sxc hs ?_ | (refine sxa hs hw ?_; clear hs hw; intro a b W hw hs) | (refine sxs hs hw ?_; clear hs hw; intro W hs hw) | ((with_reducible first | refine st_ptrSome hs (k := ?_) | refine st_ptrNone hs (k := ?_)); clear hs; intro a hs))
  refine st_loop (σ := Nat × Option Addr × Nat) (fun s => [(0, .pointer (some ⟨p, 0, none⟩)), (15, .slice kad d.length kcap), (16, .int .i64 (d.length : Int)), (17, .int .i64 (s.1 : Int)), (3, .slice s.2.1 (docA d s.1).length s.2.2)]) (fun s => Sx.OwnB 5 (.slice s.2.1 (docA d s.1).length s.2.2) (docA d s.1) :: Own 9 1 (.slice kad d.length kcap) d.length (d.map fun x => Value.string x.1) :: Cells p [.map (some m)] 79 :: MapOf m (kvOf d') :: R) (fun s => s.1 ≤ d.length) (fun s => d.length - s.1) (0, ad, cap) (Nat.zero_le _) hs ⟨rfl, rfl, rfl, rfl, by simp only [docA, List.take_zero, List.flatMap_nil, List.append_nil]; rfl, trivial⟩ (by
    have e0 : docA d 0 = Ph.putI (d.length : Int) := by simp [docA]
    simp only [e0]
    exact hw.perm (by repeat (first | exact List.Perm.refl _ | refine perm_pick (by repeat (first | exact Pick.hd | apply Pick.tl)) ?_))) ?_
  clear hs hw
  rintro ⟨i, oad, ocap⟩ a W hi hs hw
  simp only at hi hs hw
  repeat (first | (refine sxv hs hw ?_; clear hs; intro a hs) | refine sxc hs ?_ | (refine sxa hs hw ?_; clear hs hw; intro a b W hw hs) | (refine sxs hs hw ?_; clear hs hw; intro W hs hw) | ((with_reducible first | refine st_ptrSome hs (k := ?_) | refine st_ptrNone hs (k := ?_)); clear hs; intro a hs))
  refine cd_split hs (kt := fun hcc => ?_) (kf := fun hcc => ?_)
  · have hi' : i < d.length := by simpa using hcc
    obtain ⟨o, hoi⟩ : ∃ o, d[i]? = some o := ⟨d[i], List.getElem?_eq_getElem hi'⟩
    have hgk := getK_at hd.ok.keys hoi
    have hpo := hd.ok.all o (List.mem_of_getElem? hoi)
    have hrr := raw_range (k := o.1) (v := o.2) hpo
    have hkk := hpo.key
    have hki := kind_i64 o.2
    have hal := docA_len hd.ok i
    have hal2 := docA_len hd.ok (i + 1)
    have hnx := docA_next hoi
    rw [hnx] at hal2
    simp only [List.length_append] at hal2
    repeat (first | (refine sxv hs hw ?_; clear hs; intro a hs) | refine sxc hs ?_ | (refine sxa hs hw ?_; clear hs hw; intro a b W hw hs) | (refine sxs hs hw ?_; clear hs hw; intro W hs hw) | ((with_reducible first | refine st_ptrSome hs (k := ?_) | refine st_ptrNone hs (k := ?_)); clear hs; intro a hs))
    refine st_index_ch hs (r := hw.rd_own (In.tl In.hd)) (hk := fun _ _ h => by rw [h]; rfl) (ch := chMap (fun x : ByteArray × DV => Value.string x.1) d) (ho := hoi) (hlen := rfl) (c := ?_); clear hs; intro a g off c hc hcl hpc hlt hs
    subst hc
    repeat (first | (refine sxv hs hw ?_; clear hs; intro a hs) | refine sxc hs ?_ | (refine sxa hs hw ?_; clear hs hw; intro a b W hw hs) | (refine sxs hs hw ?_; clear hs hw; intro W hs hw) | ((with_reducible first | refine st_ptrSome hs (k := ?_) | refine st_ptrNone hs (k := ?_)); clear hs; intro a hs))
    refine st_load_at hs (hc := hpc 0 _ rfl) (c := ?_); clear hs hpc; intro a hs
    repeat (first | (refine sxv hs hw ?_; clear hs; intro a hs) | refine sxc hs ?_ | (refine sxa hs hw ?_; clear hs hw; intro a b W hw hs) | (refine sxs hs hw ?_; clear hs hw; intro W hs hw) | ((with_reducible first | refine st_ptrSome hs (k := ?_) | refine st_ptrNone hs (k := ?_)); clear hs; intro a hs))
    refine rg_drawU (σ := Option Addr × Nat) (V := fun u => [.slice oad (docA d i).length ocap, .string o.1, .slice (u 2).1 (docA d i ++ Ph.putT o.1.data.toList).length (u 2).2, .pointer (some ⟨p, 0, none⟩), .pointer (some ⟨p, 0, none⟩), .pointer (some ⟨p, 0 + 0, none⟩), .map (some m), .string o.1, .agg ⟨[vCell (some o.2)]⟩, .agg ⟨rawCells (some o.2)⟩, .slice (u 10).1 (docA d i ++ Ph.putT o.1.data.toList ++ putR (kindOf (some o.2)) (intIn (some o.2)) (textIn (some o.2))).length (u 10).2, .slice (u 11).1 (docA d i ++ Ph.putT o.1.data.toList ++ putR (kindOf (some o.2)) (intIn (some o.2)) (textIn (some o.2))).length (u 11).2])
      (Rs := fun u D => (if D 11 then Sx.OwnB 5 (.slice (u 11).1 (docA d i ++ Ph.putT o.1.data.toList ++ putR (kindOf (some o.2)) (intIn (some o.2)) (textIn (some o.2))).length (u 11).2) (docA d i ++ Ph.putT o.1.data.toList ++ putR (kindOf (some o.2)) (intIn (some o.2)) (textIn (some o.2))) else if D 10 then Sx.OwnB 5 (.slice (u 10).1 (docA d i ++ Ph.putT o.1.data.toList ++ putR (kindOf (some o.2)) (intIn (some o.2)) (textIn (some o.2))).length (u 10).2) (docA d i ++ Ph.putT o.1.data.toList ++ putR (kindOf (some o.2)) (intIn (some o.2)) (textIn (some o.2))) else if D 2 then Sx.OwnB 5 (.slice (u 2).1 (docA d i ++ Ph.putT o.1.data.toList).length (u 2).2) (docA d i ++ Ph.putT o.1.data.toList) else Sx.OwnB 5 (.slice oad (docA d i).length ocap) (docA d i)) :: Own 9 1 (.slice kad d.length kcap) d.length (d.map fun x => Value.string x.1) :: Cells p [.map (some m)] 79 :: MapOf m (kvOf d') :: R) (fun _ => (none, 0)) hs hw (hVu := ?vu_c) (ho := ⟨?_, ?_, ?c2_c, ?_, ?_, ?_, ?_, ?_, ?c8_c, ?c9_c, ?c10_c, ?c11_c, trivial⟩) (k := ?k_c)
    case vu_c =>
      intro u u' j h
      rcases j with _ | _ | _ | _ | _ | _ | _ | _ | _ | _ | _ | _ | j
      all_goals first | rfl | simp [h]
    case c2_c =>
      intro u LD D a W hcl hi hp hs hw
      have hA := Go.Sx.not_done hcl hi 10 (by kernel_rfl)
      have hB := Go.Sx.not_done hcl hA 11 (by kernel_rfl)
      simp only [hi, hA, hB, Bool.false_eq_true, if_false] at hw
      refine st_call hs (hc := num_PutText w0 _ _ (docA d i) o.1 _ (by omega) (by omega) hw) (k := ?_); rintro e0 W1 ⟨ad, cap, rfl, hw1⟩; refine ⟨_, rfl, ?_⟩; clear hs hw; intro a hs; have hw := hw1; clear hw1
      repeat (first | (refine sxv hs hw ?_; clear hs; intro a hs) | refine sxc hs ?_ | (refine sxa hs hw ?_; clear hs hw; intro a b W hw hs) | (refine sxs hs hw ?_; clear hs hw; intro W hs hw) | ((with_reducible first | refine st_ptrSome hs (k := ?_) | refine st_ptrNone hs (k := ?_)); clear hs; intro a hs))
      refine Or.inr ⟨(ad, cap), hs, ?_⟩
      show Has 0 w0 _ ((if (Nat.beq 11 2 || D 11) = true then _ else if (Nat.beq 10 2 || D 10) = true then _ else _) :: _)
      rw [hA, hB]
      exact hw
    case c8_c =>
      intro u LD D a W hcl hi hp hs hw
      refine st_lookup hs (hw := hw) (hz := zeroVal) (c := ?_); clear hs; intro a hs
      rw [dget_kv, getK_perm ‹d'.Perm d› ((dKeys_perm ‹d'.Perm d›).2 hk), hgk] at hs
      repeat (first | (refine sxv hs hw ?_; clear hs; intro a hs) | refine sxc hs ?_ | (refine sxa hs hw ?_; clear hs hw; intro a b W hw hs) | (refine sxs hs hw ?_; clear hs hw; intro W hs hw) | ((with_reducible first | refine st_ptrSome hs (k := ?_) | refine st_ptrNone hs (k := ?_)); clear hs; intro a hs))
      exact Or.inl ⟨hs, hw⟩
    case c9_c =>
      intro u LD D a W hcl hi hp hs hw
      refine st_call hs (hc := Raw_any (some o.2) _) (k := ?_); rintro e0 W1 ⟨rfl, hb⟩; refine ⟨_, rfl, ?_⟩; clear hs; intro a hs; replace hw := hw.below hb; clear hb
      repeat (first | (refine sxv hs hw ?_; clear hs; intro a hs) | refine sxc hs ?_ | (refine sxa hs hw ?_; clear hs hw; intro a b W hw hs) | (refine sxs hs hw ?_; clear hs hw; intro W hs hw) | ((with_reducible first | refine st_ptrSome hs (k := ?_) | refine st_ptrNone hs (k := ?_)); clear hs; intro a hs))
      exact Or.inl ⟨hs, hw⟩
    case c10_c =>
      intro u LD D a W hcl hi hp hs hw
      have hB := Go.Sx.not_done hcl hi 11 (by kernel_rfl)
      have h2 := Go.Sx.done hp 2 (by kernel_rfl)
      simp only [hi, h2, hB, Bool.false_eq_true, if_false, if_true] at hw
      refine st_call hs (hc := value_Put w0 _ _ (docA d i ++ Ph.putT o.1.data.toList) (kindOf (some o.2)) (intIn (some o.2)) (textIn (some o.2)) _ hki.1 hki.2 hrr.1.1 hrr.1.2 (by omega) (by rw [List.length_append]; omega) hw) (k := ?_); rintro e0 W1 ⟨ad, cap, rfl, hw1⟩; refine ⟨_, rfl, ?_⟩; clear hs hw; intro a hs; have hw := hw1; clear hw1
      repeat (first | (refine sxv hs hw ?_; clear hs; intro a hs) | refine sxc hs ?_ | (refine sxa hs hw ?_; clear hs hw; intro a b W hw hs) | (refine sxs hs hw ?_; clear hs hw; intro W hs hw) | ((with_reducible first | refine st_ptrSome hs (k := ?_) | refine st_ptrNone hs (k := ?_)); clear hs; intro a hs))
      refine Or.inr ⟨(ad, cap), hs, ?_⟩
      show Has 0 w0 _ ((if (Nat.beq 11 10 || D 11) = true then _ else _) :: _)
      rw [hB]
      exact hw
    case c11_c =>
      intro u LD D a W hcl hi hp hs hw
      have hA := Go.Sx.done hp 10 (by kernel_rfl)
      simp only [hi, hA, Bool.false_eq_true, if_false, if_true] at hw
      repeat (first | (refine sxv hs hw ?_; clear hs; intro a hs) | refine sxc hs ?_ | (refine sxa hs hw ?_; clear hs hw; intro a b W hw hs) | (refine sxs hs hw ?_; clear hs hw; intro W hs hw) | ((with_reducible first | refine st_ptrSome hs (k := ?_) | refine st_ptrNone hs (k := ?_)); clear hs; intro a hs))
      exact Or.inr ⟨u 10, hs, hw⟩
    case k_c =>
      clear hs hw
      intro u a W hs hw
      rw [← hnx] at hs
      simp only [← hnx] at hw
      replace hw : Has 0 w0 W (Sx.OwnB 5 (.slice (u 11).1 (docA d (i + 1)).length (u 11).2) (docA d (i + 1)) :: Own 9 1 (.slice kad d.length kcap) d.length (d.map fun x => Value.string x.1) :: Cells p [.map (some m)] 79 :: MapOf m (kvOf d') :: R) := hw
      replace hs : Slots a 34 [(0, .pointer (some ⟨p, 0, none⟩)), (15, .slice kad d.length kcap), (16, .int .i64 (d.length : Int)), (17, .int .i64 (i : Int)), (3, .slice (u 11).1 (docA d (i + 1)).length (u 11).2)] := hs.of ⟨rfl, rfl, rfl, rfl, rfl, trivial⟩
      generalize (u 11).1 = ad1 at *
      generalize (u 11).2 = cap1 at *
      clear u
      repeat (first | (refine sxv hs hw ?_; clear hs; intro a hs) | refine sxc hs ?_ | (refine sxa hs hw ?_; clear hs hw; intro a b W hw hs) | (refine sxs hs hw ?_; clear hs hw; intro W hs hw) | ((with_reducible first | refine st_ptrSome hs (k := ?_) | refine st_ptrNone hs (k := ?_)); clear hs; intro a hs))
      exact st_again (i + 1, ad1, cap1) hs hw hi' (by show d.length - (i + 1) < d.length - i; omega) ⟨rfl, rfl, rfl, int_eq (by show IntKind.i64.wrap ((i : Int) + 1) = ((i + 1 : Nat) : Int); rw [IntWalk.i64_in _ (by omega)]; omega), rfl, trivial⟩
    all_goals
      intro u LD D a W hcl hi hp hs hw
      repeat (first | (refine sxv hs hw ?_; clear hs; intro a hs) | refine sxc hs ?_ | (refine sxa hs hw ?_; clear hs hw; intro a b W hw hs) | (refine sxs hs hw ?_; clear hs hw; intro W hs hw) | ((with_reducible first | refine st_ptrSome hs (k := ?_) | refine st_ptrNone hs (k := ?_)); clear hs; intro a hs))
      exact Or.inl ⟨hs, hw⟩
  · have hi' : i = d.length := by have : ¬ i < d.length := by simpa using hcc
                                  omega
    subst hi'
    rw [docA_all] at hs hw
    repeat (first | (refine sxv hs hw ?_; clear hs; intro a hs) | refine sxc hs ?_ | (refine sxa hs hw ?_; clear hs hw; intro a b W hw hs) | (refine sxs hs hw ?_; clear hs hw; intro W hs hw) | ((with_reducible first | refine st_ptrSome hs (k := ?_) | refine st_ptrNone hs (k := ?_)); clear hs; intro a hs))
    refine rt1 hs rfl rfl ⟨_, _, rfl, ?_⟩
    have hw : Has 0 w0 _ (Cells p [.map (some m)] 79 :: MapOf m (kvOf d') :: Sx.OwnB 5 (.slice oad (docB d).length ocap) (docB d) :: Own 9 1 (.slice kad d.length kcap) d.length (d.map fun x => Value.string x.1) :: R) := hw.perm (by repeat (first | exact List.Perm.refl _ | refine perm_pick (by repeat (first | exact Pick.hd | apply Pick.tl)) ?_))
    exact ((docShut hw hp hk).sub (List.Sublist.cons_cons _ (List.Sublist.cons_cons _ (List.Sublist.cons _ (List.Sublist.refl _))))).swap2
end Go.Proofs.YthpenehgfogloaaDoor.Sw

/-
  Documents: the walk of Eq; of a nil document's Keys, Copy.
-/
set_option linter.unusedVariables false
set_option maxRecDepth 10000
namespace Go.Proofs.YthpenehgfogloaaDoor.Sw
open Go.RowKit Go.Sx

/-- Has the second all that the first has, and as many? -/
def eqD (d d2 : Dm) : Bool := (d.all fun o => eqV (some o.2) (getK d2 o.1)) && (d.length == d2.length)
theorem eqD_self {d : Dm} (h : dKeys d) : eqD d d = true := by
  unfold eqD
  rw [Bool.and_eq_true, List.all_eq_true]
  refine ⟨fun o ho => ?_, by simp⟩
  rw [(getK_mem h).2 ho]
  exact eqV_refl _
theorem eqD_take {d d2 : Dm} {i : Nat} {o : ByteArray × DV} (hoi : d[i]? = some o) (ha : (d.take i).all (fun o => eqV (some o.2) (getK d2 o.1)) = true) (he : eqV (some o.2) (getK d2 o.1) = true) : (d.take (i + 1)).all (fun o => eqV (some o.2) (getK d2 o.1)) = true := by
  rw [List.take_add_one, hoi, List.all_append, ha]
  simp [he]
theorem eqD_no {d d2 : Dm} {i : Nat} {o : ByteArray × DV} (hoi : d[i]? = some o) (he : eqV (some o.2) (getK d2 o.1) = false) : eqD d d2 = false := by
  unfold eqD
  rw [Bool.and_eq_false_iff]
  left
  rw [List.all_eq_false]
  exact ⟨o, List.mem_of_getElem? hoi, by rw [he]; simp⟩

set_option maxHeartbeats 16000000 in
theorem doc_Eq (w0 W : World) (p q : Nat) (d d2 : Dm) (R : List Res) (hd : DocFine d) (hd2 : d2.length ≤ 1000) (hw : Has 0 w0 W (DocAt p d :: DocAt q d2 :: R)) :
    Calls Tryd.prog 19 ⟨[.pointer (some ⟨p, 0, none⟩), .pointer (some ⟨q, 0, none⟩)]⟩ W fun e W' => e = .returned (.bool (eqD d d2)) ∧ Has 0 w0 W' (DocAt p d :: DocAt q d2 :: R) := by
  have hl := hd.ok.len
  refine enter Tryd.func19 Tryd.ntmps19 rfl rfl fun a hs => ?_
  repeat (first | (refine sxv hs hw ?_; clear hs; intro a hs) | refine sxc hs ?_ | (refine sxa hs hw ?_; clear hs hw; intro a b W hw hs) | (refine sxs hs hw ?_; clear hs hw; intro W hs hw) | ((with_reducible first | refine st_ptrSome hs (k := ?_) | refine st_ptrNone hs (k := ?_)); clear hs; intro a hs))
  refine st_call hs (hc := doc_Keys w0 _ p d _ hd hw) (k := ?_); rintro e0 W1 ⟨kv, rfl, hw1⟩; refine ⟨_, rfl, ?_⟩; clear hs hw; intro a hs; have hw := hw1; clear hw1
  obtain ⟨kad, kcap, rfl⟩ : ∃ kad kcap, kv = .slice kad d.length kcap := hw.own_slice
  obtain ⟨m, d', hp, hk, hw⟩ := docOpen (hw.perm (List.Perm.swap _ _ _))
  have hw : Has 0 w0 _ (DocAt q d2 :: Own 9 1 (.slice kad d.length kcap) d.length (d.map fun x => Value.string x.1) :: Cells p [.map (some m)] 79 :: MapOf m (kvOf d') :: R) := hw.perm (by repeat (first | exact List.Perm.refl _ | refine perm_pick (by repeat (first | exact Pick.hd | apply Pick.tl)) ?_))
  obtain ⟨m2, d2', hp2, hk2, hw⟩ := docOpen hw
  have hlen : d'.length = d.length := hp.length_eq
  have hlen' : (kvOf d').length = d'.length := by simp [kvOf]
  have hlen2 : d2'.length = d2.length := hp2.length_eq
  have hlen2' : (kvOf d2').length = d2'.length := by simp [kvOf]
  repeat (first | (refine sxv hs hw ?_; clear hs; intro a hs) | refine sxc hs ?_ | (refine sxa hs hw ?_; clear hs hw; intro a b W hw hs) | (refine sxs hs hw ?_; clear hs hw; intro W hs hw) | ((with_reducible first | refine st_ptrSome hs (k := ?_) | refine st_ptrNone hs (k := ?_)); clear hs; intro a hs))
  refine st_loop (σ := Nat) (fun i => [(0, .pointer (some ⟨p, 0, none⟩)), (1, .pointer (some ⟨q, 0, none⟩)), (17, .slice kad d.length kcap), (18, .int .i64 (d.length : Int)), (19, .int .i64 (i : Int))]) (fun _ => Cells q [.map (some m2)] 79 :: MapOf m2 (kvOf d2') :: Own 9 1 (.slice kad d.length kcap) d.length (d.map fun x => Value.string x.1) :: Cells p [.map (some m)] 79 :: MapOf m (kvOf d') :: R) (fun i => i ≤ d.length ∧ (d.take i).all (fun o => eqV (some o.2) (getK d2 o.1)) = true) (fun i => d.length - i) 0 ⟨Nat.zero_le _, rfl⟩ hs ⟨rfl, rfl, rfl, rfl, rfl, trivial⟩ hw ?_
  clear hs hw
  rintro i a W ⟨hi, ha⟩ hs hw
  repeat (first | (refine sxv hs hw ?_; clear hs; intro a hs) | refine sxc hs ?_ | (refine sxa hs hw ?_; clear hs hw; intro a b W hw hs) | (refine sxs hs hw ?_; clear hs hw; intro W hs hw) | ((with_reducible first | refine st_ptrSome hs (k := ?_) | refine st_ptrNone hs (k := ?_)); clear hs; intro a hs))
  refine cd_split hs (kt := fun hcc => ?_) (kf := fun hcc => ?_)
  · have hi' : i < d.length := by simpa using hcc
    obtain ⟨o, hoi⟩ : ∃ o, d[i]? = some o := ⟨d[i], List.getElem?_eq_getElem hi'⟩
    have hgk := getK_at hd.ok.keys hoi
    repeat (first | (refine sxv hs hw ?_; clear hs; intro a hs) | refine sxc hs ?_ | (refine sxa hs hw ?_; clear hs hw; intro a b W hw hs) | (refine sxs hs hw ?_; clear hs hw; intro W hs hw) | ((with_reducible first | refine st_ptrSome hs (k := ?_) | refine st_ptrNone hs (k := ?_)); clear hs; intro a hs))
    refine st_index_ch hs (r := hw.rd_own (In.tl (In.tl In.hd))) (hk := fun _ _ h => by rw [h]; rfl) (ch := chMap (fun x : ByteArray × DV => Value.string x.1) d) (ho := hoi) (hlen := rfl) (c := ?_); clear hs; intro a g off c hc hcl hpc hlt hs
    subst hc
    repeat (first | (refine sxv hs hw ?_; clear hs; intro a hs) | refine sxc hs ?_ | (refine sxa hs hw ?_; clear hs hw; intro a b W hw hs) | (refine sxs hs hw ?_; clear hs hw; intro W hs hw) | ((with_reducible first | refine st_ptrSome hs (k := ?_) | refine st_ptrNone hs (k := ?_)); clear hs; intro a hs))
    refine st_load_at hs (hc := hpc 0 _ rfl) (c := ?_); clear hs hpc; intro a hs
    repeat (first | (refine sxv hs hw ?_; clear hs; intro a hs) | refine sxc hs ?_ | (refine sxa hs hw ?_; clear hs hw; intro a b W hw hs) | (refine sxs hs hw ?_; clear hs hw; intro W hs hw) | ((with_reducible first | refine st_ptrSome hs (k := ?_) | refine st_ptrNone hs (k := ?_)); clear hs; intro a hs))
    refine rg_draw (V := [.pointer (some ⟨p, 0, none⟩), .pointer (some ⟨p, 0, none⟩), .pointer (some ⟨p, 0 + 0, none⟩), .map (some m), .string o.1, .agg ⟨[vCell (some o.2)]⟩, .pointer (some ⟨q, 0, none⟩), .pointer (some ⟨q, 0, none⟩), .pointer (some ⟨q, 0 + 0, none⟩), .map (some m2), .string o.1, .agg ⟨[vCell (getK d2 o.1)]⟩, .bool (eqV (some o.2) (getK d2 o.1)), .bool (!eqV (some o.2) (getK d2 o.1))])
      (Rs := fun D => Cells q [.map (some m2)] 79 :: MapOf m2 (kvOf d2') :: Own 9 1 (.slice kad d.length kcap) d.length (d.map fun x => Value.string x.1) :: Cells p [.map (some m)] 79 :: MapOf m (kvOf d') :: R) hs hw (ho := ⟨?_, ?_, ?_, ?_, ?_, ?c5_c, ?_, ?_, ?_, ?_, ?_, ?c11_c, ?c12_c, ?_, trivial⟩) (k := ?k_c)
    case c5_c =>
      intro LD D a W hcl hi hp hs hw
      refine st_lookup hs (hw := hw) (hz := zeroVal) (c := ?_); clear hs; intro a hs
      rw [dget_kv, getK_perm ‹d'.Perm d› ((dKeys_perm ‹d'.Perm d›).2 hk), hgk] at hs
      repeat (first | (refine sxv hs hw ?_; clear hs; intro a hs) | refine sxc hs ?_ | (refine sxa hs hw ?_; clear hs hw; intro a b W hw hs) | (refine sxs hs hw ?_; clear hs hw; intro W hs hw) | ((with_reducible first | refine st_ptrSome hs (k := ?_) | refine st_ptrNone hs (k := ?_)); clear hs; intro a hs))
      exact ⟨hs, hw⟩
    case c11_c =>
      intro LD D a W hcl hi hp hs hw
      refine st_lookup hs (hw := hw) (hz := zeroVal) (c := ?_); clear hs; intro a hs
      rw [dget_kv, getK_perm hp2 ((dKeys_perm hp2).2 hk2)] at hs
      repeat (first | (refine sxv hs hw ?_; clear hs; intro a hs) | refine sxc hs ?_ | (refine sxa hs hw ?_; clear hs hw; intro a b W hw hs) | (refine sxs hs hw ?_; clear hs hw; intro W hs hw) | ((with_reducible first | refine st_ptrSome hs (k := ?_) | refine st_ptrNone hs (k := ?_)); clear hs; intro a hs))
      exact ⟨hs, hw⟩
    case c12_c =>
      intro LD D a W hcl hi hp hs hw
      refine st_call hs (hc := value_Eq (some o.2) (getK d2 o.1) _) (k := ?_); rintro e0 W1 ⟨rfl, hb⟩; refine ⟨_, rfl, ?_⟩; clear hs; intro a hs; replace hw := hw.below hb; clear hb
      repeat (first | (refine sxv hs hw ?_; clear hs; intro a hs) | refine sxc hs ?_ | (refine sxa hs hw ?_; clear hs hw; intro a b W hw hs) | (refine sxs hs hw ?_; clear hs hw; intro W hs hw) | ((with_reducible first | refine st_ptrSome hs (k := ?_) | refine st_ptrNone hs (k := ?_)); clear hs; intro a hs))
      exact ⟨hs, hw⟩
    case k_c =>
      clear hs hw
      intro a W hs hw
      replace hw : Has 0 w0 W (Cells q [.map (some m2)] 79 :: MapOf m2 (kvOf d2') :: Own 9 1 (.slice kad d.length kcap) d.length (d.map fun x => Value.string x.1) :: Cells p [.map (some m)] 79 :: MapOf m (kvOf d') :: R) := hw
      replace hs : Slots a 49 [(36, .bool (!eqV (some o.2) (getK d2 o.1))), (0, .pointer (some ⟨p, 0, none⟩)), (1, .pointer (some ⟨q, 0, none⟩)), (17, .slice kad d.length kcap), (18, .int .i64 (d.length : Int)), (19, .int .i64 (i : Int))] := hs.of ⟨rfl, rfl, rfl, rfl, rfl, rfl, trivial⟩
      cases he : eqV (some o.2) (getK d2 o.1) with
      | false =>
        rw [he] at hs
        repeat (first | (refine sxv hs hw ?_; clear hs; intro a hs) | refine sxc hs ?_ | (refine sxa hs hw ?_; clear hs hw; intro a b W hw hs) | (refine sxs hs hw ?_; clear hs hw; intro W hs hw) | ((with_reducible first | refine st_ptrSome hs (k := ?_) | refine st_ptrNone hs (k := ?_)); clear hs; intro a hs))
        refine rt1 hs rfl rfl ⟨by rw [eqD_no hoi he], ?_⟩
        have h := docShut hw hp2 hk2
        have h : Has 0 w0 _ (Cells p [.map (some m)] 79 :: MapOf m (kvOf d') :: DocAt q d2 :: Own 9 1 (.slice kad d.length kcap) d.length (d.map fun x => Value.string x.1) :: R) := h.perm (by repeat (first | exact List.Perm.refl _ | refine perm_pick (by repeat (first | exact Pick.hd | apply Pick.tl)) ?_))
        exact (docShut h hp hk).sub (List.Sublist.cons_cons _ (List.Sublist.cons_cons _ (List.Sublist.cons _ (List.Sublist.refl _))))
      | true =>
        rw [he] at hs
        repeat (first | (refine sxv hs hw ?_; clear hs; intro a hs) | refine sxc hs ?_ | (refine sxa hs hw ?_; clear hs hw; intro a b W hw hs) | (refine sxs hs hw ?_; clear hs hw; intro W hs hw) | ((with_reducible first | refine st_ptrSome hs (k := ?_) | refine st_ptrNone hs (k := ?_)); clear hs; intro a hs))
        exact st_again (i + 1) hs hw ⟨hi', eqD_take hoi ha he⟩ (by show d.length - (i + 1) < d.length - i; omega) ⟨rfl, rfl, rfl, rfl, int_eq (by show IntKind.i64.wrap ((i : Int) + 1) = ((i + 1 : Nat) : Int); rw [IntWalk.i64_in _ (by omega)]; omega), trivial⟩
    all_goals
      intro LD D a W hcl hi hp hs hw
      repeat (first | (refine sxv hs hw ?_; clear hs; intro a hs) | refine sxc hs ?_ | (refine sxa hs hw ?_; clear hs hw; intro a b W hw hs) | (refine sxs hs hw ?_; clear hs hw; intro W hs hw) | ((with_reducible first | refine st_ptrSome hs (k := ?_) | refine st_ptrNone hs (k := ?_)); clear hs; intro a hs))
      exact ⟨hs, hw⟩
  · have hi' : i = d.length := by have : ¬ i < d.length := by simpa using hcc
                                  omega
    subst hi'
    rw [List.take_length] at ha
    have hX : eqD d d2 = (((d.length : Int)) == (d2.length : Int)) := by
      unfold eqD
      rw [ha, Bool.true_and]
      by_cases h : d.length = d2.length
      · rw [h]; simp
      · rw [show (d.length == d2.length) = false from by simpa using h]
        symm
        rw [beq_eq_false_iff_ne]
        omega
    repeat (first | (refine sxv hs hw ?_; clear hs; intro a hs) | refine sxc hs ?_ | (refine sxa hs hw ?_; clear hs hw; intro a b W hw hs) | (refine sxs hs hw ?_; clear hs hw; intro W hs hw) | ((with_reducible first | refine st_ptrSome hs (k := ?_) | refine st_ptrNone hs (k := ?_)); clear hs; intro a hs))
    refine rg_draw (V := [.pointer (some ⟨p, 0, none⟩), .pointer (some ⟨p, 0, none⟩), .pointer (some ⟨p, 0 + 0, none⟩), .map (some m), .int .i64 (d.length : Int), .pointer (some ⟨q, 0, none⟩), .pointer (some ⟨q, 0, none⟩), .pointer (some ⟨q, 0 + 0, none⟩), .map (some m2), .int .i64 (d2.length : Int), .bool ((d.length : Int) == (d2.length : Int)), .bool ((d.length : Int) == (d2.length : Int))])
      (Rs := fun D => Cells q [.map (some m2)] 79 :: MapOf m2 (kvOf d2') :: Own 9 1 (.slice kad d.length kcap) d.length (d.map fun x => Value.string x.1) :: Cells p [.map (some m)] 79 :: MapOf m (kvOf d') :: R) hs hw (ho := ⟨?_, ?_, ?_, ?_, ?e4_c, ?_, ?_, ?_, ?_, ?e9_c, ?_, ?_, trivial⟩) (k := ?ke_c)
    case e4_c =>
      intro LD D a W hcl hi hp hs hw
      refine st_len_map hs (hw := hw) (c := ?_); clear hs; intro a hs
      rw [hlen', hlen] at hs
      repeat (first | (refine sxv hs hw ?_; clear hs; intro a hs) | refine sxc hs ?_ | (refine sxa hs hw ?_; clear hs hw; intro a b W hw hs) | (refine sxs hs hw ?_; clear hs hw; intro W hs hw) | ((with_reducible first | refine st_ptrSome hs (k := ?_) | refine st_ptrNone hs (k := ?_)); clear hs; intro a hs))
      exact ⟨hs, hw⟩
    case e9_c =>
      intro LD D a W hcl hi hp hs hw
      refine st_len_map hs (hw := hw) (c := ?_); clear hs; intro a hs
      rw [hlen2', hlen2] at hs
      repeat (first | (refine sxv hs hw ?_; clear hs; intro a hs) | refine sxc hs ?_ | (refine sxa hs hw ?_; clear hs hw; intro a b W hw hs) | (refine sxs hs hw ?_; clear hs hw; intro W hs hw) | ((with_reducible first | refine st_ptrSome hs (k := ?_) | refine st_ptrNone hs (k := ?_)); clear hs; intro a hs))
      exact ⟨hs, hw⟩
    case ke_c =>
      clear hs hw
      intro a W hs hw
      replace hw : Has 0 w0 W (Cells q [.map (some m2)] 79 :: MapOf m2 (kvOf d2') :: Own 9 1 (.slice kad d.length kcap) d.length (d.map fun x => Value.string x.1) :: Cells p [.map (some m)] 79 :: MapOf m (kvOf d') :: R) := hw
      replace hs : Slots a 49 [(4, .bool ((d.length : Int) == (d2.length : Int)))] := hs.of ⟨rfl, trivial⟩
      repeat (first | (refine sxv hs hw ?_; clear hs; intro a hs) | refine sxc hs ?_ | (refine sxa hs hw ?_; clear hs hw; intro a b W hw hs) | (refine sxs hs hw ?_; clear hs hw; intro W hs hw) | ((with_reducible first | refine st_ptrSome hs (k := ?_) | refine st_ptrNone hs (k := ?_)); clear hs; intro a hs))
      refine rt1 hs rfl rfl ⟨by rw [hX], ?_⟩
      have h := docShut hw hp2 hk2
      have h : Has 0 w0 _ (Cells p [.map (some m)] 79 :: MapOf m (kvOf d') :: DocAt q d2 :: Own 9 1 (.slice kad d.length kcap) d.length (d.map fun x => Value.string x.1) :: R) := h.perm (by repeat (first | exact List.Perm.refl _ | refine perm_pick (by repeat (first | exact Pick.hd | apply Pick.tl)) ?_))
      exact (docShut h hp hk).sub (List.Sublist.cons_cons _ (List.Sublist.cons_cons _ (List.Sublist.cons _ (List.Sublist.refl _))))
    all_goals
      intro LD D a W hcl hi hp hs hw
      repeat (first | (refine sxv hs hw ?_; clear hs; intro a hs) | refine sxc hs ?_ | (refine sxa hs hw ?_; clear hs hw; intro a b W hw hs) | (refine sxs hs hw ?_; clear hs hw; intro W hs hw) | ((with_reducible first | refine st_ptrSome hs (k := ?_) | refine st_ptrNone hs (k := ?_)); clear hs; intro a hs))
      exact ⟨hs, hw⟩

set_option maxHeartbeats 4000000 in
theorem doc_Copy0 (W : World) : Calls Tryd.prog 32 ⟨[.pointer none]⟩ W fun e W' => e = .returned (.pointer none) ∧ Below W.heap.size W W' := by
  have hw := Has.start (G := 0) (w := W) (Nat.zero_le _)
  refine enter Tryd.func32 Tryd.ntmps32 rfl rfl fun a hs => ?_
  repeat (first | (refine sxv hs hw ?_; clear hs; intro a hs) | refine sxc hs ?_ | (refine sxa hs hw ?_; clear hs hw; intro a b W hw hs) | (refine sxs hs hw ?_; clear hs hw; intro W hs hw) | ((with_reducible first | refine st_ptrSome hs (k := ?_) | refine st_ptrNone hs (k := ?_)); clear hs; intro a hs))
  exact rt1 hs rfl rfl ⟨rfl, hw.end (by repeat (first | exact In.hd | apply In.tl))⟩
end Go.Proofs.YthpenehgfogloaaDoor.Sw

/-
  slices.Clone and slices.Equal of operations; rows; the folds: New, Last, Place, Copy.
-/
set_option linter.unusedVariables false
set_option maxRecDepth 10000
namespace Go.Proofs.YthpenehgfogloaaDoor.Sw
open Go.RowKit Go.Sx

-- pieces

theorem ops_one (l : List OpD) : ∀ u ∈ l.flatMap opCells, u.oneCell' = true := by
  intro u hu
  obtain ⟨o, _, ho⟩ := List.mem_flatMap.1 hu
  simp only [opCells, List.mem_cons, List.not_mem_nil, or_false] at ho
  rcases ho with rfl | rfl | rfl | rfl | rfl | rfl | rfl | rfl | rfl <;> rfl

/-- A batch, a row as data. -/
structure BatchD where
  c : Int
  q : Int
  l : List OpD

structure RowD where
  place : Int
  b : BatchD
  err : Int

def batCells (b : BatchD) (sv : Value) : List Value := [.int .i64 b.c, .int .i64 b.q, sv]

def rowCells (r : RowD) (sv : Value) : List Value := [.int .i64 r.place, .int .i64 r.b.c, .int .i64 r.b.q, sv, .int .i64 r.err]

def BatIn (H : Fh) (b : BatchD) (cs : List Value) : Prop := ∃ sv, cs = batCells b sv ∧ OpsH H sv b.l

def RowIn (H : Fh) (r : RowD) (cs : List Value) : Prop := ∃ sv, cs = rowCells r sv ∧ OpsH H sv r.b.l

def TolIn (H : Fh) (x : Int × RowD) (cs : List Value) : Prop := ∃ sv, cs = .int .i64 x.1 :: rowCells x.2 sv ∧ OpsH H sv x.2.b.l

structure BatOk (b : BatchD) : Prop where
  c : i64 b.c
  q : i64 b.q
  ops : ∀ o ∈ b.l, OpOk o

def mayB (b : BatchD) : Bool := mayBatch b.c b.q b.l

def zeroRow : RowD := ⟨0, ⟨0, 0, []⟩, 0⟩

abbrev zrc : List Value := [.int .i64 0, .int .i64 0, .int .i64 0, .slice none 0 0, .int .i64 0]

theorem BatIn.len {H : Fh} : ∀ (b : BatchD) (c : List Value), BatIn H b c → c.length = 3 := by rintro b c ⟨sv, rfl, _⟩; rfl

theorem RowIn.len {H : Fh} : ∀ (b : RowD) (c : List Value), RowIn H b c → c.length = 5 := by rintro b c ⟨sv, rfl, _⟩; rfl

theorem TolIn.len {H : Fh} : ∀ (b : Int × RowD) (c : List Value), TolIn H b c → c.length = 6 := by rintro b c ⟨sv, rfl, _⟩; rfl

theorem BatIn.le {H H' : Fh} (h : H.le H') : ∀ (b : BatchD) (c : List Value), BatIn H b c → BatIn H' b c := by rintro b c ⟨sv, rfl, h1⟩; exact ⟨sv, rfl, h1.le h⟩

theorem RowIn.le {H H' : Fh} (h : H.le H') : ∀ (b : RowD) (c : List Value), RowIn H b c → RowIn H' b c := by rintro b c ⟨sv, rfl, h1⟩; exact ⟨sv, rfl, h1.le h⟩

theorem TolIn.le {H H' : Fh} (h : H.le H') : ∀ (b : Int × RowD) (c : List Value), TolIn H b c → TolIn H' b c := by rintro b c ⟨sv, rfl, h1⟩; exact ⟨sv, rfl, h1.le h⟩

theorem BatIn.ones {H : Fh} : ∀ (b : BatchD) (c : List Value), BatIn H b c → ∀ v ∈ c, v.oneCell' = true := by
  rintro b c ⟨sv, rfl, h⟩ v hv
  obtain ⟨ad, cap, rfl⟩ := h.slice
  simp only [batCells, List.mem_cons, List.not_mem_nil, or_false] at hv
  rcases hv with rfl | rfl | rfl <;> rfl

theorem RowIn.ones {H : Fh} : ∀ (b : RowD) (c : List Value), RowIn H b c → ∀ v ∈ c, v.oneCell' = true := by
  rintro b c ⟨sv, rfl, h⟩ v hv
  obtain ⟨ad, cap, rfl⟩ := h.slice
  simp only [rowCells, List.mem_cons, List.not_mem_nil, or_false] at hv
  rcases hv with rfl | rfl | rfl | rfl | rfl <;> rfl

theorem TolIn.ones {H : Fh} : ∀ (b : Int × RowD) (c : List Value), TolIn H b c → ∀ v ∈ c, v.oneCell' = true := by
  rintro b c ⟨sv, rfl, h⟩ v hv
  rcases List.mem_cons.1 hv with rfl | hv
  · rfl
  · exact RowIn.ones b.2 _ ⟨sv, rfl, h⟩ v hv

theorem ops_nil (H : Fh) : OpsH H (.slice none 0 0) [] := RdH.nil H 9 0 (by omega)

/-- A fold as data: how many batches; the document; each client's last number and row. -/
structure FoldD where
  place : Int
  d : Dm
  told : List (Int × RowD)

def foldCells (pl : Int) (pd : Nat) (xs : List Value) : List Value := .int .i64 pl :: .pointer (some ⟨pd, 0, none⟩) :: xs

def ToldOk (H : Fh) (told : List (Int × RowD)) (xs : List Value) : Prop := told.length = 6 ∧ Ch (TolIn H) told xs

section

variable {G p pd : Nat} {w W : World} {R : List Res} {f : FoldD} {H H' : Fh} {xs : List Value}

end

theorem told_len {H : Fh} {told : List (Int × RowD)} {xs : List Value} (h : ToldOk H told xs) : xs.length = 36 := by
  have := h.2.length TolIn.len
  rw [h.1] at this
  omega

theorem told_get {H : Fh} {told : List (Int × RowD)} {xs : List Value} (h : ToldOk H told xs) {c : Nat} {x : Int × RowD} (hx : told[c]? = some x) : ∃ sv, OpsH H sv x.2.b.l ∧ cut xs (c * 6) 6 = .int .i64 x.1 :: rowCells x.2 sv := by
  obtain ⟨cs, ⟨sv, rfl, h1⟩, h2, h3⟩ := h.2.get TolIn.len hx
  exact ⟨sv, h1, h3⟩

theorem told_set {H : Fh} {told : List (Int × RowD)} {xs : List Value} (h : ToldOk H told xs) {c : Nat} (hc : c < 6) {x : Int × RowD} {sv : Value} (hx : OpsH H sv x.2.b.l) : ToldOk H (told.set c x) (ov xs (c * 6) (.int .i64 x.1 :: rowCells x.2 sv)) :=
  ⟨by rw [List.length_set]; exact h.1, h.2.set TolIn.len (by rw [h.1]; exact hc) ⟨sv, rfl, hx⟩⟩

theorem fold_len {H : Fh} {told : List (Int × RowD)} {xs : List Value} (pl : Int) (pd : Nat) (h : ToldOk H told xs) : (foldCells pl pd xs).length = 38 := by
  have := told_len h
  simp [foldCells, this]

theorem fold_one {H : Fh} {told : List (Int × RowD)} {xs : List Value} (pl : Int) (pd : Nat) (h : ToldOk H told xs) : (foldCells pl pd xs).all (·.oneCell') = true := by
  rw [List.all_eq_true]
  intro v hv
  simp only [foldCells, List.mem_cons] at hv
  rcases hv with rfl | rfl | hv
  · rfl
  · rfl
  · exact h.2.ones TolIn.ones v hv

abbrev ztold : List Value := [.int .i64 0, .int .i64 0, .int .i64 0, .int .i64 0, .slice none 0 0, .int .i64 0]

theorem told_zero (H : Fh) : ToldOk H (List.replicate 6 (0, zeroRow)) (ztold ++ (ztold ++ (ztold ++ (ztold ++ (ztold ++ (ztold ++ [])))))) := by
  have z : TolIn H (0, zeroRow) ztold := ⟨_, rfl, ops_nil H⟩
  exact ⟨rfl, _, _, rfl, z, _, _, rfl, z, _, _, rfl, z, _, _, rfl, z, _, _, rfl, z, _, _, rfl, z, rfl⟩

def emptyF : FoldD := ⟨0, [], List.replicate 6 (0, zeroRow)⟩

theorem cut_all (cs : List Value) (n : Nat) (h : cs.length = n) : cut cs 0 n = cs := by
  rw [cut_eq, List.drop_zero, List.take_of_length_le (by omega)]

theorem ov_all (cs vs : List Value) (h : vs.length = cs.length) : ov cs 0 vs = vs := by
  rw [ov_eq _ _ _ (by omega), List.take_zero, List.nil_append, Nat.zero_add, h, List.drop_length, List.append_nil]

def lastOf (f : FoldD) (c : Int) : Int := if 1 ≤ c ∧ c ≤ 5 then ((f.told[c.toNat]?).map (·.1)).getD 0 else 0

end Go.Proofs.YthpenehgfogloaaDoor.Sw

/-
  The walk of fold.Next.
-/
set_option linter.unusedVariables false
set_option maxRecDepth 10000
namespace Go.Proofs.YthpenehgfogloaaDoor.Sw
open Go.RowKit Go.Sx

-- pieces

def nextB (f : FoldD) (bt : BatchD) : Bool := mayB bt && (bt.q == IntKind.i64.wrap (lastOf f bt.c + 1))

/-- The row of a batch that comes next. -/
def nextR (f : FoldD) (bt : BatchD) : RowD := ⟨IntKind.i64.wrap (f.place + 1), bt, (applyL f.d bt.l).1⟩

/-- The fold behind a batch that comes next. -/
def nextF (f : FoldD) (bt : BatchD) : FoldD := ⟨IntKind.i64.wrap (f.place + 1), (applyL f.d bt.l).2, f.told.set bt.c.toNat (bt.q, nextR f bt)⟩

/-- The fold behind a batch, and its row. -/
def next (f : FoldD) (bt : BatchD) : FoldD × RowD × Bool := match nextB f bt with | true => (nextF f bt, nextR f bt, true) | false => (f, zeroRow, false)

theorem may_parts {bt : BatchD} (h : mayB bt = true) : (1 ≤ bt.c ∧ bt.c ≤ 5) ∧ (1 ≤ bt.q ∧ bt.q ≤ 1099511627776) ∧ bt.l.length ≤ 8 := by
  obtain ⟨h1, h2, h3, _⟩ := mayBatch_parts h
  exact ⟨h1, h2, h3.2⟩

end Go.Proofs.YthpenehgfogloaaDoor.Sw

/-
  Operations compared: slices.Equal; stream.Same.
-/
set_option linter.unusedVariables false
set_option maxRecDepth 10000
namespace Go.Sx
open Go.RowKit

theorem run_eqFields_agg {P : Program} {d : Nat} {xs ys : List Value} {f : Field} {fs : List Field} {W : World} {b : Bool} {z cx cy : List Value} (u : Ty P f.type true z) (hn : (f.name != "_") = true) (hx : cut xs f.offset z.length = cx) (hy : cut ys f.offset z.length = cy) (he : (Op.equalIn d f.type (.agg ⟨cx⟩) (.agg ⟨cy⟩)).run P W = .ok b W) :
    (Op.eqFields d ⟨xs⟩ ⟨ys⟩ (f :: fs)).run P W = if b then (Op.eqFields d ⟨xs⟩ ⟨ys⟩ fs).run P W else .ok false W := by
  have hn' : f.name ≠ "_" := by simpa using hn
  subst hx hy
  rw [cut_eq, cut_eq] at he
  simp only [Op.eqFields, if_pos hn', Sem.run_bind, part, u.isAgg, Result.andThen_ok, if_true, u.sizeOf, Sem.run_pure]
  simp only [List.extract_toArray, List.extract_eq_take_drop]
  rw [show f.offset + z.length - f.offset = z.length by omega, he]
  cases b <;> simp

theorem run_eq3d {P : Program} (d : Nat) {T TI TN TS : TypeId} {zi zn zs : List Value} [IntTy P TI .i64] [IntTy P TN .i64] [StrTy P TS] [ui : Ty P TI false zi] [un : Ty P TN false zn] [us : Ty P TS false zs] (ht : P.underlying T = some (.struct (P.fieldsOf T))) (hp : P.stoodInHeld T = false)
    (hF : (P.fieldsOf T).toList.map (fun f => (f.name != "_", f.offset, f.type)) = [(true, 0, TI), (true, 1, TN), (true, 2, TS)]) (k n : Int) (s : ByteArray) (k' n' : Int) (s' : ByteArray) (W : World) :
    (Op.equalIn (d + 2) T (.agg ⟨[.int .i64 k, .int .i64 n, .string s]⟩) (.agg ⟨[.int .i64 k', .int .i64 n', .string s']⟩)).run P W = .ok ((k == k') && (n == n') && (s.toList == s'.toList)) W := by
  rw [run_equalIn_agg W (d + 1) T _ _ ht hp]
  obtain ⟨f0, r0, e0, m0, hr0⟩ := List.map_eq_cons_iff.1 hF
  obtain ⟨f1, r1, e1, m1, hr1⟩ := List.map_eq_cons_iff.1 hr0
  obtain ⟨f2, r2, e2, m2, hr2⟩ := List.map_eq_cons_iff.1 hr1
  have hr3 := List.map_eq_nil_iff.1 hr2
  subst hr3 e2 e1
  rw [e0]
  simp only [Prod.mk.injEq] at m0 m1 m2
  obtain ⟨a0, b0, c0⟩ := m0
  obtain ⟨a1, b1, c1⟩ := m1
  obtain ⟨a2, b2, c2⟩ := m2
  rw [run_eqFields_cons (x := .int .i64 k) (y := .int .i64 k') (b := k == k') (z := zi) (by rw [c0]; exact ui) a0 (by rw [b0]; rfl) (by rw [b0]; rfl) (by rw [c0]; exact run_equalIn_int W d TI .i64 .i64 k k' (IntTy.out))]
  rw [run_eqFields_cons (x := .int .i64 n) (y := .int .i64 n') (b := n == n') (z := zn) (by rw [c1]; exact un) a1 (by rw [b1]; rfl) (by rw [b1]; rfl) (by rw [c1]; exact run_equalIn_int W d TN .i64 .i64 n n' (IntTy.out))]
  rw [run_eqFields_cons (x := .string s) (y := .string s') (b := s.toList == s'.toList) (z := zs) (by rw [c2]; exact us) a2 (by rw [b2]; rfl) (by rw [b2]; rfl) (by rw [c2]; exact run_equalIn_string W d TS s s' (StrTy.out))]
  simp only [Op.eqFields, Sem.run_pure]
  cases k == k' <;> cases n == n' <;> cases s.toList == s'.toList <;> rfl

end Go.Sx
namespace Go.Proofs.YthpenehgfogloaaDoor.Sw
open Go.RowKit Go.Sx

-- pieces

theorem run_eqOp (o o' : OpD) (W : World) : (Op.equalIn 10000 47 (.agg ⟨opCells o⟩) (.agg ⟨opCells o'⟩)).run Tryd.prog W = .ok (eqOp o o') W := by
  rw [show (10000 : Nat) = 9999 + 1 from rfl, run_equalIn_agg W 9999 47 _ _ Tryd.underlying47 (by kernel_rfl)]
  have hF : (Program.fieldsOf Tryd.prog 47).toList.map (fun f => (f.name != "_", f.offset, f.type)) = [(true, 0, 3), (true, 1, 9), (true, 2, 25), (true, 5, 25), (true, 8, 2)] := by kernel_rfl
  obtain ⟨f0, r0, e0, m0, hr0⟩ := List.map_eq_cons_iff.1 hF
  obtain ⟨f1, r1, e1, m1, hr1⟩ := List.map_eq_cons_iff.1 hr0
  obtain ⟨f2, r2, e2, m2, hr2⟩ := List.map_eq_cons_iff.1 hr1
  obtain ⟨f3, r3, e3, m3, hr3⟩ := List.map_eq_cons_iff.1 hr2
  obtain ⟨f4, r4, e4, m4, hr4⟩ := List.map_eq_cons_iff.1 hr3
  have hr5 := List.map_eq_nil_iff.1 hr4
  subst hr5 e4 e3 e2 e1
  rw [e0]
  clear hF hr0 hr1 hr2 hr3 hr4 e0
  simp only [Prod.mk.injEq] at m0 m1 m2 m3 m4
  obtain ⟨a0, b0, c0⟩ := m0
  obtain ⟨a1, b1, c1⟩ := m1
  obtain ⟨a2, b2, c2⟩ := m2
  obtain ⟨a3, b3, c3⟩ := m3
  obtain ⟨a4, b4, c4⟩ := m4
  rw [run_eqFields_cons (x := .int .i64 o.kind) (y := .int .i64 o'.kind) (b := o.kind == o'.kind) (z := [.int .i64 0]) (by rw [c0]; infer_instance) a0 (by rw [b0]; rfl) (by rw [b0]; rfl) (by rw [c0]; exact run_equalIn_int W 9998 3 .i64 .i64 _ _ (IntTy.out))]
  rw [run_eqFields_cons (x := .string o.key) (y := .string o'.key) (b := o.key.toList == o'.key.toList) (z := [.string ⟨#[]⟩]) (by rw [c1]; infer_instance) a1 (by rw [b1]; rfl) (by rw [b1]; rfl) (by rw [c1]; exact run_equalIn_string W 9998 9 _ _ (StrTy.out))]
  rw [run_eqFields_agg (cx := [.int .i64 o.vk, .int .i64 o.vn, .string o.vs]) (cy := [.int .i64 o'.vk, .int .i64 o'.vn, .string o'.vs]) (b := rawEq o.vk o.vn o.vs o'.vk o'.vn o'.vs) (z := [.int .i64 0, .int .i64 0, .string ⟨#[]⟩]) (by rw [c2]; infer_instance) a2 (by rw [b2]; rfl) (by rw [b2]; rfl) (by rw [c2]; exact run_eq3d 9997 Tryd.underlying25 (by kernel_rfl) (by kernel_rfl : _ = [(true, 0, 3), (true, 1, 2), (true, 2, 9)]) _ _ _ _ _ _ W)]
  rw [run_eqFields_agg (cx := [.int .i64 o.ok, .int .i64 o.on, .string o.os]) (cy := [.int .i64 o'.ok, .int .i64 o'.on, .string o'.os]) (b := rawEq o.ok o.on o.os o'.ok o'.on o'.os) (z := [.int .i64 0, .int .i64 0, .string ⟨#[]⟩]) (by rw [c3]; infer_instance) a3 (by rw [b3]; rfl) (by rw [b3]; rfl) (by rw [c3]; exact run_eq3d 9997 Tryd.underlying25 (by kernel_rfl) (by kernel_rfl : _ = [(true, 0, 3), (true, 1, 2), (true, 2, 9)]) _ _ _ _ _ _ W)]
  rw [run_eqFields_cons (x := .int .i64 o.n) (y := .int .i64 o'.n) (b := o.n == o'.n) (z := [.int .i64 0]) (by rw [c4]; infer_instance) a4 (by rw [b4]; rfl) (by rw [b4]; rfl) (by rw [c4]; exact run_equalIn_int W 9998 2 .i64 .i64 _ _ (IntTy.out))]
  simp only [Op.eqFields, Sem.run_pure]
  unfold eqOp
  cases o.kind == o'.kind <;> cases o.key.toList == o'.key.toList <;> cases rawEq o.vk o.vn o.vs o'.vk o'.vn o'.vs <;> cases rawEq o.ok o.on o.os o'.ok o'.on o'.os <;> cases o.n == o'.n <;> rfl

section

variable {ops : Array Oper} {rest : List Oper} {Q : Exit → Act → World → Prop} {a : Act} {n : Nat} {L : List (Nat × Value)} {W : World} {d : Nat} {T S' : TypeId} {p : String} {e : Array Edge} {x y : Operand} {o o' : OpD}

theorem st_opNeq (hs : Slots a n L) (hx : ev L x = some (.agg ⟨opCells o⟩) := by with_unfolding_all exact rfl) (hy : ev L y = some (.agg ⟨opCells o'⟩) := by with_unfolding_all exact rfl) (hd : Nat.blt d n = true := by with_unfolding_all exact rfl)
    (c : ∀ a', Slots a' n ((d, .bool (!eqOp o o')) :: L) → wpList Tryd.prog ops Q rest a' W) : wpList Tryd.prog ops Q (⟨some d, .binOp .neq 47 x y S', T, p, e, none⟩ :: rest) a W :=
  st_value hs hd (by simp only [execOp, hs.ev hx, hs.ev hy, Sem.run_bind]; rw [run_eqGuard_agg W .neq 47 x y _ _ (by kernel_rfl)]; simp only [Result.andThen_ok]; rw [run_neq_struct, run_eqOp]; rfl) c

end

def eqL (l l' : List OpD) : Bool := (l.length == l'.length) && eqOps l l'

/-- Two rows: the same? -/
def sameR (a b : RowD) : Bool := (a.place == b.place) && ((a.err == b.err) && ((a.b.c == b.b.c) && ((a.b.q == b.b.q) && eqL a.b.l b.b.l)))

end Go.Proofs.YthpenehgfogloaaDoor.Sw

/-
  The reference's rows compared: EqRow, EqRows.
-/
set_option linter.unusedVariables false
set_option maxRecDepth 10000
namespace Go.Sx
open Go.RowKit

section

variable {P : Program} {Q : Exit → Act → World → Prop} {C : Ending → World → Prop} {a : Act} {n G : Nat} {L : List (Nat × Value)} {w W : World} {R : List Res} {t t' : Tmp} {T T' E E' : TypeId} {b o b' o' : Nat} {cs cs' z z' : List Value} {fn : Func}

theorem rk3 [u : Ty P T true z] [u' : Ty P T' true z'] {r : Tmp} {v : Value} (hs : Slots a n L) (hr : fn.results = #[.cell t T, .cell t' T', .tmp r]) (hv : lk L t = some (.pointer (some ⟨b, o, none⟩))) (hv' : lk L t' = some (.pointer (some ⟨b', o', none⟩))) (hw : Has G w W R) (hi : In (Cells b cs E) R) (hi' : In (Cells b' cs' E') R) (hl : Nat.ble (o + z.length) cs.length = true) (hl' : Nat.ble (o' + z'.length) cs'.length = true) (hv2 : lk L r = some v) (h : C (.returned (.tuple #[.agg ⟨cut cs o z.length⟩, .agg ⟨cut cs' o' z'.length⟩, v])) W) : bodyPost P fn C .ret a W := by
  have h1 := run_load_agg u (hw.block hi).1 (Nat.le_of_ble_eq_true hl)
  have h1' := run_load_agg u' (hw.block hi').1 (Nat.le_of_ble_eq_true hl')
  refine rt hs ?_ h
  have h2 := at_tmp hs hv
  have h2' := at_tmp hs hv'
  have h3 := at_tmp hs hv2
  simp only [Instr.loadAt, Instr.sureAddr, Sem.run_bind, Sem.run_pure, Result.andThen_ok] at h1 h1'
  simp only [results, hr, List.mapM_toArray, List.mapM_cons, List.mapM_nil]
  simp [h2, h2', h3, asAddr, h1, h1']

end

theorem ch_at {α : Type} {Rr : α → List Value → Prop} {W : World} {sad : Option Addr} {scap n k : Nat} {l : List α} {xs : List Value} {i : Nat} {o : α} (hk : ∀ a c, Rr a c → c.length = k) (r : Rd W k (.slice sad n scap) n xs) (hc : Ch Rr l xs) (hn : l.length = n) (h : l[i]? = some o) :
    ∃ g off c, sad = some ⟨g, off, none⟩ ∧ g < W.heap.size ∧ Rr o c ∧ ∀ j u, c[j]? = some u → W.cell? ⟨g, off + i * k + j, none⟩ = some u := by
  have hi : i < l.length := (List.getElem?_eq_some_iff.1 h).1
  obtain ⟨c, h1, h2, h3⟩ := hc.get hk h
  obtain ⟨_, ad, cap, e, h4, h5, h6⟩ := r
  injection e with e1 e2 e3
  subst e1
  rcases h6 with h6 | ⟨b, off, rfl, hlt, hcell⟩
  · omega
  · refine ⟨b, off, c, rfl, hlt, h1, fun j u hu => ?_⟩
    rw [Nat.add_assoc]
    refine hcell _ _ ?_
    rw [← h3, cut_eq, List.getElem?_take] at hu
    split at hu
    · rw [List.getElem?_drop] at hu; exact hu
    · cases hu

end Go.Sx
namespace Go.Proofs.YthpenehgfogloaaDoor.Sw
open Go.RowKit Go.Sx

-- pieces

def eqRow (a b : RowD) : Bool := (a.place == b.place) && ((a.err == b.err) && eqBatch a.b.c a.b.q a.b.l b.b.c b.b.q b.b.l)

theorem eqRow_iff {a b : RowD} : eqRow a b = true ↔ a = b := by
  obtain ⟨p, ⟨c, q, l⟩, e⟩ := a
  obtain ⟨p', ⟨c', q', l'⟩, e'⟩ := b
  simp only [eqRow, Bool.and_eq_true, beq_iff_eq, eqBatch_iff, RowD.mk.injEq, BatchD.mk.injEq]
  constructor
  · rintro ⟨h1, h2, h3⟩; exact ⟨h1, h3, h2⟩
  · rintro ⟨h1, h3, h2⟩; exact ⟨h1, h2, h3⟩

theorem eqL_iff {l l' : List OpD} : eqL l l' = true ↔ l = l' := by
  unfold eqL
  rw [Bool.and_eq_true, beq_iff_eq]
  constructor
  · rintro ⟨h1, h2⟩; exact (eqOps_iff h1).1 h2
  · rintro rfl; exact ⟨rfl, (eqOps_iff rfl).2 rfl⟩

theorem sameR_iff {a b : RowD} : sameR a b = true ↔ a = b := by
  obtain ⟨p, ⟨c, q, l⟩, e⟩ := a
  obtain ⟨p', ⟨c', q', l'⟩, e'⟩ := b
  simp only [sameR, Bool.and_eq_true, beq_iff_eq, eqL_iff, RowD.mk.injEq, BatchD.mk.injEq]
  constructor
  · rintro ⟨h1, h2, h3, h4, h5⟩; exact ⟨h1, ⟨h3, h4, h5⟩, h2⟩
  · rintro ⟨h1, ⟨h3, h4, h5⟩, h2⟩; exact ⟨h1, h2, h3, h4, h5⟩

def RowRd (W : World) (r : RowD) (cs : List Value) : Prop := ∃ sv, cs = rowCells r sv ∧ Rd W 9 sv r.b.l.length (r.b.l.flatMap opCells)

theorem RowRd.len {W : World} : ∀ (b : RowD) (c : List Value), RowRd W b c → c.length = 5 := by rintro b c ⟨sv, rfl, _⟩; rfl

theorem rowRd {G : Nat} {w0 W : World} {L : List Res} {H : Fh} (h : Has G w0 W L) (i : In (Fz H) L) {rows : List RowD} {xs : List Value} (hc : Ch (RowIn H) rows xs) : Ch (RowRd W) rows xs :=
  hc.mono fun r c ⟨sv, h1, h2⟩ => ⟨sv, h1, h.rdH i h2⟩

def eqRows (l m : List RowD) : Bool := (l.length == m.length) && (l.zip m).all fun p => eqRow p.1 p.2

theorem eqRows_iff {l m : List RowD} : eqRows l m = true ↔ l = m := by
  unfold eqRows
  rw [Bool.and_eq_true, beq_iff_eq]
  constructor
  · rintro ⟨h1, h2⟩
    apply List.ext_getElem h1
    intro i h3 h4
    rw [List.all_eq_true] at h2
    exact eqRow_iff.1 (h2 (l[i], m[i]) (List.mem_of_getElem? (i := i) (by rw [List.getElem?_zip_eq_some]; exact ⟨List.getElem?_eq_getElem h3, List.getElem?_eq_getElem h4⟩)))
  · rintro rfl
    refine ⟨rfl, ?_⟩
    rw [List.all_eq_true]
    intro p hp
    obtain ⟨i, hi⟩ := List.getElem?_of_mem hp
    rw [List.getElem?_zip_eq_some] at hi
    exact eqRow_iff.2 (Option.some.inj (hi.1.symm.trans hi.2))

theorem eqRows_snoc {l l' : List RowD} {i : Nat} {o o' : RowD} (h : l[i]? = some o) (h' : l'[i]? = some o') (e : l.take i = l'.take i) (ho : eqRow o o' = true) : l.take (i + 1) = l'.take (i + 1) := by
  rw [List.take_add_one, List.take_add_one, h, h', e, eqRow_iff.1 ho]

theorem eqRows_no {l l' : List RowD} {i : Nat} {o o' : RowD} (h : l[i]? = some o) (h' : l'[i]? = some o') (e : eqRow o o' = false) : eqRows l l' = false := by
  cases hq : eqRows l l' with
  | false => rfl
  | true =>
    have := eqRows_iff.1 hq
    subst this
    rw [h] at h'
    cases h'
    rw [eqRow_iff.2 rfl] at e
    cases e

end Go.Proofs.YthpenehgfogloaaDoor.Sw

/-
  The walk of the reference's mayOps.
-/
set_option linter.unusedVariables false
set_option maxRecDepth 10000
namespace Go.Proofs.YthpenehgfogloaaDoor.Sw
open Go.RowKit Go.Sx

-- pieces

def mayAll (l : List OpD) : Bool := !(decide ((l.length : Int) < 1)) && !(decide ((l.length : Int) > 8)) && l.all mayD

end Go.Proofs.YthpenehgfogloaaDoor.Sw

/-
  The walk of the reference's bytesOf: a batch's bytes.
-/
set_option linter.unusedVariables false
set_option maxRecDepth 10000
namespace Go.Proofs.YthpenehgfogloaaDoor.Sw
open Go.RowKit Go.Sx

-- pieces

end Go.Proofs.YthpenehgfogloaaDoor.Sw

/-
  The walks of the reference's MayBatch and EncodeBatch.
-/
set_option linter.unusedVariables false
set_option maxRecDepth 10000
namespace Go.Proofs.YthpenehgfogloaaDoor.Sw
open Go.RowKit Go.Sx
-- pieces

end Go.Proofs.YthpenehgfogloaaDoor.Sw

/-
  The reference's fold: Next.
-/
set_option linter.unusedVariables false
set_option maxRecDepth 10000
namespace Go.Sx

theorem abs2 {G : Nat} {w W : World} {q : Res} {R : List Res} {b : Nat} {cs : List Value} {T : TypeId} (h : Has G w W (q :: Cells b cs T :: R)) : ∃ z : List Value, z.length = cs.length ∧ Has G w W (q :: Cells b z T :: R) := ⟨cs, rfl, h⟩

theorem ov_left (ls ts vs : List Value) (o : Nat) (h : o + vs.length ≤ ls.length) : ov (ls ++ ts) o vs = ov ls o vs ++ ts := by
  rw [ov_eq _ _ _ (by simp; omega), ov_eq _ _ _ h, List.take_append_of_le_length (by omega), List.drop_append_of_le_length h]
  simp

theorem ov_right (ls ts vs : List Value) (o : Nat) (h : o + vs.length ≤ ts.length) : ov (ls ++ ts) (ls.length + o) vs = ls ++ ov ts o vs := by
  rw [ov_eq _ _ _ (by simp; omega), ov_eq _ _ _ h]
  rw [List.take_append, List.take_of_length_le (by omega), List.drop_append, List.drop_of_length_le (by omega)]
  rw [show ls.length + o - ls.length = o by omega, show ls.length + o + vs.length - ls.length = o + vs.length by omega]
  simp

end Go.Sx
namespace Go.Proofs.YthpenehgfogloaaDoor.Sw
open Go.RowKit Go.Sx

-- pieces

abbrev rfC (pl : Int) (dv : Value) (ls ts : List Value) : List Value := .int .i64 pl :: dv :: (ls ++ ts)

def NumIn (x : Int × RowD) (c : List Value) : Prop := c = [.int .i64 x.1]

def ToRow (H : Fh) (x : Int × RowD) (c : List Value) : Prop := RowIn H x.2 c

/-- The reference's fold, its cells. -/
def RfIn (H : Fh) (f : FoldD) (cs : List Value) : Prop := ∃ dv ls ts, cs = rfC f.place dv ls ts ∧ DocH H dv f.d ∧ f.told.length = 6 ∧ Ch NumIn f.told ls ∧ Ch (ToRow H) f.told ts

theorem NumIn.len : ∀ (x : Int × RowD) (c : List Value), NumIn x c → c.length = 1 := by rintro x c rfl; rfl

theorem ToRow.len {H : Fh} : ∀ (x : Int × RowD) (c : List Value), ToRow H x c → c.length = 5 := fun x c h => RowIn.len x.2 c h

theorem rf_len {H : Fh} {told : List (Int × RowD)} {ls ts : List Value} (h6 : told.length = 6) (hl : Ch NumIn told ls) (ht : Ch (ToRow H) told ts) : ls.length = 6 ∧ ts.length = 30 := by
  have h1 := hl.length NumIn.len
  have h2 := ht.length ToRow.len
  rw [h6] at h1 h2
  exact ⟨by omega, by omega⟩

theorem RfIn.len {H : Fh} {f : FoldD} {cs : List Value} (h : RfIn H f cs) : cs.length = 38 := by
  obtain ⟨dv, ls, ts, rfl, _, h6, hl, ht⟩ := h
  obtain ⟨h1, h2⟩ := rf_len h6 hl ht
  simp [h1, h2]

theorem RfIn.one {H : Fh} {f : FoldD} {cs : List Value} (h : RfIn H f cs) : cs.all (·.oneCell') = true := by
  obtain ⟨dv, ls, ts, rfl, hd, h6, hl, ht⟩ := h
  obtain ⟨dad, dcap, rfl⟩ := hd.slice
  rw [List.all_eq_true]
  intro v hv
  simp only [rfC, List.mem_cons, List.mem_append] at hv
  rcases hv with rfl | rfl | hv | hv
  · rfl
  · rfl
  · exact hl.ones (fun x c hc v hv => by cases hc; simp only [List.mem_singleton] at hv; subst hv; rfl) v hv
  · exact ht.ones (fun x c hc => RowIn.ones x.2 c hc) v hv

theorem RfIn.le {H H' : Fh} {f : FoldD} {cs : List Value} (hle : H.le H') (h : RfIn H f cs) : RfIn H' f cs := by
  obtain ⟨dv, ls, ts, rfl, hd, h6, hl, ht⟩ := h
  exact ⟨dv, ls, ts, rfl, RdH.le hd hle, h6, hl, ht.mono fun x c hc => RowIn.le hle x.2 c hc⟩

theorem lastOf_at {f : FoldD} {c : Int} (h1 : 1 ≤ c) (h5 : c ≤ 5) {x : Int × RowD} (hx : f.told[c.toNat]? = some x) : lastOf f c = x.1 := by
  unfold lastOf
  rw [if_pos ⟨h1, h5⟩, hx]; rfl

end Go.Proofs.YthpenehgfogloaaDoor.Sw

/-
  The walk of packhorselaw5.Cut: operations that are not too many and long.
-/
set_option linter.unusedVariables false
set_option maxRecDepth 10000
namespace Go.Proofs.YthpenehgfogloaaDoor.Sw
open Go.RowKit Go.Sx

theorem law4_CutS (k n : Int) (s : ByteArray) (w : World) (hs0 : s.size ≤ 9223372036854775807) :
    Calls Tryd.prog 47 ⟨[.agg #[.int .i64 k, .int .i64 n, .string s]]⟩ w fun e w' => e = .returned (.agg ⟨[.int .i64 k, .int .i64 n, .string (cutS s 220)]⟩) ∧ Below w.heap.size w w' := by
  have hw := Has.start (G := 0) (w := w) (Nat.zero_le _)
  refine enter Tryd.func47 Tryd.ntmps47 rfl rfl fun a hs => ?_
  repeat (first | (refine sxv hs hw ?_; clear hs; intro a hs) | refine sxc hs ?_ | (refine sxa hs hw ?_; clear hs hw; intro a b W hw hs) | (refine sxs hs hw ?_; clear hs hw; intro W hs hw))
  refine st_call hs (hc := law1_Cut s 220 _ hs0 (by decide)) (k := ?_); rintro e0 W1 ⟨rfl, rfl⟩; refine ⟨_, rfl, ?_⟩; clear hs; intro a hs
  rw [show (220 : Int).toNat = 220 from rfl] at hs
  repeat (first | (refine sxv hs hw ?_; clear hs; intro a hs) | refine sxc hs ?_ | (refine sxa hs hw ?_; clear hs hw; intro a b W hw hs) | (refine sxs hs hw ?_; clear hs hw; intro W hs hw))
  refine rc1 hs rfl rfl hw (by repeat (first | exact In.hd | apply In.tl)) rfl ?_
  exact ⟨rfl, hw.end (by repeat (first | exact In.hd | apply In.tl))⟩

def cutO (o : OpD) : OpD := ⟨o.kind, cutS o.key 90, o.vk, o.vn, cutS o.vs 220, o.ok, o.on, cutS o.os 220, o.n⟩
def cutD (l : List OpD) : List OpD := (l.take 10).map cutO

set_option maxHeartbeats 8000000 in
theorem law5_Cut (l : List OpD) (sv : Value) (w : World) (hz : ∀ o ∈ l, o.key.size ≤ 9223372036854775807 ∧ o.vs.size ≤ 9223372036854775807 ∧ o.os.size ≤ 9223372036854775807) (r : Rd w 9 sv l.length (l.flatMap opCells)) :
    Calls Tryd.prog 23 ⟨[sv]⟩ w fun e w' => ∃ ad cap, e = .returned (.slice ad (cutD l).length cap) ∧ Has 0 w w' (Sx.Own 47 9 (.slice ad (cutD l).length cap) (cutD l).length ((cutD l).flatMap opCells) :: Old w 0 :: []) := by
  have hw := Has.start (G := 0) (w := w) (Nat.zero_le _)
  obtain ⟨sad, scap, rfl⟩ : ∃ ad cap, sv = .slice ad l.length cap := by obtain ⟨_, ad, cap, e, _⟩ := r; exact ⟨ad, cap, e⟩
  have hlen : l.length ≤ 9223372036854775807 := r.len
  refine enter Tryd.func23 Tryd.ntmps23 rfl rfl fun a hs => ?_
  repeat (first | (refine sxv hs hw ?_; clear hs; intro a hs) | refine sxc hs ?_ | (refine sxa hs hw ?_; clear hs hw; intro a b W hw hs) | (refine sxs hs hw ?_; clear hs hw; intro W hs hw))
  have hw : Has 0 w w (Sx.Own 47 9 (.slice none 0 0) (cutD (l.take 0)).length ((cutD (l.take 0)).flatMap opCells) :: Old w 0 :: []) := hw.nilOwn _ _
  refine st_loop (σ := Value × Nat) (fun s => [(0, .slice sad l.length scap), (3, s.1), (4, .int .i64 (s.2 : Int))]) (fun s => Sx.Own 47 9 s.1 (cutD (l.take s.2)).length ((cutD (l.take s.2)).flatMap opCells) :: Old w 0 :: []) (fun s => s.2 ≤ l.length ∧ s.2 ≤ 10) (fun s => l.length - s.2) (.slice none 0 0, 0) ⟨Nat.zero_le _, Nat.zero_le _⟩ hs ⟨rfl, rfl, rfl, trivial⟩ hw ?_
  clear hs hw
  rintro ⟨v, i⟩ a W ⟨hi, hi10⟩ hs hw
  simp only at hi hi10 hs hw
  repeat (first | (refine sxv hs hw ?_; clear hs; intro a hs) | refine sxc hs ?_ | (refine sxa hs hw ?_; clear hs hw; intro a b W hw hs) | (refine sxs hs hw ?_; clear hs hw; intro W hs hw))
  by_cases c1 : i < l.length
  · have e1 : decide ((i : Int) < (l.length : Int)) = true := by simp; omega
    rw [e1] at hs
    repeat (first | (refine sxv hs hw ?_; clear hs; intro a hs) | refine sxc hs ?_ | (refine sxa hs hw ?_; clear hs hw; intro a b W hw hs) | (refine sxs hs hw ?_; clear hs hw; intro W hs hw))
    by_cases c2 : i < 10
    · have e2 : decide ((i : Int) < 10) = true := by simp; omega
      rw [e2] at hs
      obtain ⟨o, hoi⟩ : ∃ o, l[i]? = some o := ⟨l[i], List.getElem?_eq_getElem c1⟩
      have hz' := hz o (List.mem_of_getElem? hoi)
      have hnext : cutD (l.take (i + 1)) = cutD (l.take i) ++ [cutO o] := by
        unfold cutD
        rw [List.take_take, List.take_take, Nat.min_eq_right (by omega : i + 1 ≤ 10), Nat.min_eq_right (by omega : i ≤ 10), List.take_add_one, hoi]
        simp
      repeat (first | (refine sxv hs hw ?_; clear hs; intro a hs) | refine sxc hs ?_ | (refine sxa hs hw ?_; clear hs hw; intro a b W hw hs) | (refine sxs hs hw ?_; clear hs hw; intro W hs hw))
      refine st_index_op hs (r := hw.rd (by repeat (first | exact In.hd | apply In.tl)) hw.ext.size r) (ho := hoi) (c := ?_); clear hs; intro a p off hpc hs
      refine st_load_ats (z := opCells ⟨0, ⟨#[]⟩, 0, 0, ⟨#[]⟩, 0, 0, ⟨#[]⟩, 0⟩) hs (hc := hpc) (hl := rfl) (c := ?_); clear hs; intro a hs
      obtain ⟨kind, key, vk, vn, vs, ok, on, os, n⟩ := o
      simp only at hz'
      simp only [opCells] at hs
      clear hpc
      repeat (first | (refine sxv hs hw ?_; clear hs; intro a hs) | refine sxc hs ?_ | (refine sxa hs hw ?_; clear hs hw; intro a b W hw hs) | (refine sxs hs hw ?_; clear hs hw; intro W hs hw))
      obtain ⟨b4, q4⟩ := nm1 hw; subst q4
      refine rg_draw (V := [.pointer (some ⟨b4, 0 + 1, none⟩), .string key, .string (cutS key 90), .pointer (some ⟨b4, 0 + 2, none⟩), .agg ⟨[.int .i64 vk, .int .i64 vn, .string vs]⟩, .agg ⟨[.int .i64 vk, .int .i64 vn, .string (cutS vs 220)]⟩, .pointer (some ⟨b4, 0 + 5, none⟩), .agg ⟨[.int .i64 ok, .int .i64 on, .string os]⟩, .agg ⟨[.int .i64 ok, .int .i64 on, .string (cutS os 220)]⟩, .pointer (some ⟨b4, 0 + 1, none⟩), .bool true, .pointer (some ⟨b4, 0 + 2, none⟩), .bool true, .pointer (some ⟨b4, 0 + 5, none⟩), .bool true])
        (Rs := fun D => Cells b4 [.int .i64 kind, .string (if D 10 then cutS key 90 else key), .int .i64 vk, .int .i64 vn, .string (if D 12 then cutS vs 220 else vs), .int .i64 ok, .int .i64 on, .string (if D 14 then cutS os 220 else os), .int .i64 n] 47 :: Sx.Own 47 9 v (cutD (l.take i)).length ((cutD (l.take i)).flatMap opCells) :: Old w 0 :: []) hs hw (ho := ⟨?_, ?c1_a, ?c2_a, ?_, ?c4_a, ?c5_a, ?_, ?c7_a, ?c8_a, ?_, ?_, ?_, ?_, ?_, ?_, trivial⟩) (k := ?k_a)
      case c1_a =>
        intro LD D a W hcl hi hp hs hw
        have h2 := Go.Sx.not_done hcl hi 2 (by kernel_rfl)
        have h10 := Go.Sx.not_done hcl h2 10 (by kernel_rfl)
        have hw0 := hw
        simp only [h10, Bool.false_eq_true, if_false] at hw
        repeat (first | (refine sxv hs hw ?_; clear hs; intro a hs) | refine sxc hs ?_ | (refine sxa hs hw ?_; clear hs hw; intro a b W hw hs) | (refine sxs hs hw ?_; clear hs hw; intro W hs hw))
        exact ⟨hs, hw0⟩
      case c4_a =>
        intro LD D a W hcl hi hp hs hw
        have h2 := Go.Sx.not_done hcl hi 5 (by kernel_rfl)
        have h10 := Go.Sx.not_done hcl h2 12 (by kernel_rfl)
        have hw0 := hw
        simp only [h10, Bool.false_eq_true, if_false] at hw
        repeat (first | (refine sxv hs hw ?_; clear hs; intro a hs) | refine sxc hs ?_ | (refine sxa hs hw ?_; clear hs hw; intro a b W hw hs) | (refine sxs hs hw ?_; clear hs hw; intro W hs hw))
        exact ⟨hs, hw0⟩
      case c7_a =>
        intro LD D a W hcl hi hp hs hw
        have h2 := Go.Sx.not_done hcl hi 8 (by kernel_rfl)
        have h10 := Go.Sx.not_done hcl h2 14 (by kernel_rfl)
        have hw0 := hw
        simp only [h10, Bool.false_eq_true, if_false] at hw
        repeat (first | (refine sxv hs hw ?_; clear hs; intro a hs) | refine sxc hs ?_ | (refine sxa hs hw ?_; clear hs hw; intro a b W hw hs) | (refine sxs hs hw ?_; clear hs hw; intro W hs hw))
        exact ⟨hs, hw0⟩
      case c2_a =>
        intro LD D a W hcl hi hp hs hw
        refine st_call hs (hc := law1_Cut key 90 _ hz'.1 (by decide)) (k := ?_); rintro e0 W1 ⟨rfl, rfl⟩; refine ⟨_, rfl, ?_⟩; clear hs; intro a hs
        rw [show (90 : Int).toNat = 90 from rfl] at hs
        repeat (first | (refine sxv hs hw ?_; clear hs; intro a hs) | refine sxc hs ?_ | (refine sxa hs hw ?_; clear hs hw; intro a b W hw hs) | (refine sxs hs hw ?_; clear hs hw; intro W hs hw))
        exact ⟨hs, hw⟩
      case c5_a =>
        intro LD D a W hcl hi hp hs hw
        refine st_call hs (hc := law4_CutS vk vn vs _ hz'.2.1) (k := ?_); rintro e0 W1 ⟨rfl, hb⟩; refine ⟨_, rfl, ?_⟩; clear hs; intro a hs; replace hw := hw.below hb; clear hb
        repeat (first | (refine sxv hs hw ?_; clear hs; intro a hs) | refine sxc hs ?_ | (refine sxa hs hw ?_; clear hs hw; intro a b W hw hs) | (refine sxs hs hw ?_; clear hs hw; intro W hs hw))
        exact ⟨hs, hw⟩
      case c8_a =>
        intro LD D a W hcl hi hp hs hw
        refine st_call hs (hc := law4_CutS ok on os _ hz'.2.2) (k := ?_); rintro e0 W1 ⟨rfl, hb⟩; refine ⟨_, rfl, ?_⟩; clear hs; intro a hs; replace hw := hw.below hb; clear hb
        repeat (first | (refine sxv hs hw ?_; clear hs; intro a hs) | refine sxc hs ?_ | (refine sxa hs hw ?_; clear hs hw; intro a b W hw hs) | (refine sxs hs hw ?_; clear hs hw; intro W hs hw))
        exact ⟨hs, hw⟩
      case k_a =>
        clear hs hw
        intro a W hs hw
        replace hw : Has 0 w W (Cells b4 (opCells (cutO ⟨kind, key, vk, vn, vs, ok, on, os, n⟩)) 47 :: Sx.Own 47 9 v (cutD (l.take i)).length ((cutD (l.take i)).flatMap opCells) :: Old w 0 :: []) := hw
        repeat (first | (refine sxv hs hw ?_; clear hs; intro a hs) | refine sxc hs ?_ | (refine sxa hs hw ?_; clear hs hw; intro a b W hw hs) | (refine sxs hs hw ?_; clear hs hw; intro W hs hw))
        have hk : (cutD (l.take i)).length ≤ 10 := by unfold cutD; simp; omega
        refine st_append_lit hs hw (k := (cutD (l.take i)).length) (h63 := by omega) (hb := by omega) (c := ?_)
        clear hs hw; intro a ad cap W hs hw
        repeat (first | (refine sxv hs hw ?_; clear hs; intro a hs) | refine sxc hs ?_ | (refine sxa hs hw ?_; clear hs hw; intro a b W hw hs) | (refine sxs hs hw ?_; clear hs hw; intro W hs hw))
        replace hw := hw.sub (List.Sublist.cons _ (List.Sublist.cons _ (List.Sublist.refl _)))
        have hL : (cutD (l.take i)).length + 1 = (cutD (l.take (i + 1))).length := by rw [hnext]; simp
        have hw' : Has 0 w W (Sx.Own 47 9 (.slice ad (cutD (l.take (i + 1))).length cap) (cutD (l.take (i + 1))).length ((cutD (l.take (i + 1))).flatMap opCells) :: Old w 0 :: []) := by
          rw [← hL, hnext, List.flatMap_append, List.flatMap_singleton]; exact hw
        rw [hL] at hs
        exact st_again (_, i + 1) hs hw' ⟨by show i + 1 ≤ l.length; omega, by show i + 1 ≤ 10; omega⟩ (by show l.length - (i + 1) < l.length - i; omega) ⟨rfl, rfl, int_eq (by show IntKind.i64.wrap ((i : Int) + 1) = ((i + 1 : Nat) : Int); rw [IntWalk.i64_in _ (by omega)]; omega), trivial⟩
      all_goals
        intro LD D a W hcl hi hp hs hw
        repeat (first | (refine sxv hs hw ?_; clear hs; intro a hs) | refine sxc hs ?_ | (refine sxa hs hw ?_; clear hs hw; intro a b W hw hs) | (refine sxs hs hw ?_; clear hs hw; intro W hs hw))
        exact ⟨hs, hw⟩
    · have e2 : decide ((i : Int) < 10) = false := by simp; omega
      rw [e2] at hs
      repeat (first | (refine sxv hs hw ?_; clear hs; intro a hs) | refine sxc hs ?_ | (refine sxa hs hw ?_; clear hs hw; intro a b W hw hs) | (refine sxs hs hw ?_; clear hs hw; intro W hs hw))
      obtain rfl : i = 10 := by omega
      have hD : cutD (l.take 10) = cutD l := by unfold cutD; rw [List.take_take]; rfl
      rw [hD] at hw
      obtain ⟨ad, cap, rfl⟩ := hw.own_slice
      exact rt1 hs rfl rfl ⟨ad, cap, rfl, hw⟩
  · have e1 : decide ((i : Int) < (l.length : Int)) = false := by simp; omega
    rw [e1] at hs
    repeat (first | (refine sxv hs hw ?_; clear hs; intro a hs) | refine sxc hs ?_ | (refine sxa hs hw ?_; clear hs hw; intro a b W hw hs) | (refine sxs hs hw ?_; clear hs hw; intro W hs hw))
    obtain rfl : i = l.length := by omega
    rw [List.take_length] at hw
    obtain ⟨ad, cap, rfl⟩ := hw.own_slice
    exact rt1 hs rfl rfl ⟨ad, cap, rfl, hw⟩
end Go.Proofs.YthpenehgfogloaaDoor.Sw

/-
  The walk of packhorselaw5.CutBatch.
-/
set_option linter.unusedVariables false
set_option maxRecDepth 10000
namespace Go.Proofs.YthpenehgfogloaaDoor.Sw
open Go.RowKit Go.Sx

set_option maxHeartbeats 4000000 in
theorem law5_CutBatch (c q : Int) (l : List OpD) (sv : Value) (w : World) (hz : ∀ o ∈ l, o.key.size ≤ 9223372036854775807 ∧ o.vs.size ≤ 9223372036854775807 ∧ o.os.size ≤ 9223372036854775807) (r : Rd w 9 sv l.length (l.flatMap opCells)) :
    Calls Tryd.prog 38 ⟨[.agg ⟨[.int .i64 c, .int .i64 q, sv]⟩]⟩ w fun e w' => ∃ ad cap, e = .returned (.agg ⟨[.int .i64 c, .int .i64 q, .slice ad (cutD l).length cap]⟩) ∧ Has 0 w w' (Sx.Own 47 9 (.slice ad (cutD l).length cap) (cutD l).length ((cutD l).flatMap opCells) :: Old w 0 :: []) := by
  have hw := Has.start (G := 0) (w := w) (Nat.zero_le _)
  obtain ⟨sad, scap, rfl⟩ : ∃ ad cap, sv = .slice ad l.length cap := by obtain ⟨_, ad, cap, e, _⟩ := r; exact ⟨ad, cap, e⟩
  refine enter Tryd.func38 Tryd.ntmps38 rfl rfl fun a hs => ?_
  repeat (first | (refine sxv hs hw ?_; clear hs; intro a hs) | refine sxc hs ?_ | (refine sxa hs hw ?_; clear hs hw; intro a b W hw hs) | (refine sxs hs hw ?_; clear hs hw; intro W hs hw))
  refine st_call hs (hc := law5_Cut l _ _ hz (hw.rd (by repeat (first | exact In.hd | apply In.tl)) hw.ext.size r)) (k := ?_); rintro e0 W1 ⟨ad, cap, rfl, hw1⟩; refine ⟨_, rfl, ?_⟩; clear hs; intro a hs; replace hw := hw.call hw1; clear hw1
  repeat (first | (refine sxv hs hw ?_; clear hs; intro a hs) | refine sxc hs ?_ | (refine sxa hs hw ?_; clear hs hw; intro a b W hw hs) | (refine sxs hs hw ?_; clear hs hw; intro W hs hw))
  refine rc1 hs rfl rfl hw (In.tl In.hd) rfl ?_
  exact ⟨ad, cap, rfl, hw.drop2.drop2⟩
end Go.Proofs.YthpenehgfogloaaDoor.Sw

/-
  Operations as they come in.
-/
set_option linter.unusedVariables false
namespace Go.Proofs.YthpenehgfogloaaDoor.Sw
open Go.RowKit Go.Sx

/-- An operation as it comes in. -/
structure OpWf (o : OpD) : Prop where
  kind : (Lit.int .i64 o.kind).wf = true
  vk : (Lit.int .i64 o.vk).wf = true
  vn : (Lit.int .i64 o.vn).wf = true
  ok : (Lit.int .i64 o.ok).wf = true
  on : (Lit.int .i64 o.on).wf = true
  n : (Lit.int .i64 o.n).wf = true
  key : o.key.size ≤ maxLen
  vs : o.vs.size ≤ maxLen
  os : o.os.size ≤ maxLen
theorem max63 {n : Nat} (h : n ≤ maxLen) : n ≤ 9223372036854775807 := by
  have : (maxLen : Nat) ≤ 9223372036854775807 := by decide
  omega
theorem wf_i64 {n : Int} (h : (Lit.int .i64 n).wf = true) : i64 n := by
  have := (Lit.wf_int_iff .i64 n).1 h
  show -9223372036854775808 ≤ n ∧ n ≤ 9223372036854775807
  simpa [IntKind.min, IntKind.max, IntKind.signed, IntKind.bits] using this
theorem cutO_ok {o : OpD} (h : OpWf o) : OpOk (cutO o) := by
  have h1 := cutS_size o.key 90
  have h2 := cutS_size o.vs 220
  have h3 := cutS_size o.os 220
  exact ⟨wf_i64 h.kind, wf_i64 h.vk, wf_i64 h.vn, wf_i64 h.ok, wf_i64 h.on, wf_i64 h.n, by show (cutS o.key 90).size ≤ _; omega, by show (cutS o.vs 220).size ≤ _; omega, by show (cutS o.os 220).size ≤ _; omega⟩
theorem cutD_ok {l : List OpD} (h : ∀ o ∈ l, OpWf o) : ∀ o ∈ cutD l, OpOk o := by
  intro o ho
  obtain ⟨x, hx, rfl⟩ := List.mem_map.1 ho
  exact cutO_ok (h x (List.mem_of_mem_take hx))
theorem wf_sizes {l : List OpD} (h : ∀ o ∈ l, OpWf o) : ∀ o ∈ l, o.key.size ≤ 9223372036854775807 ∧ o.vs.size ≤ 9223372036854775807 ∧ o.os.size ≤ 9223372036854775807 :=
  fun o ho => ⟨max63 (h o ho).key, max63 (h o ho).vs, max63 (h o ho).os⟩
end Go.Proofs.YthpenehgfogloaaDoor.Sw

/-
  Batches cut; the reference's All; the rows of batches.
-/
set_option linter.unusedVariables false
set_option maxRecDepth 10000
namespace Go.Sx

theorem ch_atH {α : Type} {Rr : α → List Value → Prop} {H : Fh} {sad : Option Addr} {scap n k : Nat} {l : List α} {xs : List Value} {i : Nat} {o : α} (hk : ∀ a c, Rr a c → c.length = k) (r : RdH H k (.slice sad n scap) n xs) (hc : Ch Rr l xs) (hn : l.length = n) (h : l[i]? = some o) :
    ∃ g off c, sad = some ⟨g, off, none⟩ ∧ Rr o c ∧ ∀ {G : Nat} {w0 W : World} {L : List Res}, In (Fz H) L → Has G w0 W L → ∀ j u, c[j]? = some u → W.cell? ⟨g, off + i * k + j, none⟩ = some u := by
  have hi : i < l.length := (List.getElem?_eq_some_iff.1 h).1
  obtain ⟨c, h1, h2, h3⟩ := hc.get hk h
  obtain ⟨_, ad, cap, e, h4, h5, h6⟩ := r
  injection e with e1 e2 e3
  subst e1
  rcases h6 with h6 | ⟨b, off, cs, T, z, rfl, hb, hcell⟩
  · omega
  · refine ⟨b, off, c, rfl, h1, fun {G w0 W L} hin hw j u hu => ?_⟩
    obtain ⟨F, hF, hfz⟩ := hw.of_in hin
    have hbl := (hfz b _ hb).2
    unfold World.cell?
    rw [hbl]
    rw [← h3, cut_eq, List.getElem?_take] at hu
    split at hu
    · rw [List.getElem?_drop] at hu
      have := hcell _ _ hu
      rw [← Nat.add_assoc] at this
      simpa using this
    · cases hu

end Go.Sx
namespace Go.Proofs.YthpenehgfogloaaDoor.Sw
open Go.RowKit Go.Sx

-- pieces

structure BatWf (b : BatchD) : Prop where
  c : (Lit.int .i64 b.c).wf = true
  q : (Lit.int .i64 b.q).wf = true
  ops : ∀ o ∈ b.l, OpWf o

def cutB (b : BatchD) : BatchD := ⟨b.c, b.q, cutD b.l⟩

def batsB (l : List BatchD) (n : Nat) : List BatchD := (l.take n).map cutB

theorem cutB_ok {b : BatchD} (h : BatWf b) : BatOk (cutB b) := ⟨wf_i64 h.c, wf_i64 h.q, cutD_ok h.ops⟩

theorem batsB_ok {l : List BatchD} (h : ∀ b ∈ l, BatWf b) (n : Nat) : ∀ b ∈ batsB l n, BatOk b := by
  intro b hb
  obtain ⟨x, hx, rfl⟩ := List.mem_map.1 hb
  exact cutB_ok (h x (List.mem_of_mem_take hx))

/-- A slice of batches that is frozen. -/
def BatsH (H : Fh) (v : Value) (l : List BatchD) : Prop := ∃ xs, RdH H 3 v l.length xs ∧ Ch (BatIn H) l xs

theorem BatsH.le {H H' : Fh} {v : Value} {l : List BatchD} (h : H.le H') (r : BatsH H v l) : BatsH H' v l := by
  obtain ⟨xs, h1, h2⟩ := r
  exact ⟨xs, h1.le h, h2.mono (BatIn.le h)⟩

set_option maxHeartbeats 8000000 in
theorem law7_Batches (w0 W : World) (H : Fh) (l : List BatchD) (v : Value) (n : Nat) (R : List Res) (hn : n ≤ 1000) (hb : ∀ b ∈ l, BatWf b) (hr : BatsH H v l) (hw : Has 0 w0 W (Fz H :: R)) :
    Calls Tryd.prog 17 ⟨[v, .int .i64 (n : Int)]⟩ W fun e W' => ∃ v' H', e = .returned v' ∧ H.le H' ∧ BatsH H' v' (batsB l n) ∧ Has 0 w0 W' (Fz H' :: R) := by
  obtain ⟨xs, hr, hch⟩ := hr
  obtain ⟨sad, scap, rfl⟩ := hr.slice
  have hlen := hr.len
  refine enter Tryd.func17 Tryd.ntmps17 rfl rfl fun a hs => ?_
  repeat (first | (refine sxv hs hw ?_; clear hs; intro a hs) | refine sxc hs ?_ | (refine sxa hs hw ?_; clear hs hw; intro a b W hw hs) | (refine sxs hs hw ?_; clear hs hw; intro W hs hw))
  have hw := hw.nilOwn 38 3
  refine st_loop (σ := Nat × Option Addr × Nat × List Value × Fh) (fun t => [(0, .slice sad l.length scap), (1, .int .i64 (n : Int)), (6, .int .i64 (t.1 : Int)), (5, .slice t.2.1 (batsB l t.1).length t.2.2.1)]) (fun t => Sx.Own 38 3 (.slice t.2.1 (batsB l t.1).length t.2.2.1) (batsB l t.1).length t.2.2.2.1 :: Fz t.2.2.2.2 :: R) (fun t => t.1 ≤ l.length ∧ t.1 ≤ n ∧ H.le t.2.2.2.2 ∧ Ch (BatIn t.2.2.2.2) (batsB l t.1) t.2.2.2.1) (fun t => l.length - t.1) (0, none, 0, [], H) ⟨Nat.zero_le _, Nat.zero_le _, Fh.le.refl _, rfl⟩ hs ⟨rfl, rfl, rfl, rfl, trivial⟩ hw ?_
  clear hs hw
  rintro ⟨j, oad, ocap, ys, H'⟩ a W ⟨hj, hjn, hH', hch2⟩ hs hw
  simp only at hj hjn hH' hch2 hs hw
  have fin : batsB l j = batsB l n → ∀ (a : Act) (W : World), Slots a 27 [(5, .slice oad (batsB l j).length ocap)] → Has 0 w0 W (Sx.Own 38 3 (.slice oad (batsB l j).length ocap) (batsB l j).length ys :: Fz H' :: R) → ∃ H2, H.le H2 ∧ BatsH H2 (.slice oad (batsB l j).length ocap) (batsB l n) ∧ Has 0 w0 W (Fz H2 :: R) := by
    intro he a W hs hw
    obtain ⟨H2, h1, h2, h3⟩ := hw.freeze_own
    refine ⟨H2, hH'.trans h1, ⟨ys, he ▸ h3, he ▸ (hch2.mono (BatIn.le h1))⟩, h2⟩
  repeat (first | (refine sxv hs hw ?_; clear hs; intro a hs) | refine sxc hs ?_ | (refine sxa hs hw ?_; clear hs hw; intro a b W hw hs) | (refine sxs hs hw ?_; clear hs hw; intro W hs hw))
  cases hc1 : decide ((j : Int) < (l.length : Int)) with
  | false =>
    rw [hc1] at hs
    have hj' : j = l.length := by have := of_decide_eq_false hc1; omega
    repeat (first | (refine sxv hs hw ?_; clear hs; intro a hs) | refine sxc hs ?_ | (refine sxa hs hw ?_; clear hs hw; intro a b W hw hs) | (refine sxs hs hw ?_; clear hs hw; intro W hs hw))
    obtain ⟨H2, h1, h2, h3⟩ := fin (by unfold batsB; rw [List.take_of_length_le (by omega), List.take_of_length_le (by omega)]) a W (hs.of ⟨rfl, trivial⟩) hw
    exact rt1 hs rfl rfl ⟨_, H2, rfl, h1, h2, h3⟩
  | true =>
  rw [hc1] at hs
  have hj' : j < l.length := by have := of_decide_eq_true hc1; omega
  repeat (first | (refine sxv hs hw ?_; clear hs; intro a hs) | refine sxc hs ?_ | (refine sxa hs hw ?_; clear hs hw; intro a b W hw hs) | (refine sxs hs hw ?_; clear hs hw; intro W hs hw))
  cases hc2 : decide ((j : Int) < (n : Int)) with
  | false =>
    rw [hc2] at hs
    have hjn' : j = n := by have := of_decide_eq_false hc2; omega
    repeat (first | (refine sxv hs hw ?_; clear hs; intro a hs) | refine sxc hs ?_ | (refine sxa hs hw ?_; clear hs hw; intro a b W hw hs) | (refine sxs hs hw ?_; clear hs hw; intro W hs hw))
    obtain ⟨H2, h1, h2, h3⟩ := fin (by rw [hjn']) a W (hs.of ⟨rfl, trivial⟩) hw
    exact rt1 hs rfl rfl ⟨_, H2, rfl, h1, h2, h3⟩
  | true =>
  rw [hc2] at hs
  have hjn' : j < n := by have := of_decide_eq_true hc2; omega
  clear fin
  obtain ⟨bt, hbi⟩ : ∃ o, l[j]? = some o := ⟨l[j], List.getElem?_eq_getElem hj'⟩
  have hok := hb bt (List.mem_of_getElem? hbi)
  have hnext : batsB l (j + 1) = batsB l j ++ [cutB bt] := by
    unfold batsB
    rw [take_of hbi, List.map_append]; rfl
  have htk : (batsB l j).length ≤ 1000 := by unfold batsB; rw [List.length_map, List.length_take]; omega
  repeat (first | (refine sxv hs hw ?_; clear hs; intro a hs) | refine sxc hs ?_ | (refine sxa hs hw ?_; clear hs hw; intro a b W hw hs) | (refine sxs hs hw ?_; clear hs hw; intro W hs hw))
  refine st_index_ch hs (r := hw.rdH (by repeat (first | exact In.hd | apply In.tl)) (hr.le hH')) (hk := BatIn.len) (ch := hch.mono (BatIn.le hH')) (ho := hbi) (hlen := rfl) (c := ?_); clear hs; intro a g off c hc hcl hpc hlt hs
  obtain ⟨bv, rfl, hbv⟩ := hc
  refine st_load_ats hs (cs := batCells bt bv) (hc := hpc) (hl := by rfl) (c := ?_); clear hs; intro a hs
  clear hpc
  refine st_call hs (hc := law5_CutBatch bt.c bt.q bt.l bv _ (wf_sizes hok.ops) (hw.rdH (by repeat (first | exact In.hd | apply In.tl)) hbv)) (k := ?_); rintro e0 W1 ⟨nad, ncap, rfl, hw1⟩; refine ⟨_, rfl, ?_⟩; clear hs; intro a hs; replace hw := hw.call hw1; clear hw1
  have hw : Has 0 w0 _ (Sx.Own 47 9 (.slice nad (cutD bt.l).length ncap) (cutD bt.l).length ((cutD bt.l).flatMap opCells) :: Fz H' :: Sx.Own 38 3 (.slice oad (batsB l j).length ocap) (batsB l j).length ys :: R) := hw.perm (by repeat (first | exact List.Perm.refl _ | refine perm_pick (by repeat (first | exact Pick.hd | apply Pick.tl)) ?_))
  obtain ⟨H2, hle, hw, hnv⟩ := hw.freeze_own
  repeat (first | (refine sxv hs hw ?_; clear hs; intro a hs) | refine sxc hs ?_ | (refine sxa hs hw ?_; clear hs hw; intro a b W hw hs) | (refine sxs hs hw ?_; clear hs hw; intro W hs hw))
  obtain ⟨bx, qx⟩ := nm1 hw; subst qx
  have hw : Has 0 w0 _ (Sx.Own 38 3 (.slice oad (batsB l j).length ocap) (batsB l j).length ys :: Cells bx (batCells (cutB bt) (.slice nad (cutD bt.l).length ncap)) 38 :: Fz H2 :: R) := hw.perm (by repeat (first | exact List.Perm.refl _ | refine perm_pick (by repeat (first | exact Pick.hd | apply Pick.tl)) ?_))
  refine st_append1 hs (hw := hw) (hi := In.hd) (ch := hch2.mono (BatIn.le hle)) (ha := (⟨_, rfl, hnv⟩ : BatIn H2 (cutB bt) (batCells (cutB bt) (.slice nad (cutD bt.l).length ncap)))) (hl := rfl) (h1 := rfl) (hb := by omega) (h63 := by omega) (k := ?_)
  clear hs hw; intro a ad2 cap2 W hs hw hc2
  rw [← hnext] at hs hw hc2
  repeat (first | (refine sxv hs hw ?_; clear hs; intro a hs) | refine sxc hs ?_ | (refine sxa hs hw ?_; clear hs hw; intro a b W hw hs) | (refine sxs hs hw ?_; clear hs hw; intro W hs hw))
  exact st_again (j + 1, ad2, cap2, ys ++ batCells (cutB bt) (.slice nad (cutD bt.l).length ncap), H2) hs hw.drop2 ⟨hj', hjn', hH'.trans hle, hc2⟩ (by show l.length - (j + 1) < l.length - j; omega) ⟨rfl, rfl, int_eq (by show IntKind.i64.wrap ((j : Int) + 1) = ((j + 1 : Nat) : Int); rw [IntWalk.i64_in _ (by omega)]; omega), rfl, trivial⟩

abbrev zrf : List Value := [.int .i64 0, .slice none 0 0, .int .i64 0, .int .i64 0, .int .i64 0, .int .i64 0, .int .i64 0, .int .i64 0, .int .i64 0, .int .i64 0, .int .i64 0, .slice none 0 0, .int .i64 0, .int .i64 0, .int .i64 0, .int .i64 0, .slice none 0 0, .int .i64 0, .int .i64 0, .int .i64 0, .int .i64 0, .slice none 0 0, .int .i64 0, .int .i64 0, .int .i64 0, .int .i64 0, .slice none 0 0, .int .i64 0, .int .i64 0, .int .i64 0, .int .i64 0, .slice none 0 0, .int .i64 0, .int .i64 0, .int .i64 0, .int .i64 0, .slice none 0 0, .int .i64 0]

theorem rf_empty (H : Fh) : RfIn H emptyF zrf := by
  have z : ToRow H (0, zeroRow) zrc := ⟨_, rfl, ops_nil H⟩
  have y : NumIn (0, zeroRow) [.int .i64 0] := rfl
  refine ⟨.slice none 0 0, List.replicate 6 (.int .i64 0), zrc ++ (zrc ++ (zrc ++ (zrc ++ (zrc ++ (zrc ++ []))))), by with_unfolding_all exact rfl, RdH.nil H 4 0 (by omega), rfl, ?_, ?_⟩
  · exact ⟨_, _, rfl, y, _, _, rfl, y, _, _, rfl, y, _, _, rfl, y, _, _, rfl, y, _, _, rfl, y, rfl⟩
  · exact ⟨_, _, rfl, z, _, _, rfl, z, _, _, rfl, z, _, _, rfl, z, _, _, rfl, z, _, _, rfl, z, rfl⟩

/-- The fold of batches, and the rows of those that came next. -/
def allF (f : FoldD) (rows : List RowD) : List BatchD → FoldD × List RowD
  | [] => (f, rows)
  | b :: l => match (next f b).2.2 with | true => allF (next f b).1 (rows ++ [(next f b).2.1]) l | false => allF f rows l

theorem next_doc {f : FoldD} {b : BatchD} (h : DocOk f.d) (hb : BatOk b) : DocOk (next f b).1.d := by
  unfold next
  cases nextB f b with
  | true => exact applyL_ok h hb.ops
  | false => exact h

theorem next_no {f : FoldD} {b : BatchD} (h : (next f b).2.2 = false) : (next f b).1 = f := by
  unfold next at *
  cases hb : nextB f b with
  | true => rw [hb] at h; cases h
  | false => rfl

end Go.Proofs.YthpenehgfogloaaDoor.Sw

/-
  Views: the walks of package replay.
-/
set_option linter.unusedVariables false
set_option maxRecDepth 10000
namespace Go.Proofs.YthpenehgfogloaaDoor.Sw
open Go.RowKit Go.Sx

/-- What waits is played: the document and what came of each. -/
def playL (d : Dm) : List BatchD → Dm × List Int
  | [] => (d, [])
  | b :: l => ((playL (applyL d b.l).2 l).1, (applyL d b.l).1 :: (playL (applyL d b.l).2 l).2)
theorem playL_snoc : ∀ (l : List BatchD) (d : Dm) (b : BatchD), playL d (l ++ [b]) = ((applyL (playL d l).1 b.l).2, (playL d l).2 ++ [(applyL (playL d l).1 b.l).1])
  | [], d, b => rfl
  | x :: l, d, b => by
    show ((playL (applyL d x.l).2 (l ++ [b])).1, (applyL d x.l).1 :: (playL (applyL d x.l).2 (l ++ [b])).2) = _
    rw [playL_snoc l]
    rfl
theorem playL_len : ∀ (l : List BatchD) (d : Dm), (playL d l).2.length = l.length
  | [], d => rfl
  | x :: l, d => by
    show (_ :: (playL (applyL d x.l).2 l).2).length = _
    rw [List.length_cons, playL_len l]
    rfl
theorem playL_fine : ∀ {l : List BatchD} {d : Dm}, DocFine d → (∀ b ∈ l, BatOk b) → DocFine (playL d l).1
  | [], d, h, _ => h
  | x :: l, d, h, hb => playL_fine (l := l) (applyL_fine h (hb x (by simp)).ops) fun b hbl => hb b (by simp [hbl])
/-- A view behind a pointer. -/
def ViewAt (p : Nat) (d : Dm) (es : List Int) : Res := Ex fun x : Nat × Value => Cells p [.pointer (some ⟨x.1, 0, none⟩), x.2] 67 :: DocAt x.1 d :: Sx.Own 40 1 x.2 es.length (es.map (Value.int .i64)) :: []
section
variable {G p c : Nat} {w W : World} {R : List Res} {d : Dm} {es : List Int} {v : Value}
theorem viewShut (h : Has G w W (Cells p [.pointer (some ⟨c, 0, none⟩), v] 67 :: DocAt c d :: Sx.Own 40 1 v es.length (es.map (Value.int .i64)) :: R)) : Has G w W (ViewAt p d es :: R) := Has.shut (c, v) h
theorem viewOpen (h : Has G w W (ViewAt p d es :: R)) : ∃ c ad cap, Has G w W (Cells p [.pointer (some ⟨c, 0, none⟩), .slice ad es.length cap] 67 :: DocAt c d :: Sx.Own 40 1 (.slice ad es.length cap) es.length (es.map (Value.int .i64)) :: R) := by
  obtain ⟨⟨c, v⟩, h⟩ := Has.open h
  have h : Has G w W (Cells p [.pointer (some ⟨c, 0, none⟩), v] 67 :: DocAt c d :: Sx.Own 40 1 v es.length (es.map (Value.int .i64)) :: R) := h
  obtain ⟨ad, cap, rfl⟩ : ∃ ad cap, v = .slice ad es.length cap := by
    obtain ⟨_, ad, cap, e, _⟩ := h.rd_own (In.tl (In.tl In.hd))
    exact ⟨ad, cap, e⟩
  exact ⟨c, ad, cap, h⟩
end
/-- What a view is made on: a document, or none. -/
def BaseAt (bp : Option Nat) (d : Dm) : Res := match bp with | none => Free | some p => DocAt p d
abbrev ptrV (bp : Option Nat) : Value := .pointer (bp.map fun p => (⟨p, 0, none⟩ : Addr))

theorem doc_CopyB (w0 W : World) (bp : Option Nat) (d : Dm) (R : List Res) (hw : Has 0 w0 W (BaseAt bp d :: R)) :
    Calls Tryd.prog 32 ⟨[ptrV bp]⟩ W fun e W' => ∃ cp, e = .returned (ptrV cp) ∧ (cp = none → bp = none) ∧ Has 0 w0 W' (BaseAt cp d :: BaseAt bp d :: R) := by
  cases bp with
  | none =>
    refine (doc_Copy0 W).mono ?_
    rintro e W' ⟨rfl, hb⟩
    exact ⟨none, rfl, fun _ => rfl, (hw.below hb).free⟩
  | some p =>
    refine (doc_Copy w0 W p d R hw).mono ?_
    rintro e W' ⟨c, rfl, hw⟩
    exact ⟨some c, rfl, (fun h => by cases h), hw⟩

set_option maxHeartbeats 16000000 in
theorem replay_New (w0 W : World) (H : Fh) (bp : Option Nat) (d0 : Dm) (l : List BatchD) (v : Value) (R : List Res) (h0 : bp = none → d0 = []) (hb : ∀ b ∈ l, BatOk b) (hl : l.length ≤ 1000) (hr : BatsH H v l) (hH : (fr w0).le H) (hT : Tabs w0) (hw : Has 0 w0 W (BaseAt bp d0 :: Fz H :: R)) :
    Calls Tryd.prog 11 ⟨[ptrV bp, v]⟩ W fun e W' => ∃ q, e = .returned (.pointer (some ⟨q, 0, none⟩)) ∧ Has 0 w0 W' (ViewAt q (playL d0 l).1 (playL d0 l).2 :: BaseAt bp d0 :: Fz H :: R) := by
  obtain ⟨ys, hys, hch⟩ := hr
  obtain ⟨sad, scap, rfl⟩ := hys.slice
  refine enter Tryd.func11 Tryd.ntmps11 rfl rfl fun a hs => ?_
  repeat (first | (refine sxv hs hw ?_; clear hs; intro a hs) | refine sxc hs ?_ | (refine sxa hs hw ?_; clear hs hw; intro a b W hw hs) | (refine sxs hs hw ?_; clear hs hw; intro W hs hw) | ((with_reducible first | refine st_ptrSome hs (k := ?_) | refine st_ptrNone hs (k := ?_)); clear hs; intro a hs))
  refine st_call hs (hc := doc_CopyB w0 _ bp d0 _ hw) (k := ?_); rintro e0 W1 ⟨cp, rfl, hcp, hw1⟩; refine ⟨_, rfl, ?_⟩; clear hs hw; intro a hs; have hw := hw1; clear hw1
  repeat (first | (refine sxv hs hw ?_; clear hs; intro a hs) | refine sxn hs ?_ | (refine sxa hs hw ?_; clear hs hw; intro a b W hw hs) | (refine sxs hs hw ?_; clear hs hw; intro W hs hw))
  obtain ⟨q, q1⟩ := nm1 hw; subst q1
  refine sq ?_
  refine merge (M := fun a W => ∃ c, Slots a 45 [(1, .slice sad l.length scap), (5, .pointer (some ⟨q, 0, none⟩))] ∧ Has 0 w0 W (Cells q [.pointer (some ⟨c, 0, none⟩), .slice none 0 0] 67 :: DocAt c d0 :: BaseAt bp d0 :: Fz H :: R)) ?_ ?_
  · cases cp with
    | none =>
      obtain rfl := h0 (hcp rfl)
      simp only [ptrV, Option.map_none] at hs hw
      repeat (first | (refine sxv hs hw ?_; clear hs; intro a hs) | refine sxc hs ?_ | (refine sxa hs hw ?_; clear hs hw; intro a b W hw hs) | (refine sxs hs hw ?_; clear hs hw; intro W hs hw) | ((with_reducible first | refine st_ptrSome hs (k := ?_) | refine st_ptrNone hs (k := ?_)); clear hs; intro a hs))
      refine st_call hs (hc := doc_New w0 _ _ hw) (k := ?_); rintro e0 W1 ⟨c, rfl, hw1⟩; refine ⟨_, rfl, ?_⟩; clear hs hw; intro a hs; have hw := hw1; clear hw1
      repeat (first | (refine sxv hs hw ?_; clear hs; intro a hs) | refine sxc hs ?_ | (refine sxa hs hw ?_; clear hs hw; intro a b W hw hs) | (refine sxs hs hw ?_; clear hs hw; intro W hs hw) | ((with_reducible first | refine st_ptrSome hs (k := ?_) | refine st_ptrNone hs (k := ?_)); clear hs; intro a hs))
      have hw : Has 0 w0 _ (Free :: Cells q [.pointer (some ⟨c, 0, none⟩), .slice none 0 0] 67 :: DocAt c [] :: BaseAt bp [] :: Fz H :: R) := hw.perm (by repeat (first | exact List.Perm.refl _ | refine perm_pick (by repeat (first | exact Pick.hd | apply Pick.tl)) ?_))
      exact ⟨c, hs.of ⟨rfl, rfl, trivial⟩, hw.sub (List.Sublist.cons _ (List.Sublist.refl _))⟩
    | some c =>
      simp only [ptrV, Option.map_some] at hs hw
      repeat (first | (refine sxv hs hw ?_; clear hs; intro a hs) | refine sxc hs ?_ | (refine sxa hs hw ?_; clear hs hw; intro a b W hw hs) | (refine sxs hs hw ?_; clear hs hw; intro W hs hw) | ((with_reducible first | refine st_ptrSome hs (k := ?_) | refine st_ptrNone hs (k := ?_)); clear hs; intro a hs))
      exact ⟨c, hs.of ⟨rfl, rfl, trivial⟩, hw⟩
  clear hs hw
  rintro a W ⟨c, hs, hw⟩
  have hw := hw.nilOwn 40 1
  have hw : Has 0 w0 _ (Cells q [.pointer (some ⟨c, 0, none⟩), .slice none 0 0] 67 :: DocAt c d0 :: Sx.Own 40 1 (.slice none 0 0) ([] : List Int).length (([] : List Int).map (Value.int .i64)) :: BaseAt bp d0 :: Fz H :: R) := hw.perm (by repeat (first | exact List.Perm.refl _ | refine perm_pick (by repeat (first | exact Pick.hd | apply Pick.tl)) ?_))
  have hw := viewShut hw
  repeat (first | (refine sxv hs hw ?_; clear hs; intro a hs) | refine sxc hs ?_ | (refine sxa hs hw ?_; clear hs hw; intro a b W hw hs) | (refine sxs hs hw ?_; clear hs hw; intro W hs hw) | ((with_reducible first | refine st_ptrSome hs (k := ?_) | refine st_ptrNone hs (k := ?_)); clear hs; intro a hs))
  refine st_loop (σ := Nat) (fun i => [(5, .pointer (some ⟨q, 0, none⟩)), (21, .slice sad l.length scap), (22, .int .i64 (l.length : Int)), (23, .int .i64 (i : Int))]) (fun i => ViewAt q (playL d0 (l.take i)).1 (playL d0 (l.take i)).2 :: BaseAt bp d0 :: Fz H :: R) (fun i => i ≤ l.length) (fun i => l.length - i) 0 (Nat.zero_le _) hs ⟨rfl, rfl, rfl, rfl, trivial⟩ hw ?_
  clear hs hw
  rintro i a W hi hs hw
  repeat (first | (refine sxv hs hw ?_; clear hs; intro a hs) | refine sxc hs ?_ | (refine sxa hs hw ?_; clear hs hw; intro a b W hw hs) | (refine sxs hs hw ?_; clear hs hw; intro W hs hw) | ((with_reducible first | refine st_ptrSome hs (k := ?_) | refine st_ptrNone hs (k := ?_)); clear hs; intro a hs))
  refine cd_split hs (kt := fun hcc => ?_) (kf := fun hcc => ?_)
  · have hi' : i < l.length := by simpa using hcc
    obtain ⟨b, hbi⟩ : ∃ o, l[i]? = some o := ⟨l[i], List.getElem?_eq_getElem hi'⟩
    have hbk := hb b (List.mem_of_getElem? hbi)
    have hnx := playL_snoc (l.take i) d0 b
    have hpl := playL_len (l.take i) d0
    have htl : (l.take i).length = i := by rw [List.length_take]; omega
    rw [show l.take i ++ [b] = l.take (i + 1) from by rw [List.take_add_one, hbi]; rfl] at hnx
    generalize playL d0 (l.take i) = A at *
    obtain ⟨d, es⟩ := A
    simp only at hnx hpl hw
    repeat (first | (refine sxv hs hw ?_; clear hs; intro a hs) | refine sxc hs ?_ | (refine sxa hs hw ?_; clear hs hw; intro a b W hw hs) | (refine sxs hs hw ?_; clear hs hw; intro W hs hw) | ((with_reducible first | refine st_ptrSome hs (k := ?_) | refine st_ptrNone hs (k := ?_)); clear hs; intro a hs))
    refine st_index_ch hs (r := hw.rdH (In.tl (In.tl In.hd)) hys) (hk := BatIn.len) (ch := hch) (ho := hbi) (hlen := rfl) (c := ?_); clear hs; intro a g off cc hc hcl hpc hlt hs
    obtain ⟨ov, rfl, hov⟩ := hc
    refine st_load_ats hs (cs := batCells b ov) (hc := hpc) (hl := by rfl) (c := ?_); clear hs; intro a hs
    clear hpc
    obtain ⟨oad, ocap, rfl⟩ := hov.slice
    repeat (first | (refine sxv hs hw ?_; clear hs; intro a hs) | refine sxc hs ?_ | (refine sxa hs hw ?_; clear hs hw; intro a b W hw hs) | (refine sxs hs hw ?_; clear hs hw; intro W hs hw) | ((with_reducible first | refine st_ptrSome hs (k := ?_) | refine st_ptrNone hs (k := ?_)); clear hs; intro a hs))
    obtain ⟨b7, q7⟩ := nm1 hw; subst q7
    obtain ⟨c, ead, ecap, hw⟩ := viewOpen hw.swap2
    have hw : Has 0 w0 _ (Cells q [.pointer (some ⟨c, 0, none⟩), .slice ead es.length ecap] 67 :: Sx.Own 40 1 (.slice ead es.length ecap) es.length (es.map (Value.int .i64)) :: Free :: DocAt c d :: Cells b7 (batCells b (.slice oad b.l.length ocap)) 38 :: BaseAt bp d0 :: Fz H :: R) := hw.free.perm (by repeat (first | exact List.Perm.refl _ | refine perm_pick (by repeat (first | exact Pick.hd | apply Pick.tl)) ?_))
    generalize hap : applyL d b.l = Z at hnx
    refine rg_drawU (σ := Option Addr × Nat) (V := fun u => [.pointer (some ⟨q, 0, none⟩), .pointer (some ⟨q, 0, none⟩), .pointer (some ⟨q, 0, none⟩), .pointer (some ⟨q, 0 + 1, none⟩), .slice ead es.length ecap, .pointer (some ⟨q, 0, none⟩), .pointer (some ⟨q, 0, none⟩), .pointer (some ⟨q, 0 + 0, none⟩), .pointer (some ⟨c, 0, none⟩), .pointer (some ⟨b7, 0 + 2, none⟩), .slice oad b.l.length ocap, .int .i64 Z.1, .slice (some ⟨(u 12).2, 0, none⟩) 1 1, .slice (u 13).1 (es ++ [Z.1]).length (u 13).2, .pointer (some ⟨q, 0, none⟩), .pointer (some ⟨q, 0 + 1, none⟩), undef])
      (Rs := fun u D => Cells q [.pointer (some ⟨c, 0, none⟩), (if D 16 then .slice (u 13).1 (es ++ [Z.1]).length (u 13).2 else .slice ead es.length ecap)] 67 :: (if D 13 then Sx.Own 40 1 (.slice (u 13).1 (es ++ [Z.1]).length (u 13).2) (es ++ [Z.1]).length (es.map (Value.int .i64) ++ [.int .i64 Z.1]) else Sx.Own 40 1 (.slice ead es.length ecap) es.length (es.map (Value.int .i64))) :: (if D 12 then Cells (u 12).2 [.int .i64 Z.1] 40 else Free) :: (if D 11 then DocAt c Z.2 else DocAt c d) :: Cells b7 (batCells b (.slice oad b.l.length ocap)) 38 :: BaseAt bp d0 :: Fz H :: R) (fun _ => (none, 0)) hs hw (hVu := ?vu_6) (ho := ⟨?_, ?_, ?_, ?_, ?c4_6, ?_, ?_, ?_, ?c8_6, ?_, ?_, ?c11_6, ?c12_6, ?c13_6, ?_, ?_, ?c16_6, trivial⟩) (k := ?k_6)
    case vu_6 =>
      intro u u' j h
      rcases j with _ | _ | _ | _ | _ | _ | _ | _ | _ | _ | _ | _ | _ | _ | _ | _ | _ | j
      all_goals first | rfl | simp [h]
    case c4_6 =>
      intro u LD D a W hcl hi hp hs hw
      have h13 := Go.Sx.not_done hcl hi 13 (by kernel_rfl)
      have h16 := Go.Sx.not_done hcl h13 16 (by kernel_rfl)
      have hw0 := hw
      simp only [h16, Bool.false_eq_true, if_false] at hw
      repeat (first | (refine sxv hs hw ?_; clear hs; intro a hs) | refine sxc hs ?_ | (refine sxa hs hw ?_; clear hs hw; intro a b W hw hs) | (refine sxs hs hw ?_; clear hs hw; intro W hs hw) | ((with_reducible first | refine st_ptrSome hs (k := ?_) | refine st_ptrNone hs (k := ?_)); clear hs; intro a hs))
      exact Or.inl ⟨hs, hw0⟩
    case c8_6 =>
      intro u LD D a W hcl hi hp hs hw
      have hw0 := hw
      repeat (first | (refine sxv hs hw ?_; clear hs; intro a hs) | refine sxc hs ?_ | (refine sxa hs hw ?_; clear hs hw; intro a b W hw hs) | (refine sxs hs hw ?_; clear hs hw; intro W hs hw) | ((with_reducible first | refine st_ptrSome hs (k := ?_) | refine st_ptrNone hs (k := ?_)); clear hs; intro a hs))
      exact Or.inl ⟨hs, hw0⟩
    case c11_6 =>
      intro u LD D a W hcl hi hp hs hw
      have h12 := Go.Sx.not_done hcl hi 12 (by kernel_rfl)
      have h13 := Go.Sx.not_done hcl h12 13 (by kernel_rfl)
      have h16 := Go.Sx.not_done hcl h13 16 (by kernel_rfl)
      simp only [hi, h12, h13, h16, Bool.false_eq_true, if_false] at hw
      repeat (first | (refine sxv hs hw ?_; clear hs; intro a hs) | refine sxc hs ?_ | (refine sxa hs hw ?_; clear hs hw; intro a b W hw hs) | (refine sxs hs hw ?_; clear hs hw; intro W hs hw) | ((with_reducible first | refine st_ptrSome hs (k := ?_) | refine st_ptrNone hs (k := ?_)); clear hs; intro a hs))
      have hw : Has 0 w0 W (DocAt c d :: Cells q [.pointer (some ⟨c, 0, none⟩), .slice ead es.length ecap] 67 :: Sx.Own 40 1 (.slice ead es.length ecap) es.length (es.map (Value.int .i64)) :: Free :: Cells b7 (batCells b (.slice oad b.l.length ocap)) 38 :: BaseAt bp d0 :: Fz H :: R) := hw.perm (by repeat (first | exact List.Perm.refl _ | refine perm_pick (by repeat (first | exact Pick.hd | apply Pick.tl)) ?_))
      refine st_call hs (hc := doc_ApplyL w0 _ H c d b.l _ _ hbk.ops hov (by repeat (first | exact In.hd | apply In.tl)) hH hT hw) (k := ?_); rintro e0 W1 ⟨rfl, hw1⟩; refine ⟨_, rfl, ?_⟩; clear hs hw; intro a hs; have hw := hw1; clear hw1
      rw [hap] at hs hw
      repeat (first | (refine sxv hs hw ?_; clear hs; intro a hs) | refine sxc hs ?_ | (refine sxa hs hw ?_; clear hs hw; intro a b W hw hs) | (refine sxs hs hw ?_; clear hs hw; intro W hs hw) | ((with_reducible first | refine st_ptrSome hs (k := ?_) | refine st_ptrNone hs (k := ?_)); clear hs; intro a hs))
      refine Or.inl ⟨hs, ?_⟩
      show Has 0 w0 _ (Cells q [_, (if (Nat.beq 16 11 || D 16) = true then _ else _)] _ :: (if (Nat.beq 13 11 || D 13) = true then _ else _) :: (if (Nat.beq 12 11 || D 12) = true then _ else _) :: _)
      rw [h12, h13, h16]
      exact hw.perm (by repeat (first | exact List.Perm.refl _ | refine perm_pick (by repeat (first | exact Pick.hd | apply Pick.tl)) ?_))
    case c12_6 =>
      intro u LD D a W hcl hi hp hs hw
      have h11 := Go.Sx.done hp 11 (by kernel_rfl)
      have h13 := Go.Sx.not_done hcl hi 13 (by kernel_rfl)
      have h16 := Go.Sx.not_done hcl h13 16 (by kernel_rfl)
      simp only [hi, h11, h13, h16, Bool.false_eq_true, if_false, if_true] at hw
      repeat (first | (refine sxv hs hw ?_; clear hs; intro a hs) | refine sxc hs ?_ | (refine sxa hs hw ?_; clear hs hw; intro a b W hw hs) | (refine sxs hs hw ?_; clear hs hw; intro W hs hw) | ((with_reducible first | refine st_ptrSome hs (k := ?_) | refine st_ptrNone hs (k := ?_)); clear hs; intro a hs))
      refine Or.inr ⟨(none, _), hs, ?_⟩
      show Has 0 w0 _ (Cells q [_, (if (Nat.beq 16 12 || D 16) = true then _ else _)] _ :: (if (Nat.beq 13 12 || D 13) = true then _ else _) :: _ :: (if (Nat.beq 11 12 || D 11) = true then _ else _) :: _)
      rw [h11, h13, h16]
      exact hw.fill (Upd.tl (Upd.tl Upd.hd))
    case c13_6 =>
      intro u LD D a W hcl hi hp hs hw
      have h12 := Go.Sx.done hp 12 (by kernel_rfl)
      have h11 := Go.Sx.done (hcl 12 _ rfl h12) 11 (by kernel_rfl)
      have h16 := Go.Sx.not_done hcl hi 16 (by kernel_rfl)
      simp only [hi, h11, h12, h16, Bool.false_eq_true, if_false, if_true] at hw
      have hw : Has 0 w0 W (Sx.Own 40 1 (.slice ead es.length ecap) es.length (es.map (Value.int .i64)) :: Cells q [.pointer (some ⟨c, 0, none⟩), .slice ead es.length ecap] 67 :: Cells (u 12).2 [.int .i64 Z.1] 40 :: DocAt c Z.2 :: Cells b7 (batCells b (.slice oad b.l.length ocap)) 38 :: BaseAt bp d0 :: Fz H :: R) := hw.perm (by repeat (first | exact List.Perm.refl _ | refine perm_pick (by repeat (first | exact Pick.hd | apply Pick.tl)) ?_))
      refine st_append1 hs (hw := hw) (hi := In.tl In.hd) (ch := chMap (Value.int .i64) es) (ha := (rfl : [Value.int .i64 Z.1] = [Value.int .i64 Z.1])) (hl := rfl) (h1 := rfl) (hb := by omega) (h63 := by omega) (k := ?_)
      clear hs hw; intro a ad cap W hs hw hc2
      repeat (first | (refine sxv hs hw ?_; clear hs; intro a hs) | refine sxc hs ?_ | (refine sxa hs hw ?_; clear hs hw; intro a b W hw hs) | (refine sxs hs hw ?_; clear hs hw; intro W hs hw) | ((with_reducible first | refine st_ptrSome hs (k := ?_) | refine st_ptrNone hs (k := ?_)); clear hs; intro a hs))
      refine Or.inr ⟨(ad, cap), hs, ?_⟩
      show Has 0 w0 _ (Cells q [_, (if (Nat.beq 16 13 || D 16) = true then _ else _)] _ :: _ :: (if (Nat.beq 12 13 || D 12) = true then _ else _) :: (if (Nat.beq 11 13 || D 11) = true then _ else _) :: _)
      rw [h11, h12, h16]
      exact hw.perm (by repeat (first | exact List.Perm.refl _ | refine perm_pick (by repeat (first | exact Pick.hd | apply Pick.tl)) ?_))
    case c16_6 =>
      intro u LD D a W hcl hi hp hs hw
      have h13 := Go.Sx.done hp 13 (by kernel_rfl)
      simp only [hi, h13, Bool.false_eq_true, if_false, if_true] at hw
      repeat (first | (refine sxv hs hw ?_; clear hs; intro a hs) | refine sxc hs ?_ | (refine sxa hs hw ?_; clear hs hw; intro a b W hw hs) | (refine sxs hs hw ?_; clear hs hw; intro W hs hw) | ((with_reducible first | refine st_ptrSome hs (k := ?_) | refine st_ptrNone hs (k := ?_)); clear hs; intro a hs))
      refine Or.inl ⟨hs, ?_⟩
      show Has 0 w0 _ (_ :: (if (Nat.beq 13 16 || D 13) = true then _ else _) :: _)
      rw [h13]
      exact hw
    case k_6 =>
      clear hs hw
      intro u a W hs hw
      replace hw : Has 0 w0 W (Cells q [.pointer (some ⟨c, 0, none⟩), .slice (u 13).1 (es ++ [Z.1]).length (u 13).2] 67 :: Sx.Own 40 1 (.slice (u 13).1 (es ++ [Z.1]).length (u 13).2) (es ++ [Z.1]).length (es.map (Value.int .i64) ++ [.int .i64 Z.1]) :: Cells (u 12).2 [.int .i64 Z.1] 40 :: DocAt c Z.2 :: Cells b7 (batCells b (.slice oad b.l.length ocap)) 38 :: BaseAt bp d0 :: Fz H :: R) := hw
      replace hs : Slots a 45 [(5, .pointer (some ⟨q, 0, none⟩)), (21, .slice sad l.length scap), (22, .int .i64 (l.length : Int)), (23, .int .i64 (i : Int))] := hs.of ⟨rfl, rfl, rfl, rfl, trivial⟩
      generalize (u 13).1 = ad at *
      generalize (u 13).2 = cap at *
      generalize (u 12).2 = bx at *
      clear u
      rw [show es.map (Value.int .i64) ++ [Value.int .i64 Z.1] = (es ++ [Z.1]).map (Value.int .i64) from by simp] at hw
      have hw : Has 0 w0 W (Cells bx [.int .i64 Z.1] 40 :: Cells b7 (batCells b (.slice oad b.l.length ocap)) 38 :: Cells q [.pointer (some ⟨c, 0, none⟩), .slice ad (es ++ [Z.1]).length cap] 67 :: DocAt c Z.2 :: Sx.Own 40 1 (.slice ad (es ++ [Z.1]).length cap) (es ++ [Z.1]).length ((es ++ [Z.1]).map (Value.int .i64)) :: BaseAt bp d0 :: Fz H :: R) := hw.perm (by repeat (first | exact List.Perm.refl _ | refine perm_pick (by repeat (first | exact Pick.hd | apply Pick.tl)) ?_))
      have hw := viewShut (hw.sub (List.Sublist.cons _ (List.Sublist.cons _ (List.Sublist.refl _))))
      repeat (first | (refine sxv hs hw ?_; clear hs; intro a hs) | refine sxc hs ?_ | (refine sxa hs hw ?_; clear hs hw; intro a b W hw hs) | (refine sxs hs hw ?_; clear hs hw; intro W hs hw) | ((with_reducible first | refine st_ptrSome hs (k := ?_) | refine st_ptrNone hs (k := ?_)); clear hs; intro a hs))
      have e1 : Z.2 = (playL d0 (l.take (i + 1))).1 := by rw [hnx]
      have e2 : es ++ [Z.1] = (playL d0 (l.take (i + 1))).2 := by rw [hnx]
      rw [e1, e2] at hw
      exact st_again (i + 1) hs hw hi' (by show l.length - (i + 1) < l.length - i; omega) ⟨rfl, rfl, rfl, int_eq (by show IntKind.i64.wrap ((i : Int) + 1) = ((i + 1 : Nat) : Int); rw [IntWalk.i64_in _ (by omega)]; omega), trivial⟩
    all_goals
      intro u LD D a W hcl hi hp hs hw
      repeat (first | (refine sxv hs hw ?_; clear hs; intro a hs) | refine sxc hs ?_ | (refine sxa hs hw ?_; clear hs hw; intro a b W hw hs) | (refine sxs hs hw ?_; clear hs hw; intro W hs hw) | ((with_reducible first | refine st_ptrSome hs (k := ?_) | refine st_ptrNone hs (k := ?_)); clear hs; intro a hs))
      exact Or.inl ⟨hs, hw⟩
  · have hi' : i = l.length := by have : ¬ i < l.length := by simpa using hcc
                                  omega
    subst hi'
    rw [List.take_length] at hw
    repeat (first | (refine sxv hs hw ?_; clear hs; intro a hs) | refine sxc hs ?_ | (refine sxa hs hw ?_; clear hs hw; intro a b W hw hs) | (refine sxs hs hw ?_; clear hs hw; intro W hs hw) | ((with_reducible first | refine st_ptrSome hs (k := ?_) | refine st_ptrNone hs (k := ?_)); clear hs; intro a hs))
    exact rt1 hs rfl rfl ⟨q, rfl, hw⟩

set_option maxHeartbeats 4000000 in
theorem clone_errs (w0 W : World) (es : List Int) (sv : Value) (R : List Res) (hl : es.length ≤ 1000) (hw : Has 0 w0 W (Sx.Own 40 1 sv es.length (es.map (Value.int .i64)) :: R)) :
    Calls Tryd.prog 33 ⟨[sv]⟩ W fun e W' => ∃ sv', e = .returned sv' ∧ Has 0 w0 W' (Sx.Own 40 1 sv' es.length (es.map (Value.int .i64)) :: Sx.Own 40 1 sv es.length (es.map (Value.int .i64)) :: R) := by
  obtain ⟨sad, scap, rfl⟩ := hw.own_slice
  refine enter Tryd.func33 Tryd.ntmps33 rfl rfl fun a hs => ?_
  repeat (first | (refine sxv hs hw ?_; clear hs; intro a hs) | refine sxc hs ?_ | (refine sxa hs hw ?_; clear hs hw; intro a b W hw hs) | (refine sxs hs hw ?_; clear hs hw; intro W hs hw))
  refine st_eqnil hs (c := ?_); clear hs; intro a hs
  cases sad with
  | none =>
    repeat (first | (refine sxv hs hw ?_; clear hs; intro a hs) | refine sxc hs ?_ | (refine sxa hs hw ?_; clear hs hw; intro a b W hw hs) | (refine sxs hs hw ?_; clear hs hw; intro W hs hw))
    have h0 : es = [] := by
      obtain ⟨_, ad, cap, e, _, _, h | ⟨b, o, h, _⟩⟩ := hw.rd_own In.hd
      · exact List.eq_nil_of_length_eq_zero h
      · injection e with e1 _ _
        rw [← e1] at h; cases h
    subst h0
    exact rt1 hs rfl rfl ⟨_, rfl, hw.nilOwn 40 1⟩
  | some A =>
    rw [show (some A).isNone = false from rfl] at hs
    repeat (first | (refine sxv hs hw ?_; clear hs; intro a hs) | refine sxc hs ?_ | (refine sxa hs hw ?_; clear hs hw; intro a b W hw hs) | (refine sxs hs hw ?_; clear hs hw; intro W hs hw))
    refine st_buildSlice0 hs hw (c := ?_); clear hs hw; intro a ad W hw hs
    repeat (first | (refine sxv hs hw ?_; clear hs; intro a hs) | refine sxc hs ?_ | (refine sxa hs hw ?_; clear hs hw; intro a b W hw hs) | (refine sxs hs hw ?_; clear hs hw; intro W hs hw))
    refine st_append hs (hw := hw) (k := 0) (m := es.length) (xs := []) (news := es.map (Value.int .i64)) (hsrc := src_rd (hw.rd_own (In.tl In.hd)) (by intro x hx; obtain ⟨y, _, rfl⟩ := List.mem_map.1 hx; rfl)) (h63 := by omega) (hb := by omega) (c := ?_)
    clear hs hw; intro a ad2 cap2 W hs hw
    repeat (first | (refine sxv hs hw ?_; clear hs; intro a hs) | refine sxc hs ?_ | (refine sxa hs hw ?_; clear hs hw; intro a b W hw hs) | (refine sxs hs hw ?_; clear hs hw; intro W hs hw))
    rw [List.nil_append, Nat.zero_add] at hw
    rw [Nat.zero_add] at hs
    exact rt1 hs rfl rfl ⟨_, rfl, hw⟩

set_option maxHeartbeats 4000000 in
theorem view_Errs (w0 W : World) (p : Nat) (d : Dm) (es : List Int) (R : List Res) (hl : es.length ≤ 1000) (hw : Has 0 w0 W (ViewAt p d es :: R)) :
    Calls Tryd.prog 14 ⟨[.pointer (some ⟨p, 0, none⟩)]⟩ W fun e W' => ∃ sv, e = .returned sv ∧ Has 0 w0 W' (Sx.Own 40 1 sv es.length (es.map (Value.int .i64)) :: ViewAt p d es :: R) := by
  obtain ⟨c, ead, ecap, hw⟩ := viewOpen hw
  refine enter Tryd.func14 Tryd.ntmps14 rfl rfl fun a hs => ?_
  repeat (first | (refine sxv hs hw ?_; clear hs; intro a hs) | refine sxc hs ?_ | (refine sxa hs hw ?_; clear hs hw; intro a b W hw hs) | (refine sxs hs hw ?_; clear hs hw; intro W hs hw) | ((with_reducible first | refine st_ptrSome hs (k := ?_) | refine st_ptrNone hs (k := ?_)); clear hs; intro a hs))
  have hw : Has 0 w0 _ (Sx.Own 40 1 (.slice ead es.length ecap) es.length (es.map (Value.int .i64)) :: Cells p [.pointer (some ⟨c, 0, none⟩), .slice ead es.length ecap] 67 :: DocAt c d :: R) := hw.perm (by repeat (first | exact List.Perm.refl _ | refine perm_pick (by repeat (first | exact Pick.hd | apply Pick.tl)) ?_))
  refine st_call hs (hc := clone_errs w0 _ es _ _ hl hw) (k := ?_); rintro e0 W1 ⟨sv, rfl, hw1⟩; refine ⟨_, rfl, ?_⟩; clear hs hw; intro a hs; have hw := hw1; clear hw1
  repeat (first | (refine sxv hs hw ?_; clear hs; intro a hs) | refine sxc hs ?_ | (refine sxa hs hw ?_; clear hs hw; intro a b W hw hs) | (refine sxs hs hw ?_; clear hs hw; intro W hs hw) | ((with_reducible first | refine st_ptrSome hs (k := ?_) | refine st_ptrNone hs (k := ?_)); clear hs; intro a hs))
  refine rt1 hs rfl rfl ⟨sv, rfl, ?_⟩
  have hw : Has 0 w0 _ (Cells p [.pointer (some ⟨c, 0, none⟩), .slice ead es.length ecap] 67 :: DocAt c d :: Sx.Own 40 1 (.slice ead es.length ecap) es.length (es.map (Value.int .i64)) :: Sx.Own 40 1 sv es.length (es.map (Value.int .i64)) :: R) := hw.perm (by repeat (first | exact List.Perm.refl _ | refine perm_pick (by repeat (first | exact Pick.hd | apply Pick.tl)) ?_))
  exact (viewShut hw).swap2
set_option maxHeartbeats 4000000 in
theorem view_Errs0 (W : World) : Calls Tryd.prog 14 ⟨[.pointer none]⟩ W fun e W' => e = .returned (.slice none 0 0) ∧ Below W.heap.size W W' := by
  have hw := Has.start (G := 0) (w := W) (Nat.zero_le _)
  refine enter Tryd.func14 Tryd.ntmps14 rfl rfl fun a hs => ?_
  repeat (first | (refine sxv hs hw ?_; clear hs; intro a hs) | refine sxc hs ?_ | (refine sxa hs hw ?_; clear hs hw; intro a b W hw hs) | (refine sxs hs hw ?_; clear hs hw; intro W hs hw) | ((with_reducible first | refine st_ptrSome hs (k := ?_) | refine st_ptrNone hs (k := ?_)); clear hs; intro a hs))
  exact rt1 hs rfl rfl ⟨rfl, hw.end (by repeat (first | exact In.hd | apply In.tl))⟩
set_option maxHeartbeats 4000000 in
theorem view_Doc (w0 W : World) (p : Nat) (d : Dm) (es : List Int) (R : List Res) (hw : Has 0 w0 W (ViewAt p d es :: R)) :
    Calls Tryd.prog 15 ⟨[.pointer (some ⟨p, 0, none⟩)]⟩ W fun e W' => ∃ q, e = .returned (.pointer (some ⟨q, 0, none⟩)) ∧ Has 0 w0 W' (DocAt q d :: ViewAt p d es :: R) := by
  obtain ⟨c, ead, ecap, hw⟩ := viewOpen hw
  refine enter Tryd.func15 Tryd.ntmps15 rfl rfl fun a hs => ?_
  repeat (first | (refine sxv hs hw ?_; clear hs; intro a hs) | refine sxc hs ?_ | (refine sxa hs hw ?_; clear hs hw; intro a b W hw hs) | (refine sxs hs hw ?_; clear hs hw; intro W hs hw) | ((with_reducible first | refine st_ptrSome hs (k := ?_) | refine st_ptrNone hs (k := ?_)); clear hs; intro a hs))
  refine st_call hs (hc := doc_Copy w0 _ c d _ hw.swap2) (k := ?_); rintro e0 W1 ⟨q, rfl, hw1⟩; refine ⟨_, rfl, ?_⟩; clear hs hw; intro a hs; have hw := hw1; clear hw1
  repeat (first | (refine sxv hs hw ?_; clear hs; intro a hs) | refine sxc hs ?_ | (refine sxa hs hw ?_; clear hs hw; intro a b W hw hs) | (refine sxs hs hw ?_; clear hs hw; intro W hs hw) | ((with_reducible first | refine st_ptrSome hs (k := ?_) | refine st_ptrNone hs (k := ?_)); clear hs; intro a hs))
  refine rt1 hs rfl rfl ⟨q, rfl, ?_⟩
  have hw : Has 0 w0 _ (Cells p [.pointer (some ⟨c, 0, none⟩), .slice ead es.length ecap] 67 :: DocAt c d :: Sx.Own 40 1 (.slice ead es.length ecap) es.length (es.map (Value.int .i64)) :: DocAt q d :: R) := hw.perm (by repeat (first | exact List.Perm.refl _ | refine perm_pick (by repeat (first | exact Pick.hd | apply Pick.tl)) ?_))
  exact (viewShut hw).swap2
set_option maxHeartbeats 4000000 in
theorem view_Get (w0 W : World) (p : Nat) (d : Dm) (es : List Int) (k : ByteArray) (R : List Res) (hw : Has 0 w0 W (ViewAt p d es :: R)) :
    Calls Tryd.prog 12 ⟨[.pointer (some ⟨p, 0, none⟩), .string k]⟩ W fun e W' => e = .returned (.tuple ⟨[.agg ⟨rawCells (getK d k)⟩, .bool (getK d k).isSome]⟩) ∧ Has 0 w0 W' (ViewAt p d es :: R) := by
  obtain ⟨c, ead, ecap, hw⟩ := viewOpen hw
  refine enter Tryd.func12 Tryd.ntmps12 rfl rfl fun a hs => ?_
  repeat (first | (refine sxv hs hw ?_; clear hs; intro a hs) | refine sxc hs ?_ | (refine sxa hs hw ?_; clear hs hw; intro a b W hw hs) | (refine sxs hs hw ?_; clear hs hw; intro W hs hw) | ((with_reducible first | refine st_ptrSome hs (k := ?_) | refine st_ptrNone hs (k := ?_)); clear hs; intro a hs))
  obtain ⟨b4, q4⟩ := nm1 hw; subst q4
  have hw : Has 0 w0 _ (DocAt c d :: Cells b4 (rawCells none) 25 :: Cells p [.pointer (some ⟨c, 0, none⟩), .slice ead es.length ecap] 67 :: Sx.Own 40 1 (.slice ead es.length ecap) es.length (es.map (Value.int .i64)) :: R) := hw.perm (by repeat (first | exact List.Perm.refl _ | refine perm_pick (by repeat (first | exact Pick.hd | apply Pick.tl)) ?_))
  refine st_call hs (hc := doc_Get w0 _ c d k _ hw) (k := ?_); rintro e0 W1 ⟨rfl, hw1⟩; refine ⟨_, rfl, ?_⟩; clear hs hw; intro a hs; have hw := hw1; clear hw1
  repeat (first | (refine sxv hs hw ?_; clear hs; intro a hs) | refine sxc hs ?_ | (refine sxa hs hw ?_; clear hs hw; intro a b W hw hs) | (refine sxs hs hw ?_; clear hs hw; intro W hs hw) | ((with_reducible first | refine st_ptrSome hs (k := ?_) | refine st_ptrNone hs (k := ?_)); clear hs; intro a hs))
  refine rc2 hs rfl rfl hw (In.tl In.hd) rfl rfl ?_
  refine ⟨rfl, ?_⟩
  have hw : Has 0 w0 _ (Cells b4 (rawCells (getK d k)) 25 :: Cells p [.pointer (some ⟨c, 0, none⟩), .slice ead es.length ecap] 67 :: DocAt c d :: Sx.Own 40 1 (.slice ead es.length ecap) es.length (es.map (Value.int .i64)) :: R) := hw.perm (by repeat (first | exact List.Perm.refl _ | refine perm_pick (by repeat (first | exact Pick.hd | apply Pick.tl)) ?_))
  exact viewShut (hw.sub (List.Sublist.cons _ (List.Sublist.refl _)))
set_option maxHeartbeats 4000000 in
theorem view_Get0 (k : ByteArray) (W : World) : Calls Tryd.prog 12 ⟨[.pointer none, .string k]⟩ W fun e W' => e = .returned (.tuple ⟨[.agg ⟨rawCells none⟩, .bool false]⟩) ∧ Below W.heap.size W W' := by
  have hw := Has.start (G := 0) (w := W) (Nat.zero_le _)
  refine enter Tryd.func12 Tryd.ntmps12 rfl rfl fun a hs => ?_
  repeat (first | (refine sxv hs hw ?_; clear hs; intro a hs) | refine sxc hs ?_ | (refine sxa hs hw ?_; clear hs hw; intro a b W hw hs) | (refine sxs hs hw ?_; clear hs hw; intro W hs hw) | ((with_reducible first | refine st_ptrSome hs (k := ?_) | refine st_ptrNone hs (k := ?_)); clear hs; intro a hs))
  refine rc2 hs rfl rfl hw (In.hd) rfl rfl ?_
  exact ⟨rfl, hw.end (by repeat (first | exact In.hd | apply In.tl))⟩
end Go.Proofs.YthpenehgfogloaaDoor.Sw

/-
  The walks of packhorselaw23.begun and of ReplayNone.
-/
set_option linter.unusedVariables false
set_option maxRecDepth 10000
namespace Go.Proofs.YthpenehgfogloaaDoor.Sw
open Go.RowKit Go.Sx

abbrev add3 : OpD := ⟨4, ⟨#[110]⟩, 0, 0, ⟨#[]⟩, 0, 0, ⟨#[]⟩, 3⟩
abbrev b3 : BatchD := ⟨1, 1, [add3]⟩
abbrev d3 : Dm := [(⟨#[110]⟩, .inl 3)]
theorem play3 : playL [] [b3] = (d3, [0]) := by kernel_rfl
theorem add3_ok : ∀ o ∈ [add3], OpOk o := by
  intro o ho
  rw [List.mem_singleton] at ho
  subst ho
  exact ⟨⟨by decide, by decide⟩, ⟨by decide, by decide⟩, ⟨by decide, by decide⟩, ⟨by decide, by decide⟩, ⟨by decide, by decide⟩, ⟨by decide, by decide⟩, by decide, by decide, by decide⟩
theorem b3_ok : ∀ b ∈ [b3], BatOk b := by
  intro b hb
  rw [List.mem_singleton] at hb
  subst hb
  exact ⟨⟨by decide, by decide⟩, ⟨by decide, by decide⟩, add3_ok⟩
theorem d3_fine : DocFine d3 := by
  have h := playL_fine DocFine.nil b3_ok
  rwa [play3] at h
theorem getd3 : getK d3 ⟨#[110]⟩ = some (.inl 3) := by kernel_rfl

set_option maxHeartbeats 16000000 in
theorem law23_begun (w : World) (hT : Tabs w) :
    Calls Tryd.prog 13 ⟨[]⟩ w fun e w' => e = .returned (.bool true) ∧ Below w.heap.size w w' := by
  have hw := Has.startF w
  refine enter Tryd.func13 Tryd.ntmps13 rfl rfl fun a hs => ?_
  repeat (first | (refine sxv hs hw ?_; clear hs; intro a hs) | refine sxc hs ?_ | (refine sxa hs hw ?_; clear hs hw; intro a b W hw hs) | (refine sxs hs hw ?_; clear hs hw; intro W hs hw))
  refine st_call hs (hc := doc_New w _ _ hw) (k := ?_); rintro e0 W1 ⟨p, rfl, hw1⟩; refine ⟨_, rfl, ?_⟩; clear hs hw; intro a hs; have hw := hw1; clear hw1
  repeat (first | (refine sxv hs hw ?_; clear hs; intro a hs) | refine sxc hs ?_ | (refine sxa hs hw ?_; clear hs hw; intro a b W hw hs) | (refine sxs hs hw ?_; clear hs hw; intro W hs hw) | ((with_reducible first | refine st_ptrSome hs (k := ?_) | refine st_ptrNone hs (k := ?_)); clear hs; intro a hs))
  obtain ⟨bb, qb⟩ := nm1 hw; subst qb
  obtain ⟨bo, qo⟩ := nm2 hw; subst qo
  have hw : Has 0 w _ (Cells bo (opCells add3) 47 :: Fz (fr w) :: Cells bb (batCells b3 (.slice (some ⟨bo, 0, none⟩) 1 1)) 38 :: DocAt p [] :: []) := hw.perm (by repeat (first | exact List.Perm.refl _ | refine perm_pick (by repeat (first | exact Pick.hd | apply Pick.tl)) ?_))
  obtain ⟨H1, hle1, hw, hop⟩ := hw.freeze_lit (m := 1) (sz := 9) rfl (by decide)
  obtain ⟨H2, hle2, hw, hbt⟩ := hw.swap2.freeze_lit (m := 1) (sz := 3) rfl (by decide)
  have hle := hle1.trans hle2
  have hbats : BatsH H2 (.slice (some ⟨bb, 0, none⟩) 1 1) [b3] := ⟨_, hbt, Ch.unit ⟨_, rfl, RdH.le (n := 1) (xs := [add3].flatMap opCells) hop hle2⟩⟩
  refine st_call hs (hc := replay_New w _ H2 (some p) [] [b3] _ _ (fun h => by cases h) b3_ok (by decide) hbats hle hT hw.swap2) (k := ?_); rintro e0 W1 ⟨q, rfl, hw1⟩; refine ⟨_, rfl, ?_⟩; clear hs hw; intro a hs
  rw [play3] at hw1
  have hw : Has 0 w W1 (ViewAt q d3 [0] :: DocAt p [] :: Fz H2 :: []) := hw1
  clear hw1
  repeat (first | (refine sxv hs hw ?_; clear hs; intro a hs) | refine sxc hs ?_ | (refine sxa hs hw ?_; clear hs hw; intro a b W hw hs) | (refine sxs hs hw ?_; clear hs hw; intro W hs hw) | ((with_reducible first | refine st_ptrSome hs (k := ?_) | refine st_ptrNone hs (k := ?_)); clear hs; intro a hs))
  refine st_call hs (hc := view_Get w _ q d3 [0] ⟨#[110]⟩ _ hw) (k := ?_); rintro e0 W1 ⟨rfl, hw1⟩; refine ⟨_, rfl, ?_⟩; clear hs hw; intro a hs; have hw := hw1; clear hw1
  rw [getd3] at hs
  repeat (first | (refine sxv hs hw ?_; clear hs; intro a hs) | refine sxc hs ?_ | (refine sxa hs hw ?_; clear hs hw; intro a b W hw hs) | (refine sxs hs hw ?_; clear hs hw; intro W hs hw) | ((with_reducible first | refine st_ptrSome hs (k := ?_) | refine st_ptrNone hs (k := ?_)); clear hs; intro a hs))
  have hw : Has 0 w _ (ViewAt q d3 [0] :: _ :: DocAt p [] :: Fz H2 :: []) := hw.swap2
  refine st_call hs (hc := view_Errs w _ q d3 [0] _ (by decide) hw) (k := ?_); rintro e0 W1 ⟨sv, rfl, hw1⟩; refine ⟨_, rfl, ?_⟩; clear hs hw; intro a hs; have hw := hw1; clear hw1
  obtain ⟨ead, ecap, rfl⟩ := hw.own_slice
  repeat (first | (refine sxv hs hw ?_; clear hs; intro a hs) | refine sxc hs ?_ | (refine sxa hs hw ?_; clear hs hw; intro a b W hw hs) | (refine sxs hs hw ?_; clear hs hw; intro W hs hw) | ((with_reducible first | refine st_ptrSome hs (k := ?_) | refine st_ptrNone hs (k := ?_)); clear hs; intro a hs))
  refine st_call hs (hc := view_Errs w _ q d3 [0] _ (by decide) hw.swap2) (k := ?_); rintro e0 W1 ⟨sv, rfl, hw1⟩; refine ⟨_, rfl, ?_⟩; clear hs hw; intro a hs; have hw := hw1; clear hw1
  obtain ⟨ead2, ecap2, rfl⟩ := hw.own_slice
  repeat (first | (refine sxv hs hw ?_; clear hs; intro a hs) | refine sxc hs ?_ | (refine sxa hs hw ?_; clear hs hw; intro a b W hw hs) | (refine sxs hs hw ?_; clear hs hw; intro W hs hw) | ((with_reducible first | refine st_ptrSome hs (k := ?_) | refine st_ptrNone hs (k := ?_)); clear hs; intro a hs))
  refine st_index_ch hs (i := 0) (r := hw.rd_own In.hd) (hk := fun _ _ h => by rw [h]; rfl) (ch := chMap (Value.int .i64) [0]) (ho := rfl) (hlen := rfl) (c := ?_); clear hs; intro a g off c hc hcl hpc hlt hs
  subst hc
  repeat (first | (refine sxv hs hw ?_; clear hs; intro a hs) | refine sxc hs ?_ | (refine sxa hs hw ?_; clear hs hw; intro a b W hw hs) | (refine sxs hs hw ?_; clear hs hw; intro W hs hw) | ((with_reducible first | refine st_ptrSome hs (k := ?_) | refine st_ptrNone hs (k := ?_)); clear hs; intro a hs))
  refine st_load_at hs (hc := hpc 0 _ rfl) (c := ?_); clear hs hpc; intro a hs
  repeat (first | (refine sxv hs hw ?_; clear hs; intro a hs) | refine sxc hs ?_ | (refine sxa hs hw ?_; clear hs hw; intro a b W hw hs) | (refine sxs hs hw ?_; clear hs hw; intro W hs hw) | ((with_reducible first | refine st_ptrSome hs (k := ?_) | refine st_ptrNone hs (k := ?_)); clear hs; intro a hs))
  have hw : Has 0 w _ (DocAt p [] :: ViewAt q d3 [0] :: Fz H2 :: []) := hw.sel (by repeat (first | exact Sel.nil | exact Sel.refl _ | refine Sel.cons (by repeat (first | exact Pick.hd | apply Pick.tl)) ?_ | refine Sel.skip ?_))
  refine st_call hs (hc := doc_Keys w _ p [] _ DocFine.nil hw) (k := ?_); rintro e0 W1 ⟨kv, rfl, hw1⟩; refine ⟨_, rfl, ?_⟩; clear hs hw; intro a hs; have hw := hw1; clear hw1
  obtain ⟨kad, kcap, rfl⟩ := hw.own_slice
  repeat (first | (refine sxv hs hw ?_; clear hs; intro a hs) | refine sxc hs ?_ | (refine sxa hs hw ?_; clear hs hw; intro a b W hw hs) | (refine sxs hs hw ?_; clear hs hw; intro W hs hw) | ((with_reducible first | refine st_ptrSome hs (k := ?_) | refine st_ptrNone hs (k := ?_)); clear hs; intro a hs))
  have hw : Has 0 w _ (ViewAt q d3 [0] :: Fz H2 :: []) := hw.sel (by repeat (first | exact Sel.nil | exact Sel.refl _ | refine Sel.cons (by repeat (first | exact Pick.hd | apply Pick.tl)) ?_ | refine Sel.skip ?_))
  refine st_call hs (hc := view_Doc w _ q d3 [0] _ hw) (k := ?_); rintro e0 W1 ⟨p2, rfl, hw1⟩; refine ⟨_, rfl, ?_⟩; clear hs hw; intro a hs; have hw := hw1; clear hw1
  repeat (first | (refine sxv hs hw ?_; clear hs; intro a hs) | refine sxc hs ?_ | (refine sxa hs hw ?_; clear hs hw; intro a b W hw hs) | (refine sxs hs hw ?_; clear hs hw; intro W hs hw) | ((with_reducible first | refine st_ptrSome hs (k := ?_) | refine st_ptrNone hs (k := ?_)); clear hs; intro a hs))
  refine st_call hs (hc := doc_Keys w _ p2 d3 _ d3_fine hw) (k := ?_); rintro e0 W1 ⟨kv, rfl, hw1⟩; refine ⟨_, rfl, ?_⟩; clear hs hw; intro a hs; have hw := hw1; clear hw1
  obtain ⟨kad2, kcap2, rfl⟩ := hw.own_slice
  repeat (first | (refine sxv hs hw ?_; clear hs; intro a hs) | refine sxc hs ?_ | (refine sxa hs hw ?_; clear hs hw; intro a b W hw hs) | (refine sxs hs hw ?_; clear hs hw; intro W hs hw) | ((with_reducible first | refine st_ptrSome hs (k := ?_) | refine st_ptrNone hs (k := ?_)); clear hs; intro a hs))
  exact rt1 hs rfl rfl ⟨rfl, hw.endF (by repeat (first | exact In.hd | apply In.tl)) hle⟩

set_option maxHeartbeats 16000000 in
theorem walk_ReplayNone (w : World) (hT : Tabs w) :
    Calls Tryd.prog 3 ⟨[]⟩ w fun e w' => e = .returned (.bool true) ∧ Below w.heap.size w w' := by
  have hw := Has.startF w
  have hnil : BatsH (fr w) (.slice none 0 0) [] := ⟨[], RdH.nil _ _ _ (by omega), rfl⟩
  refine enter Tryd.func3 Tryd.ntmps3 rfl rfl fun a hs => ?_
  repeat (first | (refine sxv hs hw ?_; clear hs; intro a hs) | refine sxc hs ?_ | (refine sxa hs hw ?_; clear hs hw; intro a b W hw hs) | (refine sxs hs hw ?_; clear hs hw; intro W hs hw))
  refine st_call hs (hc := replay_New w _ (fr w) none [] [] (.slice none 0 0) _ (fun _ => rfl) (by simp) (by decide) hnil (Fh.le.refl _) hT hw.free) (k := ?_); rintro e0 W1 ⟨q, rfl, hw1⟩; refine ⟨_, rfl, ?_⟩; clear hs hw; intro a hs
  have hw : Has 0 w W1 (ViewAt q [] [] :: Fz (fr w) :: []) := (show Has 0 w W1 (ViewAt q [] [] :: Free :: Fz (fr w) :: []) from hw1).drop2
  clear hw1
  repeat (first | (refine sxv hs hw ?_; clear hs; intro a hs) | refine sxc hs ?_ | (refine sxa hs hw ?_; clear hs hw; intro a b W hw hs) | (refine sxs hs hw ?_; clear hs hw; intro W hs hw) | ((with_reducible first | refine st_ptrSome hs (k := ?_) | refine st_ptrNone hs (k := ?_)); clear hs; intro a hs))
  refine st_call hs (hc := view_Get0 ⟨#[107]⟩ _) (k := ?_); rintro e0 W1 ⟨rfl, hb⟩; refine ⟨_, rfl, ?_⟩; clear hs; intro a hs; replace hw := hw.below hb; clear hb
  repeat (first | (refine sxv hs hw ?_; clear hs; intro a hs) | refine sxc hs ?_ | (refine sxa hs hw ?_; clear hs hw; intro a b W hw hs) | (refine sxs hs hw ?_; clear hs hw; intro W hs hw) | ((with_reducible first | refine st_ptrSome hs (k := ?_) | refine st_ptrNone hs (k := ?_)); clear hs; intro a hs))
  refine st_call hs (hc := law23_begun _ (hT.keep (hw.endF (by repeat (first | exact In.hd | apply In.tl)) (Fh.le.refl _)))) (k := ?_); rintro e0 W1 ⟨rfl, hb⟩; refine ⟨_, rfl, ?_⟩; clear hs; intro a hs; replace hw := hw.below hb; clear hb
  repeat (first | (refine sxv hs hw ?_; clear hs; intro a hs) | refine sxc hs ?_ | (refine sxa hs hw ?_; clear hs hw; intro a b W hw hs) | (refine sxs hs hw ?_; clear hs hw; intro W hs hw) | ((with_reducible first | refine st_ptrSome hs (k := ?_) | refine st_ptrNone hs (k := ?_)); clear hs; intro a hs))
  refine st_call hs (hc := view_Errs0 _) (k := ?_); rintro e0 W1 ⟨rfl, hb⟩; refine ⟨_, rfl, ?_⟩; clear hs; intro a hs; replace hw := hw.below hb; clear hb
  repeat (first | (refine sxv hs hw ?_; clear hs; intro a hs) | refine sxc hs ?_ | (refine sxa hs hw ?_; clear hs hw; intro a b W hw hs) | (refine sxs hs hw ?_; clear hs hw; intro W hs hw) | ((with_reducible first | refine st_ptrSome hs (k := ?_) | refine st_ptrNone hs (k := ?_)); clear hs; intro a hs))
  have hw : Has 0 w _ (ViewAt q [] [] :: Fz (fr w) :: []) := hw.sel (by repeat (first | exact Sel.nil | exact Sel.refl _ | refine Sel.cons (by repeat (first | exact Pick.hd | apply Pick.tl)) ?_ | refine Sel.skip ?_))
  refine st_call hs (hc := view_Doc w _ q [] [] _ hw) (k := ?_); rintro e0 W1 ⟨p2, rfl, hw1⟩; refine ⟨_, rfl, ?_⟩; clear hs hw; intro a hs; have hw := hw1; clear hw1
  repeat (first | (refine sxv hs hw ?_; clear hs; intro a hs) | refine sxc hs ?_ | (refine sxa hs hw ?_; clear hs hw; intro a b W hw hs) | (refine sxs hs hw ?_; clear hs hw; intro W hs hw) | ((with_reducible first | refine st_ptrSome hs (k := ?_) | refine st_ptrNone hs (k := ?_)); clear hs; intro a hs))
  refine st_call hs (hc := doc_Keys w _ p2 [] _ DocFine.nil hw) (k := ?_); rintro e0 W1 ⟨kv, rfl, hw1⟩; refine ⟨_, rfl, ?_⟩; clear hs hw; intro a hs; have hw := hw1; clear hw1
  obtain ⟨kad2, kcap2, rfl⟩ := hw.own_slice
  repeat (first | (refine sxv hs hw ?_; clear hs; intro a hs) | refine sxc hs ?_ | (refine sxa hs hw ?_; clear hs hw; intro a b W hw hs) | (refine sxs hs hw ?_; clear hs hw; intro W hs hw) | ((with_reducible first | refine st_ptrSome hs (k := ?_) | refine st_ptrNone hs (k := ?_)); clear hs; intro a hs))
  have hw : Has 0 w _ (ViewAt q [] [] :: Fz (fr w) :: []) := hw.sel (by repeat (first | exact Sel.nil | exact Sel.refl _ | refine Sel.cons (by repeat (first | exact Pick.hd | apply Pick.tl)) ?_ | refine Sel.skip ?_))
  refine st_call hs (hc := view_Errs w _ q [] [] _ (by decide) hw) (k := ?_); rintro e0 W1 ⟨sv, rfl, hw1⟩; refine ⟨_, rfl, ?_⟩; clear hs hw; intro a hs; have hw := hw1; clear hw1
  obtain ⟨ead, ecap, rfl⟩ := hw.own_slice
  repeat (first | (refine sxv hs hw ?_; clear hs; intro a hs) | refine sxc hs ?_ | (refine sxa hs hw ?_; clear hs hw; intro a b W hw hs) | (refine sxs hs hw ?_; clear hs hw; intro W hs hw) | ((with_reducible first | refine st_ptrSome hs (k := ?_) | refine st_ptrNone hs (k := ?_)); clear hs; intro a hs))
  exact rt1 hs rfl rfl ⟨rfl, hw.endF (by repeat (first | exact In.hd | apply In.tl)) (Fh.le.refl _)⟩
end Go.Proofs.YthpenehgfogloaaDoor.Sw

/-
  A raw value among the arguments: opened and shut.
-/
set_option linter.unusedVariables false
set_option maxRecDepth 10000
namespace Go.Proofs.YthpenehgfogloaaDoor
open Go.ChangeShapes Go.WideShapes Go.ChangeAt Go.RowKit Go.Lib
open Go.ChangeMaps (open_string shut_string)
open Go.Joins

theorem open_raw {H : Type} {enc : TypeId × Value → H} {W : World} {base : Nat} {spare : Nat → Bool} {held : Bool} {r : Reach} {b0 : Nat} {v : Value} {d : DataW H} {p : List MemPlace}
    (hv : Value.okWide Tryd.prog W r b0 25 v) (h : DataW.Trod enc Tryd.prog W base spare held 25 v d p) :
    ∃ (k n : Int) (s : ByteArray), v = .agg #[.int .i64 k, .int .i64 n, .string s] ∧ d = .agg [.lit (.int .i64 k), .lit (.int .i64 n), .lit (.string s.data.toList)] ∧ p = [] ∧
      (Lit.int .i64 k).wf = true ∧ (Lit.int .i64 n).wf = true ∧ s.size ≤ maxLen ∧
      ∀ W' base' spare' held', DataW.Trod enc Tryd.prog W' base' spare' held' 25 (.agg #[.int .i64 k, .int .i64 n, .string s]) (.agg [.lit (.int .i64 k), .lit (.int .i64 n), .lit (.string s.data.toList)]) [] := by
  obtain ⟨v0, v1, v2, y0, y1, y2, m, rfl, rfl, rfl, h0, h1, h2⟩ := open_agg3 Tryd.underlying25 (by kernel_rfl) (by kernel_rfl) hv h
  obtain ⟨k, e0, rfl, w0⟩ := DataW.trod_int Tryd.underlying3 h0
  obtain ⟨n, e1, rfl, w1⟩ := DataW.trod_int Tryd.underlying2 h1
  obtain ⟨s, e2, rfl, w2⟩ := DataW.trod_string Tryd.underlying9 h2
  simp only [List.cons.injEq, and_true] at e0 e1 e2
  subst e0 e1 e2
  refine ⟨k, n, s, rfl, rfl, rfl, w0, w1, w2, fun W' base' spare' held' => ?_⟩
  exact shut_agg3 (y0 := (.lit (.int .i64 k), [])) (y1 := (.lit (.int .i64 n), [])) (y2 := (.lit (.string s.data.toList), [])) Tryd.underlying25 (by kernel_rfl) (by kernel_rfl)
    ⟨1, by simp [DataW.trod, Tryd.underlying3, w0]⟩ ⟨1, by simp [DataW.trod, Tryd.underlying2, w1]⟩ ⟨1, by simp [DataW.trod, Tryd.underlying9, w2]⟩
end Go.Proofs.YthpenehgfogloaaDoor

/-
  A slice of bytes among the arguments: opened into what the walks read.
-/
set_option linter.unusedVariables false
set_option maxRecDepth 10000
namespace Go.Proofs.YthpenehgfogloaaDoor
open Go.ChangeShapes Go.WideShapes Go.ChangeAt Go.RowKit Go.Lib Go.Sx Go.Proofs

theorem open_bytes {H : Type} {enc : TypeId × Value → H} {P : Program} {W : World} {spare : Nat → Bool} {t e : TypeId} {ad : Option Addr} {len cap : Nat} {d : DataW H} {p : List MemPlace}
    (ht : P.underlying t = some (.slice e)) (he : P.underlying e = some (.int .u8)) (hc : P.cellsOf e = 1) (h : DataW.Trod enc P W 0 spare true t (.slice ad len cap) d p) :
    ∃ l : List UInt8, RdB W (.slice ad len cap) l := by
  obtain ⟨fuel, hf⟩ := h
  have hlt := DataW.trod_lt _ _ _ _ hf
  rcases open_ints ht he hc hf with ⟨hcs, -⟩ | ⟨a, len', cap', zs, hcs, -, hl, hm, hz, hx, hcell, hwz⟩
  · simp [Value.cells] at hcs
    obtain ⟨rfl, rfl, rfl⟩ := hcs
    exact ⟨[], Rd.nil W 1 0 (by omega)⟩
  · simp [Value.cells] at hcs
    obtain ⟨rfl, rfl, rfl⟩ := hcs
    have hlz : len ≤ zs.length := by rw [hz]; split <;> omega
    have hlen : (zs.take len).length = len := by rw [List.length_take]; omega
    have hm' : cap ≤ 9223372036854775807 := by have : (maxLen : Nat) ≤ 9223372036854775807 := by decide
                                               omega
    refine ⟨(zs.take len).map fun z => UInt8.ofNat z.toNat, ?_⟩
    have hL : ((zs.take len).map fun z => UInt8.ofNat z.toNat).length = len := by rw [List.length_map, hlen]
    unfold RdB
    refine ⟨by simp, some a, cap, by rw [hL], by omega, hm', ?_⟩
    rw [hL]
    rcases Nat.eq_zero_or_pos len with h0 | h0
    · exact .inl h0
    · right
      obtain ⟨b, off, spot⟩ := a
      have hspot : spot = none := by simpa [Addr.add] using World.cell?_spot (hcell 0 (by omega))
      subst hspot
      refine ⟨b, off, rfl, ?_, fun j x hj => ?_⟩
      · have hx2 := congrArg Prod.snd hx
        simp only at hx2
        subst hx2
        have := hlt (.cell b off) (MemPlace.mem_row.2 ⟨0, by omega, rfl⟩)
        exact this
      · simp only [bys, List.map_map] at hj
        obtain ⟨z, hz1, rfl⟩ := List.getElem?_map .. |>.symm.trans hj |> Option.map_eq_some_iff.1
        obtain ⟨hj1, hj2⟩ := List.getElem?_eq_some_iff.1 hz1
        have hjl : j < len := by omega
        have e1 : zs[j]? = some z := by rw [List.getElem?_take, if_pos hjl] at hz1; exact hz1
        have hb := bounds_u8 (hwz z (List.mem_of_getElem? e1))
        rw [← add_plain, hcell j (by omega)]
        simp only [List.getD, e1, Option.getD_some, Function.comp]
        congr 2
        simp
        omega
end Go.Proofs.YthpenehgfogloaaDoor

/-
  An operation, and a batch, among the arguments: opened into what the walks read.
-/
set_option linter.unusedVariables false
set_option maxRecDepth 10000
namespace Go.Proofs.YthpenehgfogloaaDoor
open Go.ChangeShapes Go.WideShapes Go.ChangeAt Go.RowKit Go.Lib Go.Sx Go.Proofs Go.Deep
open Sw Go.Joins

theorem list9 {α : Type} {l : List α} (h : l.length = 9) : ∃ c0 c1 c2 c3 c4 c5 c6 c7 c8, l = [c0, c1, c2, c3, c4, c5, c6, c7, c8] := by
  match l, h with
  | [c0, c1, c2, c3, c4, c5, c6, c7, c8], _ => exact ⟨c0, c1, c2, c3, c4, c5, c6, c7, c8, rfl⟩

section
variable {H : Type} {enc : TypeId × Value → H} {w : World} {base : Nat} {spare : Nat → Bool} {held : Bool}
theorem open_raw_cells {fuel : Nat} {v0 v1 v2 : Value} {x : DataW H × List MemPlace} (h : DataW.trod enc Tryd.prog w base spare held fuel 25 [v0, v1, v2] = some x) :
    ∃ (k n : Int) (s : ByteArray), v0 = .int .i64 k ∧ v1 = .int .i64 n ∧ v2 = .string s ∧ (Lit.int .i64 k).wf = true ∧ (Lit.int .i64 n).wf = true ∧ s.size ≤ maxLen := by
  obtain ⟨xs, n, _, rfl, hl, hlen, hf⟩ := DataW.trod_struct Tryd.underlying25 h
  have c1 : Tryd.prog.cellsOf 3 = 1 := by kernel_rfl
  have c2 : Tryd.prog.cellsOf 2 = 1 := by kernel_rfl
  have c3 : Tryd.prog.cellsOf 9 = 1 := by kernel_rfl
  match xs, hlen with
  | [y0, y1, y2], _ =>
    have h0 := hf 0 _ rfl
    have h1 := hf 1 _ rfl
    have h2 := hf 2 _ rfl
    change DataW.trod enc _ w base spare held n 3 (([v0, v1, v2].drop 0).take (Tryd.prog.cellsOf 3)) = some y0 at h0
    change DataW.trod enc _ w base spare held n 2 (([v0, v1, v2].drop 1).take (Tryd.prog.cellsOf 2)) = some y1 at h1
    change DataW.trod enc _ w base spare held n 9 (([v0, v1, v2].drop 2).take (Tryd.prog.cellsOf 9)) = some y2 at h2
    rw [c1] at h0
    rw [c2] at h1
    rw [c3] at h2
    obtain ⟨k, e0, _, w0⟩ := DataW.trod_int Tryd.underlying3 h0
    obtain ⟨m, e1, _, w1⟩ := DataW.trod_int Tryd.underlying2 h1
    obtain ⟨s, e2, _, w2⟩ := DataW.trod_string Tryd.underlying9 h2
    simp at e0 e1 e2
    exact ⟨k, m, s, e0, e1, e2, w0, w1, w2⟩

theorem open_op_cells {fuel : Nat} {cs : List Value} {x : DataW H × List MemPlace} (h : DataW.trod enc Tryd.prog w base spare held fuel 47 cs = some x) :
    ∃ o : OpD, cs = opCells o ∧ OpWf o := by
  obtain ⟨xs, n, _, rfl, hl, hlen, hf⟩ := DataW.trod_struct Tryd.underlying47 h
  have c0 : Tryd.prog.cellsOf 47 = 9 := by kernel_rfl
  have c1 : Tryd.prog.cellsOf 3 = 1 := by kernel_rfl
  have c2 : Tryd.prog.cellsOf 2 = 1 := by kernel_rfl
  have c3 : Tryd.prog.cellsOf 9 = 1 := by kernel_rfl
  have c4 : Tryd.prog.cellsOf 25 = 3 := by kernel_rfl
  obtain ⟨v0, v1, v2, v3, v4, v5, v6, v7, v8, rfl⟩ := list9 (hl.trans c0)
  match xs, hlen with
  | [y0, y1, y2, y3, y4], _ =>
    have h0 := hf 0 _ rfl
    have h1 := hf 1 _ rfl
    have h2 := hf 2 _ rfl
    have h3 := hf 3 _ rfl
    have h4 := hf 4 _ rfl
    change DataW.trod enc _ w base spare held n 3 (([v0, v1, v2, v3, v4, v5, v6, v7, v8].drop 0).take (Tryd.prog.cellsOf 3)) = some y0 at h0
    change DataW.trod enc _ w base spare held n 9 (([v0, v1, v2, v3, v4, v5, v6, v7, v8].drop 1).take (Tryd.prog.cellsOf 9)) = some y1 at h1
    change DataW.trod enc _ w base spare held n 25 (([v0, v1, v2, v3, v4, v5, v6, v7, v8].drop 2).take (Tryd.prog.cellsOf 25)) = some y2 at h2
    change DataW.trod enc _ w base spare held n 25 (([v0, v1, v2, v3, v4, v5, v6, v7, v8].drop 5).take (Tryd.prog.cellsOf 25)) = some y3 at h3
    change DataW.trod enc _ w base spare held n 2 (([v0, v1, v2, v3, v4, v5, v6, v7, v8].drop 8).take (Tryd.prog.cellsOf 2)) = some y4 at h4
    rw [c1] at h0
    rw [c3] at h1
    rw [c4] at h2 h3
    rw [c2] at h4
    obtain ⟨k, e0, _, w0⟩ := DataW.trod_int Tryd.underlying3 h0
    obtain ⟨s, e1, _, w1⟩ := DataW.trod_string Tryd.underlying9 h1
    obtain ⟨vk, vn, vs, g0, g1, g2, u0, u1, u2⟩ := open_raw_cells (v0 := v2) (v1 := v3) (v2 := v4) h2
    obtain ⟨ok, on, os, g3, g4, g5, u3, u4, u5⟩ := open_raw_cells (v0 := v5) (v1 := v6) (v2 := v7) h3
    obtain ⟨m, e4, _, w4⟩ := DataW.trod_int Tryd.underlying2 h4
    simp at e0 e1 e4
    subst e0 e1 e4 g0 g1 g2 g3 g4 g5
    exact ⟨⟨k, s, vk, vn, vs, ok, on, os, m⟩, rfl, w0, u0, u1, u3, u4, w4, w1, u2, u5⟩

theorem open_op {r : Reach} {b0 : Nat} {v : Value} {d : DataW H} {p : List MemPlace} (hv : Value.okWide Tryd.prog w r b0 47 v) (h : DataW.Trod enc Tryd.prog w base spare held 47 v d p) :
    ∃ o : OpD, v = .agg ⟨opCells o⟩ ∧ OpWf o := by
  obtain ⟨cs, rfl, hsz⟩ := okWide_struct Tryd.underlying47 hv
  obtain ⟨fuel, hf⟩ := h
  obtain ⟨o, e, ho⟩ := open_op_cells hf
  refine ⟨o, ?_, ho⟩
  obtain ⟨l⟩ := cs
  simp only [Value.cells] at e
  rw [e]

instance : Inhabited OpD := ⟨⟨0, ⟨#[]⟩, 0, 0, ⟨#[]⟩, 0, 0, ⟨#[]⟩, 0⟩⟩
theorem flat_get : ∀ (l : List OpD) (j : Nat) (x : Value), (l.flatMap opCells)[j]? = some x → ∃ i o k, l[i]? = some o ∧ (opCells o)[k]? = some x ∧ j = i * 9 + k ∧ k < 9
  | [], j, x, h => by simp at h
  | o :: l, j, x, h => by
    rw [List.flatMap_cons, List.getElem?_append] at h
    split at h
    · rename_i hj
      exact ⟨0, o, j, rfl, h, by omega, hj⟩
    · rename_i hj
      have hL : (opCells o).length = 9 := rfl
      obtain ⟨i, o', k, h1, h2, h3, h4⟩ := flat_get l _ x h
      exact ⟨i + 1, o', k, by simpa using h1, h2, by omega, h4⟩
theorem flat_len (l : List OpD) : (l.flatMap opCells).length = l.length * 9 := by
  induction l with
  | nil => rfl
  | cons o l ih => rw [List.flatMap_cons, List.length_append, ih, List.length_cons]; show 9 + _ = _; omega

theorem open_ops {fuel : Nat} {cs : List Value} {x : DataW H × List MemPlace} (h : DataW.trod enc Tryd.prog w 0 spare held fuel 36 cs = some x) :
    ∃ (sv : Value) (l : List OpD), cs = [sv] ∧ (∀ o ∈ l, OpWf o) ∧ Rd w 9 sv l.length (l.flatMap opCells) := by
  have hlt := DataW.trod_lt _ _ _ _ h
  have c0 : Tryd.prog.cellsOf 47 = 9 := by kernel_rfl
  rcases open_slice Tryd.underlying36 h with ⟨rfl, -⟩ | ⟨a, len, cap, m, n, D, Pl, rfl, -, hl, hm, hmm, rfl, hx⟩
  · exact ⟨_, [], rfl, by simp, Rd.nil w 9 0 (by omega)⟩
  · have hlm : len ≤ m := by rw [hmm]; split <;> omega
    obtain ⟨O, hO⟩ := choose_lt (n := len) (α := OpD) (p := fun i o => OpWf o ∧ ∀ k u, (opCells o)[k]? = some u → w.cell? ((a.add (i * 9)).add k) = some u) fun i hi => by
      obtain ⟨cs', h1, h2⟩ := hx i (by omega)
      obtain ⟨o, rfl, ho⟩ := open_op_cells h2
      rw [c0] at h1
      obtain ⟨_, _, h3⟩ := World.cells?_some h1
      refine ⟨o, ho, fun k u hk => ?_⟩
      have hk9 : k < 9 := (List.getElem?_eq_some_iff.1 hk).1
      rw [h3 k hk9]; exact hk
    have hcap : cap ≤ 9223372036854775807 := max63 hm
    have hL : ((List.range len).map O).length = len := by simp
    refine ⟨_, (List.range len).map O, rfl, fun o ho => ?_, ?_⟩
    · obtain ⟨i, hi, rfl⟩ := List.mem_map.1 ho
      exact (hO i (List.mem_range.1 hi)).1
    · rw [hL]
      refine ⟨by rw [flat_len, hL], some a, cap, rfl, hl, hcap, ?_⟩
      rcases Nat.eq_zero_or_pos len with h0 | h0
      · exact .inl h0
      · right
        obtain ⟨b, off, spot⟩ := a
        have h00 := (hO 0 h0).2 0 (.int .i64 (O 0).kind) rfl
        have hspot : spot = none := by simpa [Addr.add] using World.cell?_spot h00
        subst hspot
        refine ⟨b, off, rfl, ?_, fun j x hj => ?_⟩
        · exact hlt (.cell b off) (List.mem_append_left _ (MemPlace.mem_row.2 ⟨0, by rw [c0]; omega, rfl⟩))
        · obtain ⟨i, o, k, h1, h2, rfl, h4⟩ := flat_get _ _ _ hj
          have hi : i < len := by have := (List.getElem?_eq_some_iff.1 h1).1; omega
          rw [List.getElem?_map, List.getElem?_range hi, Option.map_some, Option.some.injEq] at h1
          subst h1
          have := (hO i hi).2 k x h2
          rw [add_add, add_plain] at this
          exact this

theorem open_batch {r : Reach} {b0 : Nat} {v : Value} {d : DataW H} {p : List MemPlace} (hv : Value.okWide Tryd.prog w r b0 38 v) (h : DataW.Trod enc Tryd.prog w 0 spare held 38 v d p) :
    ∃ (c q : Int) (l : List OpD) (sv : Value), v = .agg ⟨[.int .i64 c, .int .i64 q, sv]⟩ ∧ (Lit.int .i64 c).wf = true ∧ (Lit.int .i64 q).wf = true ∧ (∀ o ∈ l, OpWf o) ∧ Rd w 9 sv l.length (l.flatMap opCells) := by
  obtain ⟨v0, v1, v2, y0, y1, y2, m, rfl, rfl, rfl, h0, h1, h2⟩ := open_agg3 Tryd.underlying38 (by kernel_rfl) (by kernel_rfl) hv h
  obtain ⟨k, e0, rfl, w0⟩ := DataW.trod_int Tryd.underlying3 h0
  obtain ⟨n, e1, rfl, w1⟩ := DataW.trod_int Tryd.underlying2 h1
  obtain ⟨sv, l, e2, ho, hr⟩ := open_ops h2
  simp only [List.cons.injEq, and_true] at e0 e1 e2
  subst e0 e1 e2
  exact ⟨k, n, l, v2, rfl, w0, w1, ho, hr⟩
end
end Go.Proofs.YthpenehgfogloaaDoor

/-
  Streams: New, Next, one, Take, Rows, Fold.
-/
set_option linter.unusedVariables false
set_option maxRecDepth 10000
namespace Go.Proofs.YthpenehgfogloaaDoor.Sw
open Go.RowKit Go.Sx

-- pieces

structure StreamD where
  f : FoldD
  l : List RowD

section

variable {G p pf : Nat} {w W : World} {R : List Res} {s : StreamD} {H H' : Fh} {v : Value} {xs : List Value}

end

/-- A row is taken: is it new? what came of it. -/
def one (s : StreamD) (r : RowD) : StreamD × Bool × Int :=
  if r.place > (s.l.length : Int) + 1 then (s, false, 2)
  else if r.place < (s.l.length : Int) + 1 then
    if r.place < 1 ∨ ¬ (∃ x, s.l[(r.place - 1).toNat]? = some x ∧ sameR r x = true) then (s, false, 1) else (s, false, 0)
  else if (next s.f r.b).2.2 = true ∧ (next s.f r.b).2.1.err = r.err then (⟨(next s.f r.b).1, s.l ++ [r]⟩, true, 0) else (s, false, 1)

end Go.Proofs.YthpenehgfogloaaDoor.Sw

/-
  Streams: Take, Rows.
-/
set_option linter.unusedVariables false
set_option maxRecDepth 10000
namespace Go.Proofs.YthpenehgfogloaaDoor.Sw
open Go.RowKit Go.Sx

-- pieces

/-- A slice of rows that is frozen. -/
def RowsH (H : Fh) (v : Value) (rows : List RowD) : Prop := ∃ xs, RdH H 5 v rows.length xs ∧ Ch (RowIn H) rows xs

theorem RowsH.le {H H' : Fh} {v : Value} {rows : List RowD} (h : H.le H') (r : RowsH H v rows) : RowsH H' v rows := by
  obtain ⟨xs, h1, h2⟩ := r
  exact ⟨xs, h1.le h, h2.mono (RowIn.le h)⟩

structure RowOk (r : RowD) : Prop where
  place : i64 r.place
  err : i64 r.err
  b : BatOk r.b

/-- Rows are taken, one behind the other, to the first that may not. -/
def takeN (s : StreamD) (n : Nat) : List RowD → StreamD × Nat × Int
  | [] => (s, n, 0)
  | r :: rs => if (one s r).2.2 = 0 then takeN (one s r).1 (if (one s r).2.1 = true then n + 1 else n) rs else ((one s r).1, n, (one s r).2.2)

theorem one_len (s : StreamD) (r : RowD) : (one s r).1.l.length ≤ s.l.length + 1 := by
  unfold one
  repeat (first | split | simp)

end Go.Proofs.YthpenehgfogloaaDoor.Sw

/-
  Batches, rows, whole numbers as they come in.
-/
set_option linter.unusedVariables false
namespace Go.Proofs.YthpenehgfogloaaDoor.Sw
open Go.RowKit Go.Sx

def BatRd (W : World) (b : BatchD) (cs : List Value) : Prop := ∃ sv, cs = batCells b sv ∧ Rd W 9 sv b.l.length (b.l.flatMap opCells)
/-- Batches as they come in. -/
def BatsRd (W : World) (v : Value) (l : List BatchD) : Prop := ∃ xs, Rd W 3 v l.length xs ∧ Ch (BatRd W) l xs
theorem BatsRd.h {W : World} {v : Value} {l : List BatchD} (r : BatsRd W v l) : BatsH (fr W) v l := by
  obtain ⟨xs, h1, h2⟩ := r
  exact ⟨xs, RdH.of_rd h1 (Fh.le.refl _) (by decide), h2.mono fun b c ⟨sv, e, h⟩ => ⟨sv, e, RdH.of_rd h (Fh.le.refl _) (by decide)⟩⟩
structure RowWf (r : RowD) : Prop where
  place : (Lit.int .i64 r.place).wf = true
  err : (Lit.int .i64 r.err).wf = true
  b : BatWf r.b
/-- Rows as they come in. -/
def RowsRd (W : World) (v : Value) (l : List RowD) : Prop := ∃ xs, Rd W 5 v l.length xs ∧ Ch (RowRd W) l xs
theorem RowsRd.h {W : World} {v : Value} {l : List RowD} (r : RowsRd W v l) : RowsH (fr W) v l := by
  obtain ⟨xs, h1, h2⟩ := r
  exact ⟨xs, RdH.of_rd h1 (Fh.le.refl _) (by decide), h2.mono fun b c ⟨sv, e, h⟩ => ⟨sv, e, RdH.of_rd h (Fh.le.refl _) (by decide)⟩⟩
def IntIn (x : Int) (c : List Value) : Prop := c = [.int .i64 x]
theorem IntIn.len : ∀ (x : Int) (c : List Value), IntIn x c → c.length = 1 := by rintro x c rfl; rfl
/-- Whole numbers as they come in. -/
def IntsRd (W : World) (v : Value) (l : List Int) : Prop := ∃ xs, Rd W 1 v l.length xs ∧ Ch IntIn l xs
/-- Slices of operations as they come in. -/
def OplRd (W : World) (l : List OpD) (cs : List Value) : Prop := ∃ sv, cs = [sv] ∧ Rd W 9 sv l.length (l.flatMap opCells)
def OpllRd (W : World) (v : Value) (l : List (List OpD)) : Prop := ∃ xs, Rd W 1 v l.length xs ∧ Ch (OplRd W) l xs
def OplIn (H : Fh) (l : List OpD) (cs : List Value) : Prop := ∃ sv, cs = [sv] ∧ OpsH H sv l
def OpllH (H : Fh) (v : Value) (l : List (List OpD)) : Prop := ∃ xs, RdH H 1 v l.length xs ∧ Ch (OplIn H) l xs
theorem OpllRd.h {W : World} {v : Value} {l : List (List OpD)} (r : OpllRd W v l) : OpllH (fr W) v l := by
  obtain ⟨xs, h1, h2⟩ := r
  exact ⟨xs, RdH.of_rd h1 (Fh.le.refl _) (by decide), h2.mono fun b c ⟨sv, e, h⟩ => ⟨sv, e, RdH.of_rd h (Fh.le.refl _) (by decide)⟩⟩
theorem OplIn.len {H : Fh} : ∀ (b : List OpD) (c : List Value), OplIn H b c → c.length = 1 := by rintro b c ⟨sv, rfl, _⟩; rfl
theorem OplIn.le {H H' : Fh} (h : H.le H') : ∀ (b : List OpD) (c : List Value), OplIn H b c → OplIn H' b c := by rintro b c ⟨sv, rfl, h1⟩; exact ⟨sv, rfl, h1.le h⟩
end Go.Proofs.YthpenehgfogloaaDoor.Sw
