/-
  Texts of the proof, one behind the other (part 11).
-/
import Derived.Test.YtmalklakaalaoaaGreatDoorM10
set_option linter.unusedVariables false
set_option maxRecDepth 10000
namespace Go.Proofs.YtmalklakaalaoaaGreatDoor.Sw
open Go.RowKit Go.Sx
theorem foldB_pos (f : FoldD) : 0 < (foldB f).length := by
  have : 0 < (Ph.putI f.place).length := List.length_pos_iff.2 (Ph.putI_ne_nil _)
  unfold foldB
  simp only [List.length_append]; omega
theorem xorB7 (b c : Int) : ∃ d : UInt8, bits .xor .u8 b c = (d.toNat : Int) := by
  have h := bits_within .xor .u8 b c
  have h1 : 0 ≤ bits .xor .u8 b c ∧ bits .xor .u8 b c ≤ 255 := by
    simpa [IntKind.min, IntKind.max, IntKind.signed, IntKind.bits] using h
  obtain ⟨n, hn⟩ := Int.eq_ofNat_of_zero_le h1.1
  refine ⟨n.toUInt8, ?_⟩
  rw [hn]
  have : n < 256 := by omega
  simp [Nat.mod_eq_of_lt this]
set_option maxHeartbeats 64000000 in
theorem walk_FoldBytes (l : List BatchD) (v : Value) (more : List BatchD) (v2 : Value) (at_ x : Int) (w : World) (hb : ∀ b ∈ l, BatWf b) (hr : BatsRd w v l) (hbm : ∀ b ∈ more, BatWf b) (hrm : BatsRd w v2 more) (hat : (Lit.int .i64 at_).wf = true) (hx : (Lit.int .u8 x).wf = true) (hT : Tabs w) :
    Calls Tryz.prog 7 ⟨[v, v2, .int .i64 at_, .int .u8 x]⟩ w fun e w' => e = .returned (.bool true) ∧ Below w.heap.size w w' := by
  have hw := Has.startF w
  refine enter Tryz.func7 Tryz.ntmps7 rfl rfl fun a hs => ?_
  repeat (first | (refine sxv hs hw ?_; clear hs; intro a hs) | refine sxc hs ?_ | (refine sxa hs hw ?_; clear hs hw; intro a b W hw hs) | (refine sxs hs hw ?_; clear hs hw; intro W hs hw))
  refine st_call hs (hc := law7_begun _ hT) (k := ?_); rintro e0 W1 ⟨rfl, hb⟩; refine ⟨_, rfl, ?_⟩; clear hs; intro a hs; replace hw := hw.below hb; clear hb
  repeat (first | (refine sxv hs hw ?_; clear hs; intro a hs) | refine sxc hs ?_ | (refine sxa hs hw ?_; clear hs hw; intro a b W hw hs) | (refine sxs hs hw ?_; clear hs hw; intro W hs hw))
  refine st_call hs (hc := law7_Batches w _ (fr w) l v 30 _ (by decide) hb hr.h hw) (k := ?_); rintro e0 W1 ⟨bv, Ha, rfl, hlea, hbs, hw1⟩; refine ⟨_, rfl, ?_⟩; clear hs hw; intro a hs; have hw := hw1; clear hw1
  have hbo := batsB_ok hb 30
  have hbl : (batsB l 30).length ≤ 30 := by unfold batsB; rw [List.length_map, List.length_take]; omega
  generalize batsB l 30 = m at *
  have hrm2 : BatsH Ha v2 more := by
    obtain ⟨xs, h1, h2⟩ := hrm.h
    exact ⟨xs, h1.le hlea, h2.mono (BatIn.le hlea)⟩
  repeat (first | (refine sxv hs hw ?_; clear hs; intro a hs) | refine sxc hs ?_ | (refine sxa hs hw ?_; clear hs hw; intro a b W hw hs) | (refine sxs hs hw ?_; clear hs hw; intro W hs hw))
  refine st_call hs (hc := law7_Batches w _ Ha more v2 10 _ (by decide) hbm hrm2 hw) (k := ?_); rintro e0 W1 ⟨bv2, H1, rfl, hleb, hbs2, hw1⟩; refine ⟨_, rfl, ?_⟩; clear hs hw; intro a hs; have hw := hw1; clear hw1
  have hbo2 := batsB_ok hbm 10
  have hbl2 : (batsB more 10).length ≤ 10 := by unfold batsB; rw [List.length_map, List.length_take]; omega
  generalize batsB more 10 = m2 at *
  have hle1 := hlea.trans hleb
  obtain ⟨ys, hr0, hch0⟩ := hbs
  have hr := hr0.le hleb
  have hch := hch0.mono (BatIn.le hleb)
  obtain ⟨sad, scap, rfl⟩ := hr.slice
  obtain ⟨ys2, hr2, hch2⟩ := hbs2
  obtain ⟨sad2, scap2, rfl⟩ := hr2.slice
  repeat (first | (refine sxv hs hw ?_; clear hs; intro a hs) | refine sxc hs ?_ | (refine sxa hs hw ?_; clear hs hw; intro a b W hw hs) | (refine sxs hs hw ?_; clear hs hw; intro W hs hw))
  refine st_call hs (hc := fold_New w _ H1 _ hw) (k := ?_); rintro e0 W1 ⟨p, rfl, hw1⟩; refine ⟨_, rfl, ?_⟩; clear hs hw; intro a hs; have hw := hw1; clear hw1
  repeat (first | (refine sxv hs hw ?_; clear hs; intro a hs) | refine sxc hs ?_ | (refine sxa hs hw ?_; clear hs hw; intro a b W hw hs) | (refine sxs hs hw ?_; clear hs hw; intro W hs hw))
  refine st_loop (σ := Nat × FoldD × List RowD × Fh) (fun t => [(0, .slice sad m.length scap), (1, .slice sad2 m2.length scap2), (2, .int .i64 at_), (3, .int .u8 x), (10, .pointer (some ⟨p, 0, none⟩)), (11, .int .i64 (t.1 : Int))]) (fun t => FoldAt t.2.2.2 p t.2.1 :: Fz t.2.2.2 :: []) (fun t => t.1 ≤ m.length ∧ FoldFine t.2.1 ∧ t.2.1.place ≤ t.1 ∧ H1.le t.2.2.2 ∧ allF t.2.1 t.2.2.1 (m.drop t.1) = allF emptyF [] m) (fun t => m.length - t.1) (0, emptyF, [], H1) ⟨Nat.zero_le _, FoldFine.empty, by show (0 : Int) ≤ ((0 : Nat) : Int); decide, Fh.le.refl _, rfl⟩ hs ⟨rfl, rfl, rfl, rfl, rfl, rfl, trivial⟩ hw ?_
  clear hs hw
  rintro ⟨j, f, rows, H0⟩ a W ⟨hj, hff, hpl, hH0, hgo⟩ hs hw
  simp only at hj hff hpl hH0 hgo hs hw
  repeat (first | (refine sxv hs hw ?_; clear hs; intro a hs) | refine sxc hs ?_ | (refine sxa hs hw ?_; clear hs hw; intro a b W hw hs) | (refine sxs hs hw ?_; clear hs hw; intro W hs hw))
  refine cd_split hs (kt := fun hcc => ?_) (kf := fun hcc => ?_)
  · have hj' : j < m.length := by simpa using hcc
    obtain ⟨bt, hbi⟩ : ∃ o, m[j]? = some o := ⟨m[j], List.getElem?_eq_getElem hj'⟩
    have hok := hbo bt (List.mem_of_getElem? hbi)
    have hnx := hff.next hok (by omega)
    have hgo2 : ∃ rows2, allF (next f bt).1 rows2 (m.drop (j + 1)) = allF emptyF [] m := by
      have hdr : m.drop j = bt :: m.drop (j + 1) := drop_of hbi
      rw [hdr] at hgo
      simp only [allF] at hgo
      cases hc : (next f bt).2.2 with
      | true => rw [hc] at hgo; exact ⟨_, hgo⟩
      | false => rw [hc] at hgo; rw [next_no hc]; exact ⟨_, hgo⟩
    obtain ⟨rows2, hgo2⟩ := hgo2
    repeat (first | (refine sxv hs hw ?_; clear hs; intro a hs) | refine sxc hs ?_ | (refine sxa hs hw ?_; clear hs hw; intro a b W hw hs) | (refine sxs hs hw ?_; clear hs hw; intro W hs hw))
    refine st_index_ch hs (r := hw.rdH (by repeat (first | exact In.hd | apply In.tl)) (hr.le hH0)) (hk := BatIn.len) (ch := hch.mono (BatIn.le hH0)) (ho := hbi) (hlen := rfl) (c := ?_); clear hs; intro a g off cc hcc2 hcl hpc hlt hs
    obtain ⟨bv0, rfl, hbv0⟩ := hcc2
    refine st_load_ats hs (cs := batCells bt bv0) (hc := hpc) (hl := by rfl) (c := ?_); clear hs hpc; intro a hs
    refine st_call hs (hc := fold_Next w _ H0 p f bt bv0 _ hok hbv0 (hle1.trans hH0) hT hw) (k := ?_); rintro e0 W1 ⟨sv1, HA, rfl, hleA, hsv1, hw1⟩; refine ⟨_, rfl, ?_⟩; clear hs hw; intro a hs; have hw := hw1; clear hw1
    repeat (first | (refine sxv hs hw ?_; clear hs; intro a hs) | refine sxc hs ?_ | (refine sxa hs hw ?_; clear hs hw; intro a b W hw hs) | (refine sxs hs hw ?_; clear hs hw; intro W hs hw) | ((with_reducible first | refine st_ptrSome hs (k := ?_) | refine st_ptrNone hs (k := ?_)); clear hs; intro a hs))
    exact st_again (j + 1, (next f bt).1, rows2, HA) hs hw ⟨hj', hnx.1, by show (next f bt).1.place ≤ ((j + 1 : Nat) : Int); have := hnx.2; omega, hH0.trans hleA, hgo2⟩ (by show m.length - (j + 1) < m.length - j; omega) ⟨rfl, rfl, rfl, rfl, rfl, int_eq (by show IntKind.i64.wrap ((j : Int) + 1) = ((j + 1 : Nat) : Int); rw [IntWalk.i64_in _ (by omega)]; omega), trivial⟩
  · have hj' : j = m.length := by
      have : ¬ j < m.length := by simpa using hcc
      omega
    have hfe : (allF emptyF [] m).1 = f := by
      rw [← hgo, hj', List.drop_length]; rfl
    repeat (first | (refine sxv hs hw ?_; clear hs; intro a hs) | refine sxc hs ?_ | (refine sxa hs hw ?_; clear hs hw; intro a b W hw hs) | (refine sxs hs hw ?_; clear hs hw; intro W hs hw))
    replace hw : Has 0 w _ (Fz H0 :: FoldAt H0 p f :: []) := hw.swap2
    refine st_call hs (hc := ref7_All w _ H0 m _ _ (by omega) hbo ⟨ys, hr.le hH0, hch.mono (BatIn.le hH0)⟩ hw) (k := ?_); rintro e0 W1 ⟨cs, ad, cap, ys3, H2, rfl, hle2, hf, hch3, hw1⟩; refine ⟨_, rfl, ?_⟩; clear hs hw; intro a hs; have hw := hw1; clear hw1
    rw [hfe] at hf
    have hlen := hf.len
    have hone := hf.one
    repeat (first | (refine sxv hs hw ?_; clear hs; intro a hs) | refine sxc hs ?_ | (refine sxa hs hw ?_; clear hs hw; intro a b W hw hs) | (refine sxs hs hw ?_; clear hs hw; intro W hs hw) | ((with_reducible first | refine st_ptrSome hs (k := ?_) | refine st_ptrNone hs (k := ?_)); clear hs; intro a hs))
    refine st_store hs (vs := cs) (hw := hw) (hz := by rw [hlen]; rfl) (h1 := hone) (hl := by rw [hlen]; rfl) (k := ?_); clear hs hw; intro W hs hw
    rw [ov_all _ _ (by rw [hlen]; rfl)] at hw
    repeat (first | (refine sxv hs hw ?_; clear hs; intro a hs) | refine sxc hs ?_ | (refine sxa hs hw ?_; clear hs hw; intro a b W hw hs) | (refine sxs hs hw ?_; clear hs hw; intro W hs hw) | ((with_reducible first | refine st_ptrSome hs (k := ?_) | refine st_ptrNone hs (k := ?_)); clear hs; intro a hs))
    obtain ⟨b12, q8⟩ := nm1 hw; subst q8
    have hleB := (hle1.trans hH0).trans hle2
    replace hw : Has 0 w _ (FoldAt H2 p f :: Fz H2 :: Cells b12 cs 42 :: []) := foldLe (hw.sel (by repeat (first | exact Sel.nil | exact Sel.refl _ | refine Sel.cons (by repeat (first | exact Pick.hd | apply Pick.tl)) ?_ | refine Sel.skip ?_)) : Has 0 w _ (FoldAt H0 p f :: Fz H2 :: Cells b12 cs 42 :: [])) hle2
    refine st_call hs (hc := fold_Encode w _ H2 p f _ hff hleB hT hw) (k := ?_); rintro e0 W1 ⟨ead, ecap, rfl, hw1⟩; refine ⟨_, rfl, ?_⟩; clear hs hw; intro a hs; have hw := hw1; clear hw1
    replace hw : Has 0 w _ (Sx.OwnB 5 (.slice ead (foldB f).length ecap) (foldB f) :: Fz H2 :: FoldAt H2 p f :: Cells b12 cs 42 :: []) := hw.perm (by repeat (first | exact List.Perm.refl _ | refine perm_pick (by repeat (first | exact Pick.hd | apply Pick.tl)) ?_))
    obtain ⟨H3, hle3, hw2, hbb⟩ := hw.freeze_own
    clear hw; have hw := hw2; clear hw2
    repeat (first | (refine sxv hs hw ?_; clear hs; intro a hs) | refine sxc hs ?_ | (refine sxa hs hw ?_; clear hs hw; intro a b W hw hs) | (refine sxs hs hw ?_; clear hs hw; intro W hs hw) | ((with_reducible first | refine st_ptrSome hs (k := ?_) | refine st_ptrNone hs (k := ?_)); clear hs; intro a hs))
    refine st_call hs (hc := fold_DecodeOf w _ H3 f _ _ hff hbb (hleB.trans hle3) hT hw) (k := ?_); rintro e0 W1 ⟨H4, g, hle4, rfl, hw1⟩; refine ⟨_, rfl, ?_⟩; clear hs hw; intro a hs; have hw := hw1; clear hw1
    have hle5 := (hleB.trans hle3).trans hle4
    have hf4 := hf.le (hle3.trans hle4)
    replace hbb := RdH.le hbb hle4
    replace hw : Has 0 w _ (FoldAt H4 p f :: FoldAt H4 g f :: Fz H4 :: Cells b12 cs 42 :: []) := foldLe (hw.perm (by repeat (first | exact List.Perm.refl _ | refine perm_pick (by repeat (first | exact Pick.hd | apply Pick.tl)) ?_)) : Has 0 w _ (FoldAt H2 p f :: FoldAt H4 g f :: Fz H4 :: Cells b12 cs 42 :: [])) (hle3.trans hle4)
    have hblen := hff.blen
    have hbpos := foldB_pos f
    repeat (first | (refine sxv hs hw ?_; clear hs; intro a hs) | refine sxc hs ?_ | (refine sxa hs hw ?_; clear hs hw; intro a b W hw hs) | (refine sxs hs hw ?_; clear hs hw; intro W hs hw) | ((with_reducible first | refine st_ptrSome hs (k := ?_) | refine st_ptrNone hs (k := ?_)); clear hs; intro a hs))
    replace hw := hw.free
    refine rg_drawU (σ := Option Addr × Nat) (V := fun u => [.slice ead (foldB f).length ecap, .string ⟨(foldB f).toArray⟩, .agg ⟨cs⟩, (.slice (u 3).1 (foldB f).length (u 3).2), .string ⟨(foldB f).toArray⟩, .bool false, .bool false, .int .i64 0, .bool false, .bool false, .bool false, .pointer (some ⟨g, 0, none⟩), .pointer (some ⟨p, 0, none⟩), .bool true, .bool false, .bool false, .bool false, .pointer (some ⟨g, 0, none⟩), .agg ⟨cs⟩, .bool true, .bool false, .bool false])
      (Rs := fun u D => (if D 3 then Sx.OwnB 5 (.slice (u 3).1 (foldB f).length (u 3).2) (foldB f) else Free) :: FoldAt H4 p f :: FoldAt H4 g f :: Fz H4 :: Cells b12 cs 42 :: []) (fun _ => (none, 0)) hs hw (hVu := ?vu_c) (ho := ⟨?_, ?c1_c, ?c2_c, ?c3_c, ?c4_c, ?c5_c, ?_, ?_, ?_, ?_, ?_, ?_, ?_, ?c13_c, ?_, ?_, ?_, ?_, ?c18_c, ?c19_c, ?_, ?_, trivial⟩) (k := ?k_c)
    case vu_c =>
      intro u u' j h
      rcases j with _ | _ | _ | _ | _ | _ | _ | _ | _ | _ | _ | _ | _ | _ | _ | _ | _ | _ | _ | _ | _ | _ | j
      all_goals first | rfl | simp [h]
    case c1_c =>
      intro u LD D a W hcl hi hp hs hw
      refine st_string_b hs (r := hw.rdH (by repeat (first | exact In.hd | apply In.tl)) hbb) (k := ?_); clear hs; intro a hs
      repeat (first | (refine sxv hs hw ?_; clear hs; intro a hs) | refine sxc hs ?_ | (refine sxa hs hw ?_; clear hs hw; intro a b W hw hs) | (refine sxs hs hw ?_; clear hs hw; intro W hs hw) | ((with_reducible first | refine st_ptrSome hs (k := ?_) | refine st_ptrNone hs (k := ?_)); clear hs; intro a hs))
      exact Or.inl ⟨hs, hw⟩
    case c2_c =>
      intro u LD D a W hcl hi hp hs hw
      refine st_load_agg hs (hw := hw) (hi := In.tl (In.tl (In.tl (In.tl In.hd)))) (hl := by rw [hlen]; rfl) (k := ?_); clear hs; intro a hs
      have hs2 : Slots a 138 ((57, .agg ⟨cut cs 0 38⟩) :: _) := hs
      rw [cut_all _ _ hlen] at hs2
      clear hs; have hs := hs2; clear hs2
      repeat (first | (refine sxv hs hw ?_; clear hs; intro a hs) | refine sxc hs ?_ | (refine sxa hs hw ?_; clear hs hw; intro a b W hw hs) | (refine sxs hs hw ?_; clear hs hw; intro W hs hw) | ((with_reducible first | refine st_ptrSome hs (k := ?_) | refine st_ptrNone hs (k := ?_)); clear hs; intro a hs))
      exact Or.inl ⟨hs, hw⟩
    case c18_c =>
      intro u LD D a W hcl hi hp hs hw
      repeat (first | (refine sxv hs hw ?_; clear hs; intro a hs) | refine sxc hs ?_ | (refine sxa hs hw ?_; clear hs hw; intro a b W hw hs) | (refine sxs hs hw ?_; clear hs hw; intro W hs hw) | ((with_reducible first | refine st_ptrSome hs (k := ?_) | refine st_ptrNone hs (k := ?_)); clear hs; intro a hs))
      refine st_load_agg hs (hw := hw) (hi := In.tl (In.tl (In.tl (In.tl In.hd)))) (hl := by rw [hlen]; rfl) (k := ?_); clear hs; intro a hs
      have hs2 : Slots a 138 ((73, .agg ⟨cut cs 0 38⟩) :: _) := hs
      rw [cut_all _ _ hlen] at hs2
      clear hs; have hs := hs2; clear hs2
      repeat (first | (refine sxv hs hw ?_; clear hs; intro a hs) | refine sxc hs ?_ | (refine sxa hs hw ?_; clear hs hw; intro a b W hw hs) | (refine sxs hs hw ?_; clear hs hw; intro W hs hw) | ((with_reducible first | refine st_ptrSome hs (k := ?_) | refine st_ptrNone hs (k := ?_)); clear hs; intro a hs))
      exact Or.inl ⟨hs, hw⟩
    case c3_c =>
      intro u LD D a W hcl hi hp hs hw
      simp only [hi, Bool.false_eq_true, if_false] at hw
      replace hw : Has 0 w _ (Fz H4 :: Free :: FoldAt H4 p f :: FoldAt H4 g f :: Cells b12 cs 42 :: []) := hw.perm (by repeat (first | exact List.Perm.refl _ | refine perm_pick (by repeat (first | exact Pick.hd | apply Pick.tl)) ?_))
      refine st_call hs (hc := ref7_Encode w _ H4 f cs _ hff hf4 hw) (k := ?_); rintro e0 W1 ⟨ad3, cap3, rfl, hw1⟩; refine ⟨_, rfl, ?_⟩; clear hs hw; intro a hs; have hw := hw1; clear hw1
      repeat (first | (refine sxv hs hw ?_; clear hs; intro a hs) | refine sxc hs ?_ | (refine sxa hs hw ?_; clear hs hw; intro a b W hw hs) | (refine sxs hs hw ?_; clear hs hw; intro W hs hw) | ((with_reducible first | refine st_ptrSome hs (k := ?_) | refine st_ptrNone hs (k := ?_)); clear hs; intro a hs))
      replace hw := hw.fill (Upd.tl Upd.hd)
      exact Or.inr ⟨(ad3, cap3), hs, hw.perm (by repeat (first | exact List.Perm.refl _ | refine perm_pick (by repeat (first | exact Pick.hd | apply Pick.tl)) ?_))⟩
    case c4_c =>
      intro u LD D a W hcl hi hp hs hw
      have h3 := Go.Sx.done hp 3 (by kernel_rfl)
      have hw0 := hw
      simp only [h3, if_true] at hw
      refine st_string_b hs (r := hw.rd_own In.hd) (k := ?_); clear hs; intro a hs
      repeat (first | (refine sxv hs hw ?_; clear hs; intro a hs) | refine sxc hs ?_ | (refine sxa hs hw ?_; clear hs hw; intro a b W hw hs) | (refine sxs hs hw ?_; clear hs hw; intro W hs hw) | ((with_reducible first | refine st_ptrSome hs (k := ?_) | refine st_ptrNone hs (k := ?_)); clear hs; intro a hs))
      exact Or.inl ⟨hs, hw0⟩
    case c5_c =>
      intro u LD D a W hcl hi hp hs hw
      repeat (first | (refine sxv hs hw ?_; clear hs; intro a hs) | refine sxc hs ?_ | (refine sxa hs hw ?_; clear hs hw; intro a b W hw hs) | (refine sxs hs hw ?_; clear hs hw; intro W hs hw) | ((with_reducible first | refine st_ptrSome hs (k := ?_) | refine st_ptrNone hs (k := ?_)); clear hs; intro a hs))
      rw [beq_self_eq_true] at hs
      exact Or.inl ⟨hs, hw⟩
    case c13_c =>
      intro u LD D a W hcl hi hp hs hw
      repeat (first | (refine sxv hs hw ?_; clear hs; intro a hs) | refine sxc hs ?_ | (refine sxa hs hw ?_; clear hs hw; intro a b W hw hs) | (refine sxs hs hw ?_; clear hs hw; intro W hs hw) | ((with_reducible first | refine st_ptrSome hs (k := ?_) | refine st_ptrNone hs (k := ?_)); clear hs; intro a hs))
      refine st_call hs (hc := fold_Eq w _ H4 g p f f ((if D 3 then Sx.OwnB 5 (.slice (u 3).1 (foldB f).length (u 3).2) (foldB f) else Free) :: Cells b12 cs 42 :: []) hff hff hle5 hT (hw.perm (by repeat (first | exact List.Perm.refl _ | refine perm_pick (by repeat (first | exact Pick.hd | apply Pick.tl)) ?_)))) (k := ?_); rw [beq_self_eq_true]; rintro e0 W1 ⟨rfl, hw1⟩; refine ⟨_, rfl, ?_⟩; clear hs hw; intro a hs; have hw := hw1; clear hw1
      repeat (first | (refine sxv hs hw ?_; clear hs; intro a hs) | refine sxc hs ?_ | (refine sxa hs hw ?_; clear hs hw; intro a b W hw hs) | (refine sxs hs hw ?_; clear hs hw; intro W hs hw) | ((with_reducible first | refine st_ptrSome hs (k := ?_) | refine st_ptrNone hs (k := ?_)); clear hs; intro a hs))
      exact Or.inl ⟨hs, hw.perm (by repeat (first | exact List.Perm.refl _ | refine perm_pick (by repeat (first | exact Pick.hd | apply Pick.tl)) ?_))⟩
    case c19_c =>
      intro u LD D a W hcl hi hp hs hw
      repeat (first | (refine sxv hs hw ?_; clear hs; intro a hs) | refine sxc hs ?_ | (refine sxa hs hw ?_; clear hs hw; intro a b W hw hs) | (refine sxs hs hw ?_; clear hs hw; intro W hs hw) | ((with_reducible first | refine st_ptrSome hs (k := ?_) | refine st_ptrNone hs (k := ?_)); clear hs; intro a hs))
      refine st_call hs (hc := law7_Same w _ H4 g f cs ((if D 3 then Sx.OwnB 5 (.slice (u 3).1 (foldB f).length (u 3).2) (foldB f) else Free) :: FoldAt H4 p f :: Cells b12 cs 42 :: []) hff.ok hf4 (hw.perm (by repeat (first | exact List.Perm.refl _ | refine perm_pick (by repeat (first | exact Pick.hd | apply Pick.tl)) ?_)))) (k := ?_); rintro e0 W1 ⟨rfl, hw1⟩; refine ⟨_, rfl, ?_⟩; clear hs hw; intro a hs; have hw := hw1; clear hw1
      repeat (first | (refine sxv hs hw ?_; clear hs; intro a hs) | refine sxc hs ?_ | (refine sxa hs hw ?_; clear hs hw; intro a b W hw hs) | (refine sxs hs hw ?_; clear hs hw; intro W hs hw) | ((with_reducible first | refine st_ptrSome hs (k := ?_) | refine st_ptrNone hs (k := ?_)); clear hs; intro a hs))
      exact Or.inl ⟨hs, hw.perm (by repeat (first | exact List.Perm.refl _ | refine perm_pick (by repeat (first | exact Pick.hd | apply Pick.tl)) ?_))⟩
    case k_c =>
      clear hs hw
      intro u a W hs hw
      replace hw : Has 0 w W (Sx.OwnB 5 (.slice (u 3).1 (foldB f).length (u 3).2) (foldB f) :: FoldAt H4 p f :: FoldAt H4 g f :: Fz H4 :: Cells b12 cs 42 :: []) := hw
      replace hw : Has 0 w W (FoldAt H4 p f :: FoldAt H4 g f :: Fz H4 :: Cells b12 cs 42 :: []) := hw.sel (by repeat (first | exact Sel.nil | exact Sel.refl _ | refine Sel.cons (by repeat (first | exact Pick.hd | apply Pick.tl)) ?_ | refine Sel.skip ?_))
      replace hs : Slots a 138 [(76, .bool false), (1, .slice sad2 m2.length scap2), (2, .int .i64 at_), (3, .int .u8 x), (10, .pointer (some ⟨p, 0, none⟩)), (12, .pointer (some ⟨b12, 0, none⟩)), (14, .slice ead (foldB f).length ecap), (15, .pointer (some ⟨g, 0, none⟩))] := hs.of ⟨rfl, rfl, rfl, rfl, rfl, rfl, rfl, rfl, trivial⟩
      clear u
      generalize foldB f = X at *
      repeat (first | (refine sxv hs hw ?_; clear hs; intro a hs) | refine sxc hs ?_ | (refine sxa hs hw ?_; clear hs hw; intro a b W hw hs) | (refine sxs hs hw ?_; clear hs hw; intro W hs hw) | ((with_reducible first | refine st_ptrSome hs (k := ?_) | refine st_ptrNone hs (k := ?_)); clear hs; intro a hs))
      refine st_call hs (hc := fold_Copy w _ H4 p f _ hw) (k := ?_); rintro e0 W1 ⟨q, rfl, hw1⟩; refine ⟨_, rfl, ?_⟩; clear hs hw; intro a hs; have hw := hw1; clear hw1
      repeat (first | (refine sxv hs hw ?_; clear hs; intro a hs) | refine sxc hs ?_ | (refine sxa hs hw ?_; clear hs hw; intro a b W hw hs) | (refine sxs hs hw ?_; clear hs hw; intro W hs hw) | ((with_reducible first | refine st_ptrSome hs (k := ?_) | refine st_ptrNone hs (k := ?_)); clear hs; intro a hs))
      replace hw : Has 0 w _ (FoldAt H4 g f :: FoldAt H4 q f :: FoldAt H4 p f :: Fz H4 :: Cells b12 cs 42 :: []) := hw.perm (by repeat (first | exact List.Perm.refl _ | refine perm_pick (by repeat (first | exact Pick.hd | apply Pick.tl)) ?_))
      have hH4 := (hH0.trans hle2).trans (hle3.trans hle4)
      refine st_loop (σ := Nat × FoldD × Fh) (fun t => [(1, .slice sad2 m2.length scap2), (2, .int .i64 at_), (3, .int .u8 x), (10, .pointer (some ⟨p, 0, none⟩)), (12, .pointer (some ⟨b12, 0, none⟩)), (14, .slice ead X.length ecap), (15, .pointer (some ⟨g, 0, none⟩)), (17, .pointer (some ⟨q, 0, none⟩)), (18, .int .i64 (t.1 : Int))]) (fun t => FoldAt t.2.2 g t.2.1 :: FoldAt t.2.2 q t.2.1 :: FoldAt t.2.2 p f :: Fz t.2.2 :: Cells b12 cs 42 :: []) (fun t => t.1 ≤ m2.length ∧ FoldFine t.2.1 ∧ t.2.1.place ≤ 30 + t.1 ∧ H4.le t.2.2) (fun t => m2.length - t.1) (0, f, H4) ⟨Nat.zero_le _, hff, by show f.place ≤ 30 + ((0 : Nat) : Int); omega, Fh.le.refl _⟩ hs ⟨rfl, rfl, rfl, rfl, rfl, rfl, rfl, rfl, rfl, trivial⟩ hw ?_
      clear hs hw
      rintro ⟨i, h, H5⟩ a W ⟨hi, hhf, hpl2, hH5⟩ hs hw
      simp only at hi hhf hpl2 hH5 hs hw
      have hleC := hle5.trans hH5
      repeat (first | (refine sxv hs hw ?_; clear hs; intro a hs) | refine sxc hs ?_ | (refine sxa hs hw ?_; clear hs hw; intro a b W hw hs) | (refine sxs hs hw ?_; clear hs hw; intro W hs hw) | ((with_reducible first | refine st_ptrSome hs (k := ?_) | refine st_ptrNone hs (k := ?_)); clear hs; intro a hs))
      refine cd_split hs (kt := fun hcc => ?_) (kf := fun hcc => ?_)
      · have hi' : i < m2.length := by simpa using hcc
        obtain ⟨bt, hbi⟩ : ∃ o, m2[i]? = some o := ⟨m2[i], List.getElem?_eq_getElem hi'⟩
        have hok := hbo2 bt (List.mem_of_getElem? hbi)
        have hnx := hhf.next hok (by omega)
        have hH15 := hH4.trans hH5
        obtain ⟨N, hN⟩ : ∃ N, next h bt = N := ⟨_, rfl⟩
        repeat (first | (refine sxv hs hw ?_; clear hs; intro a hs) | refine sxc hs ?_ | (refine sxa hs hw ?_; clear hs hw; intro a b W hw hs) | (refine sxs hs hw ?_; clear hs hw; intro W hs hw) | ((with_reducible first | refine st_ptrSome hs (k := ?_) | refine st_ptrNone hs (k := ?_)); clear hs; intro a hs))
        refine st_index_ch hs (r := hw.rdH (by repeat (first | exact In.hd | apply In.tl)) (hr2.le hH15)) (hk := BatIn.len) (ch := hch2.mono (BatIn.le hH15)) (ho := hbi) (hlen := rfl) (c := ?_); clear hs; intro a gg off cc hcc2 hcl hpc hlt hs
        obtain ⟨bv0, rfl, hbv0⟩ := hcc2
        refine st_load_ats hs (cs := batCells bt bv0) (hc := hpc) (hl := by rfl) (c := ?_); clear hs hpc; intro a hs
        replace hw : Has 0 w _ (FoldAt H5 g h :: Fz H5 :: FoldAt H5 q h :: FoldAt H5 p f :: Cells b12 cs 42 :: []) := hw.perm (by repeat (first | exact List.Perm.refl _ | refine perm_pick (by repeat (first | exact Pick.hd | apply Pick.tl)) ?_))
        refine st_call hs (hc := fold_Next w _ H5 g h bt bv0 _ hok hbv0 hleC hT hw) (k := ?_); rw [hN]; rintro e0 W1 ⟨sv1, H6, rfl, hle6, hsv1, hw1⟩; refine ⟨_, rfl, ?_⟩; clear hs hw; intro a hs; have hw := hw1; clear hw1
        obtain ⟨fad, fcap, rfl⟩ := hsv1.slice
        repeat (first | (refine sxv hs hw ?_; clear hs; intro a hs) | refine sxc hs ?_ | (refine sxa hs hw ?_; clear hs hw; intro a b W hw hs) | (refine sxs hs hw ?_; clear hs hw; intro W hs hw) | ((with_reducible first | refine st_ptrSome hs (k := ?_) | refine st_ptrNone hs (k := ?_)); clear hs; intro a hs))
        obtain ⟨b19, q19⟩ := nm1 hw; subst q19
        have hH16 := hH15.trans hle6
        refine st_index_ch hs (r := hw.rdH (by repeat (first | exact In.hd | apply In.tl)) (hr2.le hH16)) (hk := BatIn.len) (ch := hch2.mono (BatIn.le hH16)) (ho := hbi) (hlen := rfl) (c := ?_); clear hs; intro a gg2 off2 cc hcc3 hcl2 hpc hlt2 hs
        obtain ⟨bv1, rfl, hbv1⟩ := hcc3
        refine st_load_ats hs (cs := batCells bt bv1) (hc := hpc) (hl := by rfl) (c := ?_); clear hs hpc; intro a hs
        replace hw : Has 0 w _ (FoldAt H6 q h :: Fz H6 :: Cells b19 (rowCells N.2.1 (.slice fad N.2.1.b.l.length fcap)) 39 :: FoldAt H6 g N.1 :: FoldAt H5 p f :: Cells b12 cs 42 :: []) := foldLe (hw.perm (by repeat (first | exact List.Perm.refl _ | refine perm_pick (by repeat (first | exact Pick.hd | apply Pick.tl)) ?_)) : Has 0 w _ (FoldAt H5 q h :: Fz H6 :: Cells b19 (rowCells N.2.1 (.slice fad N.2.1.b.l.length fcap)) 39 :: FoldAt H6 g N.1 :: FoldAt H5 p f :: Cells b12 cs 42 :: [])) hle6
        refine st_call hs (hc := fold_Next w _ H6 q h bt bv1 _ hok hbv1 (hleC.trans hle6) hT hw) (k := ?_); rw [hN]; rintro e0 W1 ⟨sv2, H7, rfl, hle7, hsv2, hw1⟩; refine ⟨_, rfl, ?_⟩; clear hs hw; intro a hs; have hw := hw1; clear hw1
        rw [hN] at hnx
        obtain ⟨fad2, fcap2, rfl⟩ := hsv2.slice
        repeat (first | (refine sxv hs hw ?_; clear hs; intro a hs) | refine sxc hs ?_ | (refine sxa hs hw ?_; clear hs hw; intro a b W hw hs) | (refine sxs hs hw ?_; clear hs hw; intro W hs hw) | ((with_reducible first | refine st_ptrSome hs (k := ?_) | refine st_ptrNone hs (k := ?_)); clear hs; intro a hs))
        rw [beq_self_eq_true] at hs
        repeat (first | (refine sxv hs hw ?_; clear hs; intro a hs) | refine sxc hs ?_ | (refine sxa hs hw ?_; clear hs hw; intro a b W hw hs) | (refine sxs hs hw ?_; clear hs hw; intro W hs hw) | ((with_reducible first | refine st_ptrSome hs (k := ?_) | refine st_ptrNone hs (k := ?_)); clear hs; intro a hs))
        refine st_call hs (hc := ref_EqRow N.2.1 N.2.1 _ _ _ (hw.rdH (by repeat (first | exact In.hd | apply In.tl)) (RdH.le hsv1 hle7)) (hw.rdH (by repeat (first | exact In.hd | apply In.tl)) hsv2)) (k := ?_); rintro e0 W1 ⟨rfl, hb⟩; refine ⟨_, rfl, ?_⟩; clear hs; intro a hs; replace hw := hw.below hb; clear hb
        rw [eqRow_iff.2 rfl] at hs
        repeat (first | (refine sxv hs hw ?_; clear hs; intro a hs) | refine sxc hs ?_ | (refine sxa hs hw ?_; clear hs hw; intro a b W hw hs) | (refine sxs hs hw ?_; clear hs hw; intro W hs hw) | ((with_reducible first | refine st_ptrSome hs (k := ?_) | refine st_ptrNone hs (k := ?_)); clear hs; intro a hs))
        replace hw : Has 0 w _ (FoldAt H7 g N.1 :: FoldAt H7 q N.1 :: FoldAt H7 p f :: Fz H7 :: Cells b12 cs 42 :: []) := foldLe ((foldLe (hw.sel (by repeat (first | exact Sel.nil | exact Sel.refl _ | refine Sel.cons (by repeat (first | exact Pick.hd | apply Pick.tl)) ?_ | refine Sel.skip ?_)) : Has 0 w _ (FoldAt H5 p f :: FoldAt H7 q N.1 :: FoldAt H6 g N.1 :: Fz H7 :: Cells b12 cs 42 :: [])) (hle6.trans hle7)).perm (by repeat (first | exact List.Perm.refl _ | refine perm_pick (by repeat (first | exact Pick.hd | apply Pick.tl)) ?_)) : Has 0 w _ (FoldAt H6 g N.1 :: FoldAt H7 q N.1 :: FoldAt H7 p f :: Fz H7 :: Cells b12 cs 42 :: [])) hle7
        exact st_again (i + 1, N.1, H7) hs hw ⟨hi', hnx.1, by show N.1.place ≤ 30 + ((i + 1 : Nat) : Int); have := hnx.2; omega, (hH5.trans hle6).trans hle7⟩ (by show m2.length - (i + 1) < m2.length - i; omega) ⟨rfl, rfl, rfl, rfl, rfl, rfl, rfl, rfl, int_eq (by show IntKind.i64.wrap ((i : Int) + 1) = ((i + 1 : Nat) : Int); rw [IntWalk.i64_in _ (by omega)]; omega), trivial⟩
      · have hf5 := hf4.le hH5
        have hbb5 := RdH.le hbb hH5
        repeat (first | (refine sxv hs hw ?_; clear hs; intro a hs) | refine sxc hs ?_ | (refine sxa hs hw ?_; clear hs hw; intro a b W hw hs) | (refine sxs hs hw ?_; clear hs hw; intro W hs hw) | ((with_reducible first | refine st_ptrSome hs (k := ?_) | refine st_ptrNone hs (k := ?_)); clear hs; intro a hs))
        refine st_call hs (hc := fold_Eq w _ H5 g q h h (FoldAt H5 p f :: Cells b12 cs 42 :: []) hhf hhf hleC hT (hw.perm (by repeat (first | exact List.Perm.refl _ | refine perm_pick (by repeat (first | exact Pick.hd | apply Pick.tl)) ?_)))) (k := ?_); rw [beq_self_eq_true]; rintro e0 W1 ⟨rfl, hw1⟩; refine ⟨_, rfl, ?_⟩; clear hs hw; intro a hs; have hw := hw1; clear hw1
        repeat (first | (refine sxv hs hw ?_; clear hs; intro a hs) | refine sxc hs ?_ | (refine sxa hs hw ?_; clear hs hw; intro a b W hw hs) | (refine sxs hs hw ?_; clear hs hw; intro W hs hw) | ((with_reducible first | refine st_ptrSome hs (k := ?_) | refine st_ptrNone hs (k := ?_)); clear hs; intro a hs))
        replace hw : Has 0 w _ (FoldAt H5 p f :: Fz H5 :: Cells b12 cs 42 :: []) := hw.sel (by repeat (first | exact Sel.nil | exact Sel.refl _ | refine Sel.cons (by repeat (first | exact Pick.hd | apply Pick.tl)) ?_ | refine Sel.skip ?_))
        refine st_load_agg hs (hw := hw) (hi := In.tl (In.tl In.hd)) (hl := by rw [hlen]; rfl) (k := ?_); clear hs; intro a hs
        have hs2 : Slots a 138 ((118, .agg ⟨cut cs 0 38⟩) :: _) := hs
        rw [cut_all _ _ hlen] at hs2
        clear hs; have hs := hs2; clear hs2
        repeat (first | (refine sxv hs hw ?_; clear hs; intro a hs) | refine sxc hs ?_ | (refine sxa hs hw ?_; clear hs hw; intro a b W hw hs) | (refine sxs hs hw ?_; clear hs hw; intro W hs hw) | ((with_reducible first | refine st_ptrSome hs (k := ?_) | refine st_ptrNone hs (k := ?_)); clear hs; intro a hs))
        refine st_call hs (hc := law7_Same w _ H5 p f cs _ hff.ok hf5 hw) (k := ?_); rintro e0 W1 ⟨rfl, hw1⟩; refine ⟨_, rfl, ?_⟩; clear hs hw; intro a hs; have hw := hw1; clear hw1
        repeat (first | (refine sxv hs hw ?_; clear hs; intro a hs) | refine sxc hs ?_ | (refine sxa hs hw ?_; clear hs hw; intro a b W hw hs) | (refine sxs hs hw ?_; clear hs hw; intro W hs hw) | ((with_reducible first | refine st_ptrSome hs (k := ?_) | refine st_ptrNone hs (k := ?_)); clear hs; intro a hs))
        replace hw : Has 0 w _ (Fz H5 :: []) := hw.sel (by repeat (first | exact Sel.nil | exact Sel.refl _ | refine Sel.cons (by repeat (first | exact Pick.hd | apply Pick.tl)) ?_ | refine Sel.skip ?_))
        repeat (first | (refine sxv hs hw ?_; clear hs; intro a hs) | refine sxn hs ?_ | (refine sxa hs hw ?_; clear hs hw; intro a b W hw hs) | (refine sxs hs hw ?_; clear hs hw; intro W hs hw))
        refine merge (M := fun a W => ∃ (l2 : List UInt8) (a2 : Option Addr) (c2 : Nat) (H2 : Fh), l2.length ≤ 100000 ∧ (fr w).le H2 ∧ RdH H2 1 (.slice a2 l2.length c2) l2.length (bys l2) ∧ Slots a 138 [(14, .slice a2 l2.length c2)] ∧ Has 0 w W (Fz H2 :: [])) ?_ ?_
        · repeat (first | (refine sxv hs hw ?_; clear hs; intro a hs) | refine sxc hs ?_ | (refine sxa hs hw ?_; clear hs hw; intro a b W hw hs) | (refine sxs hs hw ?_; clear hs hw; intro W hs hw))
          cases c5 : decide (at_ ≥ 0) with
          | false =>
            rw [c5] at hs
            repeat (first | (refine sxv hs hw ?_; clear hs; intro a hs) | refine sxc hs ?_ | (refine sxa hs hw ?_; clear hs hw; intro a b W hw hs) | (refine sxs hs hw ?_; clear hs hw; intro W hs hw))
            exact ⟨X, ead, ecap, H5, hblen, hleC, hbb5, hs.of ⟨rfl, trivial⟩, hw⟩
          | true =>
          rw [c5] at hs
          have h0 := of_decide_eq_true c5
          repeat (first | (refine sxv hs hw ?_; clear hs; intro a hs) | refine sxc hs ?_ | (refine sxa hs hw ?_; clear hs hw; intro a b W hw hs) | (refine sxs hs hw ?_; clear hs hw; intro W hs hw))
          have hw := hw.nilB 5
          refine st_append_b hs hw (l := []) (m := X) (hr := src_rd (hw.rdH (In.tl In.hd) hbb5) (bys_one _)) (hb := by simp; omega) (c := ?_); clear hs hw; intro a ad5 cap5 W hs hw
          rw [List.nil_append] at hs hw
          repeat (first | (refine sxv hs hw ?_; clear hs; intro a hs) | refine sxc hs ?_ | (refine sxa hs hw ?_; clear hs hw; intro a b W hw hs) | (refine sxs hs hw ?_; clear hs hw; intro W hs hw))
          obtain ⟨kk, hkk⟩ : ∃ kk : Nat, at_.tmod (X.length : Int) = (kk : Int) := ⟨(at_.tmod (X.length : Int)).toNat, by have := Int.tmod_nonneg (X.length : Int) h0; omega⟩
          have hidx : kk < X.length := by
            have := Int.tmod_lt_of_pos at_ (b := (X.length : Int)) (by omega)
            omega
          obtain ⟨c0, hc0⟩ : ∃ c0, X[kk]? = some c0 := ⟨X[kk], by simp [hidx]⟩
          refine st_idiv hs (hne := by rw [beq_eq_false_iff_ne]; omega) (k := ?_); clear hs; intro a hs
          rw [hkk] at hs
          obtain ⟨g2, cur, rfl, htk, hcl, hkc, hcm, hw2⟩ := hw.open_own hbpos
          clear hw; have hw := hw2; clear hw2
          rw [Nat.mul_one] at htk hcl
          refine st_index_at hs (z := [.int .u8 0]) (h0 := by omega) (h1 := by omega) (c := ?_); clear hs; intro a hs
          have hcur : cur[kk]? = some (.int .u8 (c0.toNat : Int)) := by
            have : (bys X)[kk]? = some (.int .u8 (c0.toNat : Int)) := by simp [hc0]
            rw [← htk, List.getElem?_take, if_pos hidx] at this
            exact this
          have hoff : 0 + (kk : Int).toNat * [Value.int .u8 0].length = kk := by
            rw [Int.toNat_natCast]
            show 0 + _ * 1 = _
            omega
          rw [hoff] at hs
          refine st_load_one hs (hw := hw) (hi := In.hd) (hv := hcur) (k := ?_); clear hs; intro a hs
          repeat (first | (refine sxv hs hw ?_; clear hs; intro a hs) | refine sxc hs ?_ | (refine sxa hs hw ?_; clear hs hw; intro a b W hw hs) | (refine sxs hs hw ?_; clear hs hw; intro W hs hw))
          obtain ⟨d2, hd2⟩ := xorB7 (c0.toNat : Int) x
          rw [hd2] at hs
          refine st_index_at hs (z := [.int .u8 0]) (h0 := by omega) (h1 := by omega) (c := ?_); clear hs; intro a hs
          rw [hoff] at hs
          have hbl3 : Nat.ble (kk + [Value.int .u8 (d2.toNat : Int)].length) cur.length = true := by
            rw [Nat.ble_eq]
            show _ + 1 ≤ _
            omega
          refine st_store hs (hw := hw) (hu := Upd.hd) (hl := hbl3) (k := ?_); clear hs hw; intro W hs hw
          rw [ov_one] at hw
          have hbs3 : (bys X).set kk (.int .u8 (d2.toNat : Int)) = bys (X.set kk d2) := by simp [bys, List.map_set]
          have hw2 := hw.shut_own (k := X.length) (cap := cap5) (size := 1) (xs := bys (X.set kk d2)) (by rw [Nat.mul_one, List.take_set, htk, hbs3]) (by simp [hcl]) hkc hcm
          clear hw
          have hl2 : (X.set kk d2).length = X.length := by simp
          obtain ⟨H8, hle8, hw, hb2⟩ := hw2.freeze_own
          repeat (first | (refine sxv hs hw ?_; clear hs; intro a hs) | refine sxc hs ?_ | (refine sxa hs hw ?_; clear hs hw; intro a b W hw hs) | (refine sxs hs hw ?_; clear hs hw; intro W hs hw))
          exact ⟨X.set kk d2, some ⟨g2, 0, none⟩, cap5, H8, by omega, hleC.trans hle8, by rw [hl2]; exact hb2, hs.of ⟨by rw [hl2]; rfl, trivial⟩, hw⟩
        clear hs hw
        rintro a W ⟨l2, a2, c2, H8, hl2, hle8, hr8, hs, hw⟩
        repeat (first | (refine sxv hs hw ?_; clear hs; intro a hs) | refine sxc hs ?_ | (refine sxa hs hw ?_; clear hs hw; intro a b W hw hs) | (refine sxs hs hw ?_; clear hs hw; intro W hs hw))
        refine st_call hs (hc := law7_tells w _ H8 l2 _ _ hl2 hr8 hle8 hT hw) (k := ?_); rintro e0 W1 ⟨H9, hle9, rfl, hw1⟩; refine ⟨_, rfl, ?_⟩; clear hs hw; intro a hs; have hw := hw1; clear hw1
        repeat (first | (refine sxv hs hw ?_; clear hs; intro a hs) | refine sxc hs ?_ | (refine sxa hs hw ?_; clear hs hw; intro a b W hw hs) | (refine sxs hs hw ?_; clear hs hw; intro W hs hw))
        exact rt1 hs rfl rfl ⟨rfl, hw.endF (by repeat (first | exact In.hd | apply In.tl)) (hle8.trans hle9)⟩
    all_goals
      intro u LD D a W hcl hi hp hs hw
      repeat (first | (refine sxv hs hw ?_; clear hs; intro a hs) | refine sxc hs ?_ | (refine sxa hs hw ?_; clear hs hw; intro a b W hw hs) | (refine sxs hs hw ?_; clear hs hw; intro W hs hw) | ((with_reducible first | refine st_ptrSome hs (k := ?_) | refine st_ptrNone hs (k := ?_)); clear hs; intro a hs))
      exact Or.inl ⟨hs, hw⟩
end Go.Proofs.YtmalklakaalaoaaGreatDoor.Sw

set_option linter.unusedVariables false
set_option maxRecDepth 10000
namespace Go.Proofs.YtmalklakaalaoaaGreatDoor
open Go.ChangeShapes Go.WideShapes Go.ChangeAt Go.RowKit Go.Lib Go.Sx Go.Proofs Go.Deep
open Sw Go.Joins
section
variable {H : Type} {enc : TypeId × Value → H} {w : World} {spare : Nat → Bool} {held : Bool}
-- pieces
theorem open_opl {r : Reach} {b0 : Nat} {v : Value} {d : DataW H} {p : List MemPlace} (hv : Value.okWide Tryz.prog w r b0 34 v) (h : DataW.Trod enc Tryz.prog w 0 spare held 34 v d p) : ∃ l : List OpD, (∀ o ∈ l, OpWf o) ∧ Rd w 9 v l.length (l.flatMap opCells) := by
  obtain ⟨b, len, cap, rfl⟩ := okWide_slice Tryz.underlying34 hv
  obtain ⟨fuel, hf⟩ := h
  obtain ⟨sv, l, e, h1, h2⟩ := open_ops hf
  simp [Value.cells] at e
  subst e
  exact ⟨l, h1, h2⟩
end
end Go.Proofs.YtmalklakaalaoaaGreatDoor
