/-
  Texts of the proof, one behind the other (part 10).
-/
import Derived.Test.YtmalklakaalaoaaGreatDoorM9
set_option linter.unusedVariables false
set_option maxRecDepth 10000
namespace Go.Proofs.YtmalklakaalaoaaGreatDoor.Sw
open Go.RowKit Go.Sx
theorem fold_read {place : Int} {d : Dm} {s : List UInt8 × Bool} {r : List (Int × RowD) × (List UInt8 × Bool)} (hr : rdTold place 5 1 s (List.replicate 6 (0, zeroRow)) [] = some r) (hl : s.1.length ≤ 1000000) (hd : DocFine d) (hp : 0 ≤ place ∧ place ≤ 9223372036854775807) : FoldFine ⟨place, d, r.1⟩ := by
  obtain ⟨pl, hi⟩ := rdTold_some 5 1 _ _ [] _ hr (by decide) (by decide) hl ⟨by simp, fun i x hx => by
    have := List.eq_of_mem_replicate (List.mem_of_getElem? hx); exact .inl this, fun i i' x x' hx _ h0 => by
    have := List.eq_of_mem_replicate (List.mem_of_getElem? hx); rw [this] at h0; exact absurd rfl h0, fun i x hx h0 => by
    have := List.eq_of_mem_replicate (List.mem_of_getElem? hx); rw [this] at h0; exact absurd rfl h0⟩
  exact ⟨hd, hp, hi.six, fun c x hx => (hi.told c x hx).imp id fun ⟨a, _, e⟩ => ⟨a, e⟩, hi.dist⟩
structure RdS where
  c : Nat
  s : List UInt8 × Bool
  sv : Value
  told : List (Int × RowD)
  xs : List Value
  pl : List Int
  pad : Option Addr
  pcap : Nat
  H : Fh
def fdRes (H : Fh) (w0 : World) (R : List Res) (b : List UInt8) (e : Ending) (W' : World) : Prop :=
  ∃ H', H.le H' ∧ ((decF b = none ∧ e = .returned (.tuple ⟨[.pointer none, .int .i64 1]⟩) ∧ Has 0 w0 W' (Fz H' :: R)) ∨ ∃ f p, decF b = some f ∧ e = .returned (.tuple ⟨[.pointer (some ⟨p, 0, none⟩), .int .i64 0]⟩) ∧ Has 0 w0 W' (FoldAt H' p f :: Fz H' :: R))
set_option maxHeartbeats 64000000 in
theorem fold_Decode (w0 W : World) (H : Fh) (b : List UInt8) (v : Value) (R : List Res) (hl : b.length ≤ 100000) (r : RdH H 1 v b.length (bys b)) (hH : (fr w0).le H) (hT : Tabs w0) (hw : Has 0 w0 W (Fz H :: R)) :
    Calls Tryz.prog 39 ⟨[v]⟩ W (fdRes H w0 R b) := by
  obtain ⟨bad0, bcap0, rfl⟩ := r.slice
  have hgr := getI_range b
  refine enter Tryz.func39 Tryz.ntmps39 rfl rfl fun a hs => ?_
  repeat (first | (refine sxv hs hw ?_; clear hs; intro a hs) | refine sxc hs ?_ | (refine sxa hs hw ?_; clear hs hw; intro a b W hw hs) | (refine sxs hs hw ?_; clear hs hw; intro W hs hw) | ((with_reducible first | refine st_ptrSome hs (k := ?_) | refine st_ptrNone hs (k := ?_)); clear hs; intro a hs))
  obtain ⟨b4, q4⟩ := nm1 hw; subst q4
  refine st_call hs (hc := foldr_num w0 _ H b4 _ (b, false) _ In.hd r hw) (k := ?_); rintro e0 W1 ⟨sv1, rfl, hr1, hw1⟩; refine ⟨_, rfl, ?_⟩; clear hs hw; intro a hs; have hw := hw1; clear hw1
  have hl1 := rdNum_len (b, false)
  have hdecF : decF b = match decDoc (Ph.getT (rdNum (b, false)).1).1 with
    | none => none
    | some d => if (Ph.getI b).1 < 0 then none else match rdTold (Ph.getI b).1 5 1 (rdTxt (rdNum (b, false))) (List.replicate 6 (0, zeroRow)) [] with
      | none => none
      | some (told, s) => if s.2 = false ∧ foldB ⟨(Ph.getI b).1, d, told⟩ = b then some ⟨(Ph.getI b).1, d, told⟩ else none := rfl
  simp only at hl1 hs
  generalize rdNum (b, false) = s1 at *
  generalize (Ph.getI b).1 = place at *
  repeat (first | (refine sxv hs hw ?_; clear hs; intro a hs) | refine sxc hs ?_ | (refine sxa hs hw ?_; clear hs hw; intro a b W hw hs) | (refine sxs hs hw ?_; clear hs hw; intro W hs hw) | ((with_reducible first | refine st_ptrSome hs (k := ?_) | refine st_ptrNone hs (k := ?_)); clear hs; intro a hs))
  obtain ⟨p5, q5⟩ := nm1 hw; subst q5
  replace hw : Has 0 w0 _ (Cells b4 [sv1, .bool s1.2] 129 :: Cells p5 (.int .i64 place :: .pointer none :: (ztold ++ (ztold ++ (ztold ++ (ztold ++ (ztold ++ (ztold ++ []))))))) 126 :: Fz H :: R) := hw.swap2
  refine st_call hs (hc := foldr_text w0 _ H b4 _ s1 _ (In.tl In.hd) hr1 hw) (k := ?_); rintro e0 W1 ⟨sv2, rfl, hr2, hw1⟩; refine ⟨_, rfl, ?_⟩; clear hs hw; intro a hs; have hw := hw1; clear hw1
  have hl2 := rdTxt_len s1
  have hdl := getT_len s1.1
  generalize rdTxt s1 = s2 at *
  generalize (Ph.getT s1.1).1 = dt at *
  repeat (first | (refine sxv hs hw ?_; clear hs; intro a hs) | refine sxc hs ?_ | (refine sxa hs hw ?_; clear hs hw; intro a b W hw hs) | (refine sxs hs hw ?_; clear hs hw; intro W hs hw) | ((with_reducible first | refine st_ptrSome hs (k := ?_) | refine st_ptrNone hs (k := ?_)); clear hs; intro a hs))
  refine st_bytes (s := ⟨dt.toArray⟩) hs hw (by show dt.toArray.size ≤ _; simp; omega) (c := ?_); clear hs hw; intro a bd cap4 ext4 W hw hr4 hs
  have hr4 : Rd W 1 (.slice (some ⟨bd, 0, none⟩) dt.length cap4) dt.length (bys dt) := hr4
  have hs : Slots a 129 ((24, .slice (some ⟨bd, 0, none⟩) dt.length cap4) :: _) := hs
  replace hw : Has 0 w0 W (CellsM bd (bys dt ++ ext4) 5 :: Fz H :: Cells b4 [sv2, .bool s2.2] 129 :: Cells p5 (.int .i64 place :: .pointer none :: (ztold ++ (ztold ++ (ztold ++ (ztold ++ (ztold ++ (ztold ++ []))))))) 126 :: R) := hw.perm (by repeat (first | exact List.Perm.refl _ | refine perm_pick (by repeat (first | exact Pick.hd | apply Pick.tl)) ?_))
  obtain ⟨H1, hle1, hw2, hrd⟩ := hw.freezeM hr4
  clear hw; have hw := hw2; clear hw2
  have hH1 := hH.trans hle1
  refine st_call hs (hc := doc_Decode w0 _ H1 dt _ _ (by omega) hrd In.hd hH1 hT hw) (k := ?_); rintro e0 W1 (⟨hdd, rfl, hw1⟩ | ⟨d, pd, hdd, rfl, hw1⟩)
  · refine ⟨_, rfl, ?_⟩; clear hs hw; intro a hs; have hw := hw1; clear hw1
    repeat (first | (refine sxv hs hw ?_; clear hs; intro a hs) | refine sxc hs ?_ | (refine sxa hs hw ?_; clear hs hw; intro a b W hw hs) | (refine sxs hs hw ?_; clear hs hw; intro W hs hw) | ((with_reducible first | refine st_ptrSome hs (k := ?_) | refine st_ptrNone hs (k := ?_)); clear hs; intro a hs))
    exact rt2 hs rfl rfl rfl ⟨H1, hle1, .inl ⟨by rw [hdecF, hdd], rfl, hw.drop2.drop2⟩⟩
  refine ⟨_, rfl, ?_⟩; clear hs hw; intro a hs; have hw := hw1; clear hw1
  have hdf := (decDoc_some (by omega) hdd).2
  rw [hdd] at hdecF
  simp only at hdecF
  repeat (first | (refine sxv hs hw ?_; clear hs; intro a hs) | refine sxc hs ?_ | (refine sxa hs hw ?_; clear hs hw; intro a b W hw hs) | (refine sxs hs hw ?_; clear hs hw; intro W hs hw) | ((with_reducible first | refine st_ptrSome hs (k := ?_) | refine st_ptrNone hs (k := ?_)); clear hs; intro a hs))
  cases c0 : decide (place < 0) with
  | true =>
    rw [c0] at hs
    have g0 := of_decide_eq_true c0
    repeat (first | (refine sxv hs hw ?_; clear hs; intro a hs) | refine sxc hs ?_ | (refine sxa hs hw ?_; clear hs hw; intro a b W hw hs) | (refine sxs hs hw ?_; clear hs hw; intro W hs hw) | ((with_reducible first | refine st_ptrSome hs (k := ?_) | refine st_ptrNone hs (k := ?_)); clear hs; intro a hs))
    exact rt2 hs rfl rfl rfl ⟨H1, hle1, .inl ⟨by rw [hdecF, if_pos g0], rfl, hw.sub (List.Sublist.cons _ (List.Sublist.cons_cons _ (List.Sublist.cons _ (List.Sublist.cons _ (List.Sublist.refl _)))))⟩⟩
  | false =>
  rw [c0] at hs
  have g0 := of_decide_eq_false c0
  rw [if_neg g0] at hdecF
  repeat (first | (refine sxv hs hw ?_; clear hs; intro a hs) | refine sxc hs ?_ | (refine sxa hs hw ?_; clear hs hw; intro a b W hw hs) | (refine sxs hs hw ?_; clear hs hw; intro W hs hw) | ((with_reducible first | refine st_ptrSome hs (k := ?_) | refine st_ptrNone hs (k := ?_)); clear hs; intro a hs))
  generalize hRR : rdTold place 5 1 s2 (List.replicate 6 (0, zeroRow)) [] = RR at hdecF
  have noneF : RR = none → decF b = none := fun h => by rw [hdecF, h]
  replace hw : Has 0 w0 _ (Cells p5 (foldCells place pd (ztold ++ (ztold ++ (ztold ++ (ztold ++ (ztold ++ (ztold ++ []))))))) 126 :: DocAt pd d :: Cells b4 [sv2, .bool s2.2] 129 :: Fz H1 :: R) := hw.perm (by repeat (first | exact List.Perm.refl _ | refine perm_pick (by repeat (first | exact Pick.hd | apply Pick.tl)) ?_))
  replace hw := hw.nilOwn 2 1
  replace hw : Has 0 w0 _ (Cells p5 (foldCells place pd (ztold ++ (ztold ++ (ztold ++ (ztold ++ (ztold ++ (ztold ++ []))))))) 126 :: DocAt pd d :: Sx.Own 2 1 (.slice none 0 0) ([] : List Int).length (([] : List Int).map (Value.int .i64)) :: Cells b4 [sv2, .bool s2.2] 129 :: Fz H1 :: R) := hw.perm (by repeat (first | exact List.Perm.refl _ | refine perm_pick (by repeat (first | exact Pick.hd | apply Pick.tl)) ?_))
  refine st_loop (σ := RdS) (fun t => [(0, .slice bad0 b.length bcap0), (4, .pointer (some ⟨b4, 0, none⟩)), (5, .pointer (some ⟨p5, 0, none⟩)), (8, .slice t.pad t.pl.length t.pcap), (9, .int .i64 (t.c : Int))]) (fun t => Cells p5 (foldCells place pd t.xs) 126 :: DocAt pd d :: Sx.Own 2 1 (.slice t.pad t.pl.length t.pcap) t.pl.length (t.pl.map (Value.int .i64)) :: Cells b4 [t.sv, .bool t.s.2] 129 :: Fz t.H :: R) (fun t => 1 ≤ t.c ∧ t.c ≤ 6 ∧ H.le t.H ∧ RdH t.H 1 t.sv t.s.1.length (bys t.s.1) ∧ ToldOk t.H t.told t.xs ∧ t.pl.length ≤ t.c ∧ t.s.1.length ≤ 100000 ∧ rdTold place (6 - t.c) t.c t.s t.told t.pl = RR) (fun t => 6 - t.c) ⟨1, s2, sv2, List.replicate 6 (0, zeroRow), _, [], none, 0, H1⟩ ⟨by show 1 ≤ 1; decide, by show 1 ≤ 6; decide, hle1, RdH.le hr2 hle1, told_zero H1, by show 0 ≤ 1; decide, by show s2.1.length ≤ 100000; omega, hRR⟩ hs ⟨rfl, rfl, rfl, rfl, rfl, trivial⟩ hw ?_
  clear hs hw
  rintro ⟨c, s, sv, told, xs, pls, pad, pcap, H0⟩ a W ⟨hc1, hc6, hle0, hr0, htk, hpll0, hsl, hrd0⟩ hs hw
  simp only at hc1 hc6 hle0 hr0 htk hpll0 hsl hrd0 hs hw
  repeat (first | (refine sxv hs hw ?_; clear hs; intro a hs) | refine sxc hs ?_ | (refine sxa hs hw ?_; clear hs hw; intro a b W hw hs) | (refine sxs hs hw ?_; clear hs hw; intro W hs hw) | ((with_reducible first | refine st_ptrSome hs (k := ?_) | refine st_ptrNone hs (k := ?_)); clear hs; intro a hs))
  refine cd_split hs (kt := fun hcc => ?_) (kf := fun hcc => ?_)
  · have hc5 : c ≤ 5 := by have := of_decide_eq_true hcc; omega
    have hpll : pls.length ≤ 1000 := by omega
    rw [show 6 - c = (6 - (c + 1)) + 1 from by omega] at hrd0
    unfold rdTold at hrd0
    repeat (first | (refine sxv hs hw ?_; clear hs; intro a hs) | refine sxc hs ?_ | (refine sxa hs hw ?_; clear hs hw; intro a b W hw hs) | (refine sxs hs hw ?_; clear hs hw; intro W hs hw) | ((with_reducible first | refine st_ptrSome hs (k := ?_) | refine st_ptrNone hs (k := ?_)); clear hs; intro a hs))
    replace hw : Has 0 w0 _ (Cells b4 [sv, .bool s.2] 129 :: Cells p5 (foldCells place pd xs) 126 :: DocAt pd d :: Sx.Own 2 1 (.slice pad pls.length pcap) pls.length (pls.map (Value.int .i64)) :: Fz H0 :: R) := hw.perm (by repeat (first | exact List.Perm.refl _ | refine perm_pick (by repeat (first | exact Pick.hd | apply Pick.tl)) ?_))
    refine st_call hs (hc := foldr_num w0 _ H0 b4 _ s _ (In.tl (In.tl (In.tl In.hd))) hr0 hw) (k := ?_); rintro e0 W1 ⟨sv1', rfl, hr1', hw1⟩; refine ⟨_, rfl, ?_⟩; clear hs hw; intro a hs; have hw := hw1; clear hw1
    have l1 := rdNum_len s
    generalize (Ph.getI s.1).1 = seq at *
    generalize rdNum s = s1' at *
    by_cases hseq : seq = 0
    · subst hseq
      rw [if_pos rfl] at hrd0
      replace hw : Has 0 w0 _ (Cells p5 (foldCells place pd xs) 126 :: DocAt pd d :: Sx.Own 2 1 (.slice pad pls.length pcap) pls.length (pls.map (Value.int .i64)) :: Cells b4 [sv1', .bool s1'.2] 129 :: Fz H0 :: R) := hw.perm (by repeat (first | exact List.Perm.refl _ | refine perm_pick (by repeat (first | exact Pick.hd | apply Pick.tl)) ?_))
      repeat (first | (refine sxv hs hw ?_; clear hs; intro a hs) | refine sxc hs ?_ | (refine sxa hs hw ?_; clear hs hw; intro a b W hw hs) | (refine sxs hs hw ?_; clear hs hw; intro W hs hw) | ((with_reducible first | refine st_ptrSome hs (k := ?_) | refine st_ptrNone hs (k := ?_)); clear hs; intro a hs))
      exact st_again ⟨c + 1, s1', sv1', told, xs, pls, pad, pcap, H0⟩ hs hw ⟨by show 1 ≤ c + 1; omega, by show c + 1 ≤ 6; omega, hle0, hr1', htk, by show pls.length ≤ c + 1; omega, by show s1'.1.length ≤ 100000; omega, hrd0⟩ (by show 6 - (c + 1) < 6 - c; omega) ⟨rfl, rfl, rfl, rfl, int_eq (by show IntKind.i64.wrap ((c : Int) + 1) = ((c + 1 : Nat) : Int); rw [IntWalk.i64_in _ (by omega)]; omega), trivial⟩
    · rw [if_neg hseq] at hrd0
      have eseq : (seq == 0) = false := by simpa using hseq
      repeat (first | (refine sxv hs hw ?_; clear hs; intro a hs) | refine sxc hs ?_ | (refine sxa hs hw ?_; clear hs hw; intro a b W hw hs) | (refine sxs hs hw ?_; clear hs hw; intro W hs hw) | ((with_reducible first | refine st_ptrSome hs (k := ?_) | refine st_ptrNone hs (k := ?_)); clear hs; intro a hs))
      rw [eseq] at hs
      repeat (first | (refine sxv hs hw ?_; clear hs; intro a hs) | refine sxc hs ?_ | (refine sxa hs hw ?_; clear hs hw; intro a b W hw hs) | (refine sxs hs hw ?_; clear hs hw; intro W hs hw) | ((with_reducible first | refine st_ptrSome hs (k := ?_) | refine st_ptrNone hs (k := ?_)); clear hs; intro a hs))
      refine st_call hs (hc := foldr_num w0 _ H0 b4 _ s1' _ (In.tl (In.tl (In.tl In.hd))) hr1' hw) (k := ?_); rintro e0 W1 ⟨sv2', rfl, hr2', hw1⟩; refine ⟨_, rfl, ?_⟩; clear hs hw; intro a hs; have hw := hw1; clear hw1
      have l2 := rdNum_len s1'
      generalize (Ph.getI s1'.1).1 = pl at *
      generalize rdNum s1' = s2' at *
      repeat (first | (refine sxv hs hw ?_; clear hs; intro a hs) | refine sxc hs ?_ | (refine sxa hs hw ?_; clear hs hw; intro a b W hw hs) | (refine sxs hs hw ?_; clear hs hw; intro W hs hw) | ((with_reducible first | refine st_ptrSome hs (k := ?_) | refine st_ptrNone hs (k := ?_)); clear hs; intro a hs))
      obtain ⟨b11, q11⟩ := nm1 hw; subst q11
      replace hw : Has 0 w0 _ (Cells b4 [sv2', .bool s2'.2] 129 :: Cells b11 [.int .i64 pl, .int .i64 0, .int .i64 0, .slice none 0 0, .int .i64 0] 39 :: Cells p5 (foldCells place pd xs) 126 :: DocAt pd d :: Sx.Own 2 1 (.slice pad pls.length pcap) pls.length (pls.map (Value.int .i64)) :: Fz H0 :: R) := hw.perm (by repeat (first | exact List.Perm.refl _ | refine perm_pick (by repeat (first | exact Pick.hd | apply Pick.tl)) ?_))
      refine st_call hs (hc := foldr_text w0 _ H0 b4 _ s2' _ (In.tl (In.tl (In.tl (In.tl In.hd)))) hr2' hw) (k := ?_); rintro e0 W1 ⟨sv3, rfl, hr3, hw1⟩; refine ⟨_, rfl, ?_⟩; clear hs hw; intro a hs; have hw := hw1; clear hw1
      have l3 := rdTxt_len s2'
      have hxl := getT_len s2'.1
      generalize (Ph.getT s2'.1).1 = bt at *
      generalize rdTxt s2' = s3 at *
      repeat (first | (refine sxv hs hw ?_; clear hs; intro a hs) | refine sxc hs ?_ | (refine sxa hs hw ?_; clear hs hw; intro a b W hw hs) | (refine sxs hs hw ?_; clear hs hw; intro W hs hw) | ((with_reducible first | refine st_ptrSome hs (k := ?_) | refine st_ptrNone hs (k := ?_)); clear hs; intro a hs))
      refine st_bytes (s := ⟨bt.toArray⟩) hs hw (by show bt.toArray.size ≤ _; simp; omega) (c := ?_); clear hs hw; intro a be cap5 ext5 W hw hr5 hs
      have hr5 : RdB W (.slice (some ⟨be, 0, none⟩) bt.length cap5) bt := hr5
      have hs : Slots a 129 ((55, .slice (some ⟨be, 0, none⟩) bt.length cap5) :: _) := hs
      replace hw := hw.sub (List.Sublist.cons _ (List.Sublist.refl _))
      obtain ⟨⟨⟨xc, xq, xl⟩, err⟩, hdec⟩ : ∃ y, decR bt = y := ⟨_, rfl⟩
      refine st_call hs (hc := op_DecodeR bt xc xq xl err hdec _ _ (by omega) hr5 (hT.keep (hw.endF (In.tl (In.tl (In.tl (In.tl (In.tl In.hd))))) (hH.trans hle0)))) (k := ?_); rintro e0 W1 ⟨dad, dcap, rfl, hw1⟩; refine ⟨_, rfl, ?_⟩; clear hs; intro a hs; replace hw := hw.call hw1; clear hw1
      replace hw : Has 0 w0 _ (Sx.Own 95 9 (.slice dad xl.length dcap) xl.length (xl.flatMap opCells) :: Fz H0 :: Cells b4 [sv3, .bool s3.2] 129 :: Cells b11 [.int .i64 pl, .int .i64 0, .int .i64 0, .slice none 0 0, .int .i64 0] 39 :: Cells p5 (foldCells place pd xs) 126 :: DocAt pd d :: Sx.Own 2 1 (.slice pad pls.length pcap) pls.length (pls.map (Value.int .i64)) :: R) := hw.perm (by repeat (first | exact List.Perm.refl _ | refine perm_pick (by repeat (first | exact Pick.hd | apply Pick.tl)) ?_))
      obtain ⟨H3, hle03, hw2, hops⟩ := hw.freeze_own
      clear hw; have hw := hw2; clear hw2
      have hle3 := hle0.trans hle03
      have hr3' := RdH.le hr3 hle03
      have htk3 : ToldOk H3 told xs := ⟨htk.1, htk.2.mono (TolIn.le hle03)⟩
      repeat (first | (refine sxv hs hw ?_; clear hs; intro a hs) | refine sxc hs ?_ | (refine sxa hs hw ?_; clear hs hw; intro a b W hw hs) | (refine sxs hs hw ?_; clear hs hw; intro W hs hw) | ((with_reducible first | refine st_ptrSome hs (k := ?_) | refine st_ptrNone hs (k := ?_)); clear hs; intro a hs))
      obtain ⟨b12, q12⟩ := nm1 hw; subst q12
      replace hw : Has 0 w0 _ (Cells b4 [sv3, .bool s3.2] 129 :: Free :: Cells b11 [.int .i64 pl, .int .i64 0, .int .i64 0, .slice none 0 0, .int .i64 0] 39 :: Cells b12 (batCells ⟨xc, xq, xl⟩ (.slice dad xl.length dcap)) 36 :: Cells p5 (foldCells place pd xs) 126 :: DocAt pd d :: Sx.Own 2 1 (.slice pad pls.length pcap) pls.length (pls.map (Value.int .i64)) :: Fz H3 :: R) := hw.free.perm (by repeat (first | exact List.Perm.refl _ | refine perm_pick (by repeat (first | exact Pick.hd | apply Pick.tl)) ?_))
      have l4 := rdNum_len s3
      generalize hs4 : rdNum s3 = s4 at *
      generalize her : (Ph.getI s3.1).1 = er at *
      refine rg_drawU (σ := Value) (V := fun u => [.agg ⟨batCells ⟨xc, xq, xl⟩ (.slice dad xl.length dcap)⟩, .pointer (some ⟨b4, 0, none⟩), .int .i64 er, .pointer (some ⟨b11, 0 + 1, none⟩), undef, .pointer (some ⟨b11, 0 + 4, none⟩), undef])
        (Rs := fun u D => (if D 2 then Cells b4 [u 2, .bool s4.2] 129 else Cells b4 [sv3, .bool s3.2] 129) :: (if D 2 then Fact (RdH H3 1 (u 2) s4.1.length (bys s4.1)) else Free) :: Cells b11 [.int .i64 pl, (if D 4 then .int .i64 xc else .int .i64 0), (if D 4 then .int .i64 xq else .int .i64 0), (if D 4 then .slice dad xl.length dcap else .slice none 0 0), (if D 6 then .int .i64 er else .int .i64 0)] 39 :: Cells b12 (batCells ⟨xc, xq, xl⟩ (.slice dad xl.length dcap)) 36 :: Cells p5 (foldCells place pd xs) 126 :: DocAt pd d :: Sx.Own 2 1 (.slice pad pls.length pcap) pls.length (pls.map (Value.int .i64)) :: Fz H3 :: R) (fun _ => .nilIface) hs hw (hVu := fun _ _ _ _ => rfl) (ho := ⟨?c0_15, ?c1_15, ?c2_15, ?c3_15, ?c4_15, ?c5_15, ?c6_15, trivial⟩) (k := ?k_15)
      case c2_15 =>
        intro u LD D a W hcl hi hp hs hw
        have h6 := Go.Sx.not_done hcl hi 6 (by kernel_rfl)
        simp only [hi, h6, Bool.false_eq_true, if_false] at hw
        refine st_call hs (hc := foldr_num w0 _ H3 b4 _ s3 _ (In.tl (In.tl (In.tl (In.tl (In.tl (In.tl In.hd)))))) hr3' hw) (k := ?_); rintro e0 W1 ⟨sv4, rfl, hr4', hw1⟩; refine ⟨_, rfl, ?_⟩; clear hs hw; intro a hs; have hw := hw1; clear hw1
        rw [her] at hs
        rw [hs4] at hw hr4'
        repeat (first | (refine sxv hs hw ?_; clear hs; intro a hs) | refine sxc hs ?_ | (refine sxa hs hw ?_; clear hs hw; intro a b W hw hs) | (refine sxs hs hw ?_; clear hs hw; intro W hs hw) | ((with_reducible first | refine st_ptrSome hs (k := ?_) | refine st_ptrNone hs (k := ?_)); clear hs; intro a hs))
        refine Or.inr ⟨sv4, hs, ?_⟩
        show Has 0 w0 _ (_ :: _ :: Cells b11 [_, _, _, _, (if (Nat.beq 6 2 || D 6) = true then _ else _)] _ :: _)
        rw [h6]
        exact (hw.fact hr4').fill (Upd.tl Upd.hd)
      case c4_15 =>
        intro u LD D a W hcl hi hp hs hw
        simp only [hi, Bool.false_eq_true, if_false] at hw
        repeat (first | (refine sxv hs hw ?_; clear hs; intro a hs) | refine sxc hs ?_ | (refine sxa hs hw ?_; clear hs hw; intro a b W hw hs) | (refine sxs hs hw ?_; clear hs hw; intro W hs hw) | ((with_reducible first | refine st_ptrSome hs (k := ?_) | refine st_ptrNone hs (k := ?_)); clear hs; intro a hs))
        exact Or.inl ⟨hs, hw⟩
      case c6_15 =>
        intro u LD D a W hcl hi hp hs hw
        simp only [hi, Bool.false_eq_true, if_false] at hw
        repeat (first | (refine sxv hs hw ?_; clear hs; intro a hs) | refine sxc hs ?_ | (refine sxa hs hw ?_; clear hs hw; intro a b W hw hs) | (refine sxs hs hw ?_; clear hs hw; intro W hs hw) | ((with_reducible first | refine st_ptrSome hs (k := ?_) | refine st_ptrNone hs (k := ?_)); clear hs; intro a hs))
        exact Or.inl ⟨hs, hw⟩
      case c0_15 | c1_15 | c3_15 | c5_15 =>
        intro u LD D a W hcl hi hp hs hw
        repeat (first | (refine sxv hs hw ?_; clear hs; intro a hs) | refine sxc hs ?_ | (refine sxa hs hw ?_; clear hs hw; intro a b W hw hs) | (refine sxs hs hw ?_; clear hs hw; intro W hs hw) | ((with_reducible first | refine st_ptrSome hs (k := ?_) | refine st_ptrNone hs (k := ?_)); clear hs; intro a hs))
        exact Or.inl ⟨hs, hw⟩
      case k_15 =>
      clear hs hw
      intro u a W hs hw
      replace hw : Has 0 w0 W (Cells b4 [u 2, .bool s4.2] 129 :: Fact (RdH H3 1 (u 2) s4.1.length (bys s4.1)) :: Cells b11 (rowCells ⟨pl, ⟨xc, xq, xl⟩, er⟩ (.slice dad xl.length dcap)) 39 :: Cells b12 (batCells ⟨xc, xq, xl⟩ (.slice dad xl.length dcap)) 36 :: Cells p5 (foldCells place pd xs) 126 :: DocAt pd d :: Sx.Own 2 1 (.slice pad pls.length pcap) pls.length (pls.map (Value.int .i64)) :: Fz H3 :: R) := hw
      have hr4 := hw.told (In.tl In.hd)
      generalize u 2 = sv4 at *
      clear u
      replace hw : Has 0 w0 W (Cells b11 (rowCells ⟨pl, ⟨xc, xq, xl⟩, er⟩ (.slice dad xl.length dcap)) 39 :: Cells b12 (batCells ⟨xc, xq, xl⟩ (.slice dad xl.length dcap)) 36 :: Cells b4 [sv4, .bool s4.2] 129 :: Cells p5 (foldCells place pd xs) 126 :: DocAt pd d :: Sx.Own 2 1 (.slice pad pls.length pcap) pls.length (pls.map (Value.int .i64)) :: Fz H3 :: R) := hw.sel (by repeat (first | exact Sel.nil | exact Sel.refl _ | refine Sel.cons (by repeat (first | exact Pick.hd | apply Pick.tl)) ?_ | refine Sel.skip ?_))
      replace hs : Slots a 129 [(0, .slice bad0 b.length bcap0), (4, .pointer (some ⟨b4, 0, none⟩)), (5, .pointer (some ⟨p5, 0, none⟩)), (8, .slice pad pls.length pcap), (9, .int .i64 (c : Int)), (10, .int .i64 seq), (11, .pointer (some ⟨b11, 0, none⟩)), (12, .pointer (some ⟨b12, 0, none⟩)), (13, .int .i64 err)] := hs.of ⟨rfl, rfl, rfl, rfl, rfl, rfl, rfl, rfl, rfl, trivial⟩
      clear her hs4 hr3 hr3' hr0 hr1' hr2' hr5
      generalize hL : (match decode bt with
        | none => none
        | some x => if x.1 = (c : Int) ∧ x.2.1 = seq ∧ 1 ≤ pl ∧ pl ≤ place ∧ fineE er = true ∧ pl ∉ pls then rdTold place (6 - (c + 1)) (c + 1) s4 (told.set c (seq, ⟨pl, batOf x, er⟩)) (pls ++ [pl]) else none : Option (List (Int × RowD) × (List UInt8 × Bool))) = LL
      have hrd : LL = RR := by rw [← hL]; exact hrd0
      clear hrd0
      have hx0 : decode bt = none ∧ err = 1 ∨ decode bt = some (xc, xq, xl) ∧ err = 0 := by
        unfold decR at hdec
        cases hdo : decode bt with
        | none => rw [hdo] at hdec; simp at hdec; exact .inl ⟨rfl, hdec.2.symm⟩
        | some x => rw [hdo] at hdec; simp at hdec; exact .inr ⟨by rw [hdec.1], hdec.2.symm⟩
      have bad1 : (err != 0) = true → LL = none := fun h => by
        rcases hx0 with ⟨h1, _⟩ | ⟨_, h2⟩
        · rw [← hL, h1]
        · rw [h2] at h; exact absurd h (by decide)
      have hif : ∀ {P : Prop}, (¬ (xc = (c : Int) ∧ xq = seq ∧ 1 ≤ pl ∧ pl ≤ place ∧ fineE er = true ∧ pl ∉ pls)) → LL = none := fun h => by
        rcases hx0 with ⟨h1, _⟩ | ⟨h1, _⟩
        · rw [← hL, h1]
        · rw [← hL, h1]
          exact if_neg h
      have good : (err != 0) = false → (xc != (c : Int)) = false → (xq != seq) = false → decide (pl < 1) = false → decide (pl > place) = false → fineE er = true → decide (pl ∈ pls) = false → rdTold place (6 - (c + 1)) (c + 1) s4 (told.set c (seq, ⟨pl, ⟨xc, xq, xl⟩, er⟩)) (pls ++ [pl]) = RR := fun a1 a2 a3 a4 a5 a6 a7 => by
        rcases hx0 with ⟨_, h2⟩ | ⟨h1, _⟩
        · rw [h2] at a1; exact absurd a1 (by decide)
        · rw [← hrd, ← hL, h1]
          simp only
          rw [if_pos ⟨by simpa using a2, by simpa using a3, by have := of_decide_eq_false a4; omega, by have := of_decide_eq_false a5; omega, a6, of_decide_eq_false a7⟩]
          rfl
      repeat (first | (refine sxv hs hw ?_; clear hs; intro a hs) | refine sxc hs ?_ | (refine sxa hs hw ?_; clear hs hw; intro a b W hw hs) | (refine sxs hs hw ?_; clear hs hw; intro W hs hw) | ((with_reducible first | refine st_ptrSome hs (k := ?_) | refine st_ptrNone hs (k := ?_)); clear hs; intro a hs))
      cases k1 : (err != 0) with
      | true =>
        refine fd_way1 hpll k1 hs hw ?_
        clear hs hw
        intro a W hs hw
        replace hw : Has 0 w0 W (Fz H3 :: R) := hw.sub (List.Sublist.cons _ (List.Sublist.cons _ (List.Sublist.cons _ (List.Sublist.cons _ (List.Sublist.cons _ (List.Sublist.cons _ (List.Sublist.refl _)))))))
        repeat (first | (refine sxv hs hw ?_; clear hs; intro a hs) | refine sxc hs ?_ | (refine sxa hs hw ?_; clear hs hw; intro a b W hw hs) | (refine sxs hs hw ?_; clear hs hw; intro W hs hw) | ((with_reducible first | refine st_ptrSome hs (k := ?_) | refine st_ptrNone hs (k := ?_)); clear hs; intro a hs))
        exact rt2 hs rfl rfl rfl ⟨H3, hle3, .inl ⟨noneF (by rw [← hrd]; exact bad1 k1), rfl, hw⟩⟩
      | false =>
      cases k2 : (xc != (c : Int)) with
      | true =>
        refine fd_way2 hpll k1 k2 hs hw ?_
        clear hs hw
        intro a W hs hw
        replace hw : Has 0 w0 W (Fz H3 :: R) := hw.sub (List.Sublist.cons _ (List.Sublist.cons _ (List.Sublist.cons _ (List.Sublist.cons _ (List.Sublist.cons _ (List.Sublist.cons _ (List.Sublist.refl _)))))))
        repeat (first | (refine sxv hs hw ?_; clear hs; intro a hs) | refine sxc hs ?_ | (refine sxa hs hw ?_; clear hs hw; intro a b W hw hs) | (refine sxs hs hw ?_; clear hs hw; intro W hs hw) | ((with_reducible first | refine st_ptrSome hs (k := ?_) | refine st_ptrNone hs (k := ?_)); clear hs; intro a hs))
        exact rt2 hs rfl rfl rfl ⟨H3, hle3, .inl ⟨noneF (by rw [← hrd]; exact hif (P := True) fun h => by rw [h.1] at k2; simp at k2), rfl, hw⟩⟩
      | false =>
      cases k3 : (xq != seq) with
      | true =>
        refine fd_way3 hpll k1 k2 k3 hs hw ?_
        clear hs hw
        intro a W hs hw
        replace hw : Has 0 w0 W (Fz H3 :: R) := hw.sub (List.Sublist.cons _ (List.Sublist.cons _ (List.Sublist.cons _ (List.Sublist.cons _ (List.Sublist.cons _ (List.Sublist.cons _ (List.Sublist.refl _)))))))
        repeat (first | (refine sxv hs hw ?_; clear hs; intro a hs) | refine sxc hs ?_ | (refine sxa hs hw ?_; clear hs hw; intro a b W hw hs) | (refine sxs hs hw ?_; clear hs hw; intro W hs hw) | ((with_reducible first | refine st_ptrSome hs (k := ?_) | refine st_ptrNone hs (k := ?_)); clear hs; intro a hs))
        exact rt2 hs rfl rfl rfl ⟨H3, hle3, .inl ⟨noneF (by rw [← hrd]; exact hif (P := True) fun h => by rw [h.2.1] at k3; simp at k3), rfl, hw⟩⟩
      | false =>
      cases k4 : decide (pl < 1) with
      | true =>
        refine fd_way4 hpll k1 k2 k3 k4 hs hw ?_
        clear hs hw
        intro a W hs hw
        replace hw : Has 0 w0 W (Fz H3 :: R) := hw.sub (List.Sublist.cons _ (List.Sublist.cons _ (List.Sublist.cons _ (List.Sublist.cons _ (List.Sublist.cons _ (List.Sublist.cons _ (List.Sublist.refl _)))))))
        repeat (first | (refine sxv hs hw ?_; clear hs; intro a hs) | refine sxc hs ?_ | (refine sxa hs hw ?_; clear hs hw; intro a b W hw hs) | (refine sxs hs hw ?_; clear hs hw; intro W hs hw) | ((with_reducible first | refine st_ptrSome hs (k := ?_) | refine st_ptrNone hs (k := ?_)); clear hs; intro a hs))
        exact rt2 hs rfl rfl rfl ⟨H3, hle3, .inl ⟨noneF (by rw [← hrd]; exact hif (P := True) fun h => by have := of_decide_eq_true k4; have := h.2.2.1; omega), rfl, hw⟩⟩
      | false =>
      cases k5 : decide (pl > place) with
      | true =>
        refine fd_way5 hpll k1 k2 k3 k4 k5 hs hw ?_
        clear hs hw
        intro a W hs hw
        replace hw : Has 0 w0 W (Fz H3 :: R) := hw.sub (List.Sublist.cons _ (List.Sublist.cons _ (List.Sublist.cons _ (List.Sublist.cons _ (List.Sublist.cons _ (List.Sublist.cons _ (List.Sublist.refl _)))))))
        repeat (first | (refine sxv hs hw ?_; clear hs; intro a hs) | refine sxc hs ?_ | (refine sxa hs hw ?_; clear hs hw; intro a b W hw hs) | (refine sxs hs hw ?_; clear hs hw; intro W hs hw) | ((with_reducible first | refine st_ptrSome hs (k := ?_) | refine st_ptrNone hs (k := ?_)); clear hs; intro a hs))
        exact rt2 hs rfl rfl rfl ⟨H3, hle3, .inl ⟨noneF (by rw [← hrd]; exact hif (P := True) fun h => by have := of_decide_eq_true k5; have := h.2.2.2.1; omega), rfl, hw⟩⟩
      | false =>
      cases kf6 : fineE er with
      | false =>
        refine fd_way6 hpll k1 k2 k3 k4 k5 kf6 hs hw ?_
        clear hs hw
        intro a W hs hw
        replace hw : Has 0 w0 W (Fz H3 :: R) := hw.sub (List.Sublist.cons _ (List.Sublist.cons _ (List.Sublist.cons _ (List.Sublist.cons _ (List.Sublist.cons _ (List.Sublist.cons _ (List.Sublist.refl _)))))))
        repeat (first | (refine sxv hs hw ?_; clear hs; intro a hs) | refine sxc hs ?_ | (refine sxa hs hw ?_; clear hs hw; intro a b W hw hs) | (refine sxs hs hw ?_; clear hs hw; intro W hs hw) | ((with_reducible first | refine st_ptrSome hs (k := ?_) | refine st_ptrNone hs (k := ?_)); clear hs; intro a hs))
        exact rt2 hs rfl rfl rfl ⟨H3, hle3, .inl ⟨noneF (by rw [← hrd]; exact hif (P := True) fun h => by rw [h.2.2.2.2.1] at kf6; cases kf6), rfl, hw⟩⟩
      | true =>
      cases k7 : decide (pl ∈ pls) with
      | true =>
        refine fd_way7 hpll k1 k2 k3 k4 k5 kf6 k7 hs hw ?_
        clear hs hw
        intro a W hs hw
        replace hw : Has 0 w0 W (Fz H3 :: R) := hw.sub (List.Sublist.cons _ (List.Sublist.cons _ (List.Sublist.cons _ (List.Sublist.cons _ (List.Sublist.cons _ (List.Sublist.cons _ (List.Sublist.refl _)))))))
        repeat (first | (refine sxv hs hw ?_; clear hs; intro a hs) | refine sxc hs ?_ | (refine sxa hs hw ?_; clear hs hw; intro a b W hw hs) | (refine sxs hs hw ?_; clear hs hw; intro W hs hw) | ((with_reducible first | refine st_ptrSome hs (k := ?_) | refine st_ptrNone hs (k := ?_)); clear hs; intro a hs))
        exact rt2 hs rfl rfl rfl ⟨H3, hle3, .inl ⟨noneF (by rw [← hrd]; exact hif (P := True) fun h => h.2.2.2.2.2 (of_decide_eq_true k7)), rfl, hw⟩⟩
      | false =>
      have hgo := good k1 k2 k3 k4 k5 kf6 k7
      refine fd_way0 hpll k1 k2 k3 k4 k5 kf6 k7 hs hw ?_
      clear hs hw
      intro a W hs hw
      repeat (first | (refine sxv hs hw ?_; clear hs; intro a hs) | refine sxc hs ?_ | (refine sxa hs hw ?_; clear hs hw; intro a b W hw hs) | (refine sxs hs hw ?_; clear hs hw; intro W hs hw) | ((with_reducible first | refine st_ptrSome hs (k := ?_) | refine st_ptrNone hs (k := ?_)); clear hs; intro a hs))
      obtain ⟨bq, qq⟩ := nm1 hw; subst qq
      replace hw : Has 0 w0 _ (Sx.Own 2 1 (.slice pad pls.length pcap) pls.length (pls.map (Value.int .i64)) :: Cells bq [.int .i64 pl] 2 :: Cells b11 (rowCells ⟨pl, ⟨xc, xq, xl⟩, er⟩ (.slice dad xl.length dcap)) 39 :: Cells b4 [sv4, .bool s4.2] 129 :: Cells p5 (foldCells place pd xs) 126 :: DocAt pd d :: Fz H3 :: R) := hw.sel (by repeat (first | exact Sel.nil | exact Sel.refl _ | refine Sel.cons (by repeat (first | exact Pick.hd | apply Pick.tl)) ?_ | refine Sel.skip ?_))
      refine st_append_lit hs (hw := hw) (k := pls.length) (xs := pls.map (Value.int .i64)) (hi := In.tl In.hd) (hl := rfl) (h1 := rfl) (h63 := by omega) (hb := by omega) (c := ?_)
      clear hs hw; intro a pad2 pcap2 W hs hw
      replace hw : Has 0 w0 _ (Cells p5 (foldCells place pd xs) 126 :: Cells b11 (rowCells ⟨pl, ⟨xc, xq, xl⟩, er⟩ (.slice dad xl.length dcap)) 39 :: Sx.Own 2 1 (.slice pad2 (pls.length + 1) pcap2) (pls.length + 1) (pls.map (Value.int .i64) ++ [.int .i64 pl]) :: Cells b4 [sv4, .bool s4.2] 129 :: DocAt pd d :: Fz H3 :: R) := hw.sel (by repeat (first | exact Sel.nil | exact Sel.refl _ | refine Sel.cons (by repeat (first | exact Pick.hd | apply Pick.tl)) ?_ | refine Sel.skip ?_))
      repeat (first | (refine sxv hs hw ?_; clear hs; intro a hs) | refine sxc hs ?_ | (refine sxa hs hw ?_; clear hs hw; intro a b W hw hs) | (refine sxs hs hw ?_; clear hs hw; intro W hs hw) | ((with_reducible first | refine st_ptrSome hs (k := ?_) | refine st_ptrNone hs (k := ?_)); clear hs; intro a hs))
      refine rg_draw (V := [.pointer (some ⟨p5, 0, none⟩), .int .i64 (c : Int), .int .i64 seq, .agg ⟨rowCells ⟨pl, ⟨xc, xq, xl⟩, er⟩ (.slice dad xl.length dcap)⟩, .agg ⟨.int .i64 seq :: rowCells ⟨pl, ⟨xc, xq, xl⟩, er⟩ (.slice dad xl.length dcap)⟩, .pointer (some ⟨p5, 0, none⟩), .pointer (some ⟨p5, 0 + 2, none⟩), .pointer (some ⟨p5, 0 + 2 + c * 6, none⟩), undef])
        (Rs := fun D => (if D 8 then Cells p5 (foldCells place pd (ov xs (c * 6) (.int .i64 seq :: rowCells ⟨pl, ⟨xc, xq, xl⟩, er⟩ (.slice dad xl.length dcap)))) 126 else Cells p5 (foldCells place pd xs) 126) :: Cells b11 (rowCells ⟨pl, ⟨xc, xq, xl⟩, er⟩ (.slice dad xl.length dcap)) 39 :: Sx.Own 2 1 (.slice pad2 (pls.length + 1) pcap2) (pls.length + 1) (pls.map (Value.int .i64) ++ [.int .i64 pl]) :: Cells b4 [sv4, .bool s4.2] 129 :: DocAt pd d :: Fz H3 :: R) hs hw (ho := ⟨?_, ?_, ?_, ?_, ?_, ?_, ?_, ?c7_19, ?c8_19, trivial⟩) (k := ?k_19)
      case c7_19 =>
        intro LD D a W hcl hi hp hs hw
        repeat (first | (refine sxv hs hw ?_; clear hs; intro a hs) | refine sxc hs ?_ | (refine sxa hs hw ?_; clear hs hw; intro a b W hw hs) | (refine sxs hs hw ?_; clear hs hw; intro W hs hw) | ((with_reducible first | refine st_ptrSome hs (k := ?_) | refine st_ptrNone hs (k := ?_)); clear hs; intro a hs))
        refine st_index_arr hs (h0 := by omega) (h1 := by omega) (c := ?_); clear hs; intro a hs
        rw [Int.toNat_natCast] at hs
        exact ⟨hs, hw⟩
      case c8_19 =>
        intro LD D a W hcl hi hp hs hw
        simp only [hi, Bool.false_eq_true, if_false] at hw
        refine st_store hs (hw := hw) (vs := .int .i64 seq :: rowCells ⟨pl, ⟨xc, xq, xl⟩, er⟩ (.slice dad xl.length dcap)) (hl := by show Nat.ble (0 + 2 + c * 6 + 6) (foldCells place pd xs).length = true; rw [fold_len place pd htk3]; apply Nat.ble_eq_true_of_le; omega) (k := ?_); clear hs hw; intro W hs hw
        repeat (first | (refine sxv hs hw ?_; clear hs; intro a hs) | refine sxc hs ?_ | (refine sxa hs hw ?_; clear hs hw; intro a b W hw hs) | (refine sxs hs hw ?_; clear hs hw; intro W hs hw) | ((with_reducible first | refine st_ptrSome hs (k := ?_) | refine st_ptrNone hs (k := ?_)); clear hs; intro a hs))
        refine ⟨hs, ?_⟩
        have e : 0 + 2 + c * 6 = c * 6 + 1 + 1 := by omega
        replace hw : Has 0 w0 W (Cells p5 (ov (foldCells place pd xs) (0 + 2 + c * 6) (.int .i64 seq :: rowCells ⟨pl, ⟨xc, xq, xl⟩, er⟩ (.slice dad xl.length dcap))) 126 :: Cells b11 (rowCells ⟨pl, ⟨xc, xq, xl⟩, er⟩ (.slice dad xl.length dcap)) 39 :: Sx.Own 2 1 (.slice pad2 (pls.length + 1) pcap2) (pls.length + 1) (pls.map (Value.int .i64) ++ [.int .i64 pl]) :: Cells b4 [sv4, .bool s4.2] 129 :: DocAt pd d :: Fz H3 :: R) := hw
        rw [show ov (foldCells place pd xs) (0 + 2 + c * 6) (.int .i64 seq :: rowCells ⟨pl, ⟨xc, xq, xl⟩, er⟩ (.slice dad xl.length dcap)) = foldCells place pd (ov xs (c * 6) (.int .i64 seq :: rowCells ⟨pl, ⟨xc, xq, xl⟩, er⟩ (.slice dad xl.length dcap))) from by rw [e]; rfl] at hw
        exact hw
      case k_19 =>
        clear hs hw
        intro a W hs hw
        replace hw : Has 0 w0 W (Cells p5 (foldCells place pd (ov xs (c * 6) (.int .i64 seq :: rowCells ⟨pl, ⟨xc, xq, xl⟩, er⟩ (.slice dad xl.length dcap)))) 126 :: Cells b11 (rowCells ⟨pl, ⟨xc, xq, xl⟩, er⟩ (.slice dad xl.length dcap)) 39 :: Sx.Own 2 1 (.slice pad2 (pls.length + 1) pcap2) (pls.length + 1) (pls.map (Value.int .i64) ++ [.int .i64 pl]) :: Cells b4 [sv4, .bool s4.2] 129 :: DocAt pd d :: Fz H3 :: R) := hw
        replace hw : Has 0 w0 W (Cells p5 (foldCells place pd (ov xs (c * 6) (.int .i64 seq :: rowCells ⟨pl, ⟨xc, xq, xl⟩, er⟩ (.slice dad xl.length dcap)))) 126 :: DocAt pd d :: Sx.Own 2 1 (.slice pad2 (pls.length + 1) pcap2) (pls.length + 1) (pls.map (Value.int .i64) ++ [.int .i64 pl]) :: Cells b4 [sv4, .bool s4.2] 129 :: Fz H3 :: R) := hw.sel (by repeat (first | exact Sel.nil | exact Sel.refl _ | refine Sel.cons (by repeat (first | exact Pick.hd | apply Pick.tl)) ?_ | refine Sel.skip ?_))
        have hpl2 : pls.map (Value.int .i64) ++ [Value.int .i64 pl] = (pls ++ [pl]).map (Value.int .i64) := by simp
        have hpl3 : pls.length + 1 = (pls ++ [pl]).length := by simp
        rw [hpl2, hpl3] at hw
        rw [hpl3] at hs
        have hts := told_set htk3 (c := c) (by omega) (x := (seq, ⟨pl, ⟨xc, xq, xl⟩, er⟩)) (sv := .slice dad xl.length dcap) hops
        repeat (first | (refine sxv hs hw ?_; clear hs; intro a hs) | refine sxc hs ?_ | (refine sxa hs hw ?_; clear hs hw; intro a b W hw hs) | (refine sxs hs hw ?_; clear hs hw; intro W hs hw) | ((with_reducible first | refine st_ptrSome hs (k := ?_) | refine st_ptrNone hs (k := ?_)); clear hs; intro a hs))
        exact st_again ⟨c + 1, s4, sv4, _, _, pls ++ [pl], pad2, pcap2, H3⟩ hs hw ⟨by show 1 ≤ c + 1; omega, by show c + 1 ≤ 6; omega, hle3, hr4, hts, by show (pls ++ [pl]).length ≤ c + 1; simp; omega, by show s4.1.length ≤ 100000; omega, hgo⟩ (by show 6 - (c + 1) < 6 - c; omega) ⟨rfl, rfl, rfl, rfl, int_eq (by show IntKind.i64.wrap ((c : Int) + 1) = ((c + 1 : Nat) : Int); rw [IntWalk.i64_in _ (by omega)]; omega), trivial⟩
      all_goals
        intro LD D a W hcl hi hp hs hw
        repeat (first | (refine sxv hs hw ?_; clear hs; intro a hs) | refine sxc hs ?_ | (refine sxa hs hw ?_; clear hs hw; intro a b W hw hs) | (refine sxs hs hw ?_; clear hs hw; intro W hs hw) | ((with_reducible first | refine st_ptrSome hs (k := ?_) | refine st_ptrNone hs (k := ?_)); clear hs; intro a hs))
        exact ⟨hs, hw⟩
  · have hc : c = 6 := by have := of_decide_eq_false hcc; omega
    subst hc
    have hrr : RR = some (told, s) := by rw [← hrd0]; rfl
    rw [hrr] at hdecF hRR
    simp only at hdecF
    have hff := fold_read hRR (by omega) hdf ⟨by omega, hgr.2⟩
    repeat (first | (refine sxv hs hw ?_; clear hs; intro a hs) | refine sxc hs ?_ | (refine sxa hs hw ?_; clear hs hw; intro a b W hw hs) | (refine sxs hs hw ?_; clear hs hw; intro W hs hw) | ((with_reducible first | refine st_ptrSome hs (k := ?_) | refine st_ptrNone hs (k := ?_)); clear hs; intro a hs))
    cases kb : s.2 with
    | true =>
      rw [kb] at hs hw
      rw [kb, if_neg (fun h => absurd h.1 (by decide))] at hdecF
      repeat (first | (refine sxv hs hw ?_; clear hs; intro a hs) | refine sxc hs ?_ | (refine sxa hs hw ?_; clear hs hw; intro a b W hw hs) | (refine sxs hs hw ?_; clear hs hw; intro W hs hw) | ((with_reducible first | refine st_ptrSome hs (k := ?_) | refine st_ptrNone hs (k := ?_)); clear hs; intro a hs))
      exact rt2 hs rfl rfl rfl ⟨H0, hle0, .inl ⟨hdecF, rfl, hw.sub (List.Sublist.cons _ (List.Sublist.cons _ (List.Sublist.cons _ (List.Sublist.cons _ (List.Sublist.refl _)))))⟩⟩
    | false =>
    rw [kb] at hs hw
    rw [kb] at hdecF
    repeat (first | (refine sxv hs hw ?_; clear hs; intro a hs) | refine sxc hs ?_ | (refine sxa hs hw ?_; clear hs hw; intro a b W hw hs) | (refine sxs hs hw ?_; clear hs hw; intro W hs hw) | ((with_reducible first | refine st_ptrSome hs (k := ?_) | refine st_ptrNone hs (k := ?_)); clear hs; intro a hs))
    replace hw := foldShut (f := ⟨place, d, told⟩) (pd := pd) hw htk
    replace hw : Has 0 w0 _ (FoldAt H0 p5 ⟨place, d, told⟩ :: Fz H0 :: R) := hw.sel (by repeat (first | exact Sel.nil | exact Sel.refl _ | refine Sel.cons (by repeat (first | exact Pick.hd | apply Pick.tl)) ?_ | refine Sel.skip ?_))
    refine st_call hs (hc := fold_Encode w0 _ H0 p5 ⟨place, d, told⟩ _ hff (hH.trans hle0) hT hw) (k := ?_); rintro e0 W1 ⟨ad, cap, rfl, hw1⟩; refine ⟨_, rfl, ?_⟩; clear hs hw; intro a hs; have hw := hw1; clear hw1
    repeat (first | (refine sxv hs hw ?_; clear hs; intro a hs) | refine sxc hs ?_ | (refine sxa hs hw ?_; clear hs hw; intro a b W hw hs) | (refine sxs hs hw ?_; clear hs hw; intro W hs hw) | ((with_reducible first | refine st_ptrSome hs (k := ?_) | refine st_ptrNone hs (k := ?_)); clear hs; intro a hs))
    refine st_call hs (hc := bytes_Equal (foldB ⟨place, d, told⟩) b _ _ _ (hw.rd_own In.hd) (hw.rdH (In.tl (In.tl In.hd)) (r.le hle0))) (k := ?_); rintro e0 W1 ⟨rfl, hb⟩; refine ⟨_, rfl, ?_⟩; clear hs; intro a hs; replace hw := hw.below hb; clear hb
    by_cases heq : foldB ⟨place, d, told⟩ = b
    · rw [if_pos ⟨rfl, heq⟩] at hdecF
      rw [show (foldB ⟨place, d, told⟩ == b) = true from by simpa using heq] at hs
      repeat (first | (refine sxv hs hw ?_; clear hs; intro a hs) | refine sxc hs ?_ | (refine sxa hs hw ?_; clear hs hw; intro a b W hw hs) | (refine sxs hs hw ?_; clear hs hw; intro W hs hw) | ((with_reducible first | refine st_ptrSome hs (k := ?_) | refine st_ptrNone hs (k := ?_)); clear hs; intro a hs))
      exact rt2 hs rfl rfl rfl ⟨H0, hle0, .inr ⟨_, p5, hdecF, rfl, hw.sub (List.Sublist.cons _ (List.Sublist.refl _))⟩⟩
    · rw [if_neg (fun h => heq h.2)] at hdecF
      rw [show (foldB ⟨place, d, told⟩ == b) = false from by simpa using heq] at hs
      repeat (first | (refine sxv hs hw ?_; clear hs; intro a hs) | refine sxc hs ?_ | (refine sxa hs hw ?_; clear hs hw; intro a b W hw hs) | (refine sxs hs hw ?_; clear hs hw; intro W hs hw) | ((with_reducible first | refine st_ptrSome hs (k := ?_) | refine st_ptrNone hs (k := ?_)); clear hs; intro a hs))
      exact rt2 hs rfl rfl rfl ⟨H0, hle0, .inl ⟨hdecF, rfl, hw.sub (List.Sublist.cons _ (List.Sublist.cons _ (List.Sublist.refl _)))⟩⟩
end Go.Proofs.YtmalklakaalaoaaGreatDoor.Sw

set_option linter.unusedVariables false
set_option maxRecDepth 10000
namespace Go.Proofs.YtmalklakaalaoaaGreatDoor.Sw
open Go.RowKit Go.Sx
abbrev o7 : OpD := ⟨4, ⟨#[110]⟩, 0, 0, ⟨#[]⟩, 0, 0, ⟨#[]⟩, 3⟩
abbrev b7 : BatchD := ⟨2, 1, [o7]⟩
abbrev r7 : RowD := ⟨1, b7, 0⟩
abbrev f7 : FoldD := ⟨1, [(⟨#[110]⟩, .inl 3)], (List.replicate 6 (0, zeroRow)).set 2 (1, r7)⟩
theorem n71 : next emptyF b7 = (f7, r7, true) := by kernel_rfl
theorem n72 : next f7 b7 = (f7, zeroRow, false) := by kernel_rfl
theorem o7_ok : ∀ o ∈ [o7], OpOk o := by
  intro o ho
  rw [List.mem_singleton] at ho
  subst ho
  exact ⟨⟨by decide, by decide⟩, ⟨by decide, by decide⟩, ⟨by decide, by decide⟩, ⟨by decide, by decide⟩, ⟨by decide, by decide⟩, ⟨by decide, by decide⟩, by decide, by decide, by decide⟩
theorem b7_ok : BatOk b7 := ⟨⟨by decide, by decide⟩, ⟨by decide, by decide⟩, o7_ok⟩
theorem f7_fine : FoldFine f7 := by
  have h := (FoldFine.empty.next b7_ok (by decide)).1
  rwa [n71] at h
theorem f7_told : toldOf f7 2 = r7 := by kernel_rfl
theorem f7_last2 : lastOf f7 2 = 1 := by kernel_rfl
theorem f7_last1 : lastOf f7 1 = 0 := by kernel_rfl
theorem FoldFine.blen {f : FoldD} (h : FoldFine f) : (foldB f).length ≤ 100000 := by
  have := accF_len h 6
  rwa [accF_all h] at this
theorem fold_DecodeOf (w0 W : World) (H : Fh) (f : FoldD) (v : Value) (R : List Res) (hf : FoldFine f) (r : RdH H 1 v (foldB f).length (bys (foldB f))) (hH : (fr w0).le H) (hT : Tabs w0) (hw : Has 0 w0 W (Fz H :: R)) :
    Calls Tryz.prog 39 ⟨[v]⟩ W fun e W' => ∃ H' p, H.le H' ∧ e = .returned (.tuple ⟨[.pointer (some ⟨p, 0, none⟩), .int .i64 0]⟩) ∧ Has 0 w0 W' (FoldAt H' p f :: Fz H' :: R) := by
  refine (fold_Decode w0 W H (foldB f) v R hf.blen r hH hT hw).mono ?_
  rintro e W' ⟨H', hle, (⟨h, _, _⟩ | ⟨f2, p, h, rfl, hw⟩)⟩
  · rw [hf.dec] at h; cases h
  · rw [hf.dec] at h
    injection h with h
    subst h
    exact ⟨H', p, hle, rfl, hw⟩
set_option maxHeartbeats 16000000 in
theorem law7_begun (w : World) (hT : Tabs w) :
    Calls Tryz.prog 34 ⟨[]⟩ w fun e w' => e = .returned (.bool true) ∧ Below w.heap.size w w' := by
  have hw := Has.startF w
  refine enter Tryz.func34 Tryz.ntmps34 rfl rfl fun a hs => ?_
  repeat (first | (refine sxv hs hw ?_; clear hs; intro a hs) | refine sxc hs ?_ | (refine sxa hs hw ?_; clear hs hw; intro a b W hw hs) | (refine sxs hs hw ?_; clear hs hw; intro W hs hw))
  refine st_call hs (hc := fold_New w _ (fr w) _ hw) (k := ?_); rintro e0 W1 ⟨p, rfl, hw1⟩; refine ⟨_, rfl, ?_⟩; clear hs hw; intro a hs; have hw := hw1; clear hw1
  repeat (first | (refine sxv hs hw ?_; clear hs; intro a hs) | refine sxc hs ?_ | (refine sxa hs hw ?_; clear hs hw; intro a b W hw hs) | (refine sxs hs hw ?_; clear hs hw; intro W hs hw) | ((with_reducible first | refine st_ptrSome hs (k := ?_) | refine st_ptrNone hs (k := ?_)); clear hs; intro a hs))
  obtain ⟨bo, qo⟩ := nm1 hw; subst qo
  replace hw : Has 0 w _ (Cells bo (opCells o7) 95 :: Fz (fr w) :: FoldAt (fr w) p emptyF :: []) := hw.perm (by repeat (first | exact List.Perm.refl _ | refine perm_pick (by repeat (first | exact Pick.hd | apply Pick.tl)) ?_))
  obtain ⟨H1, hle1, hw2, hop⟩ := hw.freeze_lit (m := 1) (sz := 9) rfl (by decide)
  clear hw; have hw := hw2; clear hw2
  replace hw := foldLe hw.swap2 hle1
  refine st_call hs (hc := fold_Next w _ H1 p emptyF b7 _ _ b7_ok (RdH.le (n := 1) (xs := [o7].flatMap opCells) hop (Fh.le.refl _)) hle1 hT hw) (k := ?_); rw [n71]; rintro e0 W1 ⟨sv1, H2, rfl, hle2, hsv1, hw1⟩; refine ⟨_, rfl, ?_⟩; clear hs hw; intro a hs; have hw := hw1; clear hw1
  obtain ⟨ad1, cap1, rfl⟩ := hsv1.slice
  repeat (first | (refine sxv hs hw ?_; clear hs; intro a hs) | refine sxc hs ?_ | (refine sxa hs hw ?_; clear hs hw; intro a b W hw hs) | (refine sxs hs hw ?_; clear hs hw; intro W hs hw) | ((with_reducible first | refine st_ptrSome hs (k := ?_) | refine st_ptrNone hs (k := ?_)); clear hs; intro a hs))
  obtain ⟨bq, qq⟩ := nm1 hw; subst qq
  obtain ⟨bt2, qt⟩ := nm2 hw; subst qt
  replace hw : Has 0 w _ (Cells bq (opCells o7) 95 :: Fz H2 :: Cells bt2 (rowCells r7 (.slice ad1 r7.b.l.length cap1)) 39 :: FoldAt H2 p f7 :: []) := hw.perm (by repeat (first | exact List.Perm.refl _ | refine perm_pick (by repeat (first | exact Pick.hd | apply Pick.tl)) ?_))
  obtain ⟨H3, hle3, hw2, hop3⟩ := hw.freeze_lit (m := 1) (sz := 9) rfl (by decide)
  clear hw; have hw := hw2; clear hw2
  replace hw : Has 0 w _ (FoldAt H3 p f7 :: Fz H3 :: Cells bt2 (rowCells r7 (.slice ad1 r7.b.l.length cap1)) 39 :: []) := foldLe (hw.perm (by repeat (first | exact List.Perm.refl _ | refine perm_pick (by repeat (first | exact Pick.hd | apply Pick.tl)) ?_)) : Has 0 w _ (FoldAt H2 p f7 :: Fz H3 :: Cells bt2 (rowCells r7 (.slice ad1 r7.b.l.length cap1)) 39 :: [])) hle3
  refine st_call hs (hc := fold_Next w _ H3 p f7 b7 _ _ b7_ok (RdH.le (n := 1) (xs := [o7].flatMap opCells) hop3 (Fh.le.refl _)) ((hle1.trans hle2).trans hle3) hT hw) (k := ?_); rw [n72]; rintro e0 W1 ⟨sv2, H4, rfl, hle4, hsv2, hw1⟩; refine ⟨_, rfl, ?_⟩; clear hs hw; intro a hs; have hw := hw1; clear hw1
  obtain ⟨ad2, cap2, rfl⟩ := hsv2.slice
  repeat (first | (refine sxv hs hw ?_; clear hs; intro a hs) | refine sxc hs ?_ | (refine sxa hs hw ?_; clear hs hw; intro a b W hw hs) | (refine sxs hs hw ?_; clear hs hw; intro W hs hw) | ((with_reducible first | refine st_ptrSome hs (k := ?_) | refine st_ptrNone hs (k := ?_)); clear hs; intro a hs))
  replace hw : Has 0 w _ (FoldAt H4 p f7 :: Fz H4 :: Cells bt2 (rowCells r7 (.slice ad1 r7.b.l.length cap1)) 39 :: []) := hw.sel (by repeat (first | exact Sel.nil | exact Sel.refl _ | refine Sel.cons (by repeat (first | exact Pick.hd | apply Pick.tl)) ?_ | refine Sel.skip ?_))
  refine st_call hs (hc := fold_Told w _ H4 p f7 2 _ (fun x hx => (f7_fine.ok.told x hx).2.2) hw) (k := ?_); rw [f7_told, f7_last2]; rintro e0 W1 ⟨sv3, H5, rfl, hle5, hsv3, hw1⟩; refine ⟨_, rfl, ?_⟩; clear hs hw; intro a hs; have hw := hw1; clear hw1
  obtain ⟨ad3, cap3, rfl⟩ := hsv3.slice
  repeat (first | (refine sxv hs hw ?_; clear hs; intro a hs) | refine sxc hs ?_ | (refine sxa hs hw ?_; clear hs hw; intro a b W hw hs) | (refine sxs hs hw ?_; clear hs hw; intro W hs hw) | ((with_reducible first | refine st_ptrSome hs (k := ?_) | refine st_ptrNone hs (k := ?_)); clear hs; intro a hs))
  obtain ⟨bt6, qt⟩ := nm1 hw; subst qt
  have hle := (((hle1.trans hle2).trans hle3).trans hle4).trans hle5
  replace hw : Has 0 w _ (FoldAt H5 p f7 :: Fz H5 :: Cells bt6 (rowCells r7 (.slice ad3 r7.b.l.length cap3)) 39 :: Cells bt2 (rowCells r7 (.slice ad1 r7.b.l.length cap1)) 39 :: []) := (foldLe (hw.perm (by repeat (first | exact List.Perm.refl _ | refine perm_pick (by repeat (first | exact Pick.hd | apply Pick.tl)) ?_)) : Has 0 w _ (FoldAt H4 p f7 :: Fz H5 :: Cells bt6 (rowCells r7 (.slice ad3 r7.b.l.length cap3)) 39 :: Cells bt2 (rowCells r7 (.slice ad1 r7.b.l.length cap1)) 39 :: [])) hle5)
  refine st_call hs (hc := fold_Encode w _ H5 p f7 _ f7_fine hle hT hw) (k := ?_); rintro e0 W1 ⟨ad, cap, rfl, hw1⟩; refine ⟨_, rfl, ?_⟩; clear hs hw; intro a hs; have hw := hw1; clear hw1
  replace hw : Has 0 w _ (Sx.OwnB 5 (.slice ad (foldB f7).length cap) (foldB f7) :: Fz H5 :: FoldAt H5 p f7 :: Cells bt6 (rowCells r7 (.slice ad3 r7.b.l.length cap3)) 39 :: Cells bt2 (rowCells r7 (.slice ad1 r7.b.l.length cap1)) 39 :: []) := hw.perm (by repeat (first | exact List.Perm.refl _ | refine perm_pick (by repeat (first | exact Pick.hd | apply Pick.tl)) ?_))
  obtain ⟨H6, hle6, hw2, hbb⟩ := hw.freeze_own
  clear hw; have hw := hw2; clear hw2
  repeat (first | (refine sxv hs hw ?_; clear hs; intro a hs) | refine sxc hs ?_ | (refine sxa hs hw ?_; clear hs hw; intro a b W hw hs) | (refine sxs hs hw ?_; clear hs hw; intro W hs hw) | ((with_reducible first | refine st_ptrSome hs (k := ?_) | refine st_ptrNone hs (k := ?_)); clear hs; intro a hs))
  refine st_call hs (hc := fold_DecodeOf w _ H6 f7 _ _ f7_fine hbb (hle.trans hle6) hT hw) (k := ?_); rintro e0 W1 ⟨H7, g, hle7, rfl, hw1⟩; refine ⟨_, rfl, ?_⟩; clear hs hw; intro a hs; have hw := hw1; clear hw1
  repeat (first | (refine sxv hs hw ?_; clear hs; intro a hs) | refine sxc hs ?_ | (refine sxa hs hw ?_; clear hs hw; intro a b W hw hs) | (refine sxs hs hw ?_; clear hs hw; intro W hs hw) | ((with_reducible first | refine st_ptrSome hs (k := ?_) | refine st_ptrNone hs (k := ?_)); clear hs; intro a hs))
  have hleA := (hle.trans hle6).trans hle7
  replace hw : Has 0 w _ (FoldAt H7 p f7 :: FoldAt H7 g f7 :: Fz H7 :: Cells bt6 (rowCells r7 (.slice ad3 r7.b.l.length cap3)) 39 :: Cells bt2 (rowCells r7 (.slice ad1 r7.b.l.length cap1)) 39 :: []) := foldLe (hw.perm (by repeat (first | exact List.Perm.refl _ | refine perm_pick (by repeat (first | exact Pick.hd | apply Pick.tl)) ?_)) : Has 0 w _ (FoldAt H5 p f7 :: FoldAt H7 g f7 :: Fz H7 :: Cells bt6 (rowCells r7 (.slice ad3 r7.b.l.length cap3)) 39 :: Cells bt2 (rowCells r7 (.slice ad1 r7.b.l.length cap1)) 39 :: [])) (hle6.trans hle7)
  refine st_call hs (hc := fold_Place w _ H7 p f7 _ hw) (k := ?_); rintro e0 W1 ⟨rfl, hw1⟩; refine ⟨_, rfl, ?_⟩; clear hs hw; intro a hs; have hw := hw1; clear hw1
  repeat (first | (refine sxv hs hw ?_; clear hs; intro a hs) | refine sxc hs ?_ | (refine sxa hs hw ?_; clear hs hw; intro a b W hw hs) | (refine sxs hs hw ?_; clear hs hw; intro W hs hw) | ((with_reducible first | refine st_ptrSome hs (k := ?_) | refine st_ptrNone hs (k := ?_)); clear hs; intro a hs))
  refine st_call hs (hc := fold_Last w _ H7 p f7 2 _ hw) (k := ?_); rw [f7_last2]; rintro e0 W1 ⟨rfl, hw1⟩; refine ⟨_, rfl, ?_⟩; clear hs hw; intro a hs; have hw := hw1; clear hw1
  repeat (first | (refine sxv hs hw ?_; clear hs; intro a hs) | refine sxc hs ?_ | (refine sxa hs hw ?_; clear hs hw; intro a b W hw hs) | (refine sxs hs hw ?_; clear hs hw; intro W hs hw) | ((with_reducible first | refine st_ptrSome hs (k := ?_) | refine st_ptrNone hs (k := ?_)); clear hs; intro a hs))
  refine st_call hs (hc := fold_Last w _ H7 p f7 1 _ hw) (k := ?_); rw [f7_last1]; rintro e0 W1 ⟨rfl, hw1⟩; refine ⟨_, rfl, ?_⟩; clear hs hw; intro a hs; have hw := hw1; clear hw1
  repeat (first | (refine sxv hs hw ?_; clear hs; intro a hs) | refine sxc hs ?_ | (refine sxa hs hw ?_; clear hs hw; intro a b W hw hs) | (refine sxs hs hw ?_; clear hs hw; intro W hs hw) | ((with_reducible first | refine st_ptrSome hs (k := ?_) | refine st_ptrNone hs (k := ?_)); clear hs; intro a hs))
  replace hw : Has 0 w _ (FoldAt H7 g f7 :: FoldAt H7 p f7 :: Fz H7 :: Cells bt6 (rowCells r7 (.slice ad3 r7.b.l.length cap3)) 39 :: Cells bt2 (rowCells r7 (.slice ad1 r7.b.l.length cap1)) 39 :: []) := hw.swap2
  refine st_call hs (hc := fold_Eq w _ H7 g p f7 f7 _ f7_fine f7_fine hleA hT hw) (k := ?_); rw [beq_self_eq_true]; rintro e0 W1 ⟨rfl, hw1⟩; refine ⟨_, rfl, ?_⟩; clear hs hw; intro a hs; have hw := hw1; clear hw1
  repeat (first | (refine sxv hs hw ?_; clear hs; intro a hs) | refine sxc hs ?_ | (refine sxa hs hw ?_; clear hs hw; intro a b W hw hs) | (refine sxs hs hw ?_; clear hs hw; intro W hs hw) | ((with_reducible first | refine st_ptrSome hs (k := ?_) | refine st_ptrNone hs (k := ?_)); clear hs; intro a hs))
  replace hw : Has 0 w _ (FoldAt H7 p f7 :: Fz H7 :: []) := hw.sel (by repeat (first | exact Sel.nil | exact Sel.refl _ | refine Sel.cons (by repeat (first | exact Pick.hd | apply Pick.tl)) ?_ | refine Sel.skip ?_))
  refine st_call hs (hc := fold_Doc w _ H7 p f7 _ hw) (k := ?_); rintro e0 W1 ⟨q, rfl, hw1⟩; refine ⟨_, rfl, ?_⟩; clear hs hw; intro a hs; have hw := hw1; clear hw1
  repeat (first | (refine sxv hs hw ?_; clear hs; intro a hs) | refine sxc hs ?_ | (refine sxa hs hw ?_; clear hs hw; intro a b W hw hs) | (refine sxs hs hw ?_; clear hs hw; intro W hs hw) | ((with_reducible first | refine st_ptrSome hs (k := ?_) | refine st_ptrNone hs (k := ?_)); clear hs; intro a hs))
  refine st_call hs (hc := doc_Keys w _ q f7.d _ f7_fine.doc hw) (k := ?_); rintro e0 W1 ⟨kv, rfl, hw1⟩; refine ⟨_, rfl, ?_⟩; clear hs hw; intro a hs; have hw := hw1; clear hw1
  obtain ⟨kad2, kcap2, rfl⟩ := hw.own_slice
  repeat (first | (refine sxv hs hw ?_; clear hs; intro a hs) | refine sxc hs ?_ | (refine sxa hs hw ?_; clear hs hw; intro a b W hw hs) | (refine sxs hs hw ?_; clear hs hw; intro W hs hw) | ((with_reducible first | refine st_ptrSome hs (k := ?_) | refine st_ptrNone hs (k := ?_)); clear hs; intro a hs))
  exact rt1 hs rfl rfl ⟨rfl, hw.endF (by repeat (first | exact In.hd | apply In.tl)) hleA⟩
set_option maxHeartbeats 16000000 in
theorem law7_tells (w0 W : World) (H : Fh) (l : List UInt8) (v : Value) (R : List Res) (hl : l.length ≤ 100000) (r : RdH H 1 v l.length (bys l)) (hH : (fr w0).le H) (hT : Tabs w0) (hw : Has 0 w0 W (Fz H :: R)) :
    Calls Tryz.prog 42 ⟨[v]⟩ W fun e W' => ∃ H', H.le H' ∧ e = .returned (.bool true) ∧ Has 0 w0 W' (Fz H' :: R) := by
  obtain ⟨sad, scap, rfl⟩ := r.slice
  refine enter Tryz.func42 Tryz.ntmps42 rfl rfl fun a hs => ?_
  repeat (first | (refine sxv hs hw ?_; clear hs; intro a hs) | refine sxc hs ?_ | (refine sxa hs hw ?_; clear hs hw; intro a b W hw hs) | (refine sxs hs hw ?_; clear hs hw; intro W hs hw))
  refine st_call hs (hc := fold_Decode w0 _ H l _ _ hl r hH hT hw) (k := ?_); rintro e0 W1 ⟨H1, hle1, (⟨_, rfl, hw1⟩ | ⟨f, p, hdd, rfl, hw1⟩)⟩
  · refine ⟨_, rfl, ?_⟩; clear hs hw; intro a hs; have hw := hw1; clear hw1
    repeat (first | (refine sxv hs hw ?_; clear hs; intro a hs) | refine sxc hs ?_ | (refine sxa hs hw ?_; clear hs hw; intro a b W hw hs) | (refine sxs hs hw ?_; clear hs hw; intro W hs hw) | ((with_reducible first | refine st_ptrSome hs (k := ?_) | refine st_ptrNone hs (k := ?_)); clear hs; intro a hs))
    exact rt1 hs rfl rfl ⟨H1, hle1, rfl, hw⟩
  · refine ⟨_, rfl, ?_⟩; clear hs hw; intro a hs; have hw := hw1; clear hw1
    obtain ⟨hdl, hdf⟩ := decF_some (by omega) hdd
    have r1 := r.le hle1
    have hH1 := hH.trans hle1
    repeat (first | (refine sxv hs hw ?_; clear hs; intro a hs) | refine sxc hs ?_ | (refine sxa hs hw ?_; clear hs hw; intro a b W hw hs) | (refine sxs hs hw ?_; clear hs hw; intro W hs hw))
    have hw := hw.free
    refine rg_drawU (σ := Option Addr × Nat) (V := fun u => [.pointer (some ⟨p, 0, none⟩), .slice (u 1).1 l.length (u 1).2, .string ⟨l.toArray⟩, .slice sad l.length scap, .string ⟨l.toArray⟩, .bool true, .bool true])
      (Rs := fun u D => (if D 1 then Sx.OwnB 5 (.slice (u 1).1 l.length (u 1).2) l else Free) :: FoldAt H1 p f :: Fz H1 :: R) (fun _ => (none, 0)) hs hw (hVu := ?vu_c) (ho := ⟨?_, ?c1_c, ?c2_c, ?_, ?c4_c, ?c5_c, ?_, trivial⟩) (k := ?k_c)
    case vu_c =>
      intro u u' j h
      rcases j with _ | _ | _ | _ | _ | _ | _ | j
      all_goals first | rfl | simp [h]
    case c1_c =>
      intro u LD D a W hcl hi hp hs hw
      simp only [hi, Bool.false_eq_true, if_false] at hw
      replace hw : Has 0 w0 W (FoldAt H1 p f :: Fz H1 :: R) := hw.sub (List.Sublist.cons _ (List.Sublist.refl _))
      refine st_call hs (hc := fold_Encode w0 _ H1 p f _ hdf hH1 hT hw) (k := ?_); rw [hdl]; rintro e0 W1 ⟨ad, cap, rfl, hw1⟩; refine ⟨_, rfl, ?_⟩; clear hs hw; intro a hs; have hw := hw1; clear hw1
      repeat (first | (refine sxv hs hw ?_; clear hs; intro a hs) | refine sxc hs ?_ | (refine sxa hs hw ?_; clear hs hw; intro a b W hw hs) | (refine sxs hs hw ?_; clear hs hw; intro W hs hw))
      exact Or.inr ⟨(ad, cap), hs, hw⟩
    case c2_c =>
      intro u LD D a W hcl hi hp hs hw
      have h1 := Go.Sx.done hp 1 (by kernel_rfl)
      have hw0 := hw
      simp only [h1, if_true] at hw
      refine st_string_b hs (r := hw.rd_own In.hd) (k := ?_); clear hs; intro a hs
      repeat (first | (refine sxv hs hw ?_; clear hs; intro a hs) | refine sxc hs ?_ | (refine sxa hs hw ?_; clear hs hw; intro a b W hw hs) | (refine sxs hs hw ?_; clear hs hw; intro W hs hw))
      exact Or.inl ⟨hs, hw0⟩
    case c4_c =>
      intro u LD D a W hcl hi hp hs hw
      refine st_string_b hs (r := hw.rdH (In.tl (In.tl In.hd)) r1) (k := ?_); clear hs; intro a hs
      repeat (first | (refine sxv hs hw ?_; clear hs; intro a hs) | refine sxc hs ?_ | (refine sxa hs hw ?_; clear hs hw; intro a b W hw hs) | (refine sxs hs hw ?_; clear hs hw; intro W hs hw))
      exact Or.inl ⟨hs, hw⟩
    case c5_c =>
      intro u LD D a W hcl hi hp hs hw
      repeat (first | (refine sxv hs hw ?_; clear hs; intro a hs) | refine sxc hs ?_ | (refine sxa hs hw ?_; clear hs hw; intro a b W hw hs) | (refine sxs hs hw ?_; clear hs hw; intro W hs hw))
      rw [beq_self_eq_true] at hs
      exact Or.inl ⟨hs, hw⟩
    case k_c =>
      clear hs hw
      intro u a W hs hw
      replace hw : Has 0 w0 W (Sx.OwnB 5 (.slice (u 1).1 l.length (u 1).2) l :: FoldAt H1 p f :: Fz H1 :: R) := hw
      replace hs : Slots a 24 [(2, .bool true)] := hs.of ⟨rfl, trivial⟩
      repeat (first | (refine sxv hs hw ?_; clear hs; intro a hs) | refine sxc hs ?_ | (refine sxa hs hw ?_; clear hs hw; intro a b W hw hs) | (refine sxs hs hw ?_; clear hs hw; intro W hs hw))
      exact rt1 hs rfl rfl ⟨H1, hle1, rfl, hw.sub (List.Sublist.cons _ (List.Sublist.cons _ (List.Sublist.refl _)))⟩
    all_goals
      intro u LD D a W hcl hi hp hs hw
      repeat (first | (refine sxv hs hw ?_; clear hs; intro a hs) | refine sxc hs ?_ | (refine sxa hs hw ?_; clear hs hw; intro a b W hw hs) | (refine sxs hs hw ?_; clear hs hw; intro W hs hw))
      exact Or.inl ⟨hs, hw⟩
end Go.Proofs.YtmalklakaalaoaaGreatDoor.Sw

set_option linter.unusedVariables false
set_option maxRecDepth 10000
namespace Go.Proofs.YtmalklakaalaoaaGreatDoor.Sw
open Go.RowKit Go.Sx
set_option maxHeartbeats 16000000 in
theorem law7_Same (w0 W : World) (H : Fh) (p : Nat) (f : FoldD) (cs : List Value) (R : List Res) (hok : FoldOk f) (hf : RfIn H f cs) (hw : Has 0 w0 W (FoldAt H p f :: Fz H :: R)) :
    Calls Tryz.prog 17 ⟨[.pointer (some ⟨p, 0, none⟩), .agg ⟨cs⟩]⟩ W fun e W' => e = .returned (.bool true) ∧ Has 0 w0 W' (FoldAt H p f :: Fz H :: R) := by
  obtain ⟨dv, ls, ts, rfl, hdv, h6, hls, hts⟩ := hf
  obtain ⟨hll, htl⟩ := rf_len h6 hls hts
  obtain ⟨dad, dcap, rfl⟩ := hdv.slice
  refine enter Tryz.func17 Tryz.ntmps17 rfl rfl fun a hs => ?_
  repeat (first | (refine sxv hs hw ?_; clear hs; intro a hs) | refine sxc hs ?_ | (refine sxa hs hw ?_; clear hs hw; intro a b W hw hs) | (refine sxs hs hw ?_; clear hs hw; intro W hs hw) | ((with_reducible first | refine st_ptrSome hs (k := ?_) | refine st_ptrNone hs (k := ?_)); clear hs; intro a hs))
  obtain ⟨b3, q3⟩ := nm1 hw; subst q3
  have hw : Has 0 w0 _ (Free :: FoldAt H p f :: Cells b3 (rfC f.place (.slice dad f.d.length dcap) ls ts) 42 :: Fz H :: R) := (hw.perm (List.Perm.swap _ _ _)).free
  refine rg_drawU (σ := Nat) (V := fun u => [.pointer (some ⟨p, 0, none⟩), .bool false, .bool false, .pointer (some ⟨p, 0, none⟩), .int .i64 f.place, .pointer (some ⟨b3, 0 + 0, none⟩), .int .i64 f.place, .bool false, .bool false, .bool false, .pointer (some ⟨p, 0, none⟩), .pointer (some ⟨u 11, 0, none⟩), .pointer (some ⟨b3, 0 + 1, none⟩), .agg ⟨[.slice dad f.d.length dcap]⟩, .bool true, .bool false, .bool false])
    (Rs := fun u D => (if D 14 then Free else if D 11 then DocAt (u 11) f.d else Free) :: FoldAt H p f :: Cells b3 (rfC f.place (.slice dad f.d.length dcap) ls ts) 42 :: Fz H :: R) (fun _ => 0) hs hw (hVu := ?vu_c) (ho := ⟨?_, ?_, ?_, ?_, ?c4_c, ?_, ?_, ?c7_c, ?_, ?_, ?_, ?c11_c, ?_, ?c13_c, ?c14_c, ?_, ?_, trivial⟩) (k := ?k_c)
  case vu_c =>
    intro u u' j h
    rcases j with _ | _ | _ | _ | _ | _ | _ | _ | _ | _ | _ | _ | _ | _ | _ | _ | _ | j
    all_goals first | rfl | simp [h]
  case c4_c =>
    intro u LD D a W hcl hi hp hs hw
    repeat (first | (refine sxv hs hw ?_; clear hs; intro a hs) | refine sxc hs ?_ | (refine sxa hs hw ?_; clear hs hw; intro a b W hw hs) | (refine sxs hs hw ?_; clear hs hw; intro W hs hw) | ((with_reducible first | refine st_ptrSome hs (k := ?_) | refine st_ptrNone hs (k := ?_)); clear hs; intro a hs))
    refine st_call hs (hc := fold_Place w0 _ H p f _ hw.swap2) (k := ?_); rintro e0 W1 ⟨rfl, hw1⟩; refine ⟨_, rfl, ?_⟩; clear hs hw; intro a hs; have hw := hw1.swap2; clear hw1
    repeat (first | (refine sxv hs hw ?_; clear hs; intro a hs) | refine sxc hs ?_ | (refine sxa hs hw ?_; clear hs hw; intro a b W hw hs) | (refine sxs hs hw ?_; clear hs hw; intro W hs hw) | ((with_reducible first | refine st_ptrSome hs (k := ?_) | refine st_ptrNone hs (k := ?_)); clear hs; intro a hs))
    exact Or.inl ⟨hs, hw⟩
  case c7_c =>
    intro u LD D a W hcl hi hp hs hw
    repeat (first | (refine sxv hs hw ?_; clear hs; intro a hs) | refine sxc hs ?_ | (refine sxa hs hw ?_; clear hs hw; intro a b W hw hs) | (refine sxs hs hw ?_; clear hs hw; intro W hs hw) | ((with_reducible first | refine st_ptrSome hs (k := ?_) | refine st_ptrNone hs (k := ?_)); clear hs; intro a hs))
    rw [show (f.place != f.place) = false from bne_self_eq_false _] at hs
    repeat (first | (refine sxv hs hw ?_; clear hs; intro a hs) | refine sxc hs ?_ | (refine sxa hs hw ?_; clear hs hw; intro a b W hw hs) | (refine sxs hs hw ?_; clear hs hw; intro W hs hw) | ((with_reducible first | refine st_ptrSome hs (k := ?_) | refine st_ptrNone hs (k := ?_)); clear hs; intro a hs))
    exact Or.inl ⟨hs, hw⟩
  case c11_c =>
    intro u LD D a W hcl hi hp hs hw
    have h14 := Go.Sx.not_done hcl hi 14 (by kernel_rfl)
    simp only [hi, h14, Bool.false_eq_true, if_false] at hw
    repeat (first | (refine sxv hs hw ?_; clear hs; intro a hs) | refine sxc hs ?_ | (refine sxa hs hw ?_; clear hs hw; intro a b W hw hs) | (refine sxs hs hw ?_; clear hs hw; intro W hs hw) | ((with_reducible first | refine st_ptrSome hs (k := ?_) | refine st_ptrNone hs (k := ?_)); clear hs; intro a hs))
    refine st_call hs (hc := fold_Doc w0 _ H p f _ (hw.sub (List.Sublist.cons _ (List.Sublist.refl _)))) (k := ?_); rintro e0 W1 ⟨c, rfl, hw1⟩; refine ⟨_, rfl, ?_⟩; clear hs hw; intro a hs; have hw := hw1; clear hw1
    repeat (first | (refine sxv hs hw ?_; clear hs; intro a hs) | refine sxc hs ?_ | (refine sxa hs hw ?_; clear hs hw; intro a b W hw hs) | (refine sxs hs hw ?_; clear hs hw; intro W hs hw) | ((with_reducible first | refine st_ptrSome hs (k := ?_) | refine st_ptrNone hs (k := ?_)); clear hs; intro a hs))
    refine Or.inr ⟨c, hs, ?_⟩
    show Has 0 w0 _ ((if (Nat.beq 14 11 || D 14) = true then _ else _) :: _)
    rw [h14]
    exact hw
  case c13_c =>
    intro u LD D a W hcl hi hp hs hw
    have hcut : cut (rfC f.place (.slice dad f.d.length dcap) ls ts) (0 + 1) 1 = [.slice dad f.d.length dcap] := by rw [cut_eq]; rfl
    repeat (first | (refine sxv hs hw ?_; clear hs; intro a hs) | refine sxc hs ?_ | (refine sxa hs hw ?_; clear hs hw; intro a b W hw hs) | (refine sxs hs hw ?_; clear hs hw; intro W hs hw) | ((with_reducible first | refine st_ptrSome hs (k := ?_) | refine st_ptrNone hs (k := ?_)); clear hs; intro a hs))
    rw [show cut (rfC f.place (.slice dad f.d.length dcap) ls ts) (0 + 1) [Value.slice none 0 0].length = [.slice dad f.d.length dcap] from hcut] at hs
    exact Or.inl ⟨hs, hw⟩
  case c14_c =>
    intro u LD D a W hcl hi hp hs hw
    have h11 := Go.Sx.done hp 11 (by kernel_rfl)
    simp only [hi, h11, Bool.false_eq_true, if_false, if_true] at hw
    repeat (first | (refine sxv hs hw ?_; clear hs; intro a hs) | refine sxc hs ?_ | (refine sxa hs hw ?_; clear hs hw; intro a b W hw hs) | (refine sxs hs hw ?_; clear hs hw; intro W hs hw) | ((with_reducible first | refine st_ptrSome hs (k := ?_) | refine st_ptrNone hs (k := ?_)); clear hs; intro a hs))
    have hw : Has 0 w0 _ (DocAt (u 11) f.d :: Fz H :: FoldAt H p f :: Cells b3 (rfC f.place (.slice dad f.d.length dcap) ls ts) 42 :: R) := hw.perm (by repeat (first | exact List.Perm.refl _ | refine perm_pick (by repeat (first | exact Pick.hd | apply Pick.tl)) ?_))
    refine st_call hs (hc := law6_Same w0 _ H (u 11) f.d _ _ hok.doc hdv hw) (k := ?_); rintro e0 W1 ⟨rfl, hw1⟩; refine ⟨_, rfl, ?_⟩; clear hs hw; intro a hs
    have hw : Has 0 w0 _ (Free :: FoldAt H p f :: Cells b3 (rfC f.place (.slice dad f.d.length dcap) ls ts) 42 :: Fz H :: R) := ((hw1.sub (List.Sublist.cons _ (List.Sublist.refl _))).perm (by repeat (first | exact List.Perm.refl _ | refine perm_pick (by repeat (first | exact Pick.hd | apply Pick.tl)) ?_))).free
    clear hw1
    repeat (first | (refine sxv hs hw ?_; clear hs; intro a hs) | refine sxc hs ?_ | (refine sxa hs hw ?_; clear hs hw; intro a b W hw hs) | (refine sxs hs hw ?_; clear hs hw; intro W hs hw) | ((with_reducible first | refine st_ptrSome hs (k := ?_) | refine st_ptrNone hs (k := ?_)); clear hs; intro a hs))
    exact Or.inl ⟨hs, hw⟩
  case k_c =>
    clear hs hw
    intro u a W hs hw
    replace hw : Has 0 w0 W (Free :: FoldAt H p f :: Cells b3 (rfC f.place (.slice dad f.d.length dcap) ls ts) 42 :: Fz H :: R) := hw
    replace hw := hw.sub (List.Sublist.cons _ (List.Sublist.refl _))
    replace hs : Slots a 69 [(0, .pointer (some ⟨p, 0, none⟩)), (3, .pointer (some ⟨b3, 0, none⟩)), (26, .bool false)] := hs.of ⟨rfl, rfl, rfl, trivial⟩
    clear u
    repeat (first | (refine sxv hs hw ?_; clear hs; intro a hs) | refine sxc hs ?_ | (refine sxa hs hw ?_; clear hs hw; intro a b W hw hs) | (refine sxs hs hw ?_; clear hs hw; intro W hs hw) | ((with_reducible first | refine st_ptrSome hs (k := ?_) | refine st_ptrNone hs (k := ?_)); clear hs; intro a hs))
    refine st_loop (σ := Nat) (fun i => [(0, .pointer (some ⟨p, 0, none⟩)), (3, .pointer (some ⟨b3, 0, none⟩)), (5, .int .i64 (i : Int))]) (fun _ => FoldAt H p f :: Cells b3 (rfC f.place (.slice dad f.d.length dcap) ls ts) 42 :: Fz H :: R) (fun i => i ≤ 7) (fun i => 7 - i) 0 (Nat.zero_le _) hs ⟨rfl, rfl, rfl, trivial⟩ hw ?_
    clear hs hw
    rintro i a W hi hs hw
    repeat (first | (refine sxv hs hw ?_; clear hs; intro a hs) | refine sxc hs ?_ | (refine sxa hs hw ?_; clear hs hw; intro a b W hw hs) | (refine sxs hs hw ?_; clear hs hw; intro W hs hw) | ((with_reducible first | refine st_ptrSome hs (k := ?_) | refine st_ptrNone hs (k := ?_)); clear hs; intro a hs))
    refine cd_split hs (kt := fun hcc => ?_) (kf := fun hcc => ?_)
    · have hi' : i ≤ 6 := by have : (i : Int) ≤ 6 := by simpa using hcc
                             omega
      repeat (first | (refine sxv hs hw ?_; clear hs; intro a hs) | refine sxn hs ?_ | (refine sxa hs hw ?_; clear hs hw; intro a b W hw hs) | (refine sxs hs hw ?_; clear hs hw; intro W hs hw))
      refine sq ?_
      repeat (first | (refine sxv hs hw ?_; clear hs; intro a hs) | refine sxn hs ?_ | (refine sxa hs hw ?_; clear hs hw; intro a b W hw hs) | (refine sxs hs hw ?_; clear hs hw; intro W hs hw))
      obtain ⟨b7, q7⟩ := nm1 hw; subst q7
      refine sq ?_
      refine merge (M := fun a W => ∃ sv, OpsH H sv (rowOf f i).b.l ∧ Slots a 69 [(0, .pointer (some ⟨p, 0, none⟩)), (3, .pointer (some ⟨b3, 0, none⟩)), (5, .int .i64 (i : Int)), (6, .int .i64 (lastOf f i)), (7, .pointer (some ⟨b7, 0, none⟩))] ∧ Has 0 w0 W (Cells b7 (rowCells (rowOf f i) sv) 39 :: FoldAt H p f :: Cells b3 (rfC f.place (.slice dad f.d.length dcap) ls ts) 42 :: Fz H :: R)) ?_ ?_
      · repeat (first | (refine sxv hs hw ?_; clear hs; intro a hs) | refine sxc hs ?_ | (refine sxa hs hw ?_; clear hs hw; intro a b W hw hs) | (refine sxs hs hw ?_; clear hs hw; intro W hs hw) | ((with_reducible first | refine st_ptrSome hs (k := ?_) | refine st_ptrNone hs (k := ?_)); clear hs; intro a hs))
        by_cases hc : 1 ≤ (i : Int) ∧ (i : Int) ≤ 5
        · rw [show decide ((i : Int) ≥ 1) = true from decide_eq_true hc.1] at hs
          repeat (first | (refine sxv hs hw ?_; clear hs; intro a hs) | refine sxc hs ?_ | (refine sxa hs hw ?_; clear hs hw; intro a b W hw hs) | (refine sxs hs hw ?_; clear hs hw; intro W hs hw) | ((with_reducible first | refine st_ptrSome hs (k := ?_) | refine st_ptrNone hs (k := ?_)); clear hs; intro a hs))
          rw [show decide ((i : Int) ≤ 5) = true from decide_eq_true hc.2] at hs
          obtain ⟨x, hx, hmem, hlx, hrx⟩ := hok.at_ hc
          rw [Int.toNat_natCast] at hx
          obtain ⟨c1, rfl, hc1, hcut1⟩ := hls.get NumIn.len hx
          obtain ⟨c2, ⟨sv, rfl, hsv⟩, hc2, hcut2⟩ := hts.get ToRow.len hx
          have hL : ls[i]? = some (.int .i64 x.1) := by
            have := congrArg (fun t => t[0]?) hcut1
            simpa [cut_eq] using this
          have hT : ∀ j u, (rowCells x.2 sv)[j]? = some u → ts[i * 5 + j]? = some u := by
            intro j u hu
            have := congrArg (fun t => t[j]?) hcut2
            simp only [cut_eq, List.getElem?_take, List.getElem?_drop] at this
            rw [hu] at this
            split at this
            · exact this
            · cases this
          rw [hrx, hlx]
          repeat (first | (refine sxv hs hw ?_; clear hs; intro a hs) | refine sxc hs ?_ | (refine sxa hs hw ?_; clear hs hw; intro a b W hw hs) | (refine sxs hs hw ?_; clear hs hw; intro W hs hw) | ((with_reducible first | refine st_ptrSome hs (k := ?_) | refine st_ptrNone hs (k := ?_)); clear hs; intro a hs))
          have hw : Has 0 w0 _ (Cells b7 zrc 39 :: FoldAt H p f :: Cells b3 (rfC f.place (.slice dad f.d.length dcap) ls ts) 42 :: Fz H :: R) := hw
          refine rg_draw (V := [.int .i64 (i : Int), .pointer (some ⟨b3, 0 + 2, none⟩), .pointer (some ⟨b3, 0 + 2 + i * 1, none⟩), .int .i64 x.1, .int .i64 (i : Int), .pointer (some ⟨b3, 0 + 8, none⟩), .pointer (some ⟨b3, 0 + 8 + i * 5, none⟩), .agg ⟨rowCells x.2 sv⟩, .int .i64 x.1, undef])
            (Rs := fun D => (if D 9 then Cells b7 (rowCells x.2 sv) 39 else Cells b7 zrc 39) :: FoldAt H p f :: Cells b3 (rfC f.place (.slice dad f.d.length dcap) ls ts) 42 :: Fz H :: R) hs hw (ho := ⟨?_, ?_, ?d2_c, ?d3_c, ?_, ?_, ?d6_c, ?d7_c, ?_, ?d9_c, trivial⟩) (k := ?kd_c)
          case d2_c =>
            intro LD D a W hcl hi hp hs hw
            refine st_index_arr hs (h0 := by omega) (h1 := by omega) (c := ?_); clear hs; intro a hs
            repeat (first | (refine sxv hs hw ?_; clear hs; intro a hs) | refine sxc hs ?_ | (refine sxa hs hw ?_; clear hs hw; intro a b W hw hs) | (refine sxs hs hw ?_; clear hs hw; intro W hs hw) | ((with_reducible first | refine st_ptrSome hs (k := ?_) | refine st_ptrNone hs (k := ?_)); clear hs; intro a hs))
            exact ⟨hs, hw⟩
          case d6_c =>
            intro LD D a W hcl hi hp hs hw
            refine st_index_arr hs (h0 := by omega) (h1 := by omega) (c := ?_); clear hs; intro a hs
            repeat (first | (refine sxv hs hw ?_; clear hs; intro a hs) | refine sxc hs ?_ | (refine sxa hs hw ?_; clear hs hw; intro a b W hw hs) | (refine sxs hs hw ?_; clear hs hw; intro W hs hw) | ((with_reducible first | refine st_ptrSome hs (k := ?_) | refine st_ptrNone hs (k := ?_)); clear hs; intro a hs))
            exact ⟨hs, hw⟩
          case d3_c =>
            intro LD D a W hcl hi hp hs hw
            refine st_load_one hs (hw := hw) (hi := In.tl (In.tl In.hd)) (v := .int .i64 x.1) (hv := ?hv) (k := ?_)
            case hv =>
              rw [show 0 + 2 + i * 1 = i + 1 + 1 by omega]
              show (ls ++ ts)[i]? = _
              rw [List.getElem?_append_left (by omega)]
              exact hL
            clear hs; intro a hs
            repeat (first | (refine sxv hs hw ?_; clear hs; intro a hs) | refine sxc hs ?_ | (refine sxa hs hw ?_; clear hs hw; intro a b W hw hs) | (refine sxs hs hw ?_; clear hs hw; intro W hs hw) | ((with_reducible first | refine st_ptrSome hs (k := ?_) | refine st_ptrNone hs (k := ?_)); clear hs; intro a hs))
            exact ⟨hs, hw⟩
          case d7_c =>
            intro LD D a W hcl hi hp hs hw
            refine st_load_ats (z := zrc) hs (cs := rowCells x.2 sv) (hc := fun j u hu => ?hcc) (hl := rfl) (c := ?_)
            case hcc =>
              rw [cell_block (hw.block (In.tl (In.tl In.hd))).1]
              rw [show 0 + 8 + i * 5 + j = (6 + (i * 5 + j)) + 1 + 1 by omega]
              show (ls ++ ts)[6 + (i * 5 + j)]? = _
              rw [List.getElem?_append_right (by omega), show 6 + (i * 5 + j) - ls.length = i * 5 + j by omega]
              exact hT j u hu
            clear hs; intro a hs
            repeat (first | (refine sxv hs hw ?_; clear hs; intro a hs) | refine sxc hs ?_ | (refine sxa hs hw ?_; clear hs hw; intro a b W hw hs) | (refine sxs hs hw ?_; clear hs hw; intro W hs hw) | ((with_reducible first | refine st_ptrSome hs (k := ?_) | refine st_ptrNone hs (k := ?_)); clear hs; intro a hs))
            exact ⟨hs, hw⟩
          case d9_c =>
            intro LD D a W hcl hi hp hs hw
            simp only [hi, Bool.false_eq_true, if_false] at hw
            obtain ⟨svad, svcap, rfl⟩ := hsv.slice
            repeat (first | (refine sxv hs hw ?_; clear hs; intro a hs) | refine sxc hs ?_ | (refine sxa hs hw ?_; clear hs hw; intro a b W hw hs) | (refine sxs hs hw ?_; clear hs hw; intro W hs hw) | ((with_reducible first | refine st_ptrSome hs (k := ?_) | refine st_ptrNone hs (k := ?_)); clear hs; intro a hs))
            exact ⟨hs, hw⟩
          case kd_c =>
            clear hs hw
            intro a W hs hw
            exact ⟨sv, hsv, hs.of ⟨rfl, rfl, rfl, rfl, rfl, trivial⟩, hw⟩
          all_goals
            intro LD D a W hcl hi hp hs hw
            repeat (first | (refine sxv hs hw ?_; clear hs; intro a hs) | refine sxc hs ?_ | (refine sxa hs hw ?_; clear hs hw; intro a b W hw hs) | (refine sxs hs hw ?_; clear hs hw; intro W hs hw) | ((with_reducible first | refine st_ptrSome hs (k := ?_) | refine st_ptrNone hs (k := ?_)); clear hs; intro a hs))
            exact ⟨hs, hw⟩
        · have hlx : lastOf f i = 0 := by unfold lastOf; rw [if_neg hc]
          have hrx : rowOf f i = zeroRow := by unfold rowOf; rw [if_neg hc]
          rw [hlx, hrx]
          by_cases h1 : 1 ≤ (i : Int)
          · rw [show decide ((i : Int) ≥ 1) = true from decide_eq_true h1] at hs
            repeat (first | (refine sxv hs hw ?_; clear hs; intro a hs) | refine sxc hs ?_ | (refine sxa hs hw ?_; clear hs hw; intro a b W hw hs) | (refine sxs hs hw ?_; clear hs hw; intro W hs hw) | ((with_reducible first | refine st_ptrSome hs (k := ?_) | refine st_ptrNone hs (k := ?_)); clear hs; intro a hs))
            rw [show decide ((i : Int) ≤ 5) = false from decide_eq_false (by omega)] at hs
            repeat (first | (refine sxv hs hw ?_; clear hs; intro a hs) | refine sxc hs ?_ | (refine sxa hs hw ?_; clear hs hw; intro a b W hw hs) | (refine sxs hs hw ?_; clear hs hw; intro W hs hw) | ((with_reducible first | refine st_ptrSome hs (k := ?_) | refine st_ptrNone hs (k := ?_)); clear hs; intro a hs))
            exact ⟨_, ops_nil H, hs.of ⟨rfl, rfl, rfl, rfl, rfl, trivial⟩, hw⟩
          · rw [show decide ((i : Int) ≥ 1) = false from decide_eq_false h1] at hs
            repeat (first | (refine sxv hs hw ?_; clear hs; intro a hs) | refine sxc hs ?_ | (refine sxa hs hw ?_; clear hs hw; intro a b W hw hs) | (refine sxs hs hw ?_; clear hs hw; intro W hs hw) | ((with_reducible first | refine st_ptrSome hs (k := ?_) | refine st_ptrNone hs (k := ?_)); clear hs; intro a hs))
            exact ⟨_, ops_nil H, hs.of ⟨rfl, rfl, rfl, rfl, rfl, trivial⟩, hw⟩
      clear hs hw
      rintro a W ⟨sv, hsv, hs, hw⟩
      repeat (first | (refine sxv hs hw ?_; clear hs; intro a hs) | refine sxc hs ?_ | (refine sxa hs hw ?_; clear hs hw; intro a b W hw hs) | (refine sxs hs hw ?_; clear hs hw; intro W hs hw) | ((with_reducible first | refine st_ptrSome hs (k := ?_) | refine st_ptrNone hs (k := ?_)); clear hs; intro a hs))
      have hw : Has 0 w0 _ (FoldAt H p f :: Fz H :: Cells b7 (rowCells (rowOf f i) sv) 39 :: Cells b3 (rfC f.place (.slice dad f.d.length dcap) ls ts) 42 :: R) := hw.perm (by repeat (first | exact List.Perm.refl _ | refine perm_pick (by repeat (first | exact Pick.hd | apply Pick.tl)) ?_))
      refine st_call hs (hc := fold_Told w0 _ H p f i _ (fun x hx => (hok.told x hx).2.2) hw) (k := ?_); rintro e0 W1 ⟨sv2, H2, rfl, hle2, hsv2, hw1⟩; refine ⟨_, rfl, ?_⟩; clear hs hw; intro a hs; have hw := hw1; clear hw1
      rw [hok.toldOf] at hs hsv2
      obtain ⟨uad, ucap, rfl⟩ := hsv2.slice
      repeat (first | (refine sxv hs hw ?_; clear hs; intro a hs) | refine sxc hs ?_ | (refine sxa hs hw ?_; clear hs hw; intro a b W hw hs) | (refine sxs hs hw ?_; clear hs hw; intro W hs hw) | ((with_reducible first | refine st_ptrSome hs (k := ?_) | refine st_ptrNone hs (k := ?_)); clear hs; intro a hs))
      obtain ⟨b8, q8⟩ := nm1 hw; subst q8
      have hw : Has 0 w0 _ (FoldAt H p f :: Fz H2 :: Cells b8 (rowCells (rowOf f i) (.slice uad (rowOf f i).b.l.length ucap)) 39 :: Cells b7 (rowCells (rowOf f i) sv) 39 :: Cells b3 (rfC f.place (.slice dad f.d.length dcap) ls ts) 42 :: R) := hw.perm (by repeat (first | exact List.Perm.refl _ | refine perm_pick (by repeat (first | exact Pick.hd | apply Pick.tl)) ?_))
      refine st_call hs (hc := fold_Last w0 _ H p f i _ hw) (k := ?_); rintro e0 W1 ⟨rfl, hw1⟩; refine ⟨_, rfl, ?_⟩; clear hs hw; intro a hs; have hw := hw1; clear hw1
      repeat (first | (refine sxv hs hw ?_; clear hs; intro a hs) | refine sxc hs ?_ | (refine sxa hs hw ?_; clear hs hw; intro a b W hw hs) | (refine sxs hs hw ?_; clear hs hw; intro W hs hw) | ((with_reducible first | refine st_ptrSome hs (k := ?_) | refine st_ptrNone hs (k := ?_)); clear hs; intro a hs))
      rw [show (lastOf f i != lastOf f i) = false from bne_self_eq_false _] at hs
      repeat (first | (refine sxv hs hw ?_; clear hs; intro a hs) | refine sxc hs ?_ | (refine sxa hs hw ?_; clear hs hw; intro a b W hw hs) | (refine sxs hs hw ?_; clear hs hw; intro W hs hw) | ((with_reducible first | refine st_ptrSome hs (k := ?_) | refine st_ptrNone hs (k := ?_)); clear hs; intro a hs))
      have hlast := hok.last i
      rw [show (!((!(lastOf f i == 0)) == decide (lastOf f i > 0))) = false from by
        by_cases h0 : lastOf f i = 0
        · rw [h0]; rfl
        · rw [show (lastOf f i == 0) = false from by simpa using h0, show decide (lastOf f i > 0) = true from decide_eq_true (by omega)]; rfl] at hs
      repeat (first | (refine sxv hs hw ?_; clear hs; intro a hs) | refine sxc hs ?_ | (refine sxa hs hw ?_; clear hs hw; intro a b W hw hs) | (refine sxs hs hw ?_; clear hs hw; intro W hs hw) | ((with_reducible first | refine st_ptrSome hs (k := ?_) | refine st_ptrNone hs (k := ?_)); clear hs; intro a hs))
      refine st_call hs (hc := ref_EqRow (rowOf f i) (rowOf f i) (.slice uad (rowOf f i).b.l.length ucap) sv _ (hw.rdH (by repeat (first | exact In.hd | apply In.tl)) hsv2) (hw.rdH (by repeat (first | exact In.hd | apply In.tl)) (hsv.le hle2))) (k := ?_); rintro e0 W1 ⟨rfl, hb⟩; refine ⟨_, rfl, ?_⟩; clear hs; intro a hs; replace hw := hw.below hb; clear hb
      rw [show eqRow (rowOf f i) (rowOf f i) = true from eqRow_iff.2 rfl] at hs
      repeat (first | (refine sxv hs hw ?_; clear hs; intro a hs) | refine sxc hs ?_ | (refine sxa hs hw ?_; clear hs hw; intro a b W hw hs) | (refine sxs hs hw ?_; clear hs hw; intro W hs hw) | ((with_reducible first | refine st_ptrSome hs (k := ?_) | refine st_ptrNone hs (k := ?_)); clear hs; intro a hs))
      have hw : Has 0 w0 _ (Fz H2 :: FoldAt H p f :: Cells b3 (rfC f.place (.slice dad f.d.length dcap) ls ts) 42 :: Cells b8 (rowCells (rowOf f i) (.slice uad (rowOf f i).b.l.length ucap)) 39 :: Cells b7 (rowCells (rowOf f i) sv) 39 :: R) := hw.perm (by repeat (first | exact List.Perm.refl _ | refine perm_pick (by repeat (first | exact Pick.hd | apply Pick.tl)) ?_))
      have hw := hw.thaw hle2
      have hw : Has 0 w0 _ (Cells b8 (rowCells (rowOf f i) (.slice uad (rowOf f i).b.l.length ucap)) 39 :: Cells b7 (rowCells (rowOf f i) sv) 39 :: FoldAt H p f :: Cells b3 (rfC f.place (.slice dad f.d.length dcap) ls ts) 42 :: Fz H :: R) := hw.perm (by repeat (first | exact List.Perm.refl _ | refine perm_pick (by repeat (first | exact Pick.hd | apply Pick.tl)) ?_))
      exact st_again (i + 1) hs (hw.sub (List.Sublist.cons _ (List.Sublist.cons _ (List.Sublist.refl _)))) (by show i + 1 ≤ 7; omega) (by show 7 - (i + 1) < 7 - i; omega) ⟨rfl, rfl, int_eq (by show IntKind.i64.wrap ((i : Int) + 1) = ((i + 1 : Nat) : Int); rw [IntWalk.i64_in _ (by omega)]; omega), trivial⟩
    · repeat (first | (refine sxv hs hw ?_; clear hs; intro a hs) | refine sxc hs ?_ | (refine sxa hs hw ?_; clear hs hw; intro a b W hw hs) | (refine sxs hs hw ?_; clear hs hw; intro W hs hw) | ((with_reducible first | refine st_ptrSome hs (k := ?_) | refine st_ptrNone hs (k := ?_)); clear hs; intro a hs))
      exact rt1 hs rfl rfl ⟨rfl, hw.sub (List.Sublist.cons_cons _ (List.Sublist.cons _ (List.Sublist.refl _)))⟩
  all_goals
    intro u LD D a W hcl hi hp hs hw
    repeat (first | (refine sxv hs hw ?_; clear hs; intro a hs) | refine sxc hs ?_ | (refine sxa hs hw ?_; clear hs hw; intro a b W hw hs) | (refine sxs hs hw ?_; clear hs hw; intro W hs hw) | ((with_reducible first | refine st_ptrSome hs (k := ?_) | refine st_ptrNone hs (k := ?_)); clear hs; intro a hs))
    exact Or.inl ⟨hs, hw⟩
end Go.Proofs.YtmalklakaalaoaaGreatDoor.Sw

set_option linter.unusedVariables false
set_option maxRecDepth 10000
namespace Go.Proofs.YtmalklakaalaoaaGreatDoor.Sw
open Go.RowKit Go.Sx
set_option maxHeartbeats 64000000 in
theorem walk_FoldAll (l : List BatchD) (v : Value) (w : World) (hb : ∀ b ∈ l, BatWf b) (hr : BatsRd w v l) (hT : Tabs w) :
    Calls Tryz.prog 6 ⟨[v]⟩ w fun e w' => e = .returned (.bool true) ∧ Below w.heap.size w w' := by
  have hw := Has.startF w
  refine enter Tryz.func6 Tryz.ntmps6 rfl rfl fun a hs => ?_
  repeat (first | (refine sxv hs hw ?_; clear hs; intro a hs) | refine sxc hs ?_ | (refine sxa hs hw ?_; clear hs hw; intro a b W hw hs) | (refine sxs hs hw ?_; clear hs hw; intro W hs hw))
  refine st_call hs (hc := law7_begun _ hT) (k := ?_); rintro e0 W1 ⟨rfl, hb⟩; refine ⟨_, rfl, ?_⟩; clear hs; intro a hs; replace hw := hw.below hb; clear hb
  repeat (first | (refine sxv hs hw ?_; clear hs; intro a hs) | refine sxc hs ?_ | (refine sxa hs hw ?_; clear hs hw; intro a b W hw hs) | (refine sxs hs hw ?_; clear hs hw; intro W hs hw))
  refine st_call hs (hc := law7_Batches w _ (fr w) l v 40 _ (by decide) hb hr.h hw) (k := ?_); rintro e0 W1 ⟨bv, H1, rfl, hle1, hbs, hw1⟩; refine ⟨_, rfl, ?_⟩; clear hs hw; intro a hs; have hw := hw1; clear hw1
  have hbo := batsB_ok hb 40
  have hbl : (batsB l 40).length ≤ 40 := by unfold batsB; rw [List.length_map, List.length_take]; omega
  generalize batsB l 40 = m at *
  obtain ⟨ys, hr, hch⟩ := hbs
  obtain ⟨sad, scap, rfl⟩ := hr.slice
  repeat (first | (refine sxv hs hw ?_; clear hs; intro a hs) | refine sxc hs ?_ | (refine sxa hs hw ?_; clear hs hw; intro a b W hw hs) | (refine sxs hs hw ?_; clear hs hw; intro W hs hw))
  refine st_call hs (hc := fold_New w _ H1 _ hw) (k := ?_); rintro e0 W1 ⟨p, rfl, hw1⟩; refine ⟨_, rfl, ?_⟩; clear hs hw; intro a hs; have hw := hw1; clear hw1
  repeat (first | (refine sxv hs hw ?_; clear hs; intro a hs) | refine sxc hs ?_ | (refine sxa hs hw ?_; clear hs hw; intro a b W hw hs) | (refine sxs hs hw ?_; clear hs hw; intro W hs hw))
  obtain ⟨b5, q5⟩ := nm1 hw; subst q5
  replace hw : Has 0 w W (Cells b5 zrf 42 :: FoldAt H1 p emptyF :: Fz H1 :: []) := by with_unfolding_all exact hw
  replace hw : Has 0 w _ (FoldAt H1 p emptyF :: Cells b5 zrf 42 :: Fz H1 :: []) := hw.swap2
  refine st_loop (σ := Nat × FoldD × List Value × Fh) (fun t => [(0, .slice sad m.length scap), (4, .pointer (some ⟨p, 0, none⟩)), (5, .pointer (some ⟨b5, 0, none⟩)), (6, .int .i64 (t.1 : Int))]) (fun t => FoldAt t.2.2.2 p t.2.1 :: Cells b5 t.2.2.1 42 :: Fz t.2.2.2 :: []) (fun t => t.1 ≤ m.length ∧ FoldFine t.2.1 ∧ t.2.1.place ≤ t.1 ∧ H1.le t.2.2.2 ∧ RfIn t.2.2.2 t.2.1 t.2.2.1) (fun t => m.length - t.1) (0, emptyF, zrf, H1) ⟨Nat.zero_le _, FoldFine.empty, by show (0 : Int) ≤ ((0 : Nat) : Int); decide, Fh.le.refl _, rf_empty H1⟩ hs ⟨rfl, rfl, rfl, rfl, trivial⟩ hw ?_
  clear hs hw
  rintro ⟨j, f, cs, H0⟩ a W ⟨hj, hff, hpl, hH0, hf0⟩ hs hw
  simp only at hj hff hpl hH0 hf0 hs hw
  repeat (first | (refine sxv hs hw ?_; clear hs; intro a hs) | refine sxc hs ?_ | (refine sxa hs hw ?_; clear hs hw; intro a b W hw hs) | (refine sxs hs hw ?_; clear hs hw; intro W hs hw))
  refine cd_split hs (kt := fun hcc => ?_) (kf := fun hcc => ?_)
  · have hj' : j < m.length := by simpa using hcc
    obtain ⟨bt, hbi⟩ : ∃ o, m[j]? = some o := ⟨m[j], List.getElem?_eq_getElem hj'⟩
    have hok := hbo bt (List.mem_of_getElem? hbi)
    have hnx := hff.next hok (by omega)
    have hd := hff.doc.ok
    repeat (first | (refine sxv hs hw ?_; clear hs; intro a hs) | refine sxc hs ?_ | (refine sxa hs hw ?_; clear hs hw; intro a b W hw hs) | (refine sxs hs hw ?_; clear hs hw; intro W hs hw))
    refine st_index_ch hs (r := hw.rdH (by repeat (first | exact In.hd | apply In.tl)) (hr.le hH0)) (hk := BatIn.len) (ch := hch.mono (BatIn.le hH0)) (ho := hbi) (hlen := rfl) (c := ?_); clear hs; intro a g off cc hcc2 hcl hpc hlt hs
    obtain ⟨bv0, rfl, hbv0⟩ := hcc2
    refine st_load_ats hs (cs := batCells bt bv0) (hc := hpc) (hl := by rfl) (c := ?_); clear hs hpc; intro a hs
    replace hw : Has 0 w _ (FoldAt H0 p f :: Fz H0 :: Cells b5 cs 42 :: []) := hw.perm (by repeat (first | exact List.Perm.refl _ | refine perm_pick (by repeat (first | exact Pick.hd | apply Pick.tl)) ?_))
    obtain ⟨N, hN⟩ : ∃ N, next f bt = N := ⟨_, rfl⟩
    refine st_call hs (hc := fold_Next w _ H0 p f bt bv0 _ hok hbv0 (hle1.trans hH0) hT hw) (k := ?_); rw [hN]; rintro e0 W1 ⟨sv1, HA, rfl, hleA, hsv1, hw1⟩; refine ⟨_, rfl, ?_⟩; clear hs hw; intro a hs; have hw := hw1; clear hw1
    rw [hN] at hnx
    obtain ⟨fad, fcap, rfl⟩ := hsv1.slice
    have hH' := hH0.trans hleA
    have hf := hf0.le hleA
    have hlen0 := hf.len
    have hone0 := hf.one
    obtain ⟨g1, f1, c1, rfl, ⟨bv, rfl, hbv⟩, hrow⟩ := ch_atH BatIn.len (hr.le hH') (hch.mono (BatIn.le hH')) rfl hbi
    repeat (first | (refine sxv hs hw ?_; clear hs; intro a hs) | refine sxc hs ?_ | (refine sxa hs hw ?_; clear hs hw; intro a b W hw hs) | (refine sxs hs hw ?_; clear hs hw; intro W hs hw) | ((with_reducible first | refine st_ptrSome hs (k := ?_) | refine st_ptrNone hs (k := ?_)); clear hs; intro a hs))
    obtain ⟨b7, q7⟩ := nm1 hw; subst q7
    replace hw : Has 0 w _ (Fz HA :: Cells b5 cs 42 :: Free :: Free :: Free :: Free :: Free :: FoldAt HA p N.1 :: Cells b7 (rowCells N.2.1 (.slice fad N.2.1.b.l.length fcap)) 39 :: []) := hw.free.free.free.free.free.perm (by repeat (first | exact List.Perm.refl _ | refine perm_pick (by repeat (first | exact Pick.hd | apply Pick.tl)) ?_))
    refine rg_drawU (σ := List Value × Value × Fh × Nat) (V := fun u => [.agg ⟨cs⟩, .slice (some ⟨g1, f1, none⟩) m.length scap, .int .i64 (j : Int), .pointer (some ⟨g1, f1 + j * 3, none⟩), .agg ⟨batCells bt bv⟩, .tuple ⟨[.agg ⟨(u 5).1⟩, .agg ⟨rowCells N.2.1 (u 5).2.1⟩, .bool N.2.2]⟩, .tuple ⟨[.agg ⟨(u 6).1⟩, .agg ⟨rowCells N.2.1 (u 6).2.1⟩, .bool N.2.2]⟩, .agg ⟨(u 7).1⟩, .agg ⟨rowCells N.2.1 (u 8).2.1⟩, .bool N.2.2, .pointer (some ⟨(u 10).2.2.2, 0, none⟩), .pointer (some ⟨(u 11).2.2.2, 0, none⟩), .bool true, .bool true, .bool N.2.2])
      (Rs := fun u D => (if D 5 then FzF (u 5).2.2.1 (HA.le (u 5).2.2.1 ∧ RfIn (u 5).2.2.1 N.1 (u 5).1 ∧ OpsH (u 5).2.2.1 (u 5).2.1 N.2.1.b.l) else Fz HA) :: Cells b5 cs 42 :: (if D 10 then Cells (u 10).2.2.2 (if D 12 then (u 5).1 else zrf) 42 else Free) :: (if D 11 then Cells (u 11).2.2.2 (if D 13 then rowCells N.2.1 (u 5).2.1 else zrc) 39 else Free) :: (if D 6 then Fact (u 6 = u 5) else Free) :: (if D 7 then Fact (u 7 = u 6) else Free) :: (if D 8 then Fact (u 8 = u 6) else Free) :: FoldAt HA p N.1 :: Cells b7 (rowCells N.2.1 (.slice fad N.2.1.b.l.length fcap)) 39 :: []) (fun _ => ([], .nilIface, HA, 0)) hs hw (hVu := ?vu_11) (ho := ⟨?c0_11, ?_, ?_, ?c3_11, ?c4_11, ?c5_11, ?c6_11, ?c7_11, ?c8_11, ?_, ?c10_11, ?c11_11, ?c12_11, ?c13_11, ?_, trivial⟩) (k := ?k_11)
    case vu_11 =>
      intro u u' j h
      rcases j with _ | _ | _ | _ | _ | _ | _ | _ | _ | _ | _ | _ | _ | _ | _ | j
      all_goals first | rfl | simp [h] | skip
    case c0_11 =>
      intro u LD D a W hcl hi hp hs hw
      refine st_load_agg hs (hw := hw) (hi := In.tl In.hd) (hl := by rw [hlen0]; rfl) (k := ?_); clear hs; intro a hs
      have hs2 : Slots a 60 ((35, .agg ⟨cut cs 0 38⟩) :: _) := hs
      rw [cut_all _ _ hlen0] at hs2
      repeat (first | (refine sxv hs hw ?_; clear hs; intro a hs) | refine sxc hs ?_ | (refine sxa hs hw ?_; clear hs hw; intro a b W hw hs) | (refine sxs hs hw ?_; clear hs hw; intro W hs hw) | ((with_reducible first | refine st_ptrSome hs (k := ?_) | refine st_ptrNone hs (k := ?_)); clear hs; intro a hs))
      exact Or.inl ⟨hs2, hw⟩
    case c3_11 =>
      intro u LD D a W hcl hi hp hs hw
      refine st_index_at hs (z := [.int .i64 0, .int .i64 0, .slice none 0 0]) (h0 := by omega) (h1 := by omega) (c := ?_); clear hs; intro a hs
      repeat (first | (refine sxv hs hw ?_; clear hs; intro a hs) | refine sxc hs ?_ | (refine sxa hs hw ?_; clear hs hw; intro a b W hw hs) | (refine sxs hs hw ?_; clear hs hw; intro W hs hw) | ((with_reducible first | refine st_ptrSome hs (k := ?_) | refine st_ptrNone hs (k := ?_)); clear hs; intro a hs))
      exact Or.inl ⟨hs, hw⟩
    case c4_11 =>
      intro u LD D a W hcl hi hp hs hw
      have h5 := Go.Sx.not_done hcl hi 5 (by kernel_rfl)
      have hw0 := hw
      simp only [h5, Bool.false_eq_true, if_false] at hw
      refine st_load_ats hs (z := [.int .i64 0, .int .i64 0, .slice none 0 0]) (cs := batCells bt bv) (hc := fun j u h => hrow In.hd hw j u h) (hl := rfl) (c := ?_); clear hs; intro a hs
      repeat (first | (refine sxv hs hw ?_; clear hs; intro a hs) | refine sxc hs ?_ | (refine sxa hs hw ?_; clear hs hw; intro a b W hw hs) | (refine sxs hs hw ?_; clear hs hw; intro W hs hw) | ((with_reducible first | refine st_ptrSome hs (k := ?_) | refine st_ptrNone hs (k := ?_)); clear hs; intro a hs))
      exact Or.inl ⟨hs, hw0⟩
    case c5_11 =>
      intro u LD D a W hcl hi hp hs hw
      have h12 := Go.Sx.not_done hcl (Go.Sx.not_done hcl (Go.Sx.not_done hcl hi 6 (by kernel_rfl)) 7 (by kernel_rfl)) 12 (by kernel_rfl)
      have h13 := Go.Sx.not_done hcl (Go.Sx.not_done hcl (Go.Sx.not_done hcl hi 6 (by kernel_rfl)) 8 (by kernel_rfl)) 13 (by kernel_rfl)
      have h6 := Go.Sx.not_done hcl hi 6 (by kernel_rfl)
      simp only [hi, h6, h12, h13, Bool.false_eq_true, if_false] at hw
      refine st_call hs (hc := ref7_Next w _ HA f bt cs bv _ hf hd hok hbv hw) (k := ?_); rw [hN]; rintro e0 W1 ⟨cs', sv', HB, rfl, hle, hf2, hsv, hw1⟩; refine ⟨_, rfl, ?_⟩; clear hs hw; intro a hs; have hw := hw1; clear hw1
      repeat (first | (refine sxv hs hw ?_; clear hs; intro a hs) | refine sxc hs ?_ | (refine sxa hs hw ?_; clear hs hw; intro a b W hw hs) | (refine sxs hs hw ?_; clear hs hw; intro W hs hw) | ((with_reducible first | refine st_ptrSome hs (k := ?_) | refine st_ptrNone hs (k := ?_)); clear hs; intro a hs))
      refine Or.inr ⟨(cs', sv', HB, 0), hs, ?_⟩
      have hw := hw.fzf (q := HA.le HB ∧ RfIn HB N.1 cs' ∧ OpsH HB sv' N.2.1.b.l) ⟨hle, hf2, hsv⟩
      show Has 0 w _ (_ :: _ :: (if D 10 then Cells (u 10).2.2.2 (if (Nat.beq 12 5 || D 12) = true then _ else _) _ else Free) :: (if D 11 then Cells (u 11).2.2.2 (if (Nat.beq 13 5 || D 13) = true then _ else _) _ else Free) :: (if (Nat.beq 6 5 || D 6) = true then _ else _) :: _)
      rw [h6, h12, h13]
      exact hw
    case c6_11 =>
      intro u LD D a W hcl hi hp hs hw
      have h7 := Go.Sx.not_done hcl hi 7 (by kernel_rfl)
      have h8 := Go.Sx.not_done hcl hi 8 (by kernel_rfl)
      simp only [hi, h7, h8, Bool.false_eq_true, if_false] at hw
      repeat (first | (refine sxv hs hw ?_; clear hs; intro a hs) | refine sxc hs ?_ | (refine sxa hs hw ?_; clear hs hw; intro a b W hw hs) | (refine sxs hs hw ?_; clear hs hw; intro W hs hw) | ((with_reducible first | refine st_ptrSome hs (k := ?_) | refine st_ptrNone hs (k := ?_)); clear hs; intro a hs))
      refine Or.inr ⟨u 5, hs, ?_⟩
      show Has 0 w _ (_ :: _ :: _ :: _ :: Fact (u 5 = u 5) :: (if (Nat.beq 7 6 || D 7) = true then _ else _) :: (if (Nat.beq 8 6 || D 8) = true then _ else _) :: _)
      rw [h7, h8]
      exact (hw.fact rfl).fill (Upd.tl (Upd.tl (Upd.tl (Upd.tl Upd.hd))))
    case c7_11 =>
      intro u LD D a W hcl hi hp hs hw
      have h12 := Go.Sx.not_done hcl hi 12 (by kernel_rfl)
      simp only [hi, Bool.false_eq_true, if_false] at hw
      repeat (first | (refine sxv hs hw ?_; clear hs; intro a hs) | refine sxc hs ?_ | (refine sxa hs hw ?_; clear hs hw; intro a b W hw hs) | (refine sxs hs hw ?_; clear hs hw; intro W hs hw) | ((with_reducible first | refine st_ptrSome hs (k := ?_) | refine st_ptrNone hs (k := ?_)); clear hs; intro a hs))
      refine Or.inr ⟨u 6, hs, ?_⟩
      show Has 0 w _ (_ :: _ :: _ :: _ :: _ :: Fact (u 6 = u 6) :: _)
      exact (hw.fact rfl).fill (Upd.tl (Upd.tl (Upd.tl (Upd.tl (Upd.tl Upd.hd)))))
    case c8_11 =>
      intro u LD D a W hcl hi hp hs hw
      simp only [hi, Bool.false_eq_true, if_false] at hw
      repeat (first | (refine sxv hs hw ?_; clear hs; intro a hs) | refine sxc hs ?_ | (refine sxa hs hw ?_; clear hs hw; intro a b W hw hs) | (refine sxs hs hw ?_; clear hs hw; intro W hs hw) | ((with_reducible first | refine st_ptrSome hs (k := ?_) | refine st_ptrNone hs (k := ?_)); clear hs; intro a hs))
      refine Or.inr ⟨u 6, hs, ?_⟩
      show Has 0 w _ (_ :: _ :: _ :: _ :: _ :: _ :: Fact (u 6 = u 6) :: _)
      exact (hw.fact rfl).fill (Upd.tl (Upd.tl (Upd.tl (Upd.tl (Upd.tl (Upd.tl Upd.hd))))))
    case c10_11 =>
      intro u LD D a W hcl hi hp hs hw
      have h12 := Go.Sx.not_done hcl hi 12 (by kernel_rfl)
      simp only [hi, Bool.false_eq_true, if_false] at hw
      repeat (first | (refine sxv hs hw ?_; clear hs; intro a hs) | refine sxc hs ?_ | (refine sxa hs hw ?_; clear hs hw; intro a b W hw hs) | (refine sxs hs hw ?_; clear hs hw; intro W hs hw) | ((with_reducible first | refine st_ptrSome hs (k := ?_) | refine st_ptrNone hs (k := ?_)); clear hs; intro a hs))
      refine Or.inr ⟨([], .nilIface, HA, _), hs, ?_⟩
      show Has 0 w _ (_ :: _ :: Cells _ (if (Nat.beq 12 10 || D 12) = true then _ else _) _ :: _ :: _)
      rw [h12]
      exact hw.fill (Upd.tl (Upd.tl Upd.hd))
    case c11_11 =>
      intro u LD D a W hcl hi hp hs hw
      have h13 := Go.Sx.not_done hcl hi 13 (by kernel_rfl)
      simp only [hi, Bool.false_eq_true, if_false] at hw
      repeat (first | (refine sxv hs hw ?_; clear hs; intro a hs) | refine sxc hs ?_ | (refine sxa hs hw ?_; clear hs hw; intro a b W hw hs) | (refine sxs hs hw ?_; clear hs hw; intro W hs hw) | ((with_reducible first | refine st_ptrSome hs (k := ?_) | refine st_ptrNone hs (k := ?_)); clear hs; intro a hs))
      refine Or.inr ⟨([], .nilIface, HA, _), hs, ?_⟩
      show Has 0 w _ (_ :: _ :: _ :: Cells _ (if (Nat.beq 13 11 || D 13) = true then _ else _) _ :: _)
      rw [h13]
      exact hw.fill (Upd.tl (Upd.tl (Upd.tl Upd.hd)))
    case c12_11 =>
      intro u LD D a W hcl hi hp hs hw
      have h7 := Go.Sx.done hp 7 (by kernel_rfl)
      have h10 := Go.Sx.done hp 10 (by kernel_rfl)
      have h6 := Go.Sx.done (hcl 7 _ rfl h7) 6 (by kernel_rfl)
      have h5 := Go.Sx.done (hcl 6 _ rfl h6) 5 (by kernel_rfl)
      have e1 : (if D 7 = true then Fact (u 7 = u 6) else Free) = Fact (u 7 = u 6) := by rw [h7]; rfl
      have e2 : (if D 6 = true then Fact (u 6 = u 5) else Free) = Fact (u 6 = u 5) := by rw [h6]; rfl
      have g7 : u 7 = u 5 := by
        have hw2 := hw
        simp only [e1, e2] at hw2
        exact (hw2.told (In.tl (In.tl (In.tl (In.tl (In.tl In.hd)))))).trans (hw2.told (In.tl (In.tl (In.tl (In.tl In.hd)))))
      simp only [hi, h5, h10, Bool.false_eq_true, if_false, if_true] at hw
      obtain ⟨⟨_, hf2, _⟩, _⟩ := hw.unfzf
      rw [← g7] at hf2
      refine st_store hs (vs := (u 7).1) (hw := hw) (hz := by rw [hf2.len]; rfl) (h1 := hf2.one) (hl := by rw [hf2.len]; rfl) (k := ?_); clear hs hw; intro W hs hw
      rw [ov_all _ _ (by rw [hf2.len]; rfl)] at hw
      rw [show (u 7).1 = (u 5).1 from by rw [g7]] at hw
      repeat (first | (refine sxv hs hw ?_; clear hs; intro a hs) | refine sxc hs ?_ | (refine sxa hs hw ?_; clear hs hw; intro a b W hw hs) | (refine sxs hs hw ?_; clear hs hw; intro W hs hw) | ((with_reducible first | refine st_ptrSome hs (k := ?_) | refine st_ptrNone hs (k := ?_)); clear hs; intro a hs))
      refine Or.inl ⟨hs, ?_⟩
      show Has 0 w _ ((if (Nat.beq 5 12 || D 5) = true then _ else _) :: _ :: (if (Nat.beq 10 12 || D 10) = true then _ else _) :: _ :: _)
      rw [h5, h10]
      exact hw
    case c13_11 =>
      intro u LD D a W hcl hi hp hs hw
      have h8 := Go.Sx.done hp 8 (by kernel_rfl)
      have h11 := Go.Sx.done hp 11 (by kernel_rfl)
      have h6 := Go.Sx.done (hcl 8 _ rfl h8) 6 (by kernel_rfl)
      have h5 := Go.Sx.done (hcl 6 _ rfl h6) 5 (by kernel_rfl)
      have e1 : (if D 8 = true then Fact (u 8 = u 6) else Free) = Fact (u 8 = u 6) := by rw [h8]; rfl
      have e2 : (if D 6 = true then Fact (u 6 = u 5) else Free) = Fact (u 6 = u 5) := by rw [h6]; rfl
      have g8 : u 8 = u 5 := by
        have hw2 := hw
        simp only [e1, e2] at hw2
        exact (hw2.told (In.tl (In.tl (In.tl (In.tl (In.tl (In.tl In.hd))))))).trans (hw2.told (In.tl (In.tl (In.tl (In.tl In.hd)))))
      simp only [hi, h5, h11, Bool.false_eq_true, if_false, if_true] at hw
      obtain ⟨⟨_, _, hsv⟩, _⟩ := hw.unfzf
      obtain ⟨tad, tcap, e13⟩ := hsv.slice
      refine st_store hs (hw := hw) (vs := rowCells N.2.1 (u 8).2.1) (h1 := by rw [g8, e13]; rfl) (k := ?_); clear hs hw; intro W hs hw
      rw [show (u 8).2.1 = (u 5).2.1 from by rw [g8]] at hw
      repeat (first | (refine sxv hs hw ?_; clear hs; intro a hs) | refine sxc hs ?_ | (refine sxa hs hw ?_; clear hs hw; intro a b W hw hs) | (refine sxs hs hw ?_; clear hs hw; intro W hs hw) | ((with_reducible first | refine st_ptrSome hs (k := ?_) | refine st_ptrNone hs (k := ?_)); clear hs; intro a hs))
      refine Or.inl ⟨hs, ?_⟩
      show Has 0 w _ ((if (Nat.beq 5 13 || D 5) = true then _ else _) :: _ :: _ :: (if (Nat.beq 11 13 || D 11) = true then _ else _) :: _)
      rw [h5, h11]
      exact hw
    case k_11 =>
      clear hs hw
      intro u a W hs hw
      replace hw : Has 0 w W (FzF (u 5).2.2.1 (HA.le (u 5).2.2.1 ∧ RfIn (u 5).2.2.1 N.1 (u 5).1 ∧ OpsH (u 5).2.2.1 (u 5).2.1 N.2.1.b.l) :: Cells b5 cs 42 :: Cells (u 10).2.2.2 (u 5).1 42 :: Cells (u 11).2.2.2 (rowCells N.2.1 (u 5).2.1) 39 :: Fact (u 6 = u 5) :: Fact (u 7 = u 6) :: Fact (u 8 = u 6) :: FoldAt HA p N.1 :: Cells b7 (rowCells N.2.1 (.slice fad N.2.1.b.l.length fcap)) 39 :: []) := hw
      replace hw := hw.sub (L' := FzF (u 5).2.2.1 (HA.le (u 5).2.2.1 ∧ RfIn (u 5).2.2.1 N.1 (u 5).1 ∧ OpsH (u 5).2.2.1 (u 5).2.1 N.2.1.b.l) :: Cells b5 cs 42 :: Cells (u 10).2.2.2 (u 5).1 42 :: Cells (u 11).2.2.2 (rowCells N.2.1 (u 5).2.1) 39 :: FoldAt HA p N.1 :: Cells b7 (rowCells N.2.1 (.slice fad N.2.1.b.l.length fcap)) 39 :: []) (List.Sublist.cons_cons _ (List.Sublist.cons_cons _ (List.Sublist.cons_cons _ (List.Sublist.cons_cons _ (List.Sublist.cons _ (List.Sublist.cons _ (List.Sublist.cons _ (List.Sublist.refl _))))))))
      replace hs : Slots a 60 [(0, .slice (some ⟨g1, f1, none⟩) m.length scap), (4, .pointer (some ⟨p, 0, none⟩)), (5, .pointer (some ⟨b5, 0, none⟩)), (6, .int .i64 (j : Int)), (7, .pointer (some ⟨b7, 0, none⟩)), (8, .bool N.2.2), (9, .pointer (some ⟨(u 10).2.2.2, 0, none⟩)), (10, .pointer (some ⟨(u 11).2.2.2, 0, none⟩)), (11, .bool N.2.2)] := hs.of ⟨rfl, rfl, rfl, rfl, rfl, rfl, rfl, rfl, rfl, trivial⟩
      generalize (u 10).2.2.2 = b9 at *
      generalize (u 11).2.2.2 = b10 at *
      generalize (u 5).2.2.1 = HB at *
      generalize (u 5).2.1 = sv2 at *
      generalize (u 5).1 = cs2 at *
      clear u
      obtain ⟨⟨hle, hf2, hsv⟩, hw2⟩ := hw.unfzf
      clear hw; have hw := hw2; clear hw2
      have hlen2 := hf2.len
      have hone2 := hf2.one
      obtain ⟨uad, ucap, rfl⟩ := hsv.slice
      replace hw : Has 0 w _ (Cells b9 cs2 42 :: Cells b5 cs 42 :: Fz HB :: FoldAt HA p N.1 :: Cells b7 (rowCells N.2.1 (.slice fad N.2.1.b.l.length fcap)) 39 :: Cells b10 (rowCells N.2.1 (.slice uad N.2.1.b.l.length ucap)) 39 :: []) := hw.perm (by repeat (first | exact List.Perm.refl _ | refine perm_pick (by repeat (first | exact Pick.hd | apply Pick.tl)) ?_))
      repeat (first | (refine sxv hs hw ?_; clear hs; intro a hs) | refine sxc hs ?_ | (refine sxa hs hw ?_; clear hs hw; intro a b W hw hs) | (refine sxs hs hw ?_; clear hs hw; intro W hs hw) | ((with_reducible first | refine st_ptrSome hs (k := ?_) | refine st_ptrNone hs (k := ?_)); clear hs; intro a hs))
      refine st_load_agg hs (hw := hw) (hi := In.hd) (hl := by rw [hlen2]; rfl) (k := ?_); clear hs; intro a hs
      have hs2 : Slots a 60 ((44, .agg ⟨cut cs2 0 38⟩) :: _) := hs
      rw [cut_all _ _ hlen2] at hs2
      clear hs; have hs := hs2; clear hs2
      refine st_store hs (vs := cs2) (hw := hw) (hz := by rw [hlen2]; rfl) (h1 := hone2) (hl := by rw [hlen2, hlen0]; rfl) (k := ?_); clear hs hw; intro W hs hw
      rw [ov_all _ _ (by rw [hlen2, hlen0])] at hw
      replace hw : Has 0 w _ (FoldAt HB p N.1 :: Fz HB :: Cells b5 cs2 42 :: Cells b7 (rowCells N.2.1 (.slice fad N.2.1.b.l.length fcap)) 39 :: Cells b10 (rowCells N.2.1 (.slice uad N.2.1.b.l.length ucap)) 39 :: []) := foldLe (hw.sel (by repeat (first | exact Sel.nil | exact Sel.refl _ | refine Sel.cons (by repeat (first | exact Pick.hd | apply Pick.tl)) ?_ | refine Sel.skip ?_)) : Has 0 w _ (FoldAt HA p N.1 :: Fz HB :: Cells b5 cs2 42 :: Cells b7 (rowCells N.2.1 (.slice fad N.2.1.b.l.length fcap)) 39 :: Cells b10 (rowCells N.2.1 (.slice uad N.2.1.b.l.length ucap)) 39 :: [])) hle
      repeat (first | (refine sxv hs hw ?_; clear hs; intro a hs) | refine sxc hs ?_ | (refine sxa hs hw ?_; clear hs hw; intro a b W hw hs) | (refine sxs hs hw ?_; clear hs hw; intro W hs hw) | ((with_reducible first | refine st_ptrSome hs (k := ?_) | refine st_ptrNone hs (k := ?_)); clear hs; intro a hs))
      rw [beq_self_eq_true] at hs
      repeat (first | (refine sxv hs hw ?_; clear hs; intro a hs) | refine sxc hs ?_ | (refine sxa hs hw ?_; clear hs hw; intro a b W hw hs) | (refine sxs hs hw ?_; clear hs hw; intro W hs hw) | ((with_reducible first | refine st_ptrSome hs (k := ?_) | refine st_ptrNone hs (k := ?_)); clear hs; intro a hs))
      refine st_call hs (hc := ref_EqRow N.2.1 N.2.1 _ _ _ (hw.rdH (In.tl In.hd) (RdH.le hsv1 hle)) (hw.rdH (In.tl In.hd) hsv)) (k := ?_); rintro e0 W1 ⟨rfl, hb⟩; refine ⟨_, rfl, ?_⟩; clear hs; intro a hs; replace hw := hw.below hb; clear hb
      rw [eqRow_iff.2 rfl] at hs
      repeat (first | (refine sxv hs hw ?_; clear hs; intro a hs) | refine sxc hs ?_ | (refine sxa hs hw ?_; clear hs hw; intro a b W hw hs) | (refine sxs hs hw ?_; clear hs hw; intro W hs hw) | ((with_reducible first | refine st_ptrSome hs (k := ?_) | refine st_ptrNone hs (k := ?_)); clear hs; intro a hs))
      refine st_load_agg hs (hw := hw) (hi := In.tl (In.tl In.hd)) (hl := by rw [hlen2]; rfl) (k := ?_); clear hs; intro a hs
      have hs2 : Slots a 60 ((56, .agg ⟨cut cs2 0 38⟩) :: _) := hs
      rw [cut_all _ _ hlen2] at hs2
      clear hs; have hs := hs2; clear hs2
      repeat (first | (refine sxv hs hw ?_; clear hs; intro a hs) | refine sxc hs ?_ | (refine sxa hs hw ?_; clear hs hw; intro a b W hw hs) | (refine sxs hs hw ?_; clear hs hw; intro W hs hw) | ((with_reducible first | refine st_ptrSome hs (k := ?_) | refine st_ptrNone hs (k := ?_)); clear hs; intro a hs))
      refine st_call hs (hc := law7_Same w _ HB p N.1 cs2 _ hnx.1.ok hf2 hw) (k := ?_); rintro e0 W1 ⟨rfl, hw1⟩; refine ⟨_, rfl, ?_⟩; clear hs hw; intro a hs; have hw := hw1; clear hw1
      repeat (first | (refine sxv hs hw ?_; clear hs; intro a hs) | refine sxc hs ?_ | (refine sxa hs hw ?_; clear hs hw; intro a b W hw hs) | (refine sxs hs hw ?_; clear hs hw; intro W hs hw) | ((with_reducible first | refine st_ptrSome hs (k := ?_) | refine st_ptrNone hs (k := ?_)); clear hs; intro a hs))
      replace hw : Has 0 w _ (FoldAt HB p N.1 :: Cells b5 cs2 42 :: Fz HB :: []) := hw.sel (by repeat (first | exact Sel.nil | exact Sel.refl _ | refine Sel.cons (by repeat (first | exact Pick.hd | apply Pick.tl)) ?_ | refine Sel.skip ?_))
      exact st_again (j + 1, N.1, cs2, HB) hs hw ⟨hj', hnx.1, by show N.1.place ≤ ((j + 1 : Nat) : Int); have := hnx.2; omega, hH'.trans hle, hf2⟩ (by show m.length - (j + 1) < m.length - j; omega) ⟨rfl, rfl, rfl, int_eq (by show IntKind.i64.wrap ((j : Int) + 1) = ((j + 1 : Nat) : Int); rw [IntWalk.i64_in _ (by omega)]; omega), trivial⟩
    all_goals
      intro u LD D a W hcl hi hp hs hw
      repeat (first | (refine sxv hs hw ?_; clear hs; intro a hs) | refine sxc hs ?_ | (refine sxa hs hw ?_; clear hs hw; intro a b W hw hs) | (refine sxs hs hw ?_; clear hs hw; intro W hs hw) | ((with_reducible first | refine st_ptrSome hs (k := ?_) | refine st_ptrNone hs (k := ?_)); clear hs; intro a hs))
      exact Or.inl ⟨hs, hw⟩
  · repeat (first | (refine sxv hs hw ?_; clear hs; intro a hs) | refine sxc hs ?_ | (refine sxa hs hw ?_; clear hs hw; intro a b W hw hs) | (refine sxs hs hw ?_; clear hs hw; intro W hs hw))
    exact rt1 hs rfl rfl ⟨rfl, hw.endF (by repeat (first | exact In.hd | apply In.tl)) (hle1.trans hH0)⟩
end Go.Proofs.YtmalklakaalaoaaGreatDoor.Sw

set_option linter.unusedVariables false
set_option maxRecDepth 10000
namespace Go.Proofs.YtmalklakaalaoaaGreatDoor.Sw
open Go.RowKit Go.Sx
theorem ofRaw_size {k n : Int} {s : ByteArray} (h : (ofRaw k n s).2 = 0) : s.size ≤ 200 := by
  unfold ofRaw at h
  split at h
  · omega
  · split at h
    · omega
    · split at h
      · omega
      · cases h
theorem opW_of {o : OpD} (h : OpWf o) : OpW o := by
  refine ⟨max63 h.key, max63 h.vs, max63 h.os, fun hm => ?_⟩
  unfold mayD mayOp at hm
  simp only [Bool.and_eq_true] at hm
  obtain ⟨⟨⟨h1, h2⟩, h3⟩, _⟩ := hm
  have k1 := Ph.keyB_len h1
  have k2 := ofRaw_size (eq_of_beq h2)
  have k3 := ofRaw_size (eq_of_beq h3)
  have k4 : o.key.data.toList.length = o.key.size := by rw [Array.length_toList]; rfl
  exact ⟨wf_i64 h.kind, wf_i64 h.vk, wf_i64 h.vn, wf_i64 h.ok, wf_i64 h.on, wf_i64 h.n, by omega, by omega, by omega⟩
def SeqLe (f : FoldD) : Prop := ∀ x ∈ f.told, x.1 ≤ f.place
theorem SeqLe.empty : SeqLe emptyF := fun x hx => by rw [List.eq_of_mem_replicate hx]; decide
theorem SeqLe.last {f : FoldD} (h : SeqLe f) (h0 : 0 ≤ f.place) (c : Int) : lastOf f c ≤ f.place := by
  unfold lastOf
  split
  · cases hx : f.told[c.toNat]? with
    | none => exact h0
    | some x => exact h x (List.mem_of_getElem? hx)
  · exact h0
theorem FoldFine.last {f : FoldD} (h : FoldFine f) (c : Int) : 0 ≤ lastOf f c := by
  unfold lastOf
  split
  · cases hx : f.told[c.toNat]? with
    | none => exact Int.le_refl 0
    | some x =>
      show 0 ≤ x.1
      rcases h.told _ _ hx with rfl | ⟨_, e⟩
      · exact Int.le_refl 0
      · have := e.pos; omega
  · exact Int.le_refl 0
theorem SeqLe.next {f : FoldD} (h : SeqLe f) (hf : FoldFine f) (hp : f.place < 1000000) (b : BatchD) : SeqLe (next f b).1 := by
  unfold Sw.next
  cases hn : nextB f b with
  | false => exact h
  | true =>
    have h0 := hf.place.1
    have hw : IntKind.i64.wrap (f.place + 1) = f.place + 1 := IntWalk.i64_in _ (by omega)
    have hl := h.last h0 b.c
    have hl0 := hf.last b.c
    have hw2 : IntKind.i64.wrap (lastOf f b.c + 1) = lastOf f b.c + 1 := IntWalk.i64_in _ (by omega)
    have hq : b.q = lastOf f b.c + 1 := by
      unfold nextB at hn
      rw [Bool.and_eq_true] at hn
      rw [← hw2]; exact eq_of_beq hn.2
    intro x hx
    show x.1 ≤ IntKind.i64.wrap (f.place + 1)
    rw [hw]
    rcases List.mem_or_eq_of_mem_set hx with hx | rfl
    · have := h x hx; omega
    · show b.q ≤ _
      omega
abbrev ox : OpD := ⟨2, ⟨#[120]⟩, 0, 0, ⟨#[]⟩, 0, 0, ⟨#[]⟩, 0⟩
theorem ox_all : ((List.range 16).all fun n => mayB ⟨5, (n : Int) + 1, [ox]⟩) = true := by kernel_rfl
theorem ox_may {q : Int} (h1 : 1 ≤ q) (h2 : q ≤ 16) : mayB ⟨5, q, [ox]⟩ = true := by
  have h := List.all_eq_true.1 ox_all (q - 1).toNat (List.mem_range.2 (by omega))
  have e : ((q - 1).toNat : Int) + 1 = q := by omega
  rw [e] at h
  exact h
theorem ox_ok {q : Int} (h1 : 1 ≤ q) (h2 : q ≤ 16) : BatOk ⟨5, q, [ox]⟩ := by
  refine ⟨⟨by show (-9223372036854775808 : Int) ≤ 5; decide, by show (5 : Int) ≤ 9223372036854775807; decide⟩, ⟨by show _ ≤ q; omega, by show q ≤ _; omega⟩, fun o ho => ?_⟩
  rw [List.mem_singleton] at ho
  subst ho
  exact ⟨⟨by decide, by decide⟩, ⟨by decide, by decide⟩, ⟨by decide, by decide⟩, ⟨by decide, by decide⟩, ⟨by decide, by decide⟩, ⟨by decide, by decide⟩, by decide, by decide, by decide⟩
theorem own_next {f : FoldD} (hf : FoldFine f) (hs : SeqLe f) (hp : f.place ≤ 15) : ∃ g : FoldD, (next f ⟨5, lastOf f 5 + 1, [ox]⟩).1 = g ∧ FoldFine g ∧ g.place = f.place + 1 ∧ (foldB g == foldB f) = false ∧ IntKind.i64.wrap (lastOf f 5 + 1) = lastOf f 5 + 1 ∧ IntKind.i64.wrap (f.place + 1) = f.place + 1 ∧ BatOk ⟨5, lastOf f 5 + 1, [ox]⟩ := by
  have h0 := hf.place.1
  have hl := hs.last h0 5
  have hl0 := hf.last 5
  have hw : IntKind.i64.wrap (f.place + 1) = f.place + 1 := IntWalk.i64_in _ (by omega)
  have hw2 : IntKind.i64.wrap (lastOf f 5 + 1) = lastOf f 5 + 1 := IntWalk.i64_in _ (by omega)
  have hok : BatOk ⟨5, lastOf f 5 + 1, [ox]⟩ := ox_ok (by omega) (by omega)
  have hB : nextB f ⟨5, lastOf f 5 + 1, [ox]⟩ = true := by
    unfold nextB
    rw [ox_may (by omega) (by omega)]
    show (true && (lastOf f 5 + 1 == IntKind.i64.wrap (lastOf f 5 + 1))) = true
    rw [hw2, beq_self_eq_true]; rfl
  have hg : (next f ⟨5, lastOf f 5 + 1, [ox]⟩).1 = nextF f ⟨5, lastOf f 5 + 1, [ox]⟩ := by
    unfold Sw.next; rw [hB]
  have hF := (hf.next hok (by omega)).1
  rw [hg] at hF
  have hpl : (nextF f ⟨5, lastOf f 5 + 1, [ox]⟩).place = f.place + 1 := hw
  refine ⟨_, hg, hF, hpl, ?_, hw2, hw, hok⟩
  rw [beq_eq_false_iff_ne]
  intro e
  have := foldB_inj hF hf e
  rw [this] at hpl
  omega
set_option maxHeartbeats 64000000 in
theorem walk_FoldOwn (l : List BatchD) (v : Value) (more : List OpD) (v2 : Value) (w : World) (hb : ∀ b ∈ l, BatWf b) (hr : BatsRd w v l) (hm : ∀ o ∈ more, OpWf o) (hr2 : Rd w 9 v2 more.length (more.flatMap opCells)) (hT : Tabs w) :
    Calls Tryz.prog 8 ⟨[v, v2]⟩ w fun e w' => e = .returned (.bool true) ∧ Below w.heap.size w w' := by
  have hw := Has.startF w
  refine enter Tryz.func8 Tryz.ntmps8 rfl rfl fun a hs => ?_
  repeat (first | (refine sxv hs hw ?_; clear hs; intro a hs) | refine sxc hs ?_ | (refine sxa hs hw ?_; clear hs hw; intro a b W hw hs) | (refine sxs hs hw ?_; clear hs hw; intro W hs hw))
  refine st_call hs (hc := law7_begun _ hT) (k := ?_); rintro e0 W1 ⟨rfl, hb⟩; refine ⟨_, rfl, ?_⟩; clear hs; intro a hs; replace hw := hw.below hb; clear hb
  repeat (first | (refine sxv hs hw ?_; clear hs; intro a hs) | refine sxc hs ?_ | (refine sxa hs hw ?_; clear hs hw; intro a b W hw hs) | (refine sxs hs hw ?_; clear hs hw; intro W hs hw))
  refine st_call hs (hc := law7_Batches w _ (fr w) l v 15 _ (by decide) hb hr.h hw) (k := ?_); rintro e0 W1 ⟨bv, H1, rfl, hle1, hbs, hw1⟩; refine ⟨_, rfl, ?_⟩; clear hs hw; intro a hs; have hw := hw1; clear hw1
  have hbo := batsB_ok hb 15
  have hbl : (batsB l 15).length ≤ 15 := by unfold batsB; rw [List.length_map, List.length_take]; omega
  generalize batsB l 15 = m at *
  have hbs' := hbs
  obtain ⟨ys, hr, hch⟩ := hbs
  obtain ⟨sad, scap, rfl⟩ := hr.slice
  repeat (first | (refine sxv hs hw ?_; clear hs; intro a hs) | refine sxc hs ?_ | (refine sxa hs hw ?_; clear hs hw; intro a b W hw hs) | (refine sxs hs hw ?_; clear hs hw; intro W hs hw))
  refine st_call hs (hc := fold_New w _ H1 _ hw) (k := ?_); rintro e0 W1 ⟨p, rfl, hw1⟩; refine ⟨_, rfl, ?_⟩; clear hs hw; intro a hs; have hw := hw1; clear hw1
  repeat (first | (refine sxv hs hw ?_; clear hs; intro a hs) | refine sxc hs ?_ | (refine sxa hs hw ?_; clear hs hw; intro a b W hw hs) | (refine sxs hs hw ?_; clear hs hw; intro W hs hw))
  refine st_loop (σ := Nat × FoldD × List RowD × Fh) (fun t => [(0, .slice sad m.length scap), (1, v2), (6, .pointer (some ⟨p, 0, none⟩)), (7, .int .i64 (t.1 : Int))]) (fun t => FoldAt t.2.2.2 p t.2.1 :: Fz t.2.2.2 :: []) (fun t => t.1 ≤ m.length ∧ FoldFine t.2.1 ∧ SeqLe t.2.1 ∧ t.2.1.place ≤ t.1 ∧ H1.le t.2.2.2 ∧ allF t.2.1 t.2.2.1 (m.drop t.1) = allF emptyF [] m) (fun t => m.length - t.1) (0, emptyF, [], H1) ⟨Nat.zero_le _, FoldFine.empty, SeqLe.empty, by show (0 : Int) ≤ ((0 : Nat) : Int); decide, Fh.le.refl _, rfl⟩ hs ⟨rfl, rfl, rfl, rfl, trivial⟩ hw ?_
  clear hs hw
  rintro ⟨j, f, rows, H0⟩ a W ⟨hj, hff, hsq, hpl, hH0, hgo⟩ hs hw
  simp only at hj hff hsq hpl hH0 hgo hs hw
  repeat (first | (refine sxv hs hw ?_; clear hs; intro a hs) | refine sxc hs ?_ | (refine sxa hs hw ?_; clear hs hw; intro a b W hw hs) | (refine sxs hs hw ?_; clear hs hw; intro W hs hw))
  refine cd_split hs (kt := fun hcc => ?_) (kf := fun hcc => ?_)
  · have hj' : j < m.length := by simpa using hcc
    obtain ⟨bt, hbi⟩ : ∃ o, m[j]? = some o := ⟨m[j], List.getElem?_eq_getElem hj'⟩
    have hok := hbo bt (List.mem_of_getElem? hbi)
    have hnx := hff.next hok (by omega)
    have hsn := hsq.next hff (by omega) bt
    have hgo2 : ∃ rows2, allF (next f bt).1 rows2 (m.drop (j + 1)) = allF emptyF [] m := by
      have hdr : m.drop j = bt :: m.drop (j + 1) := drop_of hbi
      rw [hdr] at hgo
      simp only [allF] at hgo
      cases hc : (next f bt).2.2 with
      | true => rw [hc] at hgo; exact ⟨_, hgo⟩
      | false => rw [hc] at hgo; rw [next_no hc]; exact ⟨_, hgo⟩
    obtain ⟨rows2, hgo2⟩ := hgo2
    repeat (first | (refine sxv hs hw ?_; clear hs; intro a hs) | refine sxc hs ?_ | (refine sxa hs hw ?_; clear hs hw; intro a b W hw hs) | (refine sxs hs hw ?_; clear hs hw; intro W hs hw))
    refine st_index_ch hs (r := hw.rdH (by repeat (first | exact In.hd | apply In.tl)) (hr.le hH0)) (hk := BatIn.len) (ch := hch.mono (BatIn.le hH0)) (ho := hbi) (hlen := rfl) (c := ?_); clear hs; intro a g off cc hcc2 hcl hpc hlt hs
    obtain ⟨bv0, rfl, hbv0⟩ := hcc2
    refine st_load_ats hs (cs := batCells bt bv0) (hc := hpc) (hl := by rfl) (c := ?_); clear hs hpc; intro a hs
    refine st_call hs (hc := fold_Next w _ H0 p f bt bv0 _ hok hbv0 (hle1.trans hH0) hT hw) (k := ?_); rintro e0 W1 ⟨sv1, HA, rfl, hleA, hsv1, hw1⟩; refine ⟨_, rfl, ?_⟩; clear hs hw; intro a hs; have hw := hw1; clear hw1
    repeat (first | (refine sxv hs hw ?_; clear hs; intro a hs) | refine sxc hs ?_ | (refine sxa hs hw ?_; clear hs hw; intro a b W hw hs) | (refine sxs hs hw ?_; clear hs hw; intro W hs hw) | ((with_reducible first | refine st_ptrSome hs (k := ?_) | refine st_ptrNone hs (k := ?_)); clear hs; intro a hs))
    exact st_again (j + 1, (next f bt).1, rows2, HA) hs hw ⟨hj', hnx.1, hsn, by show (next f bt).1.place ≤ ((j + 1 : Nat) : Int); have := hnx.2; omega, hH0.trans hleA, hgo2⟩ (by show m.length - (j + 1) < m.length - j; omega) ⟨rfl, rfl, rfl, int_eq (by show IntKind.i64.wrap ((j : Int) + 1) = ((j + 1 : Nat) : Int); rw [IntWalk.i64_in _ (by omega)]; omega), trivial⟩
  · have hj' : j = m.length := by
      have : ¬ j < m.length := by simpa using hcc
      omega
    have hfe : (allF emptyF [] m).1 = f := by
      rw [← hgo, hj', List.drop_length]; rfl
    repeat (first | (refine sxv hs hw ?_; clear hs; intro a hs) | refine sxc hs ?_ | (refine sxa hs hw ?_; clear hs hw; intro a b W hw hs) | (refine sxs hs hw ?_; clear hs hw; intro W hs hw))
    replace hw : Has 0 w _ (Fz H0 :: FoldAt H0 p f :: []) := hw.swap2
    refine st_call hs (hc := ref7_All w _ H0 m _ _ (by omega) hbo ⟨ys, hr.le hH0, hch.mono (BatIn.le hH0)⟩ hw) (k := ?_); rintro e0 W1 ⟨cs, ad, cap, ys2, H2, rfl, hle2, hf, hch2, hw1⟩; refine ⟨_, rfl, ?_⟩; clear hs hw; intro a hs; have hw := hw1; clear hw1
    rw [hfe] at hf
    have hlen := hf.len
    have hone := hf.one
    repeat (first | (refine sxv hs hw ?_; clear hs; intro a hs) | refine sxc hs ?_ | (refine sxa hs hw ?_; clear hs hw; intro a b W hw hs) | (refine sxs hs hw ?_; clear hs hw; intro W hs hw) | ((with_reducible first | refine st_ptrSome hs (k := ?_) | refine st_ptrNone hs (k := ?_)); clear hs; intro a hs))
    refine st_store hs (vs := cs) (hw := hw) (hz := by rw [hlen]; rfl) (h1 := hone) (hl := by rw [hlen]; rfl) (k := ?_); clear hs hw; intro W hs hw
    rw [ov_all _ _ (by rw [hlen]; rfl)] at hw
    repeat (first | (refine sxv hs hw ?_; clear hs; intro a hs) | refine sxc hs ?_ | (refine sxa hs hw ?_; clear hs hw; intro a b W hw hs) | (refine sxs hs hw ?_; clear hs hw; intro W hs hw) | ((with_reducible first | refine st_ptrSome hs (k := ?_) | refine st_ptrNone hs (k := ?_)); clear hs; intro a hs))
    obtain ⟨b8, q8⟩ := nm1 hw; subst q8
    have hle := hH0.trans hle2
    replace hw : Has 0 w _ (FoldAt H2 p f :: Fz H2 :: Cells b8 cs 42 :: []) := foldLe (hw.sel (by repeat (first | exact Sel.nil | exact Sel.refl _ | refine Sel.cons (by repeat (first | exact Pick.hd | apply Pick.tl)) ?_ | refine Sel.skip ?_)) : Has 0 w _ (FoldAt H0 p f :: Fz H2 :: Cells b8 cs 42 :: [])) hle2
    refine st_call hs (hc := fold_Doc w _ H2 p f _ hw) (k := ?_); rintro e0 W1 ⟨dq, rfl, hw1⟩; refine ⟨_, rfl, ?_⟩; clear hs hw; intro a hs; have hw := hw1; clear hw1
    repeat (first | (refine sxv hs hw ?_; clear hs; intro a hs) | refine sxc hs ?_ | (refine sxa hs hw ?_; clear hs hw; intro a b W hw hs) | (refine sxs hs hw ?_; clear hs hw; intro W hs hw) | ((with_reducible first | refine st_ptrSome hs (k := ?_) | refine st_ptrNone hs (k := ?_)); clear hs; intro a hs))
    refine st_call hs (hc := doc_ApplyW w _ H2 dq f.d more v2 _ (fun o ho => opW_of (hm o ho)) ((RdH.of_rd hr2 (Fh.le.refl _) (by decide)).le (hle1.trans hle)) (by repeat (first | exact In.hd | apply In.tl)) (hle1.trans hle) hT hw) (k := ?_); rintro e0 W1 ⟨rfl, hw1⟩; refine ⟨_, rfl, ?_⟩; clear hs hw; intro a hs; have hw := hw1; clear hw1
    repeat (first | (refine sxv hs hw ?_; clear hs; intro a hs) | refine sxc hs ?_ | (refine sxa hs hw ?_; clear hs hw; intro a b W hw hs) | (refine sxs hs hw ?_; clear hs hw; intro W hs hw) | ((with_reducible first | refine st_ptrSome hs (k := ?_) | refine st_ptrNone hs (k := ?_)); clear hs; intro a hs))
    replace hw : Has 0 w _ (FoldAt H2 p f :: Fz H2 :: Cells b8 cs 42 :: []) := hw.sel (by repeat (first | exact Sel.nil | exact Sel.refl _ | refine Sel.cons (by repeat (first | exact Pick.hd | apply Pick.tl)) ?_ | refine Sel.skip ?_))
    refine st_call hs (hc := fold_Copy w _ H2 p f _ hw) (k := ?_); rintro e0 W1 ⟨q, rfl, hw1⟩; refine ⟨_, rfl, ?_⟩; clear hs hw; intro a hs; have hw := hw1; clear hw1
    repeat (first | (refine sxv hs hw ?_; clear hs; intro a hs) | refine sxc hs ?_ | (refine sxa hs hw ?_; clear hs hw; intro a b W hw hs) | (refine sxs hs hw ?_; clear hs hw; intro W hs hw) | ((with_reducible first | refine st_ptrSome hs (k := ?_) | refine st_ptrNone hs (k := ?_)); clear hs; intro a hs))
    obtain ⟨g, hg, hgf, hgp, hne, hwr, hwr2, hbx⟩ := own_next hff hsq (by omega)
    refine st_call hs (hc := fold_Last w _ H2 q f 5 _ hw) (k := ?_); rintro e0 W1 ⟨rfl, hw1⟩; refine ⟨_, rfl, ?_⟩; clear hs hw; intro a hs; have hw := hw1; clear hw1
    repeat (first | (refine sxv hs hw ?_; clear hs; intro a hs) | refine sxc hs ?_ | (refine sxa hs hw ?_; clear hs hw; intro a b W hw hs) | (refine sxs hs hw ?_; clear hs hw; intro W hs hw) | ((with_reducible first | refine st_ptrSome hs (k := ?_) | refine st_ptrNone hs (k := ?_)); clear hs; intro a hs))
    rw [hwr] at hs
    repeat (first | (refine sxv hs hw ?_; clear hs; intro a hs) | refine sxc hs ?_ | (refine sxa hs hw ?_; clear hs hw; intro a b W hw hs) | (refine sxs hs hw ?_; clear hs hw; intro W hs hw) | ((with_reducible first | refine st_ptrSome hs (k := ?_) | refine st_ptrNone hs (k := ?_)); clear hs; intro a hs))
    obtain ⟨bo, qo⟩ := nm1 hw; subst qo
    replace hw : Has 0 w _ (Cells bo (opCells ox) 95 :: Fz H2 :: FoldAt H2 q f :: FoldAt H2 p f :: Cells b8 cs 42 :: []) := hw.perm (by repeat (first | exact List.Perm.refl _ | refine perm_pick (by repeat (first | exact Pick.hd | apply Pick.tl)) ?_))
    obtain ⟨H3, hle3, hw2, hop⟩ := hw.freeze_lit (m := 1) (sz := 9) rfl (by decide)
    clear hw; have hw := hw2; clear hw2
    replace hw : Has 0 w _ (FoldAt H3 q f :: Fz H3 :: FoldAt H2 p f :: Cells b8 cs 42 :: []) := foldLe hw.swap2 hle3
    refine st_call hs (hc := fold_Next w _ H3 q f ⟨5, lastOf f 5 + 1, [ox]⟩ _ _ hbx (RdH.le (n := 1) (xs := [ox].flatMap opCells) hop (Fh.le.refl _)) ((hle1.trans hle).trans hle3) hT hw) (k := ?_); rw [hg]; rintro e0 W1 ⟨sv1, H4, rfl, hle4, hsv1, hw1⟩; refine ⟨_, rfl, ?_⟩; clear hs hw; intro a hs; have hw := hw1; clear hw1
    have hf4 := hf.le (hle3.trans hle4)
    repeat (first | (refine sxv hs hw ?_; clear hs; intro a hs) | refine sxc hs ?_ | (refine sxa hs hw ?_; clear hs hw; intro a b W hw hs) | (refine sxs hs hw ?_; clear hs hw; intro W hs hw) | ((with_reducible first | refine st_ptrSome hs (k := ?_) | refine st_ptrNone hs (k := ?_)); clear hs; intro a hs))
    refine st_load_agg hs (hw := hw) (hi := In.tl (In.tl (In.tl In.hd))) (hl := by rw [hlen]; rfl) (k := ?_); clear hs; intro a hs
    have hs2 : Slots a 71 ((49, .agg ⟨cut cs 0 38⟩) :: _) := hs
    rw [cut_all _ _ hlen] at hs2
    clear hs; have hs := hs2; clear hs2
    replace hw : Has 0 w _ (FoldAt H4 p f :: Fz H4 :: FoldAt H4 q g :: []) := foldLe (hw.sel (by repeat (first | exact Sel.nil | exact Sel.refl _ | refine Sel.cons (by repeat (first | exact Pick.hd | apply Pick.tl)) ?_ | refine Sel.skip ?_)) : Has 0 w _ (FoldAt H2 p f :: Fz H4 :: FoldAt H4 q g :: [])) (hle3.trans hle4)
    repeat (first | (refine sxv hs hw ?_; clear hs; intro a hs) | refine sxc hs ?_ | (refine sxa hs hw ?_; clear hs hw; intro a b W hw hs) | (refine sxs hs hw ?_; clear hs hw; intro W hs hw) | ((with_reducible first | refine st_ptrSome hs (k := ?_) | refine st_ptrNone hs (k := ?_)); clear hs; intro a hs))
    refine st_call hs (hc := law7_Same w _ H4 p f cs _ hff.ok hf4 hw) (k := ?_); rintro e0 W1 ⟨rfl, hw1⟩; refine ⟨_, rfl, ?_⟩; clear hs hw; intro a hs; have hw := hw1; clear hw1
    repeat (first | (refine sxv hs hw ?_; clear hs; intro a hs) | refine sxc hs ?_ | (refine sxa hs hw ?_; clear hs hw; intro a b W hw hs) | (refine sxs hs hw ?_; clear hs hw; intro W hs hw) | ((with_reducible first | refine st_ptrSome hs (k := ?_) | refine st_ptrNone hs (k := ?_)); clear hs; intro a hs))
    replace hw : Has 0 w _ (FoldAt H4 q g :: FoldAt H4 p f :: Fz H4 :: []) := hw.perm (by repeat (first | exact List.Perm.refl _ | refine perm_pick (by repeat (first | exact Pick.hd | apply Pick.tl)) ?_))
    refine st_call hs (hc := fold_Place w _ H4 q g _ hw) (k := ?_); rw [hgp]; rintro e0 W1 ⟨rfl, hw1⟩; refine ⟨_, rfl, ?_⟩; clear hs hw; intro a hs; have hw := hw1; clear hw1
    repeat (first | (refine sxv hs hw ?_; clear hs; intro a hs) | refine sxc hs ?_ | (refine sxa hs hw ?_; clear hs hw; intro a b W hw hs) | (refine sxs hs hw ?_; clear hs hw; intro W hs hw) | ((with_reducible first | refine st_ptrSome hs (k := ?_) | refine st_ptrNone hs (k := ?_)); clear hs; intro a hs))
    replace hw : Has 0 w _ (FoldAt H4 p f :: FoldAt H4 q g :: Fz H4 :: []) := hw.perm (by repeat (first | exact List.Perm.refl _ | refine perm_pick (by repeat (first | exact Pick.hd | apply Pick.tl)) ?_))
    refine st_call hs (hc := fold_Place w _ H4 p f _ hw) (k := ?_); rintro e0 W1 ⟨rfl, hw1⟩; refine ⟨_, rfl, ?_⟩; clear hs hw; intro a hs; have hw := hw1; clear hw1
    repeat (first | (refine sxv hs hw ?_; clear hs; intro a hs) | refine sxc hs ?_ | (refine sxa hs hw ?_; clear hs hw; intro a b W hw hs) | (refine sxs hs hw ?_; clear hs hw; intro W hs hw) | ((with_reducible first | refine st_ptrSome hs (k := ?_) | refine st_ptrNone hs (k := ?_)); clear hs; intro a hs))
    rw [hwr2] at hs
    repeat (first | (refine sxv hs hw ?_; clear hs; intro a hs) | refine sxc hs ?_ | (refine sxa hs hw ?_; clear hs hw; intro a b W hw hs) | (refine sxs hs hw ?_; clear hs hw; intro W hs hw) | ((with_reducible first | refine st_ptrSome hs (k := ?_) | refine st_ptrNone hs (k := ?_)); clear hs; intro a hs))
    rw [beq_self_eq_true] at hs
    repeat (first | (refine sxv hs hw ?_; clear hs; intro a hs) | refine sxc hs ?_ | (refine sxa hs hw ?_; clear hs hw; intro a b W hw hs) | (refine sxs hs hw ?_; clear hs hw; intro W hs hw) | ((with_reducible first | refine st_ptrSome hs (k := ?_) | refine st_ptrNone hs (k := ?_)); clear hs; intro a hs))
    replace hw : Has 0 w _ (FoldAt H4 q g :: FoldAt H4 p f :: Fz H4 :: []) := hw.perm (by repeat (first | exact List.Perm.refl _ | refine perm_pick (by repeat (first | exact Pick.hd | apply Pick.tl)) ?_))
    have hleA := ((hle1.trans hle).trans hle3).trans hle4
    refine st_call hs (hc := fold_Eq w _ H4 q p g f _ hgf hff hleA hT hw) (k := ?_); rw [hne]; rintro e0 W1 ⟨rfl, hw1⟩; refine ⟨_, rfl, ?_⟩; clear hs hw; intro a hs; have hw := hw1; clear hw1
    repeat (first | (refine sxv hs hw ?_; clear hs; intro a hs) | refine sxc hs ?_ | (refine sxa hs hw ?_; clear hs hw; intro a b W hw hs) | (refine sxs hs hw ?_; clear hs hw; intro W hs hw) | ((with_reducible first | refine st_ptrSome hs (k := ?_) | refine st_ptrNone hs (k := ?_)); clear hs; intro a hs))
    replace hw : Has 0 w _ (FoldAt H4 p f :: Fz H4 :: []) := hw.sel (by repeat (first | exact Sel.nil | exact Sel.refl _ | refine Sel.cons (by repeat (first | exact Pick.hd | apply Pick.tl)) ?_ | refine Sel.skip ?_))
    refine st_call hs (hc := fold_Copy w _ H4 p f _ hw) (k := ?_); rintro e0 W1 ⟨c2, rfl, hw1⟩; refine ⟨_, rfl, ?_⟩; clear hs hw; intro a hs; have hw := hw1; clear hw1
    repeat (first | (refine sxv hs hw ?_; clear hs; intro a hs) | refine sxc hs ?_ | (refine sxa hs hw ?_; clear hs hw; intro a b W hw hs) | (refine sxs hs hw ?_; clear hs hw; intro W hs hw) | ((with_reducible first | refine st_ptrSome hs (k := ?_) | refine st_ptrNone hs (k := ?_)); clear hs; intro a hs))
    refine st_call hs (hc := fold_Eq w _ H4 c2 p f f _ hff hff hleA hT hw) (k := ?_); rw [beq_self_eq_true]; rintro e0 W1 ⟨rfl, hw1⟩; refine ⟨_, rfl, ?_⟩; clear hs hw; intro a hs; have hw := hw1; clear hw1
    repeat (first | (refine sxv hs hw ?_; clear hs; intro a hs) | refine sxc hs ?_ | (refine sxa hs hw ?_; clear hs hw; intro a b W hw hs) | (refine sxs hs hw ?_; clear hs hw; intro W hs hw) | ((with_reducible first | refine st_ptrSome hs (k := ?_) | refine st_ptrNone hs (k := ?_)); clear hs; intro a hs))
    exact rt1 hs rfl rfl ⟨rfl, hw.endF (by repeat (first | exact In.hd | apply In.tl)) hleA⟩
end Go.Proofs.YtmalklakaalaoaaGreatDoor.Sw

set_option linter.unusedVariables false
set_option maxRecDepth 10000
namespace Go.Proofs.YtmalklakaalaoaaGreatDoor.Sw
open Go.RowKit Go.Sx
set_option maxHeartbeats 32000000 in
theorem ref7_Encode (w0 W : World) (H : Fh) (f : FoldD) (cs : List Value) (R : List Res) (hf : FoldFine f) (hr : RfIn H f cs) (hw : Has 0 w0 W (Fz H :: R)) :
    Calls Tryz.prog 40 ⟨[.agg ⟨cs⟩]⟩ W fun e W' => ∃ ad cap, e = .returned (.slice ad (foldB f).length cap) ∧ Has 0 w0 W' (Sx.OwnB 5 (.slice ad (foldB f).length cap) (foldB f) :: Fz H :: R) := by
  obtain ⟨dv, ls, ts, rfl, hdv, h6, hls, hts⟩ := hr
  obtain ⟨hll, htl⟩ := rf_len h6 hls hts
  obtain ⟨dad, dcap, rfl⟩ := hdv.slice
  have hdl := hf.doc.len
  have hpl := Ph.putI_length_le f.place
  have htl2 := putT_le2 (docB f.d)
  refine enter Tryz.func40 Tryz.ntmps40 rfl rfl fun a hs => ?_
  repeat (first | (refine sxv hs hw ?_; clear hs; intro a hs) | refine sxc hs ?_ | (refine sxa hs hw ?_; clear hs hw; intro a b W hw hs) | (refine sxs hs hw ?_; clear hs hw; intro W hs hw) | ((with_reducible first | refine st_ptrSome hs (k := ?_) | refine st_ptrNone hs (k := ?_)); clear hs; intro a hs))
  obtain ⟨b1, q1⟩ := nm1 hw; subst q1
  refine st_call hs (hc := ref_Put w0 _ f.place _ (by have := hf.place.1; omega) hf.place.2 hw) (k := ?_); rintro e0 W1 ⟨pad, pcap, rfl, hw1⟩; refine ⟨_, rfl, ?_⟩; clear hs hw; intro a hs; have hw := hw1; clear hw1
  repeat (first | (refine sxv hs hw ?_; clear hs; intro a hs) | refine sxc hs ?_ | (refine sxa hs hw ?_; clear hs hw; intro a b W hw hs) | (refine sxs hs hw ?_; clear hs hw; intro W hs hw) | ((with_reducible first | refine st_ptrSome hs (k := ?_) | refine st_ptrNone hs (k := ?_)); clear hs; intro a hs))
  have hcut : cut (rfC f.place (.slice dad f.d.length dcap) ls ts) (0 + 1) 1 = [.slice dad f.d.length dcap] := by rw [cut_eq]; rfl
  rw [show cut (rfC f.place (.slice dad f.d.length dcap) ls ts) (0 + 1) [Value.slice none 0 0].length = [.slice dad f.d.length dcap] from hcut] at hs
  refine st_call hs (hc := ref_DocEncode w0 _ H f.d (.slice dad f.d.length dcap) _ hf.doc hdv (by repeat (first | exact In.hd | apply In.tl)) hw) (k := ?_); rintro e0 W1 ⟨ead, ecap, rfl, hw1⟩; refine ⟨_, rfl, ?_⟩; clear hs hw; intro a hs; have hw := hw1; clear hw1
  repeat (first | (refine sxv hs hw ?_; clear hs; intro a hs) | refine sxc hs ?_ | (refine sxa hs hw ?_; clear hs hw; intro a b W hw hs) | (refine sxs hs hw ?_; clear hs hw; intro W hs hw) | ((with_reducible first | refine st_ptrSome hs (k := ?_) | refine st_ptrNone hs (k := ?_)); clear hs; intro a hs))
  refine st_string_b hs (r := hw.rd_own In.hd) (k := ?_); clear hs; intro a hs
  repeat (first | (refine sxv hs hw ?_; clear hs; intro a hs) | refine sxc hs ?_ | (refine sxa hs hw ?_; clear hs hw; intro a b W hw hs) | (refine sxs hs hw ?_; clear hs hw; intro W hs hw) | ((with_reducible first | refine st_ptrSome hs (k := ?_) | refine st_ptrNone hs (k := ?_)); clear hs; intro a hs))
  replace hw := hw.sub (List.Sublist.cons _ (List.Sublist.refl _))
  refine st_call hs (hc := ref_PutText w0 _ ⟨(docB f.d).toArray⟩ _ (by show (docB f.d).toArray.size ≤ _; simp; omega) hw) (k := ?_); rintro e0 W1 ⟨tad, tcap, rfl, hw1⟩; refine ⟨_, rfl, ?_⟩; clear hs hw; intro a hs; have hw := hw1; clear hw1
  rw [show (⟨(docB f.d).toArray⟩ : ByteArray).data.toList = docB f.d from rfl] at hs hw
  repeat (first | (refine sxv hs hw ?_; clear hs; intro a hs) | refine sxc hs ?_ | (refine sxa hs hw ?_; clear hs hw; intro a b W hw hs) | (refine sxs hs hw ?_; clear hs hw; intro W hs hw) | ((with_reducible first | refine st_ptrSome hs (k := ?_) | refine st_ptrNone hs (k := ?_)); clear hs; intro a hs))
  refine st_append_b hs hw.swap2 (l := Ph.putI f.place) (m := Ph.putT (docB f.d)) (hr := src_rd (hw.swap2.rd_own (In.tl In.hd)) (bys_one _)) (hb := by omega) (c := ?_); clear hs hw; intro a ad cap W hs hw
  repeat (first | (refine sxv hs hw ?_; clear hs; intro a hs) | refine sxc hs ?_ | (refine sxa hs hw ?_; clear hs hw; intro a b W hw hs) | (refine sxs hs hw ?_; clear hs hw; intro W hs hw) | ((with_reducible first | refine st_ptrSome hs (k := ?_) | refine st_ptrNone hs (k := ?_)); clear hs; intro a hs))
  replace hw := hw.drop2
  refine st_loop (σ := Value × Nat) (fun s => [(1, .pointer (some ⟨b1, 0, none⟩)), (3, s.1), (4, .int .i64 (s.2 : Int))]) (fun s => Sx.OwnB 5 s.1 (accF f s.2) :: Cells b1 (rfC f.place (.slice dad f.d.length dcap) ls ts) 42 :: Fz H :: R) (fun s => 1 ≤ s.2 ∧ s.2 ≤ 6) (fun s => 6 - s.2) (.slice ad (Ph.putI f.place ++ Ph.putT (docB f.d)).length cap, 1) ⟨by show 1 ≤ 1; decide, by show 1 ≤ 6; decide⟩ hs ⟨rfl, rfl, rfl, trivial⟩ (by rw [show accF f 1 = Ph.putI f.place ++ Ph.putT (docB f.d) from by simp [accF]]; exact hw) ?_
  clear hs hw
  rintro ⟨v, c⟩ a W ⟨hc1, hc6⟩ hs hw
  simp only at hc1 hc6 hs hw
  obtain ⟨ad, cap, rfl⟩ := hw.own_slice
  repeat (first | (refine sxv hs hw ?_; clear hs; intro a hs) | refine sxc hs ?_ | (refine sxa hs hw ?_; clear hs hw; intro a b W hw hs) | (refine sxs hs hw ?_; clear hs hw; intro W hs hw) | ((with_reducible first | refine st_ptrSome hs (k := ?_) | refine st_ptrNone hs (k := ?_)); clear hs; intro a hs))
  refine cd_split hs (kt := fun hcc => ?_) (kf := fun hcc => ?_)
  · have hc5 : c ≤ 5 := by have := of_decide_eq_true hcc; omega
    obtain ⟨x, hx⟩ : ∃ x, f.told[c]? = some x := ⟨f.told[c]'(by rw [hf.six]; omega), List.getElem?_eq_getElem _⟩
    have hfx := hf.told c x hx
    have hsl := seqB_len hfx
    have hal := accF_len hf c
    have hnext := accF_next hc1 hx
    generalize accF f c = acc at *
    obtain ⟨c1, rfl, hk1, hcut1⟩ := hls.get NumIn.len hx
    obtain ⟨c2, ⟨sv, rfl, hsv⟩, hk2, hcut2⟩ := hts.get ToRow.len hx
    obtain ⟨sad, scap, rfl⟩ := hsv.slice
    have hL : ls[c]? = some (.int .i64 x.1) := by
      have := congrArg (fun t => t[0]?) hcut1
      simpa [cut_eq] using this
    have hT : ∀ j u, (rowCells x.2 (.slice sad x.2.b.l.length scap))[j]? = some u → ts[c * 5 + j]? = some u := by
      intro j u hu
      have := congrArg (fun t => t[j]?) hcut2
      simp only [cut_eq, List.getElem?_take, List.getElem?_drop] at this
      rw [hu] at this
      split at this
      · exact this
      · cases this
    have hxi : i64 x.1 := by
      rcases hfx with rfl | ⟨_, e⟩
      · exact ⟨by decide, by decide⟩
      · have := e.ok.q; rw [e.seq]; exact this
    have hat : (rfC f.place (.slice dad f.d.length dcap) ls ts)[0 + 2 + c * 1]? = some (.int .i64 x.1) := by
      rw [show 0 + 2 + c * 1 = c + 1 + 1 by omega]
      show (ls ++ ts)[c]? = _
      rw [List.getElem?_append_left (by omega)]
      exact hL
    repeat (first | (refine sxv hs hw ?_; clear hs; intro a hs) | refine sxc hs ?_ | (refine sxa hs hw ?_; clear hs hw; intro a b W hw hs) | (refine sxs hs hw ?_; clear hs hw; intro W hs hw) | ((with_reducible first | refine st_ptrSome hs (k := ?_) | refine st_ptrNone hs (k := ?_)); clear hs; intro a hs))
    refine st_index_arr hs (h0 := by omega) (h1 := by omega) (c := ?_); clear hs; intro a hs
    rw [Int.toNat_natCast] at hs
    repeat (first | (refine sxv hs hw ?_; clear hs; intro a hs) | refine sxc hs ?_ | (refine sxa hs hw ?_; clear hs hw; intro a b W hw hs) | (refine sxs hs hw ?_; clear hs hw; intro W hs hw) | ((with_reducible first | refine st_ptrSome hs (k := ?_) | refine st_ptrNone hs (k := ?_)); clear hs; intro a hs))
    refine st_load_one hs (hw := hw) (hi := In.tl In.hd) (v := .int .i64 x.1) (hv := hat) (k := ?_); clear hs; intro a hs
    repeat (first | (refine sxv hs hw ?_; clear hs; intro a hs) | refine sxc hs ?_ | (refine sxa hs hw ?_; clear hs hw; intro a b W hw hs) | (refine sxs hs hw ?_; clear hs hw; intro W hs hw) | ((with_reducible first | refine st_ptrSome hs (k := ?_) | refine st_ptrNone hs (k := ?_)); clear hs; intro a hs))
    refine st_call hs (hc := ref_Put w0 _ x.1 _ hxi.1 hxi.2 hw) (k := ?_); rintro e0 W1 ⟨pad, pcap, rfl, hw1⟩; refine ⟨_, rfl, ?_⟩; clear hs hw; intro a hs; have hw := hw1; clear hw1
    have h0l := Ph.putI_length_le x.1
    repeat (first | (refine sxv hs hw ?_; clear hs; intro a hs) | refine sxc hs ?_ | (refine sxa hs hw ?_; clear hs hw; intro a b W hw hs) | (refine sxs hs hw ?_; clear hs hw; intro W hs hw) | ((with_reducible first | refine st_ptrSome hs (k := ?_) | refine st_ptrNone hs (k := ?_)); clear hs; intro a hs))
    refine st_append_b hs hw.swap2 (l := acc) (m := Ph.putI x.1) (hr := src_rd (hw.swap2.rd_own (In.tl In.hd)) (bys_one _)) (hb := by omega) (c := ?_); clear hs hw; intro a ad1 cap1 W hs hw
    replace hw := hw.drop2
    repeat (first | (refine sxv hs hw ?_; clear hs; intro a hs) | refine sxc hs ?_ | (refine sxa hs hw ?_; clear hs hw; intro a b W hw hs) | (refine sxs hs hw ?_; clear hs hw; intro W hs hw) | ((with_reducible first | refine st_ptrSome hs (k := ?_) | refine st_ptrNone hs (k := ?_)); clear hs; intro a hs))
    refine st_index_arr hs (h0 := by omega) (h1 := by omega) (c := ?_); clear hs; intro a hs
    rw [Int.toNat_natCast] at hs
    repeat (first | (refine sxv hs hw ?_; clear hs; intro a hs) | refine sxc hs ?_ | (refine sxa hs hw ?_; clear hs hw; intro a b W hw hs) | (refine sxs hs hw ?_; clear hs hw; intro W hs hw) | ((with_reducible first | refine st_ptrSome hs (k := ?_) | refine st_ptrNone hs (k := ?_)); clear hs; intro a hs))
    refine st_load_one hs (hw := hw) (hi := In.tl In.hd) (v := .int .i64 x.1) (hv := hat) (k := ?_); clear hs; intro a hs
    repeat (first | (refine sxv hs hw ?_; clear hs; intro a hs) | refine sxc hs ?_ | (refine sxa hs hw ?_; clear hs hw; intro a b W hw hs) | (refine sxs hs hw ?_; clear hs hw; intro W hs hw) | ((with_reducible first | refine st_ptrSome hs (k := ?_) | refine st_ptrNone hs (k := ?_)); clear hs; intro a hs))
    rcases hfx with rfl | ⟨_, hfine⟩
    · repeat (first | (refine sxv hs hw ?_; clear hs; intro a hs) | refine sxc hs ?_ | (refine sxa hs hw ?_; clear hs hw; intro a b W hw hs) | (refine sxs hs hw ?_; clear hs hw; intro W hs hw) | ((with_reducible first | refine st_ptrSome hs (k := ?_) | refine st_ptrNone hs (k := ?_)); clear hs; intro a hs))
      rw [show acc ++ Ph.putI ((0 : Int), zeroRow).1 = accF f (c + 1) from by rw [hnext]; simp [seqB]] at hs hw
      exact st_again (_, c + 1) hs hw ⟨by show 1 ≤ c + 1; omega, by show c + 1 ≤ 6; omega⟩ (by show 6 - (c + 1) < 6 - c; omega) ⟨rfl, rfl, int_eq (by show IntKind.i64.wrap ((c : Int) + 1) = ((c + 1 : Nat) : Int); rw [IntWalk.i64_in _ (by omega)]; omega), trivial⟩
    · have hpos := hfine.pos
      have hpi : i64 x.2.place := ⟨by have := hfine.pl.1; omega, by have := hfine.pl.2; have := hf.place.2; omega⟩
      have hei := fineE_i64 hfine.err
      have hel := encB_le hfine.may
      have hok := hfine.ok
      have hmay : mayBatch x.2.b.c x.2.b.q x.2.b.l = true := hfine.may
      have h1l := Ph.putI_length_le x.2.place
      have h2l := putT_le2 (encB x.2.b)
      have h3l := Ph.putI_length_le x.2.err
      have hnx : accF f (c + 1) = acc ++ Ph.putI x.1 ++ Ph.putI x.2.place ++ Ph.putT (encB x.2.b) ++ Ph.putI x.2.err := by
        rw [hnext]; unfold seqB; rw [if_pos hpos]; simp
      have hl1 : (acc ++ Ph.putI x.1).length ≤ 100010 := by rw [List.length_append]; omega
      rw [show decide (x.1 > 0) = true from decide_eq_true hpos] at hs
      generalize acc ++ Ph.putI x.1 = acc1 at *
      repeat (first | (refine sxv hs hw ?_; clear hs; intro a hs) | refine sxc hs ?_ | (refine sxa hs hw ?_; clear hs hw; intro a b W hw hs) | (refine sxs hs hw ?_; clear hs hw; intro W hs hw) | ((with_reducible first | refine st_ptrSome hs (k := ?_) | refine st_ptrNone hs (k := ?_)); clear hs; intro a hs))
      refine st_index_arr hs (h0 := by omega) (h1 := by omega) (c := ?_); clear hs; intro a hs
      rw [Int.toNat_natCast] at hs
      repeat (first | (refine sxv hs hw ?_; clear hs; intro a hs) | refine sxc hs ?_ | (refine sxa hs hw ?_; clear hs hw; intro a b W hw hs) | (refine sxs hs hw ?_; clear hs hw; intro W hs hw) | ((with_reducible first | refine st_ptrSome hs (k := ?_) | refine st_ptrNone hs (k := ?_)); clear hs; intro a hs))
      refine st_load_ats (z := zrc) hs (cs := rowCells x.2 (.slice sad x.2.b.l.length scap)) (hc := fun j u hu => ?hcc) (hl := rfl) (c := ?_)
      case hcc =>
        rw [cell_block (hw.block (by repeat (first | exact In.hd | apply In.tl))).1]
        show (rfC f.place (.slice dad f.d.length dcap) ls ts)[0 + 8 + c * 5 + j]? = _
        rw [show 0 + 8 + c * 5 + j = (6 + (c * 5 + j)) + 1 + 1 by omega]
        show (ls ++ ts)[6 + (c * 5 + j)]? = _
        rw [List.getElem?_append_right (by omega), show 6 + (c * 5 + j) - ls.length = c * 5 + j by omega]
        exact hT j u hu
      clear hs; intro a hs
      repeat (first | (refine sxv hs hw ?_; clear hs; intro a hs) | refine sxc hs ?_ | (refine sxa hs hw ?_; clear hs hw; intro a b W hw hs) | (refine sxs hs hw ?_; clear hs hw; intro W hs hw) | ((with_reducible first | refine st_ptrSome hs (k := ?_) | refine st_ptrNone hs (k := ?_)); clear hs; intro a hs))
      obtain ⟨b5, q5⟩ := nm1 hw; subst q5
      replace hw : Has 0 w0 _ (Sx.OwnB 5 (.slice ad1 acc1.length cap1) acc1 :: Cells b5 (rowCells x.2 (.slice sad x.2.b.l.length scap)) 39 :: Cells b1 (rfC f.place (.slice dad f.d.length dcap) ls ts) 42 :: Fz H :: R) := hw.perm (by repeat (first | exact List.Perm.refl _ | refine perm_pick (by repeat (first | exact Pick.hd | apply Pick.tl)) ?_))
      refine st_call hs (hc := ref_Put w0 _ x.2.place _ hpi.1 hpi.2 hw) (k := ?_); rintro e0 W1 ⟨pad2, pcap2, rfl, hw1⟩; refine ⟨_, rfl, ?_⟩; clear hs hw; intro a hs; have hw := hw1; clear hw1
      repeat (first | (refine sxv hs hw ?_; clear hs; intro a hs) | refine sxc hs ?_ | (refine sxa hs hw ?_; clear hs hw; intro a b W hw hs) | (refine sxs hs hw ?_; clear hs hw; intro W hs hw) | ((with_reducible first | refine st_ptrSome hs (k := ?_) | refine st_ptrNone hs (k := ?_)); clear hs; intro a hs))
      refine st_append_b hs hw.swap2 (l := acc1) (m := Ph.putI x.2.place) (hr := src_rd (hw.swap2.rd_own (In.tl In.hd)) (bys_one _)) (hb := by omega) (c := ?_); clear hs hw; intro a ad2 cap2 W hs hw
      replace hw := hw.drop2
      have hl2 : (acc1 ++ Ph.putI x.2.place).length ≤ 100020 := by rw [List.length_append]; omega
      generalize acc1 ++ Ph.putI x.2.place = acc2 at *
      repeat (first | (refine sxv hs hw ?_; clear hs; intro a hs) | refine sxc hs ?_ | (refine sxa hs hw ?_; clear hs hw; intro a b W hw hs) | (refine sxs hs hw ?_; clear hs hw; intro W hs hw) | ((with_reducible first | refine st_ptrSome hs (k := ?_) | refine st_ptrNone hs (k := ?_)); clear hs; intro a hs))
      refine st_call hs (hc := ref_EncodeBatch x.2.b.c x.2.b.q x.2.b.l (.slice sad x.2.b.l.length scap) _ hok.c hok.q hok.ops (hw.rdH (by repeat (first | exact In.hd | apply In.tl)) hsv)) (k := ?_); rintro e0 W1 ⟨ead, ecap, rfl, hw1⟩; refine ⟨_, rfl, ?_⟩; clear hs; intro a hs; replace hw := hw.call hw1; clear hw1
      rw [hmay] at hs hw
      simp only [if_true] at hs hw
      repeat (first | (refine sxv hs hw ?_; clear hs; intro a hs) | refine sxc hs ?_ | (refine sxa hs hw ?_; clear hs hw; intro a b W hw hs) | (refine sxs hs hw ?_; clear hs hw; intro W hs hw) | ((with_reducible first | refine st_ptrSome hs (k := ?_) | refine st_ptrNone hs (k := ?_)); clear hs; intro a hs))
      refine st_string_b hs (r := hw.rd_own In.hd) (k := ?_); clear hs; intro a hs
      repeat (first | (refine sxv hs hw ?_; clear hs; intro a hs) | refine sxc hs ?_ | (refine sxa hs hw ?_; clear hs hw; intro a b W hw hs) | (refine sxs hs hw ?_; clear hs hw; intro W hs hw) | ((with_reducible first | refine st_ptrSome hs (k := ?_) | refine st_ptrNone hs (k := ?_)); clear hs; intro a hs))
      replace hw := hw.sub (List.Sublist.cons _ (List.Sublist.refl _))
      refine st_call hs (hc := ref_PutText w0 _ ⟨(encB x.2.b).toArray⟩ _ (by show (encB x.2.b).toArray.size ≤ _; simp; omega) hw) (k := ?_); rintro e0 W1 ⟨tad, tcap, rfl, hw1⟩; refine ⟨_, rfl, ?_⟩; clear hs hw; intro a hs; have hw := hw1; clear hw1
      rw [show (⟨(encB x.2.b).toArray⟩ : ByteArray).data.toList = encB x.2.b from rfl] at hs hw
      repeat (first | (refine sxv hs hw ?_; clear hs; intro a hs) | refine sxc hs ?_ | (refine sxa hs hw ?_; clear hs hw; intro a b W hw hs) | (refine sxs hs hw ?_; clear hs hw; intro W hs hw) | ((with_reducible first | refine st_ptrSome hs (k := ?_) | refine st_ptrNone hs (k := ?_)); clear hs; intro a hs))
      refine st_append_b hs hw.swap2 (l := acc2) (m := Ph.putT (encB x.2.b)) (hr := src_rd (hw.swap2.rd_own (In.tl In.hd)) (bys_one _)) (hb := by omega) (c := ?_); clear hs hw; intro a ad3 cap3 W hs hw
      replace hw := hw.drop2
      have hl3 : (acc2 ++ Ph.putT (encB x.2.b)).length ≤ 102000 := by rw [List.length_append]; omega
      generalize acc2 ++ Ph.putT (encB x.2.b) = acc3 at *
      repeat (first | (refine sxv hs hw ?_; clear hs; intro a hs) | refine sxc hs ?_ | (refine sxa hs hw ?_; clear hs hw; intro a b W hw hs) | (refine sxs hs hw ?_; clear hs hw; intro W hs hw) | ((with_reducible first | refine st_ptrSome hs (k := ?_) | refine st_ptrNone hs (k := ?_)); clear hs; intro a hs))
      refine st_call hs (hc := ref_Put w0 _ x.2.err _ hei.1 hei.2 hw) (k := ?_); rintro e0 W1 ⟨pad4, pcap4, rfl, hw1⟩; refine ⟨_, rfl, ?_⟩; clear hs hw; intro a hs; have hw := hw1; clear hw1
      repeat (first | (refine sxv hs hw ?_; clear hs; intro a hs) | refine sxc hs ?_ | (refine sxa hs hw ?_; clear hs hw; intro a b W hw hs) | (refine sxs hs hw ?_; clear hs hw; intro W hs hw) | ((with_reducible first | refine st_ptrSome hs (k := ?_) | refine st_ptrNone hs (k := ?_)); clear hs; intro a hs))
      refine st_append_b hs hw.swap2 (l := acc3) (m := Ph.putI x.2.err) (hr := src_rd (hw.swap2.rd_own (In.tl In.hd)) (bys_one _)) (hb := by omega) (c := ?_); clear hs hw; intro a ad4 cap4 W hs hw
      replace hw := hw.drop2.drop2
      repeat (first | (refine sxv hs hw ?_; clear hs; intro a hs) | refine sxc hs ?_ | (refine sxa hs hw ?_; clear hs hw; intro a b W hw hs) | (refine sxs hs hw ?_; clear hs hw; intro W hs hw) | ((with_reducible first | refine st_ptrSome hs (k := ?_) | refine st_ptrNone hs (k := ?_)); clear hs; intro a hs))
      rw [← hnx] at hs hw
      exact st_again (_, c + 1) hs hw ⟨by show 1 ≤ c + 1; omega, by show c + 1 ≤ 6; omega⟩ (by show 6 - (c + 1) < 6 - c; omega) ⟨rfl, rfl, int_eq (by show IntKind.i64.wrap ((c : Int) + 1) = ((c + 1 : Nat) : Int); rw [IntWalk.i64_in _ (by omega)]; omega), trivial⟩
  · have h6' : c = 6 := by have := of_decide_eq_false hcc; omega
    subst h6'
    rw [accF_all hf] at hs hw
    repeat (first | (refine sxv hs hw ?_; clear hs; intro a hs) | refine sxc hs ?_ | (refine sxa hs hw ?_; clear hs hw; intro a b W hw hs) | (refine sxs hs hw ?_; clear hs hw; intro W hs hw) | ((with_reducible first | refine st_ptrSome hs (k := ?_) | refine st_ptrNone hs (k := ?_)); clear hs; intro a hs))
    exact rt1 hs rfl rfl ⟨_, _, rfl, hw.drop2⟩
end Go.Proofs.YtmalklakaalaoaaGreatDoor.Sw
