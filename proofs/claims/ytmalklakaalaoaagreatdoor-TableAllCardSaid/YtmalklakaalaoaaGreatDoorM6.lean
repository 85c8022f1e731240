/-
  Texts of the proof, one behind the other (part 6).
-/
import Derived.Test.YtmalklakaalaoaaGreatDoorM5
set_option linter.unusedVariables false
set_option maxRecDepth 10000
namespace Go.Proofs.YtmalklakaalaoaaGreatDoor.Sw
open Go.RowKit Go.Sx
-- pieces
abbrev OpsH (H : Fh) (sv : Value) (l : List OpD) : Prop := RdH H 9 sv l.length (l.flatMap opCells)
abbrev DocH (H : Fh) (dv : Value) (d : Dm) : Prop := RdH H 4 dv d.length (d.flatMap pairCells)
theorem raw_of {k n : Int} {s : ByteArray} (h : (ofRaw k n s).2 = 0) : [Value.int .i64 k, .int .i64 n, .string s] = rawCells (ofRaw k n s).1 := by
  obtain ⟨h1, h2, h3⟩ := ofRaw_ok h
  unfold rawCells
  rw [h1, h2, ba_eq h3]
theorem may_val {o : OpD} (h : mayD o = true) : (ofRaw o.vk o.vn o.vs).2 = 0 ∧ (ofRaw o.ok o.on o.os).2 = 0 := by
  unfold mayD mayOp at h
  simp only [Bool.and_eq_true, beq_iff_eq] at h
  exact ⟨h.1.1.2, h.1.2⟩
theorem eqV_raw {x : Option DV} {k n : Int} {s : ByteArray} (h : (ofRaw k n s).2 = 0) : rawEq (kindOf x) (intIn x) (textIn x) k n s = eqV x (ofRaw k n s).1 := by
  obtain ⟨h1, h2, h3⟩ := ofRaw_ok h
  unfold rawEq eqV
  rw [h1, h2, h3]
theorem kind_ne_int (x : Option DV) : (x.isSome && (kindOf x != 1)) = (kindOf x != 0 && !isInt x) := by rcases x with _ | n | s <;> rfl
theorem intIn_i64 {d : Dm} (h : DocOk d) (k : ByteArray) : i64 (intIn (getK d k)) := by
  cases hg : getK d k with
  | none => exact ⟨by decide, by decide⟩
  | some v =>
    have := h.all _ ((getK_mem h.keys).1 hg)
    rcases v with n | s
    · exact this.num n rfl
    · show i64 0
      exact ⟨by decide, by decide⟩
set_option maxHeartbeats 16000000 in
theorem ref_Apply (w0 W : World) (H : Fh) (d : Dm) (dv : Value) (l : List OpD) (sv : Value) (R : List Res) (hd : DocOk d) (ho : ∀ o ∈ l, OpOk o) (r : DocH H dv d) (rl : OpsH H sv l) (hw : Has 0 w0 W (Fz H :: R)) :
    Calls Tryz.prog 56 ⟨[.agg ⟨[dv]⟩, sv]⟩ W fun e W' => ∃ dv' H', e = .returned (.tuple ⟨[.agg ⟨[dv']⟩, .int .i64 (applyL d l).1]⟩) ∧ H.le H' ∧ DocH H' dv' (applyL d l).2 ∧ Has 0 w0 W' (Fz H' :: R) := by
  obtain ⟨sad, scap, rfl⟩ := rl.slice
  obtain ⟨dad, dcap, rfl⟩ := r.slice
  have hlen := rl.len
  refine enter Tryz.func56 Tryz.ntmps56 rfl rfl fun a hs => ?_
  repeat (first | (refine sxv hs hw ?_; clear hs; intro a hs) | refine sxc hs ?_ | (refine sxa hs hw ?_; clear hs hw; intro a b W hw hs) | (refine sxs hs hw ?_; clear hs hw; intro W hs hw))
  cases h0 : decide ((l.length : Int) < 1) with
  | true =>
    rw [h0] at hs
    repeat (first | (refine sxv hs hw ?_; clear hs; intro a hs) | refine sxc hs ?_ | (refine sxa hs hw ?_; clear hs hw; intro a b W hw hs) | (refine sxs hs hw ?_; clear hs hw; intro W hs hw))
    have hX : applyL d l = (1, d) := by
      unfold applyL
      rw [if_pos (.inl (by have := of_decide_eq_true h0; omega))]
    refine rc2 hs rfl rfl hw (In.hd) rfl rfl ?_
    rw [hX]
    exact ⟨.slice dad d.length dcap, H, rfl, Fh.le.refl _, r, hw.sub (List.Sublist.cons _ (List.Sublist.cons _ (List.Sublist.refl _)))⟩
  | false =>
  rw [h0] at hs
  repeat (first | (refine sxv hs hw ?_; clear hs; intro a hs) | refine sxc hs ?_ | (refine sxa hs hw ?_; clear hs hw; intro a b W hw hs) | (refine sxs hs hw ?_; clear hs hw; intro W hs hw))
  cases h8 : decide ((l.length : Int) > 8) with
  | true =>
    rw [h8] at hs
    repeat (first | (refine sxv hs hw ?_; clear hs; intro a hs) | refine sxc hs ?_ | (refine sxa hs hw ?_; clear hs hw; intro a b W hw hs) | (refine sxs hs hw ?_; clear hs hw; intro W hs hw))
    have hX : applyL d l = (1, d) := by
      unfold applyL
      rw [if_pos (.inr (by have := of_decide_eq_true h8; omega))]
    refine rc2 hs rfl rfl hw (In.hd) rfl rfl ?_
    rw [hX]
    exact ⟨.slice dad d.length dcap, H, rfl, Fh.le.refl _, r, hw.sub (List.Sublist.cons _ (List.Sublist.cons _ (List.Sublist.refl _)))⟩
  | false =>
  rw [h8] at hs
  repeat (first | (refine sxv hs hw ?_; clear hs; intro a hs) | refine sxc hs ?_ | (refine sxa hs hw ?_; clear hs hw; intro a b W hw hs) | (refine sxs hs hw ?_; clear hs hw; intro W hs hw))
  have hX : applyL d l = (if (goL l d).1 = 0 then (0, (goL l d).2) else ((goL l d).1, d)) := by
    unfold applyL
    rw [if_neg]
    have := of_decide_eq_false h0
    have := of_decide_eq_false h8
    omega
  rw [hX]
  clear hX h0 h8
  obtain ⟨b6, q6⟩ := nm1 hw; subst q6
  obtain ⟨b4, q4⟩ := nm2 hw; subst q4
  obtain ⟨b2, q2⟩ := nm3 hw; subst q2
  refine st_loop (σ := Nat × Dm × Value × Fh) (fun t => [(1, .slice sad l.length scap), (2, .pointer (some ⟨b2, 0, none⟩)), (4, .pointer (some ⟨b4, 0, none⟩)), (6, .pointer (some ⟨b6, 0, none⟩)), (7, .int .i64 (t.1 : Int))]) (fun t => Cells b6 [t.2.2.1] 32 :: Cells b4 [.slice none 0 0] 32 :: Cells b2 [.slice dad d.length dcap] 32 :: Fz t.2.2.2 :: R) (fun t => t.1 ≤ l.length ∧ H.le t.2.2.2 ∧ DocOk t.2.1 ∧ DocH t.2.2.2 t.2.2.1 t.2.1 ∧ goL (l.drop t.1) t.2.1 = goL l d) (fun t => l.length - t.1) (0, d, .slice dad d.length dcap, H) ⟨Nat.zero_le _, Fh.le.refl _, hd, r, rfl⟩ hs ⟨rfl, rfl, rfl, rfl, rfl, trivial⟩ hw ?_
  clear hs hw
  rintro ⟨j, dc, dw, H'⟩ a W ⟨hj, hH', hdc, hr, hgo⟩ hs hw
  simp only at hj hH' hdc hr hgo hs hw
  obtain ⟨wad, wcap, rfl⟩ := hr.slice
  repeat (first | (refine sxv hs hw ?_; clear hs; intro a hs) | refine sxc hs ?_ | (refine sxa hs hw ?_; clear hs hw; intro a b W hw hs) | (refine sxs hs hw ?_; clear hs hw; intro W hs hw))
  refine cd_split hs (kt := fun hcc => ?_) (kf := fun hcc => ?_)
  · have hj' : j < l.length := by simpa using hcc
    obtain ⟨o, hoi⟩ : ∃ o, l[j]? = some o := ⟨l[j], List.getElem?_eq_getElem hj'⟩
    have hok := ho o (List.mem_of_getElem? hoi)
    have hdrop : l.drop j = o :: l.drop (j + 1) := by
      rw [List.drop_eq_getElem_cons hj']
      congr 1
      rw [List.getElem?_eq_getElem hj'] at hoi
      exact Option.some.inj hoi
    rw [hdrop] at hgo
    simp only [goL] at hgo
    have rl' := rl.le hH'
    repeat (first | (refine sxv hs hw ?_; clear hs; intro a hs) | refine sxc hs ?_ | (refine sxa hs hw ?_; clear hs hw; intro a b W hw hs) | (refine sxs hs hw ?_; clear hs hw; intro W hs hw))
    refine st_index_op hs (r := hw.rdH (by repeat (first | exact In.hd | apply In.tl)) rl') (ho := hoi) (c := ?_); clear hs; intro a q off hpc hs
    refine st_load_ats (z := opCells ⟨0, ⟨#[]⟩, 0, 0, ⟨#[]⟩, 0, 0, ⟨#[]⟩, 0⟩) hs (hc := hpc) (hl := rfl) (c := ?_); clear hs; intro a hs
    clear hpc
    repeat (first | (refine sxv hs hw ?_; clear hs; intro a hs) | refine sxc hs ?_ | (refine sxa hs hw ?_; clear hs hw; intro a b W hw hs) | (refine sxs hs hw ?_; clear hs hw; intro W hs hw))
    obtain ⟨b8, q8⟩ := nm1 hw; subst q8
    have hw : Has 0 w0 _ (Cells b8 (opCells o) 95 :: Cells b6 [.slice wad dc.length wcap] 32 :: Cells b4 [.slice none 0 0] 32 :: Cells b2 [.slice dad d.length dcap] 32 :: Fz H' :: R) := hw
    have hM : ∀ W, Calls Tryz.prog 87 ⟨[.agg ⟨opCells o⟩]⟩ W fun e w' => e = .returned (.bool (mayD o)) ∧ Below W.heap.size W w' := fun W => ref_MayOp o.kind o.key o.vk o.vn o.vs o.ok o.on o.os o.n W hok.key hok.vs hok.os
    refine st_call hs (hc := hM _) (k := ?_); rintro e0 W1 ⟨rfl, hb⟩; refine ⟨_, rfl, ?_⟩; clear hs; intro a hs; replace hw := hw.below hb; clear hb
    repeat (first | (refine sxv hs hw ?_; clear hs; intro a hs) | refine sxc hs ?_ | (refine sxa hs hw ?_; clear hs hw; intro a b W hw hs) | (refine sxs hs hw ?_; clear hs hw; intro W hs hw))
    cases hm : mayD o with
    | false =>
      rw [hm] at hs hgo
      rw [if_pos rfl] at hgo
      repeat (first | (refine sxv hs hw ?_; clear hs; intro a hs) | refine sxc hs ?_ | (refine sxa hs hw ?_; clear hs hw; intro a b W hw hs) | (refine sxs hs hw ?_; clear hs hw; intro W hs hw))
      refine rc2 hs rfl rfl hw (In.tl (In.tl In.hd)) rfl rfl ?_
      rw [← hgo, if_neg (by show ¬ (1 : Int) = 0; decide)]
      exact ⟨.slice dad d.length dcap, H', rfl, hH', r.le hH', hw.sub (List.Sublist.cons _ (List.Sublist.cons _ (List.Sublist.cons _ (List.Sublist.cons _ (List.Sublist.refl _)))))⟩
    | true =>
    rw [hm] at hs hgo
    rw [if_neg (by decide)] at hgo
    obtain ⟨hmv, hmo⟩ := may_val hm
    repeat (first | (refine sxv hs hw ?_; clear hs; intro a hs) | refine sxc hs ?_ | (refine sxa hs hw ?_; clear hs hw; intro a b W hw hs) | (refine sxs hs hw ?_; clear hs hw; intro W hs hw))
    refine st_call hs (hc := ref_Get dc _ o.key _ (hw.rdH (by repeat (first | exact In.hd | apply In.tl)) hr)) (k := ?_); rintro e0 W1 ⟨rfl, hb⟩; refine ⟨_, rfl, ?_⟩; clear hs; intro a hs; replace hw := hw.below hb; clear hb
    have hnow := intIn_i64 hdc o.key
    repeat (first | (refine sxv hs hw ?_; clear hs; intro a hs) | refine sxn hs ?_ | (refine sxa hs hw ?_; clear hs hw; intro a b W hw hs) | (refine sxs hs hw ?_; clear hs hw; intro W hs hw))
    obtain ⟨b11, q11⟩ := nm1 hw; subst q11
    obtain ⟨b9, q9⟩ := nm2 hw; subst q9
    have hw : Has 0 w0 _ (Cells b11 [.int .i64 o.vk, .int .i64 o.vn, .string o.vs] 93 :: Cells b9 (rawCells (getK dc o.key)) 93 :: Cells b8 (opCells o) 95 :: Cells b6 [.slice wad dc.length wcap] 32 :: Cells b4 [.slice none 0 0] 32 :: Cells b2 [.slice dad d.length dcap] 32 :: Fz H' :: R) := hw
    rw [raw_of hmv] at hw
    obtain ⟨now, hn⟩ : ∃ x, getK dc o.key = x := ⟨_, rfl⟩
    rw [hn] at hs hw hnow
    refine sq ?_
    refine merge (M := fun a W => ∃ x : Option DV, doL dc o = setRL dc o.key x ∧ (∀ v, x = some v → PairOk (o.key, v)) ∧ Slots a 102 [(1, .slice sad l.length scap), (2, .pointer (some ⟨b2, 0, none⟩)), (4, .pointer (some ⟨b4, 0, none⟩)), (6, .pointer (some ⟨b6, 0, none⟩)), (7, .int .i64 (j : Int)), (8, .pointer (some ⟨b8, 0, none⟩)), (10, .bool now.isSome), (11, .pointer (some ⟨b11, 0, none⟩))] ∧ Has 0 w0 W (Cells b11 (rawCells x) 93 :: Cells b9 (rawCells now) 93 :: Cells b8 (opCells o) 95 :: Cells b6 [.slice wad dc.length wcap] 32 :: Cells b4 [.slice none 0 0] 32 :: Cells b2 [.slice dad d.length dcap] 32 :: Fz H' :: R)) ?_ ?_
    · repeat (first | (refine sxv hs hw ?_; clear hs; intro a hs) | refine sxc hs ?_ | (refine sxa hs hw ?_; clear hs hw; intro a b W hw hs) | (refine sxs hs hw ?_; clear hs hw; intro W hs hw))
      by_cases k3 : o.kind = 3
      · have e3 : (o.kind == 3) = true := by simpa using k3
        rw [e3] at hs
        repeat (first | (refine sxv hs hw ?_; clear hs; intro a hs) | refine sxc hs ?_ | (refine sxa hs hw ?_; clear hs hw; intro a b W hw hs) | (refine sxs hs hw ?_; clear hs hw; intro W hs hw))
        have hE : ∀ W, Calls Tryz.prog 84 ⟨[.agg ⟨rawCells now⟩, .agg ⟨[.int .i64 o.ok, .int .i64 o.on, .string o.os]⟩]⟩ W fun e w' => e = .returned (.bool (rawEq (kindOf now) (intIn now) (textIn now) o.ok o.on o.os)) ∧ Below W.heap.size W w' := fun W => ref_EqS _ _ _ _ _ _ W
        refine st_call hs (hc := hE _) (k := ?_); rintro e0 W1 ⟨rfl, hb⟩; refine ⟨_, rfl, ?_⟩; clear hs; intro a hs; replace hw := hw.below hb; clear hb
        rw [eqV_raw hmo] at hs
        have hD : doL dc o = (if eqV now (ofRaw o.ok o.on o.os).1 then setRL dc o.key (ofRaw o.vk o.vn o.vs).1 else (8, dc)) := by unfold doL; rw [if_pos k3, hn]
        repeat (first | (refine sxv hs hw ?_; clear hs; intro a hs) | refine sxc hs ?_ | (refine sxa hs hw ?_; clear hs hw; intro a b W hw hs) | (refine sxs hs hw ?_; clear hs hw; intro W hs hw))
        cases he : eqV now (ofRaw o.ok o.on o.os).1 with
        | false =>
          rw [he] at hs hD
          rw [if_neg (by decide)] at hD
          rw [hD, if_neg (by show ¬ (8 : Int) = 0; decide)] at hgo
          repeat (first | (refine sxv hs hw ?_; clear hs; intro a hs) | refine sxc hs ?_ | (refine sxa hs hw ?_; clear hs hw; intro a b W hw hs) | (refine sxs hs hw ?_; clear hs hw; intro W hs hw))
          refine rc2 hs rfl rfl hw (In.tl (In.tl (In.tl (In.tl In.hd)))) rfl rfl ?_
          rw [← hgo, if_neg (by show ¬ (8 : Int) = 0; decide)]
          exact ⟨.slice dad d.length dcap, H', rfl, hH', r.le hH', hw.sub (List.Sublist.cons _ (List.Sublist.cons _ (List.Sublist.cons _ (List.Sublist.cons _ (List.Sublist.cons _ (List.Sublist.cons _ (List.Sublist.refl _)))))))⟩
        | true =>
          rw [he] at hs hD
          rw [if_pos rfl] at hD
          repeat (first | (refine sxv hs hw ?_; clear hs; intro a hs) | refine sxc hs ?_ | (refine sxa hs hw ?_; clear hs hw; intro a b W hw hs) | (refine sxs hs hw ?_; clear hs hw; intro W hs hw))
          exact ⟨_, hD, ofRaw_pair hok.key hok.vn, hs.of ⟨rfl, rfl, rfl, rfl, rfl, rfl, rfl, rfl, trivial⟩, hw⟩
      · have e3 : (o.kind == 3) = false := by simpa using k3
        rw [e3] at hs
        repeat (first | (refine sxv hs hw ?_; clear hs; intro a hs) | refine sxc hs ?_ | (refine sxa hs hw ?_; clear hs hw; intro a b W hw hs) | (refine sxs hs hw ?_; clear hs hw; intro W hs hw))
        by_cases k4 : o.kind = 4
        · have e4 : (o.kind == 4) = true := by simpa using k4
          rw [e4] at hs
          have hD : doL dc o = (if (kindOf now != 0 && !isInt now) = true then (7, dc) else if (!inB (intIn now) || !inB (IntKind.i64.wrap (intIn now + o.n))) = true then (4, dc) else setRL dc o.key (some (.inl (IntKind.i64.wrap (intIn now + o.n))))) := by unfold doL; rw [if_neg k3, if_pos k4, hn]
          rw [← kind_ne_int] at hD
          repeat (first | (refine sxv hs hw ?_; clear hs; intro a hs) | refine sxn hs ?_ | (refine sxa hs hw ?_; clear hs hw; intro a b W hw hs) | (refine sxs hs hw ?_; clear hs hw; intro W hs hw))
          refine sq ?_
          refine merge (M := fun a W => (now.isSome && (kindOf now != 1)) = false ∧ Slots a 102 [(1, .slice sad l.length scap), (2, .pointer (some ⟨b2, 0, none⟩)), (4, .pointer (some ⟨b4, 0, none⟩)), (6, .pointer (some ⟨b6, 0, none⟩)), (7, .int .i64 (j : Int)), (8, .pointer (some ⟨b8, 0, none⟩)), (9, .pointer (some ⟨b9, 0, none⟩)), (10, .bool now.isSome), (11, .pointer (some ⟨b11, 0, none⟩))] ∧ Has 0 w0 W (Cells b11 (rawCells (ofRaw o.vk o.vn o.vs).1) 93 :: Cells b9 (rawCells now) 93 :: Cells b8 (opCells o) 95 :: Cells b6 [.slice wad dc.length wcap] 32 :: Cells b4 [.slice none 0 0] 32 :: Cells b2 [.slice dad d.length dcap] 32 :: Fz H' :: R)) ?_ ?_
          · cases hsm : now.isSome with
            | false =>
              rw [hsm] at hs
              repeat (first | (refine sxv hs hw ?_; clear hs; intro a hs) | refine sxc hs ?_ | (refine sxa hs hw ?_; clear hs hw; intro a b W hw hs) | (refine sxs hs hw ?_; clear hs hw; intro W hs hw))
              exact ⟨rfl, hs.of ⟨rfl, rfl, rfl, rfl, rfl, rfl, rfl, rfl, rfl, trivial⟩, hw⟩
            | true =>
              rw [hsm] at hs
              repeat (first | (refine sxv hs hw ?_; clear hs; intro a hs) | refine sxc hs ?_ | (refine sxa hs hw ?_; clear hs hw; intro a b W hw hs) | (refine sxs hs hw ?_; clear hs hw; intro W hs hw))
              cases hk1 : (kindOf now != 1) with
              | false =>
                rw [hk1] at hs
                repeat (first | (refine sxv hs hw ?_; clear hs; intro a hs) | refine sxc hs ?_ | (refine sxa hs hw ?_; clear hs hw; intro a b W hw hs) | (refine sxs hs hw ?_; clear hs hw; intro W hs hw))
                exact ⟨rfl, hs.of ⟨rfl, rfl, rfl, rfl, rfl, rfl, rfl, rfl, rfl, trivial⟩, hw⟩
              | true =>
                rw [hk1] at hs
                rw [hsm, hk1, if_pos (by decide)] at hD
                rw [hD, if_neg (by show ¬ (7 : Int) = 0; decide)] at hgo
                repeat (first | (refine sxv hs hw ?_; clear hs; intro a hs) | refine sxc hs ?_ | (refine sxa hs hw ?_; clear hs hw; intro a b W hw hs) | (refine sxs hs hw ?_; clear hs hw; intro W hs hw))
                refine rc2 hs rfl rfl hw (In.tl (In.tl (In.tl (In.tl In.hd)))) rfl rfl ?_
                rw [← hgo, if_neg (by show ¬ (7 : Int) = 0; decide)]
                exact ⟨.slice dad d.length dcap, H', rfl, hH', r.le hH', hw.sub (List.Sublist.cons _ (List.Sublist.cons _ (List.Sublist.cons _ (List.Sublist.cons _ (List.Sublist.cons _ (List.Sublist.cons _ (List.Sublist.refl _)))))))⟩
          clear hs hw
          rintro a W ⟨h7, hs, hw⟩
          rw [h7, if_neg (by decide)] at hD
          repeat (first | (refine sxv hs hw ?_; clear hs; intro a hs) | refine sxc hs ?_ | (refine sxa hs hw ?_; clear hs hw; intro a b W hw hs) | (refine sxs hs hw ?_; clear hs hw; intro W hs hw))
          refine st_call hs (hc := ref_far (intIn now) _) (k := ?_); rintro e0 W1 ⟨rfl, hb⟩; refine ⟨_, rfl, ?_⟩; clear hs; intro a hs; replace hw := hw.below hb; clear hb
          have hout : (!inB (intIn now) || !inB (IntKind.i64.wrap (intIn now + o.n))) = true → doL dc o = (4, dc) := fun h => by rw [hD, if_pos h]
          cases hf1 : inB (intIn now) with
          | false =>
            rw [hf1] at hs
            have hD := hout (by rw [hf1]; rfl)
            rw [hD, if_neg (by show ¬ (4 : Int) = 0; decide)] at hgo
            repeat (first | (refine sxv hs hw ?_; clear hs; intro a hs) | refine sxc hs ?_ | (refine sxa hs hw ?_; clear hs hw; intro a b W hw hs) | (refine sxs hs hw ?_; clear hs hw; intro W hs hw))
            refine rc2 hs rfl rfl hw (In.tl (In.tl (In.tl (In.tl In.hd)))) rfl rfl ?_
            rw [← hgo, if_neg (by show ¬ (4 : Int) = 0; decide)]
            exact ⟨.slice dad d.length dcap, H', rfl, hH', r.le hH', hw.sub (List.Sublist.cons _ (List.Sublist.cons _ (List.Sublist.cons _ (List.Sublist.cons _ (List.Sublist.cons _ (List.Sublist.cons _ (List.Sublist.refl _)))))))⟩
          | true =>
          rw [hf1] at hs
          repeat (first | (refine sxv hs hw ?_; clear hs; intro a hs) | refine sxc hs ?_ | (refine sxa hs hw ?_; clear hs hw; intro a b W hw hs) | (refine sxs hs hw ?_; clear hs hw; intro W hs hw))
          refine st_call hs (hc := ref_far (IntKind.i64.wrap (intIn now + o.n)) _) (k := ?_); rintro e0 W1 ⟨rfl, hb⟩; refine ⟨_, rfl, ?_⟩; clear hs; intro a hs; replace hw := hw.below hb; clear hb
          repeat (first | (refine sxv hs hw ?_; clear hs; intro a hs) | refine sxc hs ?_ | (refine sxa hs hw ?_; clear hs hw; intro a b W hw hs) | (refine sxs hs hw ?_; clear hs hw; intro W hs hw))
          cases hf2 : inB (IntKind.i64.wrap (intIn now + o.n)) with
          | false =>
            rw [hf2] at hs
            have hD := hout (by rw [hf2, Bool.or_comm]; rfl)
            rw [hD, if_neg (by show ¬ (4 : Int) = 0; decide)] at hgo
            repeat (first | (refine sxv hs hw ?_; clear hs; intro a hs) | refine sxc hs ?_ | (refine sxa hs hw ?_; clear hs hw; intro a b W hw hs) | (refine sxs hs hw ?_; clear hs hw; intro W hs hw))
            refine rc2 hs rfl rfl hw (In.tl (In.tl (In.tl (In.tl In.hd)))) rfl rfl ?_
            rw [← hgo, if_neg (by show ¬ (4 : Int) = 0; decide)]
            exact ⟨.slice dad d.length dcap, H', rfl, hH', r.le hH', hw.sub (List.Sublist.cons _ (List.Sublist.cons _ (List.Sublist.cons _ (List.Sublist.cons _ (List.Sublist.cons _ (List.Sublist.cons _ (List.Sublist.refl _)))))))⟩
          | true =>
          rw [hf2] at hs
          rw [hf1, hf2, if_neg (by decide)] at hD
          repeat (first | (refine sxv hs hw ?_; clear hs; intro a hs) | refine sxc hs ?_ | (refine sxa hs hw ?_; clear hs hw; intro a b W hw hs) | (refine sxs hs hw ?_; clear hs hw; intro W hs hw))
          exact ⟨some (.inl (IntKind.i64.wrap (intIn now + o.n))), hD, (fun v hv => by cases hv; exact ⟨hok.key, (fun n hn => by cases hn; exact wrap_i64 _), (fun s hs => by cases hs)⟩), hs.of ⟨rfl, rfl, rfl, rfl, rfl, rfl, rfl, rfl, trivial⟩, hw⟩
        · have e4 : (o.kind == 4) = false := by simpa using k4
          rw [e4] at hs
          have hD : doL dc o = setRL dc o.key (ofRaw o.vk o.vn o.vs).1 := by unfold doL; rw [if_neg k3, if_neg k4]
          repeat (first | (refine sxv hs hw ?_; clear hs; intro a hs) | refine sxc hs ?_ | (refine sxa hs hw ?_; clear hs hw; intro a b W hw hs) | (refine sxs hs hw ?_; clear hs hw; intro W hs hw))
          exact ⟨_, hD, ofRaw_pair hok.key hok.vn, hs.of ⟨rfl, rfl, rfl, rfl, rfl, rfl, rfl, rfl, trivial⟩, hw⟩
    · clear hs hw
      rintro a W ⟨x, hD, hxo, hs, hw⟩
      rw [hD] at hgo
      have hsl : ∀ v, x = some v → setRL dc o.key x = if now.isSome = false ∧ 50 ≤ dc.length then (6, dc) else (0, setL dc o.key v) := fun v hv => by rw [hv]; unfold setRL; simp only; rw [hn]
      refine sq ?_
      refine merge (M := fun a W => setRL dc o.key x = (0, setX dc o.key x) ∧ Slots a 102 [(1, .slice sad l.length scap), (2, .pointer (some ⟨b2, 0, none⟩)), (4, .pointer (some ⟨b4, 0, none⟩)), (6, .pointer (some ⟨b6, 0, none⟩)), (7, .int .i64 (j : Int)), (8, .pointer (some ⟨b8, 0, none⟩)), (10, .bool now.isSome), (11, .pointer (some ⟨b11, 0, none⟩))] ∧ Has 0 w0 W (Cells b11 (rawCells x) 93 :: Cells b9 (rawCells now) 93 :: Cells b8 (opCells o) 95 :: Cells b6 [.slice wad dc.length wcap] 32 :: Cells b4 [.slice none 0 0] 32 :: Cells b2 [.slice dad d.length dcap] 32 :: Fz H' :: R)) ?_ ?_
      · cases x with
        | none =>
          repeat (first | (refine sxv hs hw ?_; clear hs; intro a hs) | refine sxc hs ?_ | (refine sxa hs hw ?_; clear hs hw; intro a b W hw hs) | (refine sxs hs hw ?_; clear hs hw; intro W hs hw))
          exact ⟨rfl, hs.of ⟨rfl, rfl, rfl, rfl, rfl, rfl, rfl, rfl, trivial⟩, hw⟩
        | some v =>
          have hsl := hsl v rfl
          repeat (first | (refine sxv hs hw ?_; clear hs; intro a hs) | refine sxc hs ?_ | (refine sxa hs hw ?_; clear hs hw; intro a b W hw hs) | (refine sxs hs hw ?_; clear hs hw; intro W hs hw))
          rw [show (kindOf (some v) != 0) = true from kind_some (some v)] at hs
          repeat (first | (refine sxv hs hw ?_; clear hs; intro a hs) | refine sxc hs ?_ | (refine sxa hs hw ?_; clear hs hw; intro a b W hw hs) | (refine sxs hs hw ?_; clear hs hw; intro W hs hw))
          cases hsm : now.isSome with
          | true =>
            rw [hsm] at hs hsl
            repeat (first | (refine sxv hs hw ?_; clear hs; intro a hs) | refine sxc hs ?_ | (refine sxa hs hw ?_; clear hs hw; intro a b W hw hs) | (refine sxs hs hw ?_; clear hs hw; intro W hs hw))
            rw [if_neg (fun h => by cases h.1)] at hsl
            exact ⟨hsl, hs.of ⟨rfl, rfl, rfl, rfl, rfl, rfl, rfl, rfl, trivial⟩, hw⟩
          | false =>
            rw [hsm] at hs hsl
            repeat (first | (refine sxv hs hw ?_; clear hs; intro a hs) | refine sxc hs ?_ | (refine sxa hs hw ?_; clear hs hw; intro a b W hw hs) | (refine sxs hs hw ?_; clear hs hw; intro W hs hw))
            cases h50 : decide ((dc.length : Int) ≥ 50) with
            | false =>
              rw [h50] at hs
              rw [if_neg (fun h => by have := of_decide_eq_false h50; omega)] at hsl
              repeat (first | (refine sxv hs hw ?_; clear hs; intro a hs) | refine sxc hs ?_ | (refine sxa hs hw ?_; clear hs hw; intro a b W hw hs) | (refine sxs hs hw ?_; clear hs hw; intro W hs hw))
              exact ⟨hsl, hs.of ⟨rfl, rfl, rfl, rfl, rfl, rfl, rfl, rfl, trivial⟩, hw⟩
            | true =>
              rw [h50] at hs
              rw [if_pos ⟨rfl, by have := of_decide_eq_true h50; omega⟩] at hsl
              rw [hsl, if_neg (by show ¬ (6 : Int) = 0; decide)] at hgo
              repeat (first | (refine sxv hs hw ?_; clear hs; intro a hs) | refine sxc hs ?_ | (refine sxa hs hw ?_; clear hs hw; intro a b W hw hs) | (refine sxs hs hw ?_; clear hs hw; intro W hs hw))
              refine rc2 hs rfl rfl hw (In.tl (In.tl (In.tl (In.tl In.hd)))) rfl rfl ?_
              rw [← hgo, if_neg (by show ¬ (6 : Int) = 0; decide)]
              exact ⟨.slice dad d.length dcap, H', rfl, hH', r.le hH', hw.sub (List.Sublist.cons _ (List.Sublist.cons _ (List.Sublist.cons _ (List.Sublist.cons _ (List.Sublist.cons _ (List.Sublist.cons _ (List.Sublist.refl _)))))))⟩
      · clear hs hw hsl
        rintro a W ⟨hsl, hs, hw⟩
        have hdn := setRL_ok hdc (k := o.key) (x := x) hxo
        rw [hsl] at hgo hdn
        rw [if_pos rfl] at hgo
        repeat (first | (refine sxv hs hw ?_; clear hs; intro a hs) | refine sxc hs ?_ | (refine sxa hs hw ?_; clear hs hw; intro a b W hw hs) | (refine sxs hs hw ?_; clear hs hw; intro W hs hw))
        have hw : Has 0 w0 W (Fz H' :: Cells b6 [.slice wad dc.length wcap] 32 :: Cells b4 [.slice none 0 0] 32 :: Cells b2 [.slice dad d.length dcap] 32 :: Cells b11 (rawCells x) 93 :: Cells b9 (rawCells now) 93 :: Cells b8 (opCells o) 95 :: R) := hw.perm (by repeat (first | exact List.Perm.refl _ | refine perm_pick (by repeat (first | exact Pick.hd | apply Pick.tl)) ?_))
        have hlen2 := hdc.len
        refine st_call hs (hc := ref_set w0 _ H' dc _ o.key x _ hok.key (fun p hp => (hdc.all p hp).key) (by omega) hr hw) (k := ?_); rintro e0 W1 ⟨nv, H2, rfl, hle, hnd, hw1⟩; refine ⟨_, rfl, ?_⟩; clear hs hw; intro a hs; have hw := hw1; clear hw1
        obtain ⟨nad, ncap, rfl⟩ := hnd.slice
        repeat (first | (refine sxv hs hw ?_; clear hs; intro a hs) | refine sxc hs ?_ | (refine sxa hs hw ?_; clear hs hw; intro a b W hw hs) | (refine sxs hs hw ?_; clear hs hw; intro W hs hw))
        have hw : Has 0 w0 _ (Cells b6 [.slice nad (setX dc o.key x).length ncap] 32 :: Cells b4 [.slice none 0 0] 32 :: Cells b2 [.slice dad d.length dcap] 32 :: Fz H2 :: Cells b11 (rawCells x) 93 :: Cells b9 (rawCells now) 93 :: Cells b8 (opCells o) 95 :: R) := hw.perm (by repeat (first | exact List.Perm.refl _ | refine perm_pick (by repeat (first | exact Pick.hd | apply Pick.tl)) ?_))
        have hw := hw.sub (L' := Cells b6 [.slice nad (setX dc o.key x).length ncap] 32 :: Cells b4 [.slice none 0 0] 32 :: Cells b2 [.slice dad d.length dcap] 32 :: Fz H2 :: R) (List.Sublist.cons_cons _ (List.Sublist.cons_cons _ (List.Sublist.cons_cons _ (List.Sublist.cons_cons _ (List.Sublist.cons _ (List.Sublist.cons _ (List.Sublist.cons _ (List.Sublist.refl _))))))))
        exact st_again (j + 1, setX dc o.key x, .slice nad (setX dc o.key x).length ncap, H2) hs hw ⟨hj', hH'.trans hle, hdn, hnd, hgo⟩ (by show l.length - (j + 1) < l.length - j; omega) ⟨rfl, rfl, rfl, rfl, int_eq (by show IntKind.i64.wrap ((j : Int) + 1) = ((j + 1 : Nat) : Int); rw [IntWalk.i64_in _ (by omega)]; omega), trivial⟩
  · have hj' : j = l.length := by have : ¬ j < l.length := by simpa using hcc
                                  omega
    subst hj'
    rw [List.drop_length] at hgo
    repeat (first | (refine sxv hs hw ?_; clear hs; intro a hs) | refine sxc hs ?_ | (refine sxa hs hw ?_; clear hs hw; intro a b W hw hs) | (refine sxs hs hw ?_; clear hs hw; intro W hs hw))
    refine rc2 hs rfl rfl hw (In.tl In.hd) rfl rfl ?_
    rw [← hgo]
    exact ⟨_, H', rfl, hH', hr, hw.sub (List.Sublist.cons _ (List.Sublist.cons _ (List.Sublist.cons _ (List.Sublist.refl _))))⟩
end Go.Proofs.YtmalklakaalaoaaGreatDoor.Sw

set_option linter.unusedVariables false
set_option maxRecDepth 10000
namespace Go.Proofs.YtmalklakaalaoaaGreatDoor.Sw
open Go.RowKit Go.Sx
-- pieces
instance arTold : Ar Tryz.prog 124 6 123 := ⟨by kernel_rfl⟩
theorem ops_one (l : List OpD) : ∀ u ∈ l.flatMap opCells, u.oneCell' = true := by
  intro u hu
  obtain ⟨o, _, ho⟩ := List.mem_flatMap.1 hu
  simp only [opCells, List.mem_cons, List.not_mem_nil, or_false] at ho
  rcases ho with rfl | rfl | rfl | rfl | rfl | rfl | rfl | rfl | rfl <;> rfl
set_option maxHeartbeats 4000000 in
theorem clone_ops (w0 W : World) (H : Fh) (l : List OpD) (sv : Value) (R : List Res) (hl : l.length ≤ 1000) (r : RdH H 9 sv l.length (l.flatMap opCells)) (hw : Has 0 w0 W (Fz H :: R)) :
    Calls Tryz.prog 82 ⟨[sv]⟩ W fun e W' => ∃ sv' H', e = .returned sv' ∧ H.le H' ∧ RdH H' 9 sv' l.length (l.flatMap opCells) ∧ Has 0 w0 W' (Fz H' :: R) := by
  obtain ⟨sad, scap, rfl⟩ := r.slice
  refine enter Tryz.func82 Tryz.ntmps82 rfl rfl fun a hs => ?_
  repeat (first | (refine sxv hs hw ?_; clear hs; intro a hs) | refine sxc hs ?_ | (refine sxa hs hw ?_; clear hs hw; intro a b W hw hs) | (refine sxs hs hw ?_; clear hs hw; intro W hs hw))
  refine st_eqnil hs (c := ?_); clear hs; intro a hs
  cases sad with
  | none =>
    repeat (first | (refine sxv hs hw ?_; clear hs; intro a hs) | refine sxc hs ?_ | (refine sxa hs hw ?_; clear hs hw; intro a b W hw hs) | (refine sxs hs hw ?_; clear hs hw; intro W hs hw))
    have h0 : l = [] := by
      obtain ⟨_, ad, cap, e, _, _, h | ⟨b, o, cs, T, z, h, _⟩⟩ := r
      · exact List.eq_nil_of_length_eq_zero h
      · injection e with e1 _ _
        rw [← e1] at h; cases h
    subst h0
    exact rt1 hs rfl rfl ⟨_, H, rfl, Fh.le.refl _, RdH.nil H 9 0 (by omega), hw⟩
  | some A =>
    rw [show (some A).isNone = false from rfl] at hs
    repeat (first | (refine sxv hs hw ?_; clear hs; intro a hs) | refine sxc hs ?_ | (refine sxa hs hw ?_; clear hs hw; intro a b W hw hs) | (refine sxs hs hw ?_; clear hs hw; intro W hs hw))
    refine st_buildSlice0 hs hw (c := ?_); clear hs hw; intro a ad W hw hs
    repeat (first | (refine sxv hs hw ?_; clear hs; intro a hs) | refine sxc hs ?_ | (refine sxa hs hw ?_; clear hs hw; intro a b W hw hs) | (refine sxs hs hw ?_; clear hs hw; intro W hs hw))
    refine st_append hs (hw := hw) (k := 0) (m := l.length) (xs := []) (news := l.flatMap opCells) (hsrc := src_rd (hw.rdH (In.tl In.hd) r) (ops_one l)) (h63 := by omega) (hb := by omega) (c := ?_)
    clear hs hw; intro a ad2 cap2 W hs hw
    repeat (first | (refine sxv hs hw ?_; clear hs; intro a hs) | refine sxc hs ?_ | (refine sxa hs hw ?_; clear hs hw; intro a b W hw hs) | (refine sxs hs hw ?_; clear hs hw; intro W hs hw))
    rw [List.nil_append, Nat.zero_add] at hw
    rw [Nat.zero_add] at hs
    obtain ⟨H', h1, h2, h3⟩ := hw.freeze_own
    exact rt1 hs rfl rfl ⟨_, H', rfl, h1, h3, h2⟩
structure BatchD where
  c : Int
  q : Int
  l : List OpD
structure RowD where
  place : Int
  b : BatchD
  err : Int
def batCells (b : BatchD) (sv : Value) : List Value := [.int .i64 b.c, .int .i64 b.q, sv]
def rowCells (r : RowD) (sv : Value) : List Value := [.int .i64 r.place, .int .i64 r.b.c, .int .i64 r.b.q, sv, .int .i64 r.err]
def BatIn (H : Fh) (b : BatchD) (cs : List Value) : Prop := ∃ sv, cs = batCells b sv ∧ OpsH H sv b.l
def RowIn (H : Fh) (r : RowD) (cs : List Value) : Prop := ∃ sv, cs = rowCells r sv ∧ OpsH H sv r.b.l
def TolIn (H : Fh) (x : Int × RowD) (cs : List Value) : Prop := ∃ sv, cs = .int .i64 x.1 :: rowCells x.2 sv ∧ OpsH H sv x.2.b.l
structure BatOk (b : BatchD) : Prop where
  c : i64 b.c
  q : i64 b.q
  ops : ∀ o ∈ b.l, OpOk o
def mayB (b : BatchD) : Bool := mayBatch b.c b.q b.l
def zeroRow : RowD := ⟨0, ⟨0, 0, []⟩, 0⟩
abbrev zrc : List Value := [.int .i64 0, .int .i64 0, .int .i64 0, .slice none 0 0, .int .i64 0]
theorem BatIn.len {H : Fh} : ∀ (b : BatchD) (c : List Value), BatIn H b c → c.length = 3 := by rintro b c ⟨sv, rfl, _⟩; rfl
theorem RowIn.len {H : Fh} : ∀ (b : RowD) (c : List Value), RowIn H b c → c.length = 5 := by rintro b c ⟨sv, rfl, _⟩; rfl
theorem TolIn.len {H : Fh} : ∀ (b : Int × RowD) (c : List Value), TolIn H b c → c.length = 6 := by rintro b c ⟨sv, rfl, _⟩; rfl
theorem BatIn.le {H H' : Fh} (h : H.le H') : ∀ (b : BatchD) (c : List Value), BatIn H b c → BatIn H' b c := by rintro b c ⟨sv, rfl, h1⟩; exact ⟨sv, rfl, h1.le h⟩
theorem RowIn.le {H H' : Fh} (h : H.le H') : ∀ (b : RowD) (c : List Value), RowIn H b c → RowIn H' b c := by rintro b c ⟨sv, rfl, h1⟩; exact ⟨sv, rfl, h1.le h⟩
theorem TolIn.le {H H' : Fh} (h : H.le H') : ∀ (b : Int × RowD) (c : List Value), TolIn H b c → TolIn H' b c := by rintro b c ⟨sv, rfl, h1⟩; exact ⟨sv, rfl, h1.le h⟩
theorem RowIn.ones {H : Fh} : ∀ (b : RowD) (c : List Value), RowIn H b c → ∀ v ∈ c, v.oneCell' = true := by
  rintro b c ⟨sv, rfl, h⟩ v hv
  obtain ⟨ad, cap, rfl⟩ := h.slice
  simp only [rowCells, List.mem_cons, List.not_mem_nil, or_false] at hv
  rcases hv with rfl | rfl | rfl | rfl | rfl <;> rfl
theorem TolIn.ones {H : Fh} : ∀ (b : Int × RowD) (c : List Value), TolIn H b c → ∀ v ∈ c, v.oneCell' = true := by
  rintro b c ⟨sv, rfl, h⟩ v hv
  rcases List.mem_cons.1 hv with rfl | hv
  · rfl
  · exact RowIn.ones b.2 _ ⟨sv, rfl, h⟩ v hv
theorem ops_nil (H : Fh) : OpsH H (.slice none 0 0) [] := RdH.nil H 9 0 (by omega)
structure FoldD where
  place : Int
  d : Dm
  told : List (Int × RowD)
def foldCells (pl : Int) (pd : Nat) (xs : List Value) : List Value := .int .i64 pl :: .pointer (some ⟨pd, 0, none⟩) :: xs
def ToldOk (H : Fh) (told : List (Int × RowD)) (xs : List Value) : Prop := told.length = 6 ∧ Ch (TolIn H) told xs
def FoldAt (H : Fh) (p : Nat) (f : FoldD) : Res := Ex fun x : Nat × List Value => Cells p (foldCells f.place x.1 x.2) 126 :: DocAt x.1 f.d :: Fact (ToldOk H f.told x.2) :: []
section
variable {G p pd : Nat} {w W : World} {R : List Res} {f : FoldD} {H H' : Fh} {xs : List Value}
theorem foldShut (h : Has G w W (Cells p (foldCells f.place pd xs) 126 :: DocAt pd f.d :: R)) (ht : ToldOk H f.told xs) : Has G w W (FoldAt H p f :: R) :=
  Has.shut (pd, xs) ((h.fact ht).perm ((List.Perm.swap _ _ _).trans (List.Perm.cons _ (List.Perm.swap _ _ _))))
theorem foldOpen (h : Has G w W (FoldAt H p f :: R)) : ∃ pd xs, ToldOk H f.told xs ∧ Has G w W (Cells p (foldCells f.place pd xs) 126 :: DocAt pd f.d :: R) := by
  obtain ⟨⟨pd, xs⟩, h⟩ := Has.open h
  have h : Has G w W (Cells p (foldCells f.place pd xs) 126 :: DocAt pd f.d :: Fact (ToldOk H f.told xs) :: R) := h
  exact ⟨pd, xs, h.told (In.tl (In.tl In.hd)), h.sub (List.Sublist.cons_cons _ (List.Sublist.cons_cons _ (List.Sublist.cons _ (List.Sublist.refl _))))⟩
theorem foldLe (h : Has G w W (FoldAt H p f :: R)) (hl : H.le H') : Has G w W (FoldAt H' p f :: R) := by -- 126
  obtain ⟨pd, xs, ⟨h1, h2⟩, h3⟩ := foldOpen h
  exact foldShut h3 ⟨h1, h2.mono (TolIn.le hl)⟩
end
theorem told_len {H : Fh} {told : List (Int × RowD)} {xs : List Value} (h : ToldOk H told xs) : xs.length = 36 := by
  have := h.2.length TolIn.len
  rw [h.1] at this
  omega
theorem told_get {H : Fh} {told : List (Int × RowD)} {xs : List Value} (h : ToldOk H told xs) {c : Nat} {x : Int × RowD} (hx : told[c]? = some x) : ∃ sv, OpsH H sv x.2.b.l ∧ cut xs (c * 6) 6 = .int .i64 x.1 :: rowCells x.2 sv := by
  obtain ⟨cs, ⟨sv, rfl, h1⟩, h2, h3⟩ := h.2.get TolIn.len hx
  exact ⟨sv, h1, h3⟩
theorem told_set {H : Fh} {told : List (Int × RowD)} {xs : List Value} (h : ToldOk H told xs) {c : Nat} (hc : c < 6) {x : Int × RowD} {sv : Value} (hx : OpsH H sv x.2.b.l) : ToldOk H (told.set c x) (ov xs (c * 6) (.int .i64 x.1 :: rowCells x.2 sv)) :=
  ⟨by rw [List.length_set]; exact h.1, h.2.set TolIn.len (by rw [h.1]; exact hc) ⟨sv, rfl, hx⟩⟩
theorem fold_len {H : Fh} {told : List (Int × RowD)} {xs : List Value} (pl : Int) (pd : Nat) (h : ToldOk H told xs) : (foldCells pl pd xs).length = 38 := by
  have := told_len h
  simp [foldCells, this]
theorem fold_one {H : Fh} {told : List (Int × RowD)} {xs : List Value} (pl : Int) (pd : Nat) (h : ToldOk H told xs) : (foldCells pl pd xs).all (·.oneCell') = true := by
  rw [List.all_eq_true]
  intro v hv
  simp only [foldCells, List.mem_cons] at hv
  rcases hv with rfl | rfl | hv
  · rfl
  · rfl
  · exact h.2.ones TolIn.ones v hv
abbrev ztold : List Value := [.int .i64 0, .int .i64 0, .int .i64 0, .int .i64 0, .slice none 0 0, .int .i64 0]
theorem told_zero (H : Fh) : ToldOk H (List.replicate 6 (0, zeroRow)) (ztold ++ (ztold ++ (ztold ++ (ztold ++ (ztold ++ (ztold ++ [])))))) := by
  have z : TolIn H (0, zeroRow) ztold := ⟨_, rfl, ops_nil H⟩
  exact ⟨rfl, _, _, rfl, z, _, _, rfl, z, _, _, rfl, z, _, _, rfl, z, _, _, rfl, z, _, _, rfl, z, rfl⟩
def emptyF : FoldD := ⟨0, [], List.replicate 6 (0, zeroRow)⟩
theorem cut_all (cs : List Value) (n : Nat) (h : cs.length = n) : cut cs 0 n = cs := by
  rw [cut_eq, List.drop_zero, List.take_of_length_le (by omega)]
theorem ov_all (cs vs : List Value) (h : vs.length = cs.length) : ov cs 0 vs = vs := by
  rw [ov_eq _ _ _ (by omega), List.take_zero, List.nil_append, Nat.zero_add, h, List.drop_length, List.append_nil]
set_option maxHeartbeats 4000000 in
theorem fold_New (w0 W : World) (H : Fh) (R : List Res) (hw : Has 0 w0 W R) :
    Calls Tryz.prog 35 ⟨[]⟩ W fun e W' => ∃ p, e = .returned (.pointer (some ⟨p, 0, none⟩)) ∧ Has 0 w0 W' (FoldAt H p emptyF :: R) := by
  refine enter Tryz.func35 Tryz.ntmps35 rfl rfl fun a hs => ?_
  repeat (first | (refine sxv hs hw ?_; clear hs; intro a hs) | refine sxc hs ?_ | (refine sxa hs hw ?_; clear hs hw; intro a b W hw hs) | (refine sxs hs hw ?_; clear hs hw; intro W hs hw))
  refine st_call hs (hc := doc_New w0 _ _ hw) (k := ?_); rintro e0 W1 ⟨c, rfl, hw1⟩; refine ⟨_, rfl, ?_⟩; clear hs hw; intro a hs; have hw := hw1; clear hw1
  repeat (first | (refine sxv hs hw ?_; clear hs; intro a hs) | refine sxc hs ?_ | (refine sxa hs hw ?_; clear hs hw; intro a b W hw hs) | (refine sxs hs hw ?_; clear hs hw; intro W hs hw))
  refine rt1 hs rfl rfl ⟨_, rfl, ?_⟩
  exact foldShut (H := H) (f := emptyF) (pd := c) (xs := ztold ++ (ztold ++ (ztold ++ (ztold ++ (ztold ++ (ztold ++ [])))))) (by with_unfolding_all exact hw) (told_zero H)
def lastOf (f : FoldD) (c : Int) : Int := if 1 ≤ c ∧ c ≤ 5 then ((f.told[c.toNat]?).map (·.1)).getD 0 else 0
set_option maxHeartbeats 4000000 in
theorem fold_may (c : Int) (W : World) : Calls Tryz.prog 80 ⟨[.int .i64 c]⟩ W fun e W' => e = .returned (.bool (decide (1 ≤ c ∧ c ≤ 5))) ∧ Below W.heap.size W W' := by
  have hw := Has.start (G := 0) (w := W) (Nat.zero_le _)
  refine enter Tryz.func80 Tryz.ntmps80 rfl rfl fun a hs => ?_
  repeat (first | (refine sxv hs hw ?_; clear hs; intro a hs) | refine sxc hs ?_ | (refine sxa hs hw ?_; clear hs hw; intro a b W hw hs) | (refine sxs hs hw ?_; clear hs hw; intro W hs hw))
  cases h : decide (c ≥ 1) with
  | true =>
    rw [h] at hs
    repeat (first | (refine sxv hs hw ?_; clear hs; intro a hs) | refine sxc hs ?_ | (refine sxa hs hw ?_; clear hs hw; intro a b W hw hs) | (refine sxs hs hw ?_; clear hs hw; intro W hs hw))
    have : decide (c ≤ 5) = decide (1 ≤ c ∧ c ≤ 5) := by
      have := of_decide_eq_true h
      by_cases h5 : c ≤ 5
      · rw [decide_eq_true h5, decide_eq_true ⟨this, h5⟩]
      · rw [decide_eq_false h5, decide_eq_false fun h => h5 h.2]
    exact rt1 hs rfl rfl ⟨by rw [← this]; rfl, hw.end (by repeat (first | exact In.hd | apply In.tl))⟩
  | false =>
    rw [h] at hs
    repeat (first | (refine sxv hs hw ?_; clear hs; intro a hs) | refine sxc hs ?_ | (refine sxa hs hw ?_; clear hs hw; intro a b W hw hs) | (refine sxs hs hw ?_; clear hs hw; intro W hs hw))
    have : decide (1 ≤ c ∧ c ≤ 5) = false := decide_eq_false fun h' => (of_decide_eq_false h) h'.1
    exact rt1 hs rfl rfl ⟨by rw [this]; rfl, hw.end (by repeat (first | exact In.hd | apply In.tl))⟩
set_option maxHeartbeats 4000000 in
theorem fold_Last (w0 W : World) (H : Fh) (p : Nat) (f : FoldD) (c : Int) (R : List Res) (hw : Has 0 w0 W (FoldAt H p f :: R)) :
    Calls Tryz.prog 45 ⟨[.pointer (some ⟨p, 0, none⟩), .int .i64 c]⟩ W fun e W' => e = .returned (.int .i64 (lastOf f c)) ∧ Has 0 w0 W' (FoldAt H p f :: R) := by
  refine enter Tryz.func45 Tryz.ntmps45 rfl rfl fun a hs => ?_
  repeat (first | (refine sxv hs hw ?_; clear hs; intro a hs) | refine sxc hs ?_ | (refine sxa hs hw ?_; clear hs hw; intro a b W hw hs) | (refine sxs hs hw ?_; clear hs hw; intro W hs hw) | ((with_reducible first | refine st_ptrSome hs (k := ?_) | refine st_ptrNone hs (k := ?_)); clear hs; intro a hs))
  refine st_call hs (hc := fold_may c _) (k := ?_); rintro e0 W1 ⟨rfl, hb⟩; refine ⟨_, rfl, ?_⟩; clear hs; intro a hs; replace hw := hw.below hb; clear hb
  repeat (first | (refine sxv hs hw ?_; clear hs; intro a hs) | refine sxc hs ?_ | (refine sxa hs hw ?_; clear hs hw; intro a b W hw hs) | (refine sxs hs hw ?_; clear hs hw; intro W hs hw) | ((with_reducible first | refine st_ptrSome hs (k := ?_) | refine st_ptrNone hs (k := ?_)); clear hs; intro a hs))
  cases h : decide (1 ≤ c ∧ c ≤ 5) with
  | false =>
    rw [h] at hs
    repeat (first | (refine sxv hs hw ?_; clear hs; intro a hs) | refine sxc hs ?_ | (refine sxa hs hw ?_; clear hs hw; intro a b W hw hs) | (refine sxs hs hw ?_; clear hs hw; intro W hs hw) | ((with_reducible first | refine st_ptrSome hs (k := ?_) | refine st_ptrNone hs (k := ?_)); clear hs; intro a hs))
    have hX : lastOf f c = 0 := by unfold lastOf; rw [if_neg (of_decide_eq_false h)]
    exact rt1 hs rfl rfl ⟨by rw [hX], hw⟩
  | true =>
    rw [h] at hs
    have h15 := of_decide_eq_true h
    obtain ⟨pd, xs, ht, hw⟩ := foldOpen hw
    repeat (first | (refine sxv hs hw ?_; clear hs; intro a hs) | refine sxc hs ?_ | (refine sxa hs hw ?_; clear hs hw; intro a b W hw hs) | (refine sxs hs hw ?_; clear hs hw; intro W hs hw) | ((with_reducible first | refine st_ptrSome hs (k := ?_) | refine st_ptrNone hs (k := ?_)); clear hs; intro a hs))
    refine st_index_arr hs (h0 := by omega) (h1 := by omega) (c := ?_); clear hs; intro a hs
    repeat (first | (refine sxv hs hw ?_; clear hs; intro a hs) | refine sxc hs ?_ | (refine sxa hs hw ?_; clear hs hw; intro a b W hw hs) | (refine sxs hs hw ?_; clear hs hw; intro W hs hw) | ((with_reducible first | refine st_ptrSome hs (k := ?_) | refine st_ptrNone hs (k := ?_)); clear hs; intro a hs))
    obtain ⟨x, hx⟩ : ∃ x, f.told[c.toNat]? = some x := ⟨f.told[c.toNat]'(by rw [ht.1]; omega), List.getElem?_eq_getElem _⟩
    have hX : lastOf f c = x.1 := by
      unfold lastOf
      rw [if_pos h15, hx]
      rfl
    refine st_load_one hs (hw := hw) (hi := In.hd) (v := .int .i64 x.1) (hv := ?_) (k := ?_)
    · show (foldCells f.place pd xs)[0 + 2 + c.toNat * 6 + 0]? = _
      rw [show 0 + 2 + c.toNat * 6 + 0 = c.toNat * 6 + 1 + 1 by omega]
      obtain ⟨sv, _, h6⟩ := told_get ht hx
      have := congrArg (fun t => t[0]?) h6
      simp only [cut_eq, List.getElem?_take, List.getElem?_drop] at this
      simpa [foldCells] using this
    · clear hs; intro a hs
      repeat (first | (refine sxv hs hw ?_; clear hs; intro a hs) | refine sxc hs ?_ | (refine sxa hs hw ?_; clear hs hw; intro a b W hw hs) | (refine sxs hs hw ?_; clear hs hw; intro W hs hw) | ((with_reducible first | refine st_ptrSome hs (k := ?_) | refine st_ptrNone hs (k := ?_)); clear hs; intro a hs))
      exact rt1 hs rfl rfl ⟨by rw [hX], foldShut hw ht⟩
set_option maxHeartbeats 4000000 in
theorem fold_Place (w0 W : World) (H : Fh) (p : Nat) (f : FoldD) (R : List Res) (hw : Has 0 w0 W (FoldAt H p f :: R)) :
    Calls Tryz.prog 46 ⟨[.pointer (some ⟨p, 0, none⟩)]⟩ W fun e W' => e = .returned (.int .i64 f.place) ∧ Has 0 w0 W' (FoldAt H p f :: R) := by
  refine enter Tryz.func46 Tryz.ntmps46 rfl rfl fun a hs => ?_
  obtain ⟨pd, xs, ht, hw⟩ := foldOpen hw
  repeat (first | (refine sxv hs hw ?_; clear hs; intro a hs) | refine sxc hs ?_ | (refine sxa hs hw ?_; clear hs hw; intro a b W hw hs) | (refine sxs hs hw ?_; clear hs hw; intro W hs hw) | ((with_reducible first | refine st_ptrSome hs (k := ?_) | refine st_ptrNone hs (k := ?_)); clear hs; intro a hs))
  exact rt1 hs rfl rfl ⟨rfl, foldShut hw ht⟩
set_option maxHeartbeats 4000000 in
theorem fold_Copy (w0 W : World) (H : Fh) (p : Nat) (f : FoldD) (R : List Res) (hw : Has 0 w0 W (FoldAt H p f :: R)) :
    Calls Tryz.prog 41 ⟨[.pointer (some ⟨p, 0, none⟩)]⟩ W fun e W' => ∃ q, e = .returned (.pointer (some ⟨q, 0, none⟩)) ∧ Has 0 w0 W' (FoldAt H q f :: FoldAt H p f :: R) := by
  refine enter Tryz.func41 Tryz.ntmps41 rfl rfl fun a hs => ?_
  obtain ⟨pd, xs, ht, hw⟩ := foldOpen hw
  have hl := fold_len f.place pd ht
  repeat (first | (refine sxv hs hw ?_; clear hs; intro a hs) | refine sxc hs ?_ | (refine sxa hs hw ?_; clear hs hw; intro a b W hw hs) | (refine sxs hs hw ?_; clear hs hw; intro W hs hw) | ((with_reducible first | refine st_ptrSome hs (k := ?_) | refine st_ptrNone hs (k := ?_)); clear hs; intro a hs))
  refine st_load_agg hs (hw := hw) (hi := In.hd) (hl := by rw [hl]; rfl) (k := ?_); clear hs; intro a hs
  replace hs : Slots a 15 [(8, .agg ⟨foldCells f.place pd xs⟩), (0, .pointer (some ⟨p, 0, none⟩))] := hs.of ⟨congrArg (fun x => some (Value.agg ⟨x⟩)) (cut_all _ 38 hl), rfl, trivial⟩
  repeat (first | (refine sxv hs hw ?_; clear hs; intro a hs) | refine sxc hs ?_ | (refine sxa hs hw ?_; clear hs hw; intro a b W hw hs) | (refine sxs hs hw ?_; clear hs hw; intro W hs hw) | ((with_reducible first | refine st_ptrSome hs (k := ?_) | refine st_ptrNone hs (k := ?_)); clear hs; intro a hs))
  obtain ⟨q, q1⟩ := nm1 hw; subst q1
  refine st_store hs (vs := foldCells f.place pd xs) (hw := hw) (hz := by rw [hl]; rfl) (h1 := fold_one _ _ ht) (hl := by rw [hl]; rfl) (k := ?_); clear hs hw; intro W hs hw
  rw [ov_all _ _ (by rw [hl]; rfl)] at hw
  repeat (first | (refine sxv hs hw ?_; clear hs; intro a hs) | refine sxc hs ?_ | (refine sxa hs hw ?_; clear hs hw; intro a b W hw hs) | (refine sxs hs hw ?_; clear hs hw; intro W hs hw) | ((with_reducible first | refine st_ptrSome hs (k := ?_) | refine st_ptrNone hs (k := ?_)); clear hs; intro a hs))
  have hw : Has 0 w0 W (DocAt pd f.d :: Cells q (foldCells f.place pd xs) 126 :: Cells p (foldCells f.place pd xs) 126 :: R) := hw.perm (by repeat (first | exact List.Perm.refl _ | refine perm_pick (by repeat (first | exact Pick.hd | apply Pick.tl)) ?_))
  refine st_call hs (hc := doc_Copy w0 _ pd f.d _ hw) (k := ?_); rintro e0 W1 ⟨c, rfl, hw1⟩; refine ⟨_, rfl, ?_⟩; clear hs hw; intro a hs; have hw := hw1; clear hw1
  have hw : Has 0 w0 _ (Cells q (foldCells f.place pd xs) 126 :: DocAt c f.d :: Cells p (foldCells f.place pd xs) 126 :: DocAt pd f.d :: R) := hw.perm (by repeat (first | exact List.Perm.refl _ | refine perm_pick (by repeat (first | exact Pick.hd | apply Pick.tl)) ?_))
  repeat (first | (refine sxv hs hw ?_; clear hs; intro a hs) | refine sxc hs ?_ | (refine sxa hs hw ?_; clear hs hw; intro a b W hw hs) | (refine sxs hs hw ?_; clear hs hw; intro W hs hw) | ((with_reducible first | refine st_ptrSome hs (k := ?_) | refine st_ptrNone hs (k := ?_)); clear hs; intro a hs))
  rw [ov_one] at hw
  have hw : Has 0 w0 _ (Cells q (foldCells f.place c xs) 126 :: DocAt c f.d :: Cells p (foldCells f.place pd xs) 126 :: DocAt pd f.d :: R) := hw
  have hw := foldShut hw ht
  have hw : Has 0 w0 _ (Cells p (foldCells f.place pd xs) 126 :: DocAt pd f.d :: FoldAt H q f :: R) := hw.perm (by repeat (first | exact List.Perm.refl _ | refine perm_pick (by repeat (first | exact Pick.hd | apply Pick.tl)) ?_))
  have hw := (foldShut hw ht).swap2
  exact rt1 hs rfl rfl ⟨q, rfl, hw⟩
set_option maxHeartbeats 4000000 in
theorem fold_own (w0 W : World) (H : Fh) (r : RowD) (sv : Value) (R : List Res) (hl : r.b.l.length ≤ 1000) (hr : OpsH H sv r.b.l) (hw : Has 0 w0 W (Fz H :: R)) :
    Calls Tryz.prog 67 ⟨[.agg ⟨rowCells r sv⟩]⟩ W fun e W' => ∃ sv' H', e = .returned (.agg ⟨rowCells r sv'⟩) ∧ H.le H' ∧ OpsH H' sv' r.b.l ∧ Has 0 w0 W' (Fz H' :: R) := by
  obtain ⟨sad, scap, rfl⟩ := hr.slice
  refine enter Tryz.func67 Tryz.ntmps67 rfl rfl fun a hs => ?_
  repeat (first | (refine sxv hs hw ?_; clear hs; intro a hs) | refine sxc hs ?_ | (refine sxa hs hw ?_; clear hs hw; intro a b W hw hs) | (refine sxs hs hw ?_; clear hs hw; intro W hs hw))
  obtain ⟨b2, q2⟩ := nm1 hw; subst q2
  obtain ⟨b1, q1⟩ := nm2 hw; subst q1
  have hw : Has 0 w0 _ (Fz H :: Cells b2 [.int .i64 0, .int .i64 0, .int .i64 0, .slice none 0 0, .int .i64 0] 39 :: Cells b1 (rowCells r (.slice sad r.b.l.length scap)) 39 :: R) := hw.perm (by repeat (first | exact List.Perm.refl _ | refine perm_pick (by repeat (first | exact Pick.hd | apply Pick.tl)) ?_))
  refine st_call hs (hc := clone_ops w0 _ H r.b.l _ _ hl hr hw) (k := ?_); rintro e0 W1 ⟨sv', H', rfl, h1, h2, hw1⟩; refine ⟨_, rfl, ?_⟩; clear hs hw; intro a hs; have hw := hw1; clear hw1
  obtain ⟨tad, tcap, rfl⟩ := h2.slice
  repeat (first | (refine sxv hs hw ?_; clear hs; intro a hs) | refine sxc hs ?_ | (refine sxa hs hw ?_; clear hs hw; intro a b W hw hs) | (refine sxs hs hw ?_; clear hs hw; intro W hs hw))
  refine rc1 hs rfl rfl hw (In.tl In.hd) rfl ?_
  exact ⟨_, H', rfl, h1, h2, hw.drop2.drop2⟩
end Go.Proofs.YtmalklakaalaoaaGreatDoor.Sw

set_option linter.unusedVariables false
set_option maxRecDepth 10000
namespace Go.Proofs.YtmalklakaalaoaaGreatDoor.Sw
open Go.RowKit Go.Sx
-- pieces
def nextB (f : FoldD) (bt : BatchD) : Bool := mayB bt && (bt.q == IntKind.i64.wrap (lastOf f bt.c + 1))
def nextR (f : FoldD) (bt : BatchD) : RowD := ⟨IntKind.i64.wrap (f.place + 1), bt, (applyL f.d bt.l).1⟩
def nextF (f : FoldD) (bt : BatchD) : FoldD := ⟨IntKind.i64.wrap (f.place + 1), (applyL f.d bt.l).2, f.told.set bt.c.toNat (bt.q, nextR f bt)⟩
def next (f : FoldD) (bt : BatchD) : FoldD × RowD × Bool := match nextB f bt with | true => (nextF f bt, nextR f bt, true) | false => (f, zeroRow, false)
theorem may_parts {bt : BatchD} (h : mayB bt = true) : (1 ≤ bt.c ∧ bt.c ≤ 5) ∧ (1 ≤ bt.q ∧ bt.q ≤ 1099511627776) ∧ bt.l.length ≤ 8 := by
  obtain ⟨h1, h2, h3, _⟩ := mayBatch_parts h
  exact ⟨h1, h2, h3.2⟩
set_option maxHeartbeats 16000000 in
theorem fold_Next (w0 W : World) (H : Fh) (p : Nat) (f : FoldD) (bt : BatchD) (sv : Value) (R : List Res) (hb : BatOk bt) (hr : OpsH H sv bt.l) (hH : (fr w0).le H) (hT : Tabs w0) (hw : Has 0 w0 W (FoldAt H p f :: Fz H :: R)) :
    Calls Tryz.prog 36 ⟨[.pointer (some ⟨p, 0, none⟩), .agg ⟨batCells bt sv⟩]⟩ W fun e W' => ∃ sv' H', e = .returned (.tuple ⟨[.agg ⟨rowCells (next f bt).2.1 sv'⟩, .bool (next f bt).2.2]⟩) ∧ H.le H' ∧ OpsH H' sv' (next f bt).2.1.b.l ∧ Has 0 w0 W' (FoldAt H' p (next f bt).1 :: Fz H' :: R) := by
  obtain ⟨sad, scap, rfl⟩ := hr.slice
  refine enter Tryz.func36 Tryz.ntmps36 rfl rfl fun a hs => ?_
  repeat (first | (refine sxv hs hw ?_; clear hs; intro a hs) | refine sxc hs ?_ | (refine sxa hs hw ?_; clear hs hw; intro a b W hw hs) | (refine sxs hs hw ?_; clear hs hw; intro W hs hw))
  obtain ⟨b4, q4⟩ := nm1 hw; subst q4
  obtain ⟨b3, q3⟩ := nm2 hw; subst q3
  have hw : Has 0 w0 _ (FoldAt H p f :: Cells b4 zrc 39 :: Cells b3 (batCells bt (.slice sad bt.l.length scap)) 36 :: Fz H :: R) := hw.perm (by repeat (first | exact List.Perm.refl _ | refine perm_pick (by repeat (first | exact Pick.hd | apply Pick.tl)) ?_))
  cases hm : mayB bt with
  | false =>
    have hN : next f bt = (f, zeroRow, false) := by unfold next nextB; rw [hm]; rfl
    rw [hN]
    refine rg_draw (V := [.pointer (some ⟨p, 0, none⟩), .bool false, .bool false, .agg ⟨batCells bt (.slice sad bt.l.length scap)⟩, .bool false, .bool true, .bool true, .bool true, undef, undef, undef, undef, undef, undef, undef, undef, .bool true])
      (Rs := fun D => FoldAt H p f :: Cells b4 zrc 39 :: Cells b3 (batCells bt (.slice sad bt.l.length scap)) 36 :: Fz H :: R) hs hw (ho := ⟨?_, ?_, ?_, ?_, ?c4_1, ?_, ?_, ?_, ?_, ?_, ?_, ?_, ?_, ?_, ?_, ?_, ?_, trivial⟩) (k := ?k_1)
    case c4_1 =>
      intro LD D a W hcl hi hp hs hw
      repeat (first | (refine sxv hs hw ?_; clear hs; intro a hs) | refine sxc hs ?_ | (refine sxa hs hw ?_; clear hs hw; intro a b W hw hs) | (refine sxs hs hw ?_; clear hs hw; intro W hs hw))
      refine st_call hs (hc := op_MayBatch bt.c bt.q bt.l _ _ hb.c hb.q hb.ops (hw.rdH (by repeat (first | exact In.hd | apply In.tl)) hr) (hT.keep (hw.endF (by repeat (first | exact In.hd | apply In.tl)) hH))) (k := ?_); rintro e0 W1 ⟨rfl, hb⟩; refine ⟨_, rfl, ?_⟩; clear hs; intro a hs; replace hw := hw.below hb; clear hb
      rw [show mayBatch bt.c bt.q bt.l = mayB bt from rfl, hm] at hs
      repeat (first | (refine sxv hs hw ?_; clear hs; intro a hs) | refine sxc hs ?_ | (refine sxa hs hw ?_; clear hs hw; intro a b W hw hs) | (refine sxs hs hw ?_; clear hs hw; intro W hs hw))
      exact ⟨hs, hw⟩
    case k_1 =>
      clear hs hw
      intro a W hs hw
      repeat (first | (refine sxv hs hw ?_; clear hs; intro a hs) | refine sxc hs ?_ | (refine sxa hs hw ?_; clear hs hw; intro a b W hw hs) | (refine sxs hs hw ?_; clear hs hw; intro W hs hw))
      refine rc2 hs rfl rfl hw (In.tl In.hd) rfl rfl ?_
      exact ⟨.slice none 0 0, H, rfl, Fh.le.refl _, ops_nil H, hw.sub (List.Sublist.cons_cons _ (List.Sublist.cons _ (List.Sublist.cons _ (List.Sublist.refl _))))⟩
    all_goals
      intro LD D a W hcl hi hp hs hw
      repeat (first | (refine sxv hs hw ?_; clear hs; intro a hs) | refine sxc hs ?_ | (refine sxa hs hw ?_; clear hs hw; intro a b W hw hs) | (refine sxs hs hw ?_; clear hs hw; intro W hs hw) | ((with_reducible first | refine st_ptrSome hs (k := ?_) | refine st_ptrNone hs (k := ?_)); clear hs; intro a hs))
      exact ⟨hs, hw⟩
  | true =>
  obtain ⟨⟨hc1, hc5⟩, ⟨hq1, hq2⟩, hl8⟩ := may_parts hm
  refine rg_draw (V := [.pointer (some ⟨p, 0, none⟩), .bool false, .bool false, .agg ⟨batCells bt (.slice sad bt.l.length scap)⟩, .bool true, .bool false, .bool false, .bool false, .pointer (some ⟨b3, 0 + 1, none⟩), .int .i64 bt.q, .pointer (some ⟨p, 0, none⟩), .pointer (some ⟨b3, 0 + 0, none⟩), .int .i64 bt.c, .int .i64 (lastOf f bt.c), .int .i64 (IntKind.i64.wrap (lastOf f bt.c + 1)), .bool (bt.q != IntKind.i64.wrap (lastOf f bt.c + 1)), .bool (bt.q != IntKind.i64.wrap (lastOf f bt.c + 1))])
    (Rs := fun D => FoldAt H p f :: Cells b4 zrc 39 :: Cells b3 (batCells bt (.slice sad bt.l.length scap)) 36 :: Fz H :: R) hs hw (ho := ⟨?_, ?_, ?_, ?_, ?c4_2, ?_, ?_, ?_, ?_, ?_, ?_, ?_, ?_, ?c13_2, ?_, ?_, ?_, trivial⟩) (k := ?k_2)
  case c4_2 =>
    intro LD D a W hcl hi hp hs hw
    repeat (first | (refine sxv hs hw ?_; clear hs; intro a hs) | refine sxc hs ?_ | (refine sxa hs hw ?_; clear hs hw; intro a b W hw hs) | (refine sxs hs hw ?_; clear hs hw; intro W hs hw))
    refine st_call hs (hc := op_MayBatch bt.c bt.q bt.l _ _ hb.c hb.q hb.ops (hw.rdH (by repeat (first | exact In.hd | apply In.tl)) hr) (hT.keep (hw.endF (by repeat (first | exact In.hd | apply In.tl)) hH))) (k := ?_); rintro e0 W1 ⟨rfl, hb⟩; refine ⟨_, rfl, ?_⟩; clear hs; intro a hs; replace hw := hw.below hb; clear hb
    rw [show mayBatch bt.c bt.q bt.l = mayB bt from rfl, hm] at hs
    repeat (first | (refine sxv hs hw ?_; clear hs; intro a hs) | refine sxc hs ?_ | (refine sxa hs hw ?_; clear hs hw; intro a b W hw hs) | (refine sxs hs hw ?_; clear hs hw; intro W hs hw))
    exact ⟨hs, hw⟩
  case c13_2 =>
    intro LD D a W hcl hi hp hs hw
    repeat (first | (refine sxv hs hw ?_; clear hs; intro a hs) | refine sxc hs ?_ | (refine sxa hs hw ?_; clear hs hw; intro a b W hw hs) | (refine sxs hs hw ?_; clear hs hw; intro W hs hw))
    refine st_call hs (hc := fold_Last w0 _ H p f bt.c _ hw) (k := ?_); rintro e0 W1 ⟨rfl, hw1⟩; refine ⟨_, rfl, ?_⟩; clear hs hw; intro a hs; have hw := hw1; clear hw1
    repeat (first | (refine sxv hs hw ?_; clear hs; intro a hs) | refine sxc hs ?_ | (refine sxa hs hw ?_; clear hs hw; intro a b W hw hs) | (refine sxs hs hw ?_; clear hs hw; intro W hs hw))
    exact ⟨hs, hw⟩
  case k_2 =>
    clear hs hw
    intro a W hs hw
    replace hw : Has 0 w0 W (FoldAt H p f :: Cells b4 zrc 39 :: Cells b3 (batCells bt (.slice sad bt.l.length scap)) 36 :: Fz H :: R) := hw
    replace hs : Slots a 58 [(0, .pointer (some ⟨p, 0, none⟩)), (3, .pointer (some ⟨b3, 0, none⟩)), (4, .pointer (some ⟨b4, 0, none⟩)), (5, .bool false), (23, .bool (bt.q != IntKind.i64.wrap (lastOf f bt.c + 1)))] := hs.of ⟨rfl, rfl, rfl, rfl, rfl, trivial⟩
    repeat (first | (refine sxv hs hw ?_; clear hs; intro a hs) | refine sxc hs ?_ | (refine sxa hs hw ?_; clear hs hw; intro a b W hw hs) | (refine sxs hs hw ?_; clear hs hw; intro W hs hw))
    cases hq : (bt.q != IntKind.i64.wrap (lastOf f bt.c + 1)) with
    | true =>
      have hN : next f bt = (f, zeroRow, false) := by
        unfold next nextB
        have : (bt.q == IntKind.i64.wrap (lastOf f bt.c + 1)) = false := by simpa using hq
        rw [hm, this]; rfl
      rw [hN]
      rw [hq] at hs
      repeat (first | (refine sxv hs hw ?_; clear hs; intro a hs) | refine sxc hs ?_ | (refine sxa hs hw ?_; clear hs hw; intro a b W hw hs) | (refine sxs hs hw ?_; clear hs hw; intro W hs hw))
      refine rc2 hs rfl rfl hw (In.tl In.hd) rfl rfl ?_
      exact ⟨.slice none 0 0, H, rfl, Fh.le.refl _, ops_nil H, hw.sub (List.Sublist.cons_cons _ (List.Sublist.cons _ (List.Sublist.cons _ (List.Sublist.refl _))))⟩
    | false =>
    have hN : next f bt = (nextF f bt, nextR f bt, true) := by
      unfold next nextB
      have : (bt.q == IntKind.i64.wrap (lastOf f bt.c + 1)) = true := by simpa using hq
      rw [hm, this]; rfl
    rw [hN]
    rw [hq] at hs
    obtain ⟨pd, xs, ht, hw⟩ := foldOpen hw
    repeat (first | (refine sxv hs hw ?_; clear hs; intro a hs) | refine sxc hs ?_ | (refine sxa hs hw ?_; clear hs hw; intro a b W hw hs) | (refine sxs hs hw ?_; clear hs hw; intro W hs hw))
    have hw : Has 0 w0 W (Cells p (foldCells (IntKind.i64.wrap (f.place + 1)) pd xs) 126 :: DocAt pd f.d :: Fz H :: Free :: Cells b4 zrc 39 :: Cells b3 (batCells bt (.slice sad bt.l.length scap)) 36 :: R) := hw.free.perm (by repeat (first | exact List.Perm.refl _ | refine perm_pick (by repeat (first | exact Pick.hd | apply Pick.tl)) ?_))
    refine rg_drawU (σ := Value × Fh × Nat) (V := fun u => [.pointer (some ⟨p, 0, none⟩), .pointer (some ⟨p, 0, none⟩), .pointer (some ⟨p, 0 + 0, none⟩), .int .i64 (IntKind.i64.wrap (f.place + 1)), .agg ⟨batCells bt (.slice sad bt.l.length scap)⟩, .pointer (some ⟨p, 0, none⟩), .pointer (some ⟨p, 0, none⟩), .pointer (some ⟨p, 0 + 1, none⟩), .pointer (some ⟨pd, 0, none⟩), .pointer (some ⟨b3, 0 + 2, none⟩), .slice sad bt.l.length scap, .int .i64 (applyL f.d bt.l).1, .agg ⟨rowCells (nextR f bt) (.slice sad bt.l.length scap)⟩, .agg ⟨rowCells (nextR f bt) (u 13).1⟩, .pointer (some ⟨(u 14).2.2, 0, none⟩), .bool true])
      (Rs := fun u D => Cells p (foldCells (IntKind.i64.wrap (f.place + 1)) pd xs) 126 :: (if D 11 then DocAt pd (applyL f.d bt.l).2 else DocAt pd f.d) :: (if D 13 then FzF (u 13).2.1 (H.le (u 13).2.1 ∧ OpsH (u 13).2.1 (u 13).1 bt.l) else Fz H) :: (if D 14 then Cells (u 14).2.2 (if D 15 then rowCells (nextR f bt) (u 13).1 else zrc) 39 else Free) :: Cells b4 zrc 39 :: Cells b3 (batCells bt (.slice sad bt.l.length scap)) 36 :: R) (fun _ => (.nilIface, H, 0)) hs hw (hVu := ?vu_3) (ho := ⟨?_, ?_, ?_, ?_, ?_, ?_, ?_, ?_, ?_, ?_, ?_, ?c11_3, ?_, ?c13_3, ?c14_3, ?c15_3, trivial⟩) (k := ?k_3)
    case vu_3 =>
      intro u u' j h
      rcases j with _ | _ | _ | _ | _ | _ | _ | _ | _ | _ | _ | _ | _ | _ | _ | j
      all_goals first | rfl | simp [h]
    case c11_3 =>
      intro u LD D a W hcl hi hp hs hw
      have h12 := Go.Sx.not_done hcl hi 12 (by kernel_rfl)
      have h13 := Go.Sx.not_done hcl h12 13 (by kernel_rfl)
      simp only [hi, h13, Bool.false_eq_true, if_false] at hw
      repeat (first | (refine sxv hs hw ?_; clear hs; intro a hs) | refine sxc hs ?_ | (refine sxa hs hw ?_; clear hs hw; intro a b W hw hs) | (refine sxs hs hw ?_; clear hs hw; intro W hs hw))
      have hw : Has 0 w0 W (DocAt pd f.d :: Cells p (foldCells (IntKind.i64.wrap (f.place + 1)) pd xs) 126 :: Fz H :: (if D 14 then Cells (u 14).2.2 (if D 15 then rowCells (nextR f bt) (u 13).1 else zrc) 39 else Free) :: Cells b4 zrc 39 :: Cells b3 (batCells bt (.slice sad bt.l.length scap)) 36 :: R) := hw.perm (by repeat (first | exact List.Perm.refl _ | refine perm_pick (by repeat (first | exact Pick.hd | apply Pick.tl)) ?_))
      refine st_call hs (hc := doc_ApplyL w0 _ H pd f.d bt.l _ _ hb.ops hr (by repeat (first | exact In.hd | apply In.tl)) hH hT hw) (k := ?_); rintro e0 W1 ⟨rfl, hw1⟩; refine ⟨_, rfl, ?_⟩; clear hs hw; intro a hs; have hw := hw1; clear hw1
      repeat (first | (refine sxv hs hw ?_; clear hs; intro a hs) | refine sxc hs ?_ | (refine sxa hs hw ?_; clear hs hw; intro a b W hw hs) | (refine sxs hs hw ?_; clear hs hw; intro W hs hw))
      refine Or.inl ⟨hs, ?_⟩
      show Has 0 w0 _ (Cells p (foldCells (IntKind.i64.wrap (f.place + 1)) pd xs) 126 :: DocAt pd (applyL f.d bt.l).2 :: (if (Nat.beq 13 11 || D 13) = true then _ else _) :: (if D 14 then Cells (u 14).2.2 (if D 15 then rowCells (nextR f bt) (u 13).1 else zrc) 39 else Free) :: Cells b4 zrc 39 :: Cells b3 (batCells bt (.slice sad bt.l.length scap)) 36 :: R)
      rw [h13]
      exact hw.swap2
    case c13_3 =>
      intro u LD D a W hcl hi hp hs hw
      have h15 := Go.Sx.not_done hcl hi 15 (by kernel_rfl)
      simp only [hi, h15, Bool.false_eq_true, if_false] at hw
      repeat (first | (refine sxv hs hw ?_; clear hs; intro a hs) | refine sxc hs ?_ | (refine sxa hs hw ?_; clear hs hw; intro a b W hw hs) | (refine sxs hs hw ?_; clear hs hw; intro W hs hw))
      have hw : Has 0 w0 W (Fz H :: Cells p (foldCells (IntKind.i64.wrap (f.place + 1)) pd xs) 126 :: (if D 11 then DocAt pd (applyL f.d bt.l).2 else DocAt pd f.d) :: (if D 14 then Cells (u 14).2.2 zrc 39 else Free) :: Cells b4 zrc 39 :: Cells b3 (batCells bt (.slice sad bt.l.length scap)) 36 :: R) := hw.perm (by repeat (first | exact List.Perm.refl _ | refine perm_pick (by repeat (first | exact Pick.hd | apply Pick.tl)) ?_))
      refine st_call hs (hc := fold_own w0 _ H (nextR f bt) _ _ (show (nextR f bt).b.l.length ≤ 1000 from Nat.le_trans hl8 (by decide)) hr hw) (k := ?_); rintro e0 W1 ⟨sv', H', rfl, h1, h2, hw1⟩; refine ⟨_, rfl, ?_⟩; clear hs hw; intro a hs; have hw := hw1; clear hw1
      repeat (first | (refine sxv hs hw ?_; clear hs; intro a hs) | refine sxc hs ?_ | (refine sxa hs hw ?_; clear hs hw; intro a b W hw hs) | (refine sxs hs hw ?_; clear hs hw; intro W hs hw))
      refine Or.inr ⟨(sv', H', 0), hs, ?_⟩
      have hw := hw.fzf (q := H.le H' ∧ OpsH H' sv' bt.l) ⟨h1, h2⟩
      show Has 0 w0 _ (Cells p (foldCells (IntKind.i64.wrap (f.place + 1)) pd xs) 126 :: (if D 11 then DocAt pd (applyL f.d bt.l).2 else DocAt pd f.d) :: FzF H' (H.le H' ∧ OpsH H' sv' bt.l) :: (if D 14 then Cells (u 14).2.2 (if (Nat.beq 15 13 || D 15) = true then _ else _) 39 else Free) :: Cells b4 zrc 39 :: Cells b3 (batCells bt (.slice sad bt.l.length scap)) 36 :: R)
      rw [h15]
      exact hw.perm (by repeat (first | exact List.Perm.refl _ | refine perm_pick (by repeat (first | exact Pick.hd | apply Pick.tl)) ?_))
    case c14_3 =>
      intro u LD D a W hcl hi hp hs hw
      have h15 := Go.Sx.not_done hcl hi 15 (by kernel_rfl)
      simp only [hi, Bool.false_eq_true, if_false] at hw
      repeat (first | (refine sxv hs hw ?_; clear hs; intro a hs) | refine sxc hs ?_ | (refine sxa hs hw ?_; clear hs hw; intro a b W hw hs) | (refine sxs hs hw ?_; clear hs hw; intro W hs hw))
      refine Or.inr ⟨(.nilIface, H, _), hs, ?_⟩
      show Has 0 w0 _ (Cells p (foldCells (IntKind.i64.wrap (f.place + 1)) pd xs) 126 :: (if D 11 then DocAt pd (applyL f.d bt.l).2 else DocAt pd f.d) :: (if D 13 then FzF (u 13).2.1 (H.le (u 13).2.1 ∧ OpsH (u 13).2.1 (u 13).1 bt.l) else Fz H) :: Cells _ (if (Nat.beq 15 14 || D 15) = true then _ else _) 39 :: Cells b4 zrc 39 :: Cells b3 (batCells bt (.slice sad bt.l.length scap)) 36 :: R)
      rw [h15]
      exact hw.fill (Upd.tl (Upd.tl (Upd.tl Upd.hd)))
    case c15_3 =>
      intro u LD D a W hcl hi hp hs hw
      have h13 := Go.Sx.done hp 13 (by kernel_rfl)
      have h14 := Go.Sx.done hp 14 (by kernel_rfl)
      simp only [hi, h13, h14, Bool.false_eq_true, if_false, if_true] at hw
      have hv : OpsH (u 13).2.1 (u 13).1 bt.l := by
        have hw2 := hw.perm (B := FzF (u 13).2.1 (H.le (u 13).2.1 ∧ OpsH (u 13).2.1 (u 13).1 bt.l) :: Cells p (foldCells (IntKind.i64.wrap (f.place + 1)) pd xs) 126 :: (if D 11 then DocAt pd (applyL f.d bt.l).2 else DocAt pd f.d) :: Cells (u 14).2.2 zrc 39 :: Cells b4 zrc 39 :: Cells b3 (batCells bt (.slice sad bt.l.length scap)) 36 :: R) (by repeat (first | exact List.Perm.refl _ | refine perm_pick (by repeat (first | exact Pick.hd | apply Pick.tl)) ?_))
        exact hw2.unfzf.1.2
      obtain ⟨tad, tcap, e13⟩ := hv.slice
      refine st_store hs (hw := hw) (vs := rowCells (nextR f bt) (u 13).1) (h1 := by rw [e13]; rfl) (k := ?_); clear hs hw; intro W hs hw
      repeat (first | (refine sxv hs hw ?_; clear hs; intro a hs) | refine sxc hs ?_ | (refine sxa hs hw ?_; clear hs hw; intro a b W hw hs) | (refine sxs hs hw ?_; clear hs hw; intro W hs hw))
      refine Or.inl ⟨hs, ?_⟩
      show Has 0 w0 _ (Cells p (foldCells (IntKind.i64.wrap (f.place + 1)) pd xs) 126 :: (if D 11 then DocAt pd (applyL f.d bt.l).2 else DocAt pd f.d) :: (if (Nat.beq 13 15 || D 13) = true then _ else _) :: (if (Nat.beq 14 15 || D 14) = true then _ else _) :: Cells b4 zrc 39 :: Cells b3 (batCells bt (.slice sad bt.l.length scap)) 36 :: R)
      rw [h13, h14]
      exact hw
    case k_3 =>
      clear hs hw
      intro u a W hs hw
      replace hw : Has 0 w0 W (Cells p (foldCells (IntKind.i64.wrap (f.place + 1)) pd xs) 126 :: DocAt pd (applyL f.d bt.l).2 :: FzF (u 13).2.1 (H.le (u 13).2.1 ∧ OpsH (u 13).2.1 (u 13).1 bt.l) :: Cells (u 14).2.2 (rowCells (nextR f bt) (u 13).1) 39 :: Cells b4 zrc 39 :: Cells b3 (batCells bt (.slice sad bt.l.length scap)) 36 :: R) := hw
      replace hs : Slots a 58 [(0, .pointer (some ⟨p, 0, none⟩)), (3, .pointer (some ⟨b3, 0, none⟩)), (4, .pointer (some ⟨b4, 0, none⟩)), (5, .bool false), (6, .pointer (some ⟨(u 14).2.2, 0, none⟩))] := hs.of ⟨rfl, rfl, rfl, rfl, rfl, trivial⟩
      generalize (u 14).2.2 = b6 at *
      generalize (u 13).2.1 = H1 at *
      generalize (u 13).1 = v1 at *
      clear u
      have hw : Has 0 w0 W (FzF H1 (H.le H1 ∧ OpsH H1 v1 bt.l) :: Cells p (foldCells (IntKind.i64.wrap (f.place + 1)) pd xs) 126 :: DocAt pd (applyL f.d bt.l).2 :: Cells b6 (rowCells (nextR f bt) v1) 39 :: Cells b4 zrc 39 :: Cells b3 (batCells bt (.slice sad bt.l.length scap)) 36 :: R) := hw.perm (by repeat (first | exact List.Perm.refl _ | refine perm_pick (by repeat (first | exact Pick.hd | apply Pick.tl)) ?_))
      obtain ⟨⟨hle1, hv1⟩, hw⟩ := hw.unfzf
      obtain ⟨vad, vcap, rfl⟩ := hv1.slice
      have ht1 : ToldOk H1 f.told xs := ⟨ht.1, ht.2.mono (TolIn.le hle1)⟩
      have hlen := fold_len (IntKind.i64.wrap (f.place + 1)) pd ht
      have hset := told_set ht1 (c := bt.c.toNat) (by omega) (x := (bt.q, nextR f bt)) (sv := .slice vad bt.l.length vcap) hv1
      repeat (first | (refine sxv hs hw ?_; clear hs; intro a hs) | refine sxc hs ?_ | (refine sxa hs hw ?_; clear hs hw; intro a b W hw hs) | (refine sxs hs hw ?_; clear hs hw; intro W hs hw))
      have hw : Has 0 w0 W (Cells p (foldCells (IntKind.i64.wrap (f.place + 1)) pd xs) 126 :: Fz H1 :: DocAt pd (applyL f.d bt.l).2 :: Cells b6 (rowCells (nextR f bt) (.slice vad bt.l.length vcap)) 39 :: Cells b4 zrc 39 :: Cells b3 (batCells bt (.slice sad bt.l.length scap)) 36 :: R) := hw.perm (by repeat (first | exact List.Perm.refl _ | refine perm_pick (by repeat (first | exact Pick.hd | apply Pick.tl)) ?_))
      refine rg_draw (V := [.pointer (some ⟨p, 0, none⟩), .pointer (some ⟨b3, 0 + 0, none⟩), .int .i64 bt.c, .pointer (some ⟨b3, 0 + 1, none⟩), .int .i64 bt.q, .agg ⟨rowCells (nextR f bt) (.slice vad bt.l.length vcap)⟩, .agg ⟨.int .i64 bt.q :: rowCells (nextR f bt) (.slice vad bt.l.length vcap)⟩, .pointer (some ⟨p, 0, none⟩), .pointer (some ⟨p, 0 + 2, none⟩), .pointer (some ⟨p, 0 + 2 + bt.c.toNat * 6, none⟩), .bool true])
        (Rs := fun D => (if D 10 then Cells p (foldCells (IntKind.i64.wrap (f.place + 1)) pd (ov xs (bt.c.toNat * 6) (.int .i64 bt.q :: rowCells (nextR f bt) (.slice vad bt.l.length vcap)))) 126 else Cells p (foldCells (IntKind.i64.wrap (f.place + 1)) pd xs) 126) :: Fz H1 :: DocAt pd (applyL f.d bt.l).2 :: Cells b6 (rowCells (nextR f bt) (.slice vad bt.l.length vcap)) 39 :: Cells b4 zrc 39 :: Cells b3 (batCells bt (.slice sad bt.l.length scap)) 36 :: R) hs hw (ho := ⟨?_, ?_, ?_, ?_, ?_, ?_, ?_, ?_, ?_, ?c9_4, ?c10_4, trivial⟩) (k := ?k_4)
      case c9_4 =>
        intro LD D a W hcl hi hp hs hw
        refine st_index_arr hs (h0 := by omega) (h1 := by omega) (c := ?_); clear hs; intro a hs
        repeat (first | (refine sxv hs hw ?_; clear hs; intro a hs) | refine sxc hs ?_ | (refine sxa hs hw ?_; clear hs hw; intro a b W hw hs) | (refine sxs hs hw ?_; clear hs hw; intro W hs hw))
        exact ⟨hs, hw⟩
      case c10_4 =>
        intro LD D a W hcl hi hp hs hw
        simp only [hi, Bool.false_eq_true, if_false] at hw
        refine st_store hs (hw := hw) (vs := .int .i64 bt.q :: rowCells (nextR f bt) (.slice vad bt.l.length vcap)) (hl := by rw [hlen, Nat.ble_eq]; show 0 + 2 + bt.c.toNat * 6 + 6 ≤ 38; omega) (k := ?_); clear hs hw; intro W hs hw
        repeat (first | (refine sxv hs hw ?_; clear hs; intro a hs) | refine sxc hs ?_ | (refine sxa hs hw ?_; clear hs hw; intro a b W hw hs) | (refine sxs hs hw ?_; clear hs hw; intro W hs hw))
        refine ⟨hs, ?_⟩
        have e : ov (foldCells (IntKind.i64.wrap (f.place + 1)) pd xs) (0 + 2 + bt.c.toNat * 6) (.int .i64 bt.q :: rowCells (nextR f bt) (.slice vad bt.l.length vcap)) = foldCells (IntKind.i64.wrap (f.place + 1)) pd (ov xs (bt.c.toNat * 6) (.int .i64 bt.q :: rowCells (nextR f bt) (.slice vad bt.l.length vcap))) := by
          rw [show 0 + 2 + bt.c.toNat * 6 = bt.c.toNat * 6 + 1 + 1 by omega]
          rfl
        rw [e] at hw
        exact hw
      case k_4 =>
        clear hs hw
        intro a W hs hw
        replace hw : Has 0 w0 W (Cells p (foldCells (IntKind.i64.wrap (f.place + 1)) pd (ov xs (bt.c.toNat * 6) (.int .i64 bt.q :: rowCells (nextR f bt) (.slice vad bt.l.length vcap)))) 126 :: Fz H1 :: DocAt pd (applyL f.d bt.l).2 :: Cells b6 (rowCells (nextR f bt) (.slice vad bt.l.length vcap)) 39 :: Cells b4 zrc 39 :: Cells b3 (batCells bt (.slice sad bt.l.length scap)) 36 :: R) := hw
        replace hs : Slots a 58 [(0, .pointer (some ⟨p, 0, none⟩)), (4, .pointer (some ⟨b4, 0, none⟩)), (5, .bool false), (6, .pointer (some ⟨b6, 0, none⟩))] := hs.of ⟨rfl, rfl, rfl, rfl, trivial⟩
        have hw : Has 0 w0 W (Cells p (foldCells (IntKind.i64.wrap (f.place + 1)) pd (ov xs (bt.c.toNat * 6) (.int .i64 bt.q :: rowCells (nextR f bt) (.slice vad bt.l.length vcap)))) 126 :: DocAt pd (applyL f.d bt.l).2 :: Fz H1 :: Cells b6 (rowCells (nextR f bt) (.slice vad bt.l.length vcap)) 39 :: Cells b4 zrc 39 :: Cells b3 (batCells bt (.slice sad bt.l.length scap)) 36 :: R) := hw.perm (by repeat (first | exact List.Perm.refl _ | refine perm_pick (by repeat (first | exact Pick.hd | apply Pick.tl)) ?_))
        have hw := foldShut (f := nextF f bt) hw hset
        repeat (first | (refine sxv hs hw ?_; clear hs; intro a hs) | refine sxc hs ?_ | (refine sxa hs hw ?_; clear hs hw; intro a b W hw hs) | (refine sxs hs hw ?_; clear hs hw; intro W hs hw))
        have hw : Has 0 w0 W (Fz H1 :: FoldAt H1 p (nextF f bt) :: Cells b6 (rowCells (nextR f bt) (.slice vad bt.l.length vcap)) 39 :: Cells b4 zrc 39 :: Cells b3 (batCells bt (.slice sad bt.l.length scap)) 36 :: R) := hw.swap2
        refine st_call hs (hc := fold_own w0 _ H1 (nextR f bt) _ _ (show (nextR f bt).b.l.length ≤ 1000 from Nat.le_trans hl8 (by decide)) hv1 hw) (k := ?_); rintro e0 W1 ⟨sv', H2, rfl, h1, h2, hw1⟩; refine ⟨_, rfl, ?_⟩; clear hs hw; intro a hs; have hw := hw1; clear hw1
        obtain ⟨uad, ucap, rfl⟩ := h2.slice
        repeat (first | (refine sxv hs hw ?_; clear hs; intro a hs) | refine sxc hs ?_ | (refine sxa hs hw ?_; clear hs hw; intro a b W hw hs) | (refine sxs hs hw ?_; clear hs hw; intro W hs hw))
        have hw : Has 0 w0 _ (Cells b4 (rowCells (nextR f bt) (.slice uad bt.l.length ucap)) 39 :: FoldAt H1 p (nextF f bt) :: Fz H2 :: Cells b6 (rowCells (nextR f bt) (.slice vad bt.l.length vcap)) 39 :: Cells b3 (batCells bt (.slice sad bt.l.length scap)) 36 :: R) := hw.perm (by repeat (first | exact List.Perm.refl _ | refine perm_pick (by repeat (first | exact Pick.hd | apply Pick.tl)) ?_))
        refine rc2 hs rfl rfl hw In.hd rfl rfl ?_
        have hw := foldLe (hw.sub (List.Sublist.cons _ (List.Sublist.refl _))) h1
        exact ⟨_, H2, rfl, hle1.trans h1, h2, hw.sub (List.Sublist.cons_cons _ (List.Sublist.cons_cons _ (List.Sublist.cons _ (List.Sublist.cons _ (List.Sublist.refl _)))))⟩
      all_goals
        intro LD D a W hcl hi hp hs hw
        repeat (first | (refine sxv hs hw ?_; clear hs; intro a hs) | refine sxc hs ?_ | (refine sxa hs hw ?_; clear hs hw; intro a b W hw hs) | (refine sxs hs hw ?_; clear hs hw; intro W hs hw))
        exact ⟨hs, hw⟩
    all_goals
      intro u LD D a W hcl hi hp hs hw
      repeat (first | (refine sxv hs hw ?_; clear hs; intro a hs) | refine sxc hs ?_ | (refine sxa hs hw ?_; clear hs hw; intro a b W hw hs) | (refine sxs hs hw ?_; clear hs hw; intro W hs hw))
      exact Or.inl ⟨hs, hw⟩
  all_goals
    intro LD D a W hcl hi hp hs hw
    repeat (first | (refine sxv hs hw ?_; clear hs; intro a hs) | refine sxc hs ?_ | (refine sxa hs hw ?_; clear hs hw; intro a b W hw hs) | (refine sxs hs hw ?_; clear hs hw; intro W hs hw) | ((with_reducible first | refine st_ptrSome hs (k := ?_) | refine st_ptrNone hs (k := ?_)); clear hs; intro a hs))
    exact ⟨hs, hw⟩
end Go.Proofs.YtmalklakaalaoaaGreatDoor.Sw

set_option linter.unusedVariables false
set_option maxRecDepth 10000
namespace Go.Sx
open Go.RowKit
end Go.Sx
namespace Go.Proofs.YtmalklakaalaoaaGreatDoor.Sw
open Go.RowKit Go.Sx
-- pieces
section
variable {ops : Array Oper} {rest : List Oper} {Q : Exit → Act → World → Prop} {a : Act} {n : Nat} {L : List (Nat × Value)} {W : World} {d : Nat} {T S' : TypeId} {p : String} {e : Array Edge} {x y : Operand} {o o' : OpD}
end
def eqL (l l' : List OpD) : Bool := (l.length == l'.length) && eqOps l l'
def sameR (a b : RowD) : Bool := (a.place == b.place) && ((a.err == b.err) && ((a.b.c == b.b.c) && ((a.b.q == b.b.q) && eqL a.b.l b.b.l)))
end Go.Proofs.YtmalklakaalaoaaGreatDoor.Sw

set_option linter.unusedVariables false
set_option maxRecDepth 10000
namespace Go.Proofs.YtmalklakaalaoaaGreatDoor.Sw
open Go.RowKit Go.Sx
-- pieces
structure StreamD where
  f : FoldD
  l : List RowD
section
variable {G p pf : Nat} {w W : World} {R : List Res} {s : StreamD} {H H' : Fh} {v : Value} {xs : List Value}
end
def one (s : StreamD) (r : RowD) : StreamD × Bool × Int :=
  if r.place > (s.l.length : Int) + 1 then (s, false, 2)
  else if r.place < (s.l.length : Int) + 1 then
    if r.place < 1 ∨ ¬ (∃ x, s.l[(r.place - 1).toNat]? = some x ∧ sameR r x = true) then (s, false, 1) else (s, false, 0)
  else if (next s.f r.b).2.2 = true ∧ (next s.f r.b).2.1.err = r.err then (⟨(next s.f r.b).1, s.l ++ [r]⟩, true, 0) else (s, false, 1)
end Go.Proofs.YtmalklakaalaoaaGreatDoor.Sw

set_option linter.unusedVariables false
set_option maxRecDepth 10000
namespace Go.Proofs.YtmalklakaalaoaaGreatDoor.Sw
open Go.RowKit Go.Sx
-- pieces
def RowsH (H : Fh) (v : Value) (rows : List RowD) : Prop := ∃ xs, RdH H 5 v rows.length xs ∧ Ch (RowIn H) rows xs
structure RowOk (r : RowD) : Prop where
  place : i64 r.place
  err : i64 r.err
  b : BatOk r.b
end Go.Proofs.YtmalklakaalaoaaGreatDoor.Sw

set_option linter.unusedVariables false
set_option maxRecDepth 10000
namespace Go.Sx
open Go.RowKit
section
variable {P : Program} {Q : Exit → Act → World → Prop} {C : Ending → World → Prop} {a : Act} {n G : Nat} {L : List (Nat × Value)} {w W : World} {R : List Res} {t t' : Tmp} {T T' E E' : TypeId} {b o b' o' : Nat} {cs cs' z z' : List Value} {fn : Func}
theorem rk3 [u : Ty P T true z] [u' : Ty P T' true z'] {r : Tmp} {v : Value} (hs : Slots a n L) (hr : fn.results = #[.cell t T, .cell t' T', .tmp r]) (hv : lk L t = some (.pointer (some ⟨b, o, none⟩))) (hv' : lk L t' = some (.pointer (some ⟨b', o', none⟩))) (hw : Has G w W R) (hi : In (Cells b cs E) R) (hi' : In (Cells b' cs' E') R) (hl : Nat.ble (o + z.length) cs.length = true) (hl' : Nat.ble (o' + z'.length) cs'.length = true) (hv2 : lk L r = some v) (h : C (.returned (.tuple #[.agg ⟨cut cs o z.length⟩, .agg ⟨cut cs' o' z'.length⟩, v])) W) : bodyPost P fn C .ret a W := by
  have h1 := run_load_agg u (hw.block hi).1 (Nat.le_of_ble_eq_true hl)
  have h1' := run_load_agg u' (hw.block hi').1 (Nat.le_of_ble_eq_true hl')
  refine rt hs ?_ h
  have h2 := at_tmp hs hv
  have h2' := at_tmp hs hv'
  have h3 := at_tmp hs hv2
  simp only [Instr.loadAt, Instr.sureAddr, Sem.run_bind, Sem.run_pure, Result.andThen_ok] at h1 h1'
  simp only [results, hr, List.mapM_toArray, List.mapM_cons, List.mapM_nil]
  simp [h2, h2', h3, asAddr, h1, h1']
end
theorem ch_at {α : Type} {Rr : α → List Value → Prop} {W : World} {sad : Option Addr} {scap n k : Nat} {l : List α} {xs : List Value} {i : Nat} {o : α} (hk : ∀ a c, Rr a c → c.length = k) (r : Rd W k (.slice sad n scap) n xs) (hc : Ch Rr l xs) (hn : l.length = n) (h : l[i]? = some o) :
    ∃ g off c, sad = some ⟨g, off, none⟩ ∧ g < W.heap.size ∧ Rr o c ∧ ∀ j u, c[j]? = some u → W.cell? ⟨g, off + i * k + j, none⟩ = some u := by
  have hi : i < l.length := (List.getElem?_eq_some_iff.1 h).1
  obtain ⟨c, h1, h2, h3⟩ := hc.get hk h
  obtain ⟨_, ad, cap, e, h4, h5, h6⟩ := r
  injection e with e1 e2 e3
  subst e1
  rcases h6 with h6 | ⟨b, off, rfl, hlt, hcell⟩
  · omega
  · refine ⟨b, off, c, rfl, hlt, h1, fun j u hu => ?_⟩
    rw [Nat.add_assoc]
    refine hcell _ _ ?_
    rw [← h3, cut_eq, List.getElem?_take] at hu
    split at hu
    · rw [List.getElem?_drop] at hu; exact hu
    · cases hu
end Go.Sx
namespace Go.Proofs.YtmalklakaalaoaaGreatDoor.Sw
open Go.RowKit Go.Sx
-- pieces
def eqRow (a b : RowD) : Bool := (a.place == b.place) && ((a.err == b.err) && eqBatch a.b.c a.b.q a.b.l b.b.c b.b.q b.b.l)
theorem eqRow_iff {a b : RowD} : eqRow a b = true ↔ a = b := by
  obtain ⟨p, ⟨c, q, l⟩, e⟩ := a
  obtain ⟨p', ⟨c', q', l'⟩, e'⟩ := b
  simp only [eqRow, Bool.and_eq_true, beq_iff_eq, eqBatch_iff, RowD.mk.injEq, BatchD.mk.injEq]
  constructor
  · rintro ⟨h1, h2, h3⟩; exact ⟨h1, h3, h2⟩
  · rintro ⟨h1, h3, h2⟩; exact ⟨h1, h2, h3⟩
def RowRd (W : World) (r : RowD) (cs : List Value) : Prop := ∃ sv, cs = rowCells r sv ∧ Rd W 9 sv r.b.l.length (r.b.l.flatMap opCells)
theorem RowRd.len {W : World} : ∀ (b : RowD) (c : List Value), RowRd W b c → c.length = 5 := by rintro b c ⟨sv, rfl, _⟩; rfl
theorem rowRd {G : Nat} {w0 W : World} {L : List Res} {H : Fh} (h : Has G w0 W L) (i : In (Fz H) L) {rows : List RowD} {xs : List Value} (hc : Ch (RowIn H) rows xs) : Ch (RowRd W) rows xs :=
  hc.mono fun r c ⟨sv, h1, h2⟩ => ⟨sv, h1, h.rdH i h2⟩
def eqRows (l m : List RowD) : Bool := (l.length == m.length) && (l.zip m).all fun p => eqRow p.1 p.2
theorem eqRows_iff {l m : List RowD} : eqRows l m = true ↔ l = m := by
  unfold eqRows
  rw [Bool.and_eq_true, beq_iff_eq]
  constructor
  · rintro ⟨h1, h2⟩
    apply List.ext_getElem h1
    intro i h3 h4
    rw [List.all_eq_true] at h2
    exact eqRow_iff.1 (h2 (l[i], m[i]) (List.mem_of_getElem? (i := i) (by rw [List.getElem?_zip_eq_some]; exact ⟨List.getElem?_eq_getElem h3, List.getElem?_eq_getElem h4⟩)))
  · rintro rfl
    refine ⟨rfl, ?_⟩
    rw [List.all_eq_true]
    intro p hp
    obtain ⟨i, hi⟩ := List.getElem?_of_mem hp
    rw [List.getElem?_zip_eq_some] at hi
    exact eqRow_iff.2 (Option.some.inj (hi.1.symm.trans hi.2))
set_option maxHeartbeats 8000000 in
theorem ref_EqRow (x y : RowD) (sv sv' : Value) (w : World) (r : Rd w 9 sv x.b.l.length (x.b.l.flatMap opCells)) (r' : Rd w 9 sv' y.b.l.length (y.b.l.flatMap opCells)) :
    Calls Tryz.prog 27 ⟨[.agg ⟨rowCells x sv⟩, .agg ⟨rowCells y sv'⟩]⟩ w fun e w' => e = .returned (.bool (eqRow x y)) ∧ Below w.heap.size w w' := by
  have hw := Has.start (G := 0) (w := w) (Nat.zero_le _)
  refine enter Tryz.func27 Tryz.ntmps27 rfl rfl fun a hs => ?_
  repeat (first | (refine sxv hs hw ?_; clear hs; intro a hs) | refine sxc hs ?_ | (refine sxa hs hw ?_; clear hs hw; intro a b W hw hs) | (refine sxs hs hw ?_; clear hs hw; intro W hs hw))
  unfold eqRow
  cases h1 : (x.place == y.place) with
  | false =>
    rw [h1] at hs
    repeat (first | (refine sxv hs hw ?_; clear hs; intro a hs) | refine sxc hs ?_ | (refine sxa hs hw ?_; clear hs hw; intro a b W hw hs) | (refine sxs hs hw ?_; clear hs hw; intro W hs hw))
    exact rt1 hs rfl rfl ⟨rfl, hw.end (by repeat (first | exact In.hd | apply In.tl))⟩
  | true =>
  rw [h1] at hs
  repeat (first | (refine sxv hs hw ?_; clear hs; intro a hs) | refine sxc hs ?_ | (refine sxa hs hw ?_; clear hs hw; intro a b W hw hs) | (refine sxs hs hw ?_; clear hs hw; intro W hs hw))
  cases h2 : (x.err == y.err) with
  | false =>
    rw [h2] at hs
    repeat (first | (refine sxv hs hw ?_; clear hs; intro a hs) | refine sxc hs ?_ | (refine sxa hs hw ?_; clear hs hw; intro a b W hw hs) | (refine sxs hs hw ?_; clear hs hw; intro W hs hw))
    exact rt1 hs rfl rfl ⟨rfl, hw.end (by repeat (first | exact In.hd | apply In.tl))⟩
  | true =>
  rw [h2] at hs
  repeat (first | (refine sxv hs hw ?_; clear hs; intro a hs) | refine sxc hs ?_ | (refine sxa hs hw ?_; clear hs hw; intro a b W hw hs) | (refine sxs hs hw ?_; clear hs hw; intro W hs hw))
  refine st_call hs (hc := ref_EqBatch x.b.c x.b.q x.b.l sv y.b.c y.b.q y.b.l sv' _ (hw.rd (by repeat (first | exact In.hd | apply In.tl)) hw.ext.size r) (hw.rd (by repeat (first | exact In.hd | apply In.tl)) hw.ext.size r')) (k := ?_); rintro e0 W1 ⟨rfl, hb⟩; refine ⟨_, rfl, ?_⟩; clear hs; intro a hs; replace hw := hw.below hb; clear hb
  repeat (first | (refine sxv hs hw ?_; clear hs; intro a hs) | refine sxc hs ?_ | (refine sxa hs hw ?_; clear hs hw; intro a b W hw hs) | (refine sxs hs hw ?_; clear hs hw; intro W hs hw))
  exact rt1 hs rfl rfl ⟨rfl, hw.end (by repeat (first | exact In.hd | apply In.tl))⟩
theorem eqRows_snoc {l l' : List RowD} {i : Nat} {o o' : RowD} (h : l[i]? = some o) (h' : l'[i]? = some o') (e : l.take i = l'.take i) (ho : eqRow o o' = true) : l.take (i + 1) = l'.take (i + 1) := by
  rw [List.take_add_one, List.take_add_one, h, h', e, eqRow_iff.1 ho]
theorem eqRows_no {l l' : List RowD} {i : Nat} {o o' : RowD} (h : l[i]? = some o) (h' : l'[i]? = some o') (e : eqRow o o' = false) : eqRows l l' = false := by
  cases hq : eqRows l l' with
  | false => rfl
  | true =>
    have := eqRows_iff.1 hq
    subst this
    rw [h] at h'
    cases h'
    rw [eqRow_iff.2 rfl] at e
    cases e
set_option maxHeartbeats 8000000 in
theorem ref_EqRows (l : List RowD) (sv : Value) (xs : List Value) (l' : List RowD) (sv' : Value) (ys : List Value) (w : World) (r : Rd w 5 sv l.length xs) (hc : Ch (RowRd w) l xs) (r' : Rd w 5 sv' l'.length ys) (hc' : Ch (RowRd w) l' ys) :
    Calls Tryz.prog 15 ⟨[sv, sv']⟩ w fun e w' => e = .returned (.bool (eqRows l l')) ∧ Below w.heap.size w w' := by
  have hw := Has.start (G := 0) (w := w) (Nat.zero_le _)
  obtain ⟨sad, scap, rfl⟩ : ∃ ad cap, sv = .slice ad l.length cap := by obtain ⟨_, ad, cap, e, _⟩ := r; exact ⟨ad, cap, e⟩
  obtain ⟨tad, tcap, rfl⟩ : ∃ ad cap, sv' = .slice ad l'.length cap := by obtain ⟨_, ad, cap, e, _⟩ := r'; exact ⟨ad, cap, e⟩
  have hlen : l.length ≤ 9223372036854775807 := r.len
  refine enter Tryz.func15 Tryz.ntmps15 rfl rfl fun a hs => ?_
  repeat (first | (refine sxv hs hw ?_; clear hs; intro a hs) | refine sxc hs ?_ | (refine sxa hs hw ?_; clear hs hw; intro a b W hw hs) | (refine sxs hs hw ?_; clear hs hw; intro W hs hw))
  cases h2 : ((l.length : Int) != (l'.length : Int)) with
  | true =>
    rw [h2] at hs
    repeat (first | (refine sxv hs hw ?_; clear hs; intro a hs) | refine sxc hs ?_ | (refine sxa hs hw ?_; clear hs hw; intro a b W hw hs) | (refine sxs hs hw ?_; clear hs hw; intro W hs hw))
    have h3 : ¬ l.length = l'.length := by rw [bne_iff_ne] at h2; omega
    exact rt1 hs rfl rfl ⟨by simp [eqRows, h3], hw.end (by repeat (first | exact In.hd | apply In.tl))⟩
  | false =>
  rw [h2] at hs
  repeat (first | (refine sxv hs hw ?_; clear hs; intro a hs) | refine sxc hs ?_ | (refine sxa hs hw ?_; clear hs hw; intro a b W hw hs) | (refine sxs hs hw ?_; clear hs hw; intro W hs hw))
  have hL : l.length = l'.length := by
    have : (l.length : Int) = (l'.length : Int) := by simpa using h2
    omega
  clear h2
  refine st_loop (σ := Nat) (fun i => [(0, .slice sad l.length scap), (1, .slice tad l'.length tcap), (5, .int .i64 (i : Int))]) (fun _ => Old w 0 :: []) (fun i => i ≤ l.length ∧ l.take i = l'.take i) (fun i => l.length - i) 0 ⟨Nat.zero_le _, rfl⟩ hs ⟨rfl, rfl, rfl, trivial⟩ hw ?_
  clear hs hw
  rintro i a W ⟨hi, ha⟩ hs hw
  repeat (first | (refine sxv hs hw ?_; clear hs; intro a hs) | refine sxc hs ?_ | (refine sxa hs hw ?_; clear hs hw; intro a b W hw hs) | (refine sxs hs hw ?_; clear hs hw; intro W hs hw))
  refine cd_split hs (kt := fun hcc => ?_) (kf := fun hcc => ?_)
  · have hi' : i < l.length := by simpa using hcc
    obtain ⟨o, hoi⟩ : ∃ o, l[i]? = some o := ⟨l[i], List.getElem?_eq_getElem hi'⟩
    obtain ⟨o', hoi'⟩ : ∃ o, l'[i]? = some o := ⟨l'[i], List.getElem?_eq_getElem (by omega)⟩
    have hnext := eqRows_snoc hoi hoi' ha
    have hall := eqRows_no hoi hoi'
    obtain ⟨g1, f1, c1, rfl, hg1, ⟨v1, rfl, hv1⟩, hc1⟩ := ch_at RowRd.len r hc rfl hoi
    obtain ⟨g2, f2, c2, rfl, hg2, ⟨v2, rfl, hv2⟩, hc2⟩ := ch_at RowRd.len r' hc' rfl hoi'
    repeat (first | (refine sxv hs hw ?_; clear hs; intro a hs) | refine sxc hs ?_ | (refine sxa hs hw ?_; clear hs hw; intro a b W hw hs) | (refine sxs hs hw ?_; clear hs hw; intro W hs hw))
    refine rg_draw (V := [.slice (some ⟨g1, f1, none⟩) l.length scap, .int .i64 (i : Int), .pointer (some ⟨g1, f1 + i * 5, none⟩), .agg ⟨rowCells o v1⟩, .slice (some ⟨g2, f2, none⟩) l'.length tcap, .int .i64 (i : Int), .pointer (some ⟨g2, f2 + i * 5, none⟩), .agg ⟨rowCells o' v2⟩, .bool (eqRow o o'), .bool (!eqRow o o')])
      (Rs := fun D => Old w 0 :: []) hs hw (ho := ⟨?_, ?_, ?c2_c, ?c3_c, ?_, ?_, ?c6_c, ?c7_c, ?c8_c, ?_, trivial⟩) (k := ?k_c)
    case c2_c =>
      intro LD D a W hcl hi hp hs hw
      refine st_index_at hs (z := zrc) (h0 := by omega) (h1 := by omega) (c := ?_); clear hs; intro a hs
      repeat (first | (refine sxv hs hw ?_; clear hs; intro a hs) | refine sxc hs ?_ | (refine sxa hs hw ?_; clear hs hw; intro a b W hw hs) | (refine sxs hs hw ?_; clear hs hw; intro W hs hw))
      exact ⟨hs, hw⟩
    case c6_c =>
      intro LD D a W hcl hi hp hs hw
      refine st_index_at hs (z := zrc) (h0 := by omega) (h1 := by omega) (c := ?_); clear hs; intro a hs
      repeat (first | (refine sxv hs hw ?_; clear hs; intro a hs) | refine sxc hs ?_ | (refine sxa hs hw ?_; clear hs hw; intro a b W hw hs) | (refine sxs hs hw ?_; clear hs hw; intro W hs hw))
      exact ⟨hs, hw⟩
    case c3_c =>
      intro LD D a W hcl hi hp hs hw
      refine st_load_ats (z := zrc) hs (cs := rowCells o v1) (hc := fun j u h => ((hw.end In.hd).cell hg1).trans (hc1 j u h)) (hl := rfl) (c := ?_); clear hs; intro a hs
      repeat (first | (refine sxv hs hw ?_; clear hs; intro a hs) | refine sxc hs ?_ | (refine sxa hs hw ?_; clear hs hw; intro a b W hw hs) | (refine sxs hs hw ?_; clear hs hw; intro W hs hw))
      exact ⟨hs, hw⟩
    case c7_c =>
      intro LD D a W hcl hi hp hs hw
      refine st_load_ats (z := zrc) hs (cs := rowCells o' v2) (hc := fun j u h => ((hw.end In.hd).cell hg2).trans (hc2 j u h)) (hl := rfl) (c := ?_); clear hs; intro a hs
      repeat (first | (refine sxv hs hw ?_; clear hs; intro a hs) | refine sxc hs ?_ | (refine sxa hs hw ?_; clear hs hw; intro a b W hw hs) | (refine sxs hs hw ?_; clear hs hw; intro W hs hw))
      exact ⟨hs, hw⟩
    case c8_c =>
      intro LD D a W hcl hi hp hs hw
      refine st_call hs (hc := ref_EqRow o o' v1 v2 _ (hw.rd (by repeat (first | exact In.hd | apply In.tl)) hw.ext.size hv1) (hw.rd (by repeat (first | exact In.hd | apply In.tl)) hw.ext.size hv2)) (k := ?_); rintro e0 W1 ⟨rfl, hb⟩; refine ⟨_, rfl, ?_⟩; clear hs; intro a hs; replace hw := hw.below hb; clear hb
      repeat (first | (refine sxv hs hw ?_; clear hs; intro a hs) | refine sxc hs ?_ | (refine sxa hs hw ?_; clear hs hw; intro a b W hw hs) | (refine sxs hs hw ?_; clear hs hw; intro W hs hw))
      exact ⟨hs, hw⟩
    case k_c =>
      clear hs hw
      intro a W hs hw
      replace hs : Slots a 27 [(26, .bool (!eqRow o o')), (0, .slice (some ⟨g1, f1, none⟩) l.length scap), (1, .slice (some ⟨g2, f2, none⟩) l'.length tcap), (5, .int .i64 (i : Int))] := hs.of ⟨rfl, rfl, rfl, rfl, trivial⟩
      cases he : eqRow o o' with
      | false =>
        rw [he] at hs
        repeat (first | (refine sxv hs hw ?_; clear hs; intro a hs) | refine sxc hs ?_ | (refine sxa hs hw ?_; clear hs hw; intro a b W hw hs) | (refine sxs hs hw ?_; clear hs hw; intro W hs hw))
        exact rt1 hs rfl rfl ⟨by rw [hall he], hw.end (by repeat (first | exact In.hd | apply In.tl))⟩
      | true =>
        rw [he] at hs
        repeat (first | (refine sxv hs hw ?_; clear hs; intro a hs) | refine sxc hs ?_ | (refine sxa hs hw ?_; clear hs hw; intro a b W hw hs) | (refine sxs hs hw ?_; clear hs hw; intro W hs hw))
        exact st_again (i + 1) hs hw ⟨hi', hnext he⟩ (by show l.length - (i + 1) < l.length - i; omega) ⟨rfl, rfl, int_eq (by show IntKind.i64.wrap ((i : Int) + 1) = ((i + 1 : Nat) : Int); rw [IntWalk.i64_in _ (by omega)]; omega), trivial⟩
    all_goals
      intro LD D a W hcl hi hp hs hw
      repeat (first | (refine sxv hs hw ?_; clear hs; intro a hs) | refine sxc hs ?_ | (refine sxa hs hw ?_; clear hs hw; intro a b W hw hs) | (refine sxs hs hw ?_; clear hs hw; intro W hs hw))
      exact ⟨hs, hw⟩
  · have hi' : i = l.length := by have : ¬ i < l.length := by simpa using hcc
                                  omega
    subst hi'
    rw [List.take_length, hL, List.take_length] at ha
    repeat (first | (refine sxv hs hw ?_; clear hs; intro a hs) | refine sxc hs ?_ | (refine sxa hs hw ?_; clear hs hw; intro a b W hw hs) | (refine sxs hs hw ?_; clear hs hw; intro W hs hw))
    exact rt1 hs rfl rfl ⟨by rw [eqRows_iff.2 ha], hw.end (by repeat (first | exact In.hd | apply In.tl))⟩
end Go.Proofs.YtmalklakaalaoaaGreatDoor.Sw

set_option linter.unusedVariables false
set_option maxRecDepth 10000
namespace Go.Proofs.YtmalklakaalaoaaGreatDoor.Sw
open Go.RowKit Go.Sx
-- pieces
def mayAll (l : List OpD) : Bool := !(decide ((l.length : Int) < 1)) && !(decide ((l.length : Int) > 8)) && l.all mayD
set_option maxHeartbeats 4000000 in
theorem ref_mayOps (l : List OpD) (sv : Value) (w : World) (ho : ∀ o ∈ l, OpOk o) (r : Rd w 9 sv l.length (l.flatMap opCells)) :
    Calls Tryz.prog 53 ⟨[sv]⟩ w fun e w' => e = .returned (.bool (mayAll l)) ∧ Below w.heap.size w w' := by
  have hw := Has.start (G := 0) (w := w) (Nat.zero_le _)
  obtain ⟨sad, scap, rfl⟩ : ∃ ad cap, sv = .slice ad l.length cap := by obtain ⟨_, ad, cap, e, _⟩ := r; exact ⟨ad, cap, e⟩
  have hlen : l.length ≤ 9223372036854775807 := r.len
  refine enter Tryz.func53 Tryz.ntmps53 rfl rfl fun a hs => ?_
  repeat (first | (refine sxv hs hw ?_; clear hs; intro a hs) | refine sxc hs ?_ | (refine sxa hs hw ?_; clear hs hw; intro a b W hw hs) | (refine sxs hs hw ?_; clear hs hw; intro W hs hw))
  cases h4 : decide ((l.length : Int) < 1) with
  | true =>
    rw [h4] at hs
    repeat (first | (refine sxv hs hw ?_; clear hs; intro a hs) | refine sxc hs ?_ | (refine sxa hs hw ?_; clear hs hw; intro a b W hw hs) | (refine sxs hs hw ?_; clear hs hw; intro W hs hw))
    exact rt1 hs rfl rfl ⟨by simp [mayAll, h4], hw.end (by repeat (first | exact In.hd | apply In.tl))⟩
  | false =>
  rw [h4] at hs
  repeat (first | (refine sxv hs hw ?_; clear hs; intro a hs) | refine sxc hs ?_ | (refine sxa hs hw ?_; clear hs hw; intro a b W hw hs) | (refine sxs hs hw ?_; clear hs hw; intro W hs hw))
  cases h5 : decide ((l.length : Int) > 8) with
  | true =>
    rw [h5] at hs
    repeat (first | (refine sxv hs hw ?_; clear hs; intro a hs) | refine sxc hs ?_ | (refine sxa hs hw ?_; clear hs hw; intro a b W hw hs) | (refine sxs hs hw ?_; clear hs hw; intro W hs hw))
    exact rt1 hs rfl rfl ⟨by simp only [mayAll, h4, h5]; rfl, hw.end (by repeat (first | exact In.hd | apply In.tl))⟩
  | false =>
  rw [h5] at hs
  repeat (first | (refine sxv hs hw ?_; clear hs; intro a hs) | refine sxc hs ?_ | (refine sxa hs hw ?_; clear hs hw; intro a b W hw hs) | (refine sxs hs hw ?_; clear hs hw; intro W hs hw))
  have hmb : mayAll l = l.all mayD := by unfold mayAll; rw [h4, h5]; simp
  rw [hmb]
  clear hmb h4 h5
  refine st_loop (σ := Nat) (fun i => [(0, .slice sad l.length scap), (3, .int .i64 (i : Int))]) (fun _ => Old w 0 :: []) (fun i => i ≤ l.length ∧ (l.take i).all mayD = true) (fun i => l.length - i) 0 ⟨Nat.zero_le _, rfl⟩ hs ⟨rfl, rfl, trivial⟩ hw ?_
  clear hs hw
  rintro i a W ⟨hi, ha⟩ hs hw
  repeat (first | (refine sxv hs hw ?_; clear hs; intro a hs) | refine sxc hs ?_ | (refine sxa hs hw ?_; clear hs hw; intro a b W hw hs) | (refine sxs hs hw ?_; clear hs hw; intro W hs hw))
  refine cd_split hs (kt := fun hcc => ?_) (kf := fun hcc => ?_)
  · have hi' : i < l.length := by simpa using hcc
    obtain ⟨o, hoi⟩ : ∃ o, l[i]? = some o := ⟨l[i], List.getElem?_eq_getElem hi'⟩
    have hok := ho o (List.mem_of_getElem? hoi)
    have hnext : (l.take (i + 1)).all mayD = mayD o := by
      rw [List.take_add_one, hoi, List.all_append, ha]; simp
    have hall : mayD o = false → l.all mayD = false := fun h => by
      rw [List.all_eq_false]
      exact ⟨o, List.mem_of_getElem? hoi, by rw [h]; simp⟩
    repeat (first | (refine sxv hs hw ?_; clear hs; intro a hs) | refine sxc hs ?_ | (refine sxa hs hw ?_; clear hs hw; intro a b W hw hs) | (refine sxs hs hw ?_; clear hs hw; intro W hs hw))
    refine st_index_op hs (r := hw.rd (by repeat (first | exact In.hd | apply In.tl)) hw.ext.size r) (ho := hoi) (c := ?_); clear hs; intro a p off hpc hs
    refine st_load_ats (z := opCells ⟨0, ⟨#[]⟩, 0, 0, ⟨#[]⟩, 0, 0, ⟨#[]⟩, 0⟩) hs (hc := hpc) (hl := rfl) (c := ?_); clear hs; intro a hs
    obtain ⟨kind, key, vk, vn, vs, ok, on, os, n⟩ := o
    simp only [opCells] at hs
    clear hpc
    have hkey := hok.key
    have hvs := hok.vs
    have hos := hok.os
    simp only at hkey hvs hos
    repeat (first | (refine sxv hs hw ?_; clear hs; intro a hs) | refine sxc hs ?_ | (refine sxa hs hw ?_; clear hs hw; intro a b W hw hs) | (refine sxs hs hw ?_; clear hs hw; intro W hs hw))
    refine st_call hs (hc := ref_MayOp kind key vk vn vs ok on os n _ hkey hvs hos) (k := ?_); rintro e0 W1 ⟨rfl, hb⟩; refine ⟨_, rfl, ?_⟩; clear hs; intro a hs; replace hw := hw.below hb; clear hb
    rw [show mayOp kind key vk vn vs ok on os n = mayD ⟨kind, key, vk, vn, vs, ok, on, os, n⟩ from rfl] at hs
    cases hm : mayD ⟨kind, key, vk, vn, vs, ok, on, os, n⟩ with
    | false =>
      rw [hm] at hs
      repeat (first | (refine sxv hs hw ?_; clear hs; intro a hs) | refine sxc hs ?_ | (refine sxa hs hw ?_; clear hs hw; intro a b W hw hs) | (refine sxs hs hw ?_; clear hs hw; intro W hs hw))
      exact rt1 hs rfl rfl ⟨by rw [hall hm], hw.end (by repeat (first | exact In.hd | apply In.tl))⟩
    | true =>
      rw [hm] at hs hnext
      repeat (first | (refine sxv hs hw ?_; clear hs; intro a hs) | refine sxc hs ?_ | (refine sxa hs hw ?_; clear hs hw; intro a b W hw hs) | (refine sxs hs hw ?_; clear hs hw; intro W hs hw))
      exact st_again (i + 1) hs hw ⟨by omega, hnext⟩ (by show l.length - (i + 1) < l.length - i; omega) ⟨rfl, int_eq (by show IntKind.i64.wrap ((i : Int) + 1) = ((i + 1 : Nat) : Int); rw [IntWalk.i64_in _ (by omega)]; omega), trivial⟩
  · have hi' : i = l.length := by have h9 := of_decide_eq_false hcc; omega
    subst hi'
    rw [List.take_length] at ha
    rw [ha]
    repeat (first | (refine sxv hs hw ?_; clear hs; intro a hs) | refine sxc hs ?_ | (refine sxa hs hw ?_; clear hs hw; intro a b W hw hs) | (refine sxs hs hw ?_; clear hs hw; intro W hs hw))
    exact rt1 hs rfl rfl ⟨rfl, hw.end (by repeat (first | exact In.hd | apply In.tl))⟩
end Go.Proofs.YtmalklakaalaoaaGreatDoor.Sw

set_option linter.unusedVariables false
set_option maxRecDepth 10000
namespace Go.Proofs.YtmalklakaalaoaaGreatDoor.Sw
open Go.RowKit Go.Sx
-- pieces
set_option maxHeartbeats 8000000 in
theorem ref_bytesOf (c q : Int) (l : List OpD) (sv : Value) (w : World) (hc : i64 c) (hq : i64 q) (hl : l.length ≤ 100) (ho : ∀ o ∈ l, OpOk o) (r : Rd w 9 sv l.length (l.flatMap opCells)) :
    Calls Tryz.prog 52 ⟨[.agg ⟨[.int .i64 c, .int .i64 q, sv]⟩]⟩ w fun e w' => ∃ ad cap, e = .returned (.slice ad (textB c q l).length cap) ∧ Has 0 w w' (OwnB 5 (.slice ad (textB c q l).length cap) (textB c q l) :: Old w 0 :: []) := by
  have hw := Has.start (G := 0) (w := w) (Nat.zero_le _)
  obtain ⟨sad, scap, rfl⟩ : ∃ ad cap, sv = .slice ad l.length cap := by obtain ⟨_, ad, cap, e, _⟩ := r; exact ⟨ad, cap, e⟩
  have hh := headB_le c q l.length
  unfold headB at hh
  simp only [List.length_append] at hh
  refine enter Tryz.func52 Tryz.ntmps52 rfl rfl fun a hs => ?_
  repeat (first | (refine sxv hs hw ?_; clear hs; intro a hs) | refine sxc hs ?_ | (refine sxa hs hw ?_; clear hs hw; intro a b W hw hs) | (refine sxs hs hw ?_; clear hs hw; intro W hs hw))
  obtain ⟨b1, q1⟩ := nm1 hw; subst q1
  have hw : Has 0 w _ (Cells b1 [.int .i64 c, .int .i64 q, .slice sad l.length scap] 36 :: Old w 0 :: []) := hw
  refine st_call hs (hc := ref_Put w _ c _ hc.1 hc.2 hw) (k := ?_); rintro e0 W1 ⟨ad, cap, rfl, hw1⟩; refine ⟨_, rfl, ?_⟩; clear hs hw; intro a hs; have hw := hw1; clear hw1
  repeat (first | (refine sxv hs hw ?_; clear hs; intro a hs) | refine sxc hs ?_ | (refine sxa hs hw ?_; clear hs hw; intro a b W hw hs) | (refine sxs hs hw ?_; clear hs hw; intro W hs hw))
  refine st_call hs (hc := ref_Put w _ q _ hq.1 hq.2 hw) (k := ?_); rintro e0 W1 ⟨ad, cap, rfl, hw1⟩; refine ⟨_, rfl, ?_⟩; clear hs hw; intro a hs; have hw := hw1; clear hw1
  repeat (first | (refine sxv hs hw ?_; clear hs; intro a hs) | refine sxc hs ?_ | (refine sxa hs hw ?_; clear hs hw; intro a b W hw hs) | (refine sxs hs hw ?_; clear hs hw; intro W hs hw))
  have hw := hw.swap2
  refine st_append_b hs hw (l := Ph.putI c) (m := Ph.putI q) (hr := src_rd (hw.rd_own (In.tl In.hd)) (bys_one _)) (hb := by first | omega | (simp only [List.length_append]; omega)) (c := ?_); clear hs hw; intro a ad2 cap2 W hs hw
  have hw := hw.drop2
  repeat (first | (refine sxv hs hw ?_; clear hs; intro a hs) | refine sxc hs ?_ | (refine sxa hs hw ?_; clear hs hw; intro a b W hw hs) | (refine sxs hs hw ?_; clear hs hw; intro W hs hw))
  refine st_call hs (hc := ref_Put w _ (l.length : Int) _ (by omega) (by omega) hw) (k := ?_); rintro e0 W1 ⟨ad, cap, rfl, hw1⟩; refine ⟨_, rfl, ?_⟩; clear hs hw; intro a hs; have hw := hw1; clear hw1
  repeat (first | (refine sxv hs hw ?_; clear hs; intro a hs) | refine sxc hs ?_ | (refine sxa hs hw ?_; clear hs hw; intro a b W hw hs) | (refine sxs hs hw ?_; clear hs hw; intro W hs hw))
  have hw := hw.swap2
  refine st_append_b hs hw (l := Ph.putI c ++ Ph.putI q) (m := Ph.putI l.length) (hr := src_rd (hw.rd_own (In.tl In.hd)) (bys_one _)) (hb := by first | omega | (simp only [List.length_append]; omega)) (c := ?_); clear hs hw; intro a ad2 cap2 W hs hw
  have hw := hw.drop2
  repeat (first | (refine sxv hs hw ?_; clear hs; intro a hs) | refine sxc hs ?_ | (refine sxa hs hw ?_; clear hs hw; intro a b W hw hs) | (refine sxs hs hw ?_; clear hs hw; intro W hs hw))
  refine st_loop (σ := Value × Nat) (fun s => [(1, .pointer (some ⟨b1, 0, none⟩)), (3, s.1), (4, .int .i64 (s.2 : Int))]) (fun s => Sx.OwnB 5 s.1 (headB c q l.length ++ (l.take s.2).flatMap opB) :: Cells b1 [.int .i64 c, .int .i64 q, .slice sad l.length scap] 36 :: Old w 0 :: []) (fun s => s.2 ≤ l.length) (fun s => l.length - s.2) (.slice ad2 (Ph.putI c ++ Ph.putI q ++ Ph.putI l.length).length cap2, 0) (Nat.zero_le _) hs ⟨rfl, rfl, rfl, trivial⟩ (by rw [show (headB c q l.length ++ (l.take 0).flatMap opB) = Ph.putI c ++ Ph.putI q ++ Ph.putI l.length from by simp [headB]]; exact hw) ?_
  clear hs hw hh
  rintro ⟨v, i⟩ a W hi hs hw
  simp only at hi hs hw
  repeat (first | (refine sxv hs hw ?_; clear hs; intro a hs) | refine sxc hs ?_ | (refine sxa hs hw ?_; clear hs hw; intro a b W hw hs) | (refine sxs hs hw ?_; clear hs hw; intro W hs hw))
  refine cd_split hs (kt := fun hcc => ?_) (kf := fun hcc => ?_)
  · have hi' : i < l.length := by simpa using hcc
    obtain ⟨o, hoi⟩ : ∃ o, l[i]? = some o := ⟨l[i], List.getElem?_eq_getElem hi'⟩
    have hok := ho o (List.mem_of_getElem? hoi)
    have hacc : (headB c q l.length ++ (l.take i).flatMap opB).length ≤ 320000030 := by
      have h1 := headB_le c q l.length
      have h2 := ops_le (l := l.take i) fun x hx => ho x (List.mem_of_mem_take hx)
      rw [List.length_take] at h2
      rw [List.length_append]; omega
    have hnext : headB c q l.length ++ (l.take (i + 1)).flatMap opB = headB c q l.length ++ (l.take i).flatMap opB ++ opB o := by
      rw [List.take_add_one, hoi, List.flatMap_append, List.append_assoc]; simp
    generalize headB c q l.length ++ (l.take i).flatMap opB = acc at *
    have hp1 := Ph.putI_length_le o.kind
    have hp2 := putT_le o.key
    have hp3 := putR_le o.vk o.vn o.vs
    have hp4 := putR_le o.ok o.on o.os
    have hp5 := Ph.putI_length_le o.n
    obtain ⟨hk, hvk, hvn, hok', hon, hn, hkey, hvs, hos⟩ := hok
    repeat (first | (refine sxv hs hw ?_; clear hs; intro a hs) | refine sxc hs ?_ | (refine sxa hs hw ?_; clear hs hw; intro a b W hw hs) | (refine sxs hs hw ?_; clear hs hw; intro W hs hw))
    refine st_index_op hs (r := hw.rd (by repeat (first | exact In.hd | apply In.tl)) hw.ext.size r) (ho := hoi) (c := ?_); clear hs; intro a p off hpc hs
    refine st_load_ats (z := opCells ⟨0, ⟨#[]⟩, 0, 0, ⟨#[]⟩, 0, 0, ⟨#[]⟩, 0⟩) hs (hc := hpc) (hl := rfl) (c := ?_); clear hs; intro a hs
    obtain ⟨kind, key, vk, vn, vs, ok, on, os, n⟩ := o
    simp only at hk hvk hvn hok' hon hn hkey hvs hos hp1 hp2 hp3 hp4 hp5
    simp only [opCells] at hs
    clear hpc
    repeat (first | (refine sxv hs hw ?_; clear hs; intro a hs) | refine sxc hs ?_ | (refine sxa hs hw ?_; clear hs hw; intro a b W hw hs) | (refine sxs hs hw ?_; clear hs hw; intro W hs hw))
    obtain ⟨b4, q4⟩ := nm1 hw; subst q4
    have hw : Has 0 w _ (Cells b4 [.int .i64 kind, .string key, .int .i64 vk, .int .i64 vn, .string vs, .int .i64 ok, .int .i64 on, .string os, .int .i64 n] 95 :: Sx.OwnB 5 v acc :: Cells b1 [.int .i64 c, .int .i64 q, .slice sad l.length scap] 36 :: Old w 0 :: []) := hw
    have hw := hw.swap2
    obtain ⟨vad, vcap, rfl⟩ := hw.own_slice
    refine st_call hs (hc := ref_Put w _ kind _ hk.1 hk.2 hw) (k := ?_); rintro e0 W1 ⟨ad, cap, rfl, hw1⟩; refine ⟨_, rfl, ?_⟩; clear hs hw; intro a hs; have hw := hw1; clear hw1
    repeat (first | (refine sxv hs hw ?_; clear hs; intro a hs) | refine sxc hs ?_ | (refine sxa hs hw ?_; clear hs hw; intro a b W hw hs) | (refine sxs hs hw ?_; clear hs hw; intro W hs hw))
    have hw := hw.swap2
    refine st_append_b hs hw (l := acc) (m := Ph.putI kind) (hr := src_rd (hw.rd_own (In.tl In.hd)) (bys_one _)) (hb := by first | omega | (simp only [List.length_append]; omega)) (c := ?_); clear hs hw; intro a ad2 cap2 W hs hw
    have hw := hw.drop2
    repeat (first | (refine sxv hs hw ?_; clear hs; intro a hs) | refine sxc hs ?_ | (refine sxa hs hw ?_; clear hs hw; intro a b W hw hs) | (refine sxs hs hw ?_; clear hs hw; intro W hs hw))
    refine st_call hs (hc := ref_PutText w _ key _ (by omega) hw) (k := ?_); rintro e0 W1 ⟨ad, cap, rfl, hw1⟩; refine ⟨_, rfl, ?_⟩; clear hs hw; intro a hs; have hw := hw1; clear hw1
    repeat (first | (refine sxv hs hw ?_; clear hs; intro a hs) | refine sxc hs ?_ | (refine sxa hs hw ?_; clear hs hw; intro a b W hw hs) | (refine sxs hs hw ?_; clear hs hw; intro W hs hw))
    have hw := hw.swap2
    refine st_append_b hs hw (l := acc ++ Ph.putI kind) (m := Ph.putT key.data.toList) (hr := src_rd (hw.rd_own (In.tl In.hd)) (bys_one _)) (hb := by first | omega | (simp only [List.length_append]; omega)) (c := ?_); clear hs hw; intro a ad2 cap2 W hs hw
    have hw := hw.drop2
    repeat (first | (refine sxv hs hw ?_; clear hs; intro a hs) | refine sxc hs ?_ | (refine sxa hs hw ?_; clear hs hw; intro a b W hw hs) | (refine sxs hs hw ?_; clear hs hw; intro W hs hw))
    have hlen2 : (acc ++ Ph.putI kind ++ Ph.putT key.data.toList).length ≤ 322000060 := by simp only [List.length_append]; omega
    generalize hA : acc ++ Ph.putI kind ++ Ph.putT key.data.toList = acc2 at *
    by_cases k1 : kind = 1
    · subst k1
      repeat (first | (refine sxv hs hw ?_; clear hs; intro a hs) | refine sxc hs ?_ | (refine sxa hs hw ?_; clear hs hw; intro a b W hw hs) | (refine sxs hs hw ?_; clear hs hw; intro W hs hw))
      refine st_call hs (hc := ref_PutRaw w _ vk vn vs _ hvk.1 hvk.2 hvn.1 hvn.2 (by omega) hw) (k := ?_); rintro e0 W1 ⟨ad, cap, rfl, hw1⟩; refine ⟨_, rfl, ?_⟩; clear hs hw; intro a hs; have hw := hw1; clear hw1
      repeat (first | (refine sxv hs hw ?_; clear hs; intro a hs) | refine sxc hs ?_ | (refine sxa hs hw ?_; clear hs hw; intro a b W hw hs) | (refine sxs hs hw ?_; clear hs hw; intro W hs hw))
      have hw := hw.swap2
      refine st_append_b hs hw (l := acc2) (m := putR vk vn vs) (hr := src_rd (hw.rd_own (In.tl In.hd)) (bys_one _)) (hb := by first | omega | (simp only [List.length_append]; omega)) (c := ?_); clear hs hw; intro a ad2 cap2 W hs hw
      have hw := hw.drop2
      repeat (first | (refine sxv hs hw ?_; clear hs; intro a hs) | refine sxc hs ?_ | (refine sxa hs hw ?_; clear hs hw; intro a b W hw hs) | (refine sxs hs hw ?_; clear hs hw; intro W hs hw))
      have hw := hw.drop2
      repeat (first | (refine sxv hs hw ?_; clear hs; intro a hs) | refine sxc hs ?_ | (refine sxa hs hw ?_; clear hs hw; intro a b W hw hs) | (refine sxs hs hw ?_; clear hs hw; intro W hs hw))
      rw [show acc2 ++ putR vk vn vs = acc ++ opB ⟨1, key, vk, vn, vs, ok, on, os, n⟩ from by rw [← hA]; simp [opB], ← hnext] at hs hw
      refine st_again (_, i + 1) hs hw (by show i + 1 ≤ l.length; omega) (by show l.length - (i + 1) < l.length - i; omega) ⟨rfl, rfl, int_eq (by show IntKind.i64.wrap ((i : Int) + 1) = ((i + 1 : Nat) : Int); rw [IntWalk.i64_in _ (by omega)]; omega), trivial⟩
    have e1 : (kind == 1) = false := by simpa using k1
    rw [e1] at hs
    repeat (first | (refine sxv hs hw ?_; clear hs; intro a hs) | refine sxc hs ?_ | (refine sxa hs hw ?_; clear hs hw; intro a b W hw hs) | (refine sxs hs hw ?_; clear hs hw; intro W hs hw))
    by_cases k3 : kind = 3
    · subst k3
      repeat (first | (refine sxv hs hw ?_; clear hs; intro a hs) | refine sxc hs ?_ | (refine sxa hs hw ?_; clear hs hw; intro a b W hw hs) | (refine sxs hs hw ?_; clear hs hw; intro W hs hw))
      have hw := hw.free.free
      have hw := hw.perm ((List.Perm.cons _ (List.Perm.swap _ _ _)).trans ((List.Perm.swap _ _ _)))
      refine rg_drawU (σ := Option Addr × Nat) (V := fun u => [(.slice ad2 acc2.length cap2), .pointer (some ⟨b4, 0 + 2, none⟩), .agg ⟨[.int .i64 vk, .int .i64 vn, .string vs]⟩, (.slice (u 3).1 (putR vk vn vs).length (u 3).2), (.slice (u 4).1 (acc2 ++ putR vk vn vs).length (u 4).2), .pointer (some ⟨b4, 0 + 5, none⟩), .agg ⟨[.int .i64 ok, .int .i64 on, .string os]⟩, (.slice (u 7).1 (putR ok on os).length (u 7).2), (.slice (u 8).1 (acc2 ++ putR vk vn vs ++ putR ok on os).length (u 8).2), (.slice (u 9).1 (acc2 ++ putR vk vn vs ++ putR ok on os).length (u 9).2)])
        (Rs := fun u D => (if D 9 then Sx.OwnB 5 (.slice (u 9).1 (acc2 ++ putR vk vn vs ++ putR ok on os).length (u 9).2) (acc2 ++ putR vk vn vs ++ putR ok on os) else if D 8 then Sx.OwnB 5 (.slice (u 8).1 (acc2 ++ putR vk vn vs ++ putR ok on os).length (u 8).2) (acc2 ++ putR vk vn vs ++ putR ok on os) else if D 4 then Sx.OwnB 5 (.slice (u 4).1 (acc2 ++ putR vk vn vs).length (u 4).2) (acc2 ++ putR vk vn vs) else Sx.OwnB 5 (.slice ad2 acc2.length cap2) (acc2)) :: (if D 3 then Sx.OwnB 5 (.slice (u 3).1 (putR vk vn vs).length (u 3).2) (putR vk vn vs) else Free) :: (if D 7 then Sx.OwnB 5 (.slice (u 7).1 (putR ok on os).length (u 7).2) (putR ok on os) else Free) :: Cells b4 [.int .i64 3, .string key, .int .i64 vk, .int .i64 vn, .string vs, .int .i64 ok, .int .i64 on, .string os, .int .i64 n] 95 :: Cells b1 [.int .i64 c, .int .i64 q, .slice sad l.length scap] 36 :: Old w 0 :: []) (fun _ => (none, 0)) hs hw (hVu := ?vu_c) (ho := ⟨?_, ?_, ?_, ?c3_c, ?c4_c, ?_, ?_, ?c7_c, ?c8_c, ?c9_c, trivial⟩) (k := ?k_c)
      case vu_c =>
        intro u u' j h
        rcases j with _ | _ | _ | _ | _ | _ | _ | _ | _ | _ | j
        · rfl
        · rfl
        · rfl
        · simp [h]
        · simp [h]
        · rfl
        · rfl
        · simp [h]
        · simp [h]
        · simp [h]
        · rfl
      case c3_c =>
        intro u LD D a W hcl hi hp hs hw
        have h4 := Go.Sx.not_done hcl hi 4 (by kernel_rfl)
        have h8 := Go.Sx.not_done hcl h4 8 (by kernel_rfl)
        have h9 := Go.Sx.not_done hcl h8 9 (by kernel_rfl)
        simp only [hi, h4, h8, h9, Bool.false_eq_true, if_false] at hw
        refine st_call hs (hc := ref_PutRaw w _ vk vn vs _ hvk.1 hvk.2 hvn.1 hvn.2 (by omega) hw) (k := ?_); rintro e0 W1 ⟨ad, cap, rfl, hw1⟩; refine ⟨_, rfl, ?_⟩; clear hs hw; intro a hs; have hw := hw1; clear hw1
        repeat (first | (refine sxv hs hw ?_; clear hs; intro a hs) | refine sxc hs ?_ | (refine sxa hs hw ?_; clear hs hw; intro a b W hw hs) | (refine sxs hs hw ?_; clear hs hw; intro W hs hw))
        refine Or.inr ⟨(ad, cap), hs, ?_⟩
        show Has 0 w _ ((if (Nat.beq 9 3 || D 9) = true then _ else if (Nat.beq 8 3 || D 8) = true then _ else if (Nat.beq 4 3 || D 4) = true then _ else _) :: _)
        rw [h9, h8, h4]
        exact hw.fill (Upd.tl Upd.hd)
      case c4_c =>
        intro u LD D a W hcl hi hp hs hw
        have h3 := Go.Sx.done hp 3 (by kernel_rfl)
        have h8 := Go.Sx.not_done hcl hi 8 (by kernel_rfl)
        have h9 := Go.Sx.not_done hcl h8 9 (by kernel_rfl)
        simp only [hi, h3, h8, h9, Bool.false_eq_true, if_false, if_true] at hw
        refine st_append_b hs hw (l := acc2) (m := putR vk vn vs) (hr := src_rd (hw.rd_own (In.tl In.hd)) (bys_one _)) (hb := by omega) (c := ?_); clear hs hw; intro a ad cap W hs hw
        repeat (first | (refine sxv hs hw ?_; clear hs; intro a hs) | refine sxc hs ?_ | (refine sxa hs hw ?_; clear hs hw; intro a b W hw hs) | (refine sxs hs hw ?_; clear hs hw; intro W hs hw))
        refine Or.inr ⟨(ad, cap), hs, ?_⟩
        show Has 0 w _ ((if (Nat.beq 9 4 || D 9) = true then _ else if (Nat.beq 8 4 || D 8) = true then _ else _) :: (if (Nat.beq 3 4 || D 3) = true then _ else _) :: _)
        rw [h9, h8, h3]
        exact hw
      case c7_c =>
        intro u LD D a W hcl hi hp hs hw
        have h8 := Go.Sx.not_done hcl hi 8 (by kernel_rfl)
        have h9 := Go.Sx.not_done hcl h8 9 (by kernel_rfl)
        simp only [hi, h8, h9, Bool.false_eq_true, if_false] at hw
        refine st_call hs (hc := ref_PutRaw w _ ok on os _ hok'.1 hok'.2 hon.1 hon.2 (by omega) hw) (k := ?_); rintro e0 W1 ⟨ad, cap, rfl, hw1⟩; refine ⟨_, rfl, ?_⟩; clear hs hw; intro a hs; have hw := hw1; clear hw1
        repeat (first | (refine sxv hs hw ?_; clear hs; intro a hs) | refine sxc hs ?_ | (refine sxa hs hw ?_; clear hs hw; intro a b W hw hs) | (refine sxs hs hw ?_; clear hs hw; intro W hs hw))
        refine Or.inr ⟨(ad, cap), hs, ?_⟩
        show Has 0 w _ ((if (Nat.beq 9 7 || D 9) = true then _ else if (Nat.beq 8 7 || D 8) = true then _ else _) :: _)
        rw [h9, h8]
        exact hw.fill (Upd.tl (Upd.tl Upd.hd))
      case c8_c =>
        intro u LD D a W hcl hi hp hs hw
        have h4 := Go.Sx.done hp 4 (by kernel_rfl)
        have h7 := Go.Sx.done hp 7 (by kernel_rfl)
        have h9 := Go.Sx.not_done hcl hi 9 (by kernel_rfl)
        simp only [hi, h4, h7, h9, Bool.false_eq_true, if_false, if_true] at hw
        refine st_append_b hs hw (l := acc2 ++ putR vk vn vs) (m := putR ok on os) (hr := src_rd (hw.rd_own (In.tl (In.tl In.hd))) (bys_one _)) (hb := by first | omega | (simp only [List.length_append]; omega)) (c := ?_); clear hs hw; intro a ad cap W hs hw
        repeat (first | (refine sxv hs hw ?_; clear hs; intro a hs) | refine sxc hs ?_ | (refine sxa hs hw ?_; clear hs hw; intro a b W hw hs) | (refine sxs hs hw ?_; clear hs hw; intro W hs hw))
        refine Or.inr ⟨(ad, cap), hs, ?_⟩
        show Has 0 w _ ((if (Nat.beq 9 8 || D 9) = true then _ else _) :: _ :: (if (Nat.beq 7 8 || D 7) = true then _ else _) :: _)
        rw [h9, h7]
        exact hw
      case c9_c =>
        intro u LD D a W hcl hi hp hs hw
        have h8 := Go.Sx.done hp 8 (by kernel_rfl)
        simp only [hi, h8, Bool.false_eq_true, if_false, if_true] at hw
        repeat (first | (refine sxv hs hw ?_; clear hs; intro a hs) | refine sxc hs ?_ | (refine sxa hs hw ?_; clear hs hw; intro a b W hw hs) | (refine sxs hs hw ?_; clear hs hw; intro W hs hw))
        exact Or.inr ⟨u 8, hs, hw⟩
      case k_c =>
        clear hs hw
        intro u a W hs hw
        replace hw : Has 0 w W (Sx.OwnB 5 (.slice (u 9).1 (acc2 ++ putR vk vn vs ++ putR ok on os).length (u 9).2) (acc2 ++ putR vk vn vs ++ putR ok on os) :: Sx.OwnB 5 (.slice (u 3).1 (putR vk vn vs).length (u 3).2) (putR vk vn vs) :: Sx.OwnB 5 (.slice (u 7).1 (putR ok on os).length (u 7).2) (putR ok on os) :: Cells b4 [.int .i64 3, .string key, .int .i64 vk, .int .i64 vn, .string vs, .int .i64 ok, .int .i64 on, .string os, .int .i64 n] 95 :: Cells b1 [.int .i64 c, .int .i64 q, .slice sad l.length scap] 36 :: Old w 0 :: []) := hw
        replace hw := hw.drop2.drop2
        replace hs : Slots a 70 [(1, .pointer (some ⟨b1, 0, none⟩)), (3, (.slice (u 9).1 (acc2 ++ putR vk vn vs ++ putR ok on os).length (u 9).2)), (4, .int .i64 (i : Int))] := hs.of ⟨rfl, rfl, rfl, trivial⟩
        generalize (u 9).1 = ad1 at *
        generalize (u 9).2 = cap1 at *
        clear u
        have hw := hw.drop2
        repeat (first | (refine sxv hs hw ?_; clear hs; intro a hs) | refine sxc hs ?_ | (refine sxa hs hw ?_; clear hs hw; intro a b W hw hs) | (refine sxs hs hw ?_; clear hs hw; intro W hs hw))
        rw [show acc2 ++ putR vk vn vs ++ putR ok on os = acc ++ opB ⟨3, key, vk, vn, vs, ok, on, os, n⟩ from by rw [← hA]; simp [opB], ← hnext] at hs hw
        refine st_again (_, i + 1) hs hw (by show i + 1 ≤ l.length; omega) (by show l.length - (i + 1) < l.length - i; omega) ⟨rfl, rfl, int_eq (by show IntKind.i64.wrap ((i : Int) + 1) = ((i + 1 : Nat) : Int); rw [IntWalk.i64_in _ (by omega)]; omega), trivial⟩
      all_goals
        intro u LD D a W hcl hi hp hs hw
        repeat (first | (refine sxv hs hw ?_; clear hs; intro a hs) | refine sxc hs ?_ | (refine sxa hs hw ?_; clear hs hw; intro a b W hw hs) | (refine sxs hs hw ?_; clear hs hw; intro W hs hw))
        exact Or.inl ⟨hs, hw⟩
    have e3 : (kind == 3) = false := by simpa using k3
    rw [e3] at hs
    repeat (first | (refine sxv hs hw ?_; clear hs; intro a hs) | refine sxc hs ?_ | (refine sxa hs hw ?_; clear hs hw; intro a b W hw hs) | (refine sxs hs hw ?_; clear hs hw; intro W hs hw))
    by_cases k4 : kind = 4
    · subst k4
      repeat (first | (refine sxv hs hw ?_; clear hs; intro a hs) | refine sxc hs ?_ | (refine sxa hs hw ?_; clear hs hw; intro a b W hw hs) | (refine sxs hs hw ?_; clear hs hw; intro W hs hw))
      refine st_call hs (hc := ref_Put w _ n _ hn.1 hn.2 hw) (k := ?_); rintro e0 W1 ⟨ad, cap, rfl, hw1⟩; refine ⟨_, rfl, ?_⟩; clear hs hw; intro a hs; have hw := hw1; clear hw1
      repeat (first | (refine sxv hs hw ?_; clear hs; intro a hs) | refine sxc hs ?_ | (refine sxa hs hw ?_; clear hs hw; intro a b W hw hs) | (refine sxs hs hw ?_; clear hs hw; intro W hs hw))
      have hw := hw.swap2
      refine st_append_b hs hw (l := acc2) (m := Ph.putI n) (hr := src_rd (hw.rd_own (In.tl In.hd)) (bys_one _)) (hb := by first | omega | (simp only [List.length_append]; omega)) (c := ?_); clear hs hw; intro a ad2 cap2 W hs hw
      have hw := hw.drop2
      repeat (first | (refine sxv hs hw ?_; clear hs; intro a hs) | refine sxc hs ?_ | (refine sxa hs hw ?_; clear hs hw; intro a b W hw hs) | (refine sxs hs hw ?_; clear hs hw; intro W hs hw))
      have hw := hw.drop2
      repeat (first | (refine sxv hs hw ?_; clear hs; intro a hs) | refine sxc hs ?_ | (refine sxa hs hw ?_; clear hs hw; intro a b W hw hs) | (refine sxs hs hw ?_; clear hs hw; intro W hs hw))
      rw [show acc2 ++ Ph.putI n = acc ++ opB ⟨4, key, vk, vn, vs, ok, on, os, n⟩ from by rw [← hA]; simp [opB], ← hnext] at hs hw
      refine st_again (_, i + 1) hs hw (by show i + 1 ≤ l.length; omega) (by show l.length - (i + 1) < l.length - i; omega) ⟨rfl, rfl, int_eq (by show IntKind.i64.wrap ((i : Int) + 1) = ((i + 1 : Nat) : Int); rw [IntWalk.i64_in _ (by omega)]; omega), trivial⟩
    have e4 : (kind == 4) = false := by simpa using k4
    rw [e4] at hs
    repeat (first | (refine sxv hs hw ?_; clear hs; intro a hs) | refine sxc hs ?_ | (refine sxa hs hw ?_; clear hs hw; intro a b W hw hs) | (refine sxs hs hw ?_; clear hs hw; intro W hs hw))
    have hw := hw.drop2
    repeat (first | (refine sxv hs hw ?_; clear hs; intro a hs) | refine sxc hs ?_ | (refine sxa hs hw ?_; clear hs hw; intro a b W hw hs) | (refine sxs hs hw ?_; clear hs hw; intro W hs hw))
    rw [show acc2 = acc ++ opB ⟨kind, key, vk, vn, vs, ok, on, os, n⟩ from by rw [← hA]; simp [opB, k3, k1, k4], ← hnext] at hs hw
    refine st_again (_, i + 1) hs hw (by show i + 1 ≤ l.length; omega) (by show l.length - (i + 1) < l.length - i; omega) ⟨rfl, rfl, int_eq (by show IntKind.i64.wrap ((i : Int) + 1) = ((i + 1 : Nat) : Int); rw [IntWalk.i64_in _ (by omega)]; omega), trivial⟩
  · have hi' : i = l.length := by have h9 := of_decide_eq_false hcc; omega
    subst hi'
    repeat (first | (refine sxv hs hw ?_; clear hs; intro a hs) | refine sxc hs ?_ | (refine sxa hs hw ?_; clear hs hw; intro a b W hw hs) | (refine sxs hs hw ?_; clear hs hw; intro W hs hw))
    rw [List.take_length] at hw
    have hw := hw.drop2
    obtain ⟨ad, cap, e⟩ : ∃ ad cap, v = .slice ad (textB c q l).length cap := hw.own_slice
    subst e
    exact rt1 hs rfl rfl ⟨ad, cap, rfl, hw⟩
end Go.Proofs.YtmalklakaalaoaaGreatDoor.Sw

set_option linter.unusedVariables false
set_option maxRecDepth 10000
namespace Go.Proofs.YtmalklakaalaoaaGreatDoor.Sw
open Go.RowKit Go.Sx
-- pieces
set_option maxHeartbeats 8000000 in
theorem ref_MayBatch (c q : Int) (l : List OpD) (sv : Value) (w : World) (hc : i64 c) (hq : i64 q) (ho : ∀ o ∈ l, OpOk o) (r : Rd w 9 sv l.length (l.flatMap opCells)) :
    Calls Tryz.prog 23 ⟨[.agg ⟨[.int .i64 c, .int .i64 q, sv]⟩]⟩ w fun e w' => e = .returned (.bool (mayBatch c q l)) ∧ Below w.heap.size w w' := by
  have hw := Has.start (G := 0) (w := w) (Nat.zero_le _)
  obtain ⟨sad, scap, rfl⟩ : ∃ ad cap, sv = .slice ad l.length cap := by obtain ⟨_, ad, cap, e, _⟩ := r; exact ⟨ad, cap, e⟩
  have hlen : l.length ≤ 9223372036854775807 := r.len
  refine enter Tryz.func23 Tryz.ntmps23 rfl rfl fun a hs => ?_
  repeat (first | (refine sxv hs hw ?_; clear hs; intro a hs) | refine sxc hs ?_ | (refine sxa hs hw ?_; clear hs hw; intro a b W hw hs) | (refine sxs hs hw ?_; clear hs hw; intro W hs hw))
  cases h0 : decide (c < 1) with
  | true =>
    rw [h0] at hs
    repeat (first | (refine sxv hs hw ?_; clear hs; intro a hs) | refine sxc hs ?_ | (refine sxa hs hw ?_; clear hs hw; intro a b W hw hs) | (refine sxs hs hw ?_; clear hs hw; intro W hs hw))
    exact rt1 hs rfl rfl ⟨by simp [mayBatch, h0], hw.end (by repeat (first | exact In.hd | apply In.tl))⟩
  | false =>
  rw [h0] at hs
  repeat (first | (refine sxv hs hw ?_; clear hs; intro a hs) | refine sxc hs ?_ | (refine sxa hs hw ?_; clear hs hw; intro a b W hw hs) | (refine sxs hs hw ?_; clear hs hw; intro W hs hw))
  cases h1 : decide (c > 5) with
  | true =>
    rw [h1] at hs
    repeat (first | (refine sxv hs hw ?_; clear hs; intro a hs) | refine sxc hs ?_ | (refine sxa hs hw ?_; clear hs hw; intro a b W hw hs) | (refine sxs hs hw ?_; clear hs hw; intro W hs hw))
    exact rt1 hs rfl rfl ⟨by simp [mayBatch, h0, h1], hw.end (by repeat (first | exact In.hd | apply In.tl))⟩
  | false =>
  rw [h1] at hs
  repeat (first | (refine sxv hs hw ?_; clear hs; intro a hs) | refine sxc hs ?_ | (refine sxa hs hw ?_; clear hs hw; intro a b W hw hs) | (refine sxs hs hw ?_; clear hs hw; intro W hs hw))
  cases h2 : decide (q < 1) with
  | true =>
    rw [h2] at hs
    repeat (first | (refine sxv hs hw ?_; clear hs; intro a hs) | refine sxc hs ?_ | (refine sxa hs hw ?_; clear hs hw; intro a b W hw hs) | (refine sxs hs hw ?_; clear hs hw; intro W hs hw))
    exact rt1 hs rfl rfl ⟨by simp [mayBatch, h0, h1, h2], hw.end (by repeat (first | exact In.hd | apply In.tl))⟩
  | false =>
  rw [h2] at hs
  repeat (first | (refine sxv hs hw ?_; clear hs; intro a hs) | refine sxc hs ?_ | (refine sxa hs hw ?_; clear hs hw; intro a b W hw hs) | (refine sxs hs hw ?_; clear hs hw; intro W hs hw))
  cases h3 : decide (q > 1099511627776) with
  | true =>
    rw [h3] at hs
    repeat (first | (refine sxv hs hw ?_; clear hs; intro a hs) | refine sxc hs ?_ | (refine sxa hs hw ?_; clear hs hw; intro a b W hw hs) | (refine sxs hs hw ?_; clear hs hw; intro W hs hw))
    exact rt1 hs rfl rfl ⟨by simp [mayBatch, h0, h1, h2, h3], hw.end (by repeat (first | exact In.hd | apply In.tl))⟩
  | false =>
  rw [h3] at hs
  repeat (first | (refine sxv hs hw ?_; clear hs; intro a hs) | refine sxc hs ?_ | (refine sxa hs hw ?_; clear hs hw; intro a b W hw hs) | (refine sxs hs hw ?_; clear hs hw; intro W hs hw))
  have hmb : mayBatch c q l = (mayAll l && decide (((textB c q l).length : Int) ≤ 1200)) := by unfold mayBatch mayAll; rw [h0, h1, h2, h3]; simp
  rw [hmb]
  clear hmb h0 h1 h2 h3
  refine st_call hs (hc := ref_mayOps l _ _ ho (hw.rd (by repeat (first | exact In.hd | apply In.tl)) hw.ext.size r)) (k := ?_); rintro e0 W1 ⟨rfl, hb⟩; refine ⟨_, rfl, ?_⟩; clear hs; intro a hs; replace hw := hw.below hb; clear hb
  cases hm : mayAll l with
  | false =>
    rw [hm] at hs
    repeat (first | (refine sxv hs hw ?_; clear hs; intro a hs) | refine sxc hs ?_ | (refine sxa hs hw ?_; clear hs hw; intro a b W hw hs) | (refine sxs hs hw ?_; clear hs hw; intro W hs hw))
    exact rt1 hs rfl rfl ⟨by simp, hw.end (by repeat (first | exact In.hd | apply In.tl))⟩
  | true =>
    rw [hm] at hs
    have h8 : l.length ≤ 8 := by
      unfold mayAll at hm
      simp only [Bool.and_eq_true, Bool.not_eq_true', decide_eq_false_iff_not] at hm
      omega
    repeat (first | (refine sxv hs hw ?_; clear hs; intro a hs) | refine sxc hs ?_ | (refine sxa hs hw ?_; clear hs hw; intro a b W hw hs) | (refine sxs hs hw ?_; clear hs hw; intro W hs hw))
    refine st_call hs (hc := ref_bytesOf c q l _ _ hc hq (by omega) ho (hw.rd (by repeat (first | exact In.hd | apply In.tl)) hw.ext.size r)) (k := ?_); rintro e0 W1 ⟨ad, cap, rfl, hw1⟩; refine ⟨_, rfl, ?_⟩; clear hs; intro a hs; replace hw := hw.call hw1; clear hw1
    repeat (first | (refine sxv hs hw ?_; clear hs; intro a hs) | refine sxc hs ?_ | (refine sxa hs hw ?_; clear hs hw; intro a b W hw hs) | (refine sxs hs hw ?_; clear hs hw; intro W hs hw))
    exact rt1 hs rfl rfl ⟨by simp, hw.end (by repeat (first | exact In.hd | apply In.tl))⟩
set_option maxHeartbeats 4000000 in
theorem ref_EncodeBatch (c q : Int) (l : List OpD) (sv : Value) (w : World) (hc : i64 c) (hq : i64 q) (ho : ∀ o ∈ l, OpOk o) (r : Rd w 9 sv l.length (l.flatMap opCells)) :
    Calls Tryz.prog 22 ⟨[.agg ⟨[.int .i64 c, .int .i64 q, sv]⟩]⟩ w fun e w' => ∃ ad cap, e = .returned (.slice ad (if mayBatch c q l then textB c q l else []).length cap) ∧ Has 0 w w' (OwnB 5 (.slice ad (if mayBatch c q l then textB c q l else []).length cap) (if mayBatch c q l then textB c q l else []) :: Old w 0 :: []) := by
  have hw := Has.start (G := 0) (w := w) (Nat.zero_le _)
  obtain ⟨sad, scap, rfl⟩ : ∃ ad cap, sv = .slice ad l.length cap := by obtain ⟨_, ad, cap, e, _⟩ := r; exact ⟨ad, cap, e⟩
  have hlen : l.length ≤ 9223372036854775807 := r.len
  refine enter Tryz.func22 Tryz.ntmps22 rfl rfl fun a hs => ?_
  repeat (first | (refine sxv hs hw ?_; clear hs; intro a hs) | refine sxc hs ?_ | (refine sxa hs hw ?_; clear hs hw; intro a b W hw hs) | (refine sxs hs hw ?_; clear hs hw; intro W hs hw))
  refine st_call hs (hc := ref_MayBatch c q l _ _ hc hq ho (hw.rd (by repeat (first | exact In.hd | apply In.tl)) hw.ext.size r)) (k := ?_); rintro e0 W1 ⟨rfl, hb⟩; refine ⟨_, rfl, ?_⟩; clear hs; intro a hs; replace hw := hw.below hb; clear hb
  cases hm : mayBatch c q l with
  | false =>
    rw [hm] at hs
    repeat (first | (refine sxv hs hw ?_; clear hs; intro a hs) | refine sxc hs ?_ | (refine sxa hs hw ?_; clear hs hw; intro a b W hw hs) | (refine sxs hs hw ?_; clear hs hw; intro W hs hw))
    have hw := (hw.nilB 5).drop2
    exact rt1 hs rfl rfl ⟨none, 0, rfl, hw⟩
  | true =>
    rw [hm] at hs
    have h8 : l.length ≤ 8 := by
      unfold mayBatch at hm
      simp only [Bool.and_eq_true, Bool.not_eq_true', decide_eq_false_iff_not] at hm
      omega
    repeat (first | (refine sxv hs hw ?_; clear hs; intro a hs) | refine sxc hs ?_ | (refine sxa hs hw ?_; clear hs hw; intro a b W hw hs) | (refine sxs hs hw ?_; clear hs hw; intro W hs hw))
    refine st_call hs (hc := ref_bytesOf c q l _ _ hc hq (by omega) ho (hw.rd (by repeat (first | exact In.hd | apply In.tl)) hw.ext.size r)) (k := ?_); rintro e0 W1 ⟨ad, cap, rfl, hw1⟩; refine ⟨_, rfl, ?_⟩; clear hs; intro a hs; replace hw := hw.call hw1; clear hw1
    repeat (first | (refine sxv hs hw ?_; clear hs; intro a hs) | refine sxc hs ?_ | (refine sxa hs hw ?_; clear hs hw; intro a b W hw hs) | (refine sxs hs hw ?_; clear hs hw; intro W hs hw))
    have hw := hw.drop2
    exact rt1 hs rfl rfl ⟨ad, cap, rfl, hw⟩
end Go.Proofs.YtmalklakaalaoaaGreatDoor.Sw
