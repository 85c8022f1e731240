/-
  Texts of the proof, one behind the other (part 9).
-/
import Derived.Test.YtmalklakaalaoaaGreatDoorM8
import Derived.Maps.Own
import Derived.Maps.Views
import Derived.Sort.KeysCollected
import Derived.Shelf.SlIter.Collect
set_option linter.unusedVariables false
set_option maxRecDepth 10000
namespace Go.Proofs.YtmalklakaalaoaaGreatDoor.Sw
open Go.RowKit Go.Sx
theorem getR_putR {k n : Int} {s : ByteArray} (t : List UInt8) (h : (ofRaw k n s).2 = 0) (h0 : -9223372036854775808 ≤ n) (h1 : n ≤ 9223372036854775807) (hs : s.size ≤ 1000000) :
    getR (putR k n s ++ t) = ((k, n, s), (putR k n s).length, 0) := by
  have hd : s.data.toList.length = s.size := by rw [Array.length_toList]; rfl
  have hO := h
  unfold ofRaw at h
  have he : s.size = 0 → s = ⟨#[]⟩ := fun h => by
    apply ByteArray.ext
    exact Array.eq_empty_of_size_eq_zero h
  split at h
  · rename_i c
    obtain ⟨rfl, rfl, hz⟩ := c
    have g := Ph.getI_putI 0 t (by omega) (by omega)
    have e : putR 0 0 s = Ph.putI 0 := by simp [putR]
    rw [e, getR.eq_1, g, he hz]
    simp
  · split at h
    · rename_i c
      obtain ⟨rfl, hz⟩ := c
      have e : putR 1 n s = Ph.putI 1 ++ Ph.putI n := by simp [putR]
      have g := Ph.getI_putI 1 (Ph.putI n ++ t) (by omega) (by omega)
      have g2 := Ph.getI_putI n t h0 h1
      rw [e, List.append_assoc, getR.eq_1, g, he hz]
      simp only [List.drop_left, g2, List.length_append]
      simp
    · split at h
      · rename_i c
        obtain ⟨rfl, rfl, hz, hv⟩ := c
        have e : putR 2 0 s = Ph.putI 2 ++ Ph.putT s.data.toList := by simp [putR]
        have g := Ph.getI_putI 2 (Ph.putT s.data.toList ++ t) (by omega) (by omega)
        have g2 := Ph.getT_putT s.data.toList t (by omega)
        rw [e, List.append_assoc, getR.eq_1, g]
        simp only [List.drop_left, g2, List.length_append, ba_mk, hO]
        simp
      · cases h
def rdOps : Nat → Int → List OpD → (List UInt8 × Bool) → List OpD × (List UInt8 × Bool)
  | 0, _, l, s => (l, s)
  | f + 1, n, l, s => if 0 < n ∧ s.2 = false ∧ l.length ≤ 8 then rdOps f (n - 1) (l ++ [(rdOp s).1]) (rdOp s).2 else (l, s)
def parse (b : List UInt8) : (Int × Int × List OpD) × (List UInt8 × Bool) :=
  let s1 := rdNum (b, false)
  let s2 := rdNum s1
  let r := rdOps 10 (Ph.getI s2.1).1 [] (rdNum s2)
  (((Ph.getI b).1, (Ph.getI s1.1).1, r.1), r.2)
def decode (b : List UInt8) : Option (Int × Int × List OpD) :=
  let p := parse b
  if p.2.2 = false ∧ mayBatch p.1.1 p.1.2.1 p.1.2.2 = true ∧ textB p.1.1 p.1.2.1 p.1.2.2 = b then some p.1 else none
theorem rdNum_put (n : Int) (t : List UInt8) (h : i64 n) : rdNum (Ph.putI n ++ t, false) = (t, false) ∧ (Ph.getI (Ph.putI n ++ t)).1 = n := by
  unfold rdNum tk
  simp only
  rw [Ph.getI_putI n t h.1 h.2]
  simp
theorem rdTxt_put (s : ByteArray) (t : List UInt8) (h : s.size ≤ 1000000) : rdTxt (Ph.putT s.data.toList ++ t, false) = (t, false) ∧ (⟨(Ph.getT (Ph.putT s.data.toList ++ t)).1.toArray⟩ : ByteArray) = s := by
  have hd : s.data.toList.length = s.size := by rw [Array.length_toList]; rfl
  unfold rdTxt tk
  simp only
  rw [Ph.getT_putT s.data.toList t (by omega)]
  refine ⟨?_, ba_mk s⟩
  simp
theorem rdVal_put {k n : Int} {s : ByteArray} (t : List UInt8) (h : (ofRaw k n s).2 = 0) (hn : i64 n) (hs : s.size ≤ 1000000) : rdVal (putR k n s ++ t, false) = (t, false) ∧ (getR (putR k n s ++ t)).1 = (k, n, s) := by
  unfold rdVal tk
  simp only
  rw [getR_putR t h hn.1 hn.2 hs]
  simp
theorem rdOp_put (o : OpD) (t : List UInt8) (hm : mayD o = true) (ho : OpOk o) : rdOp (opB o ++ t, false) = (o, (t, false)) := by
  obtain ⟨kind, key, vk, vn, vs, ok, on, os, n⟩ := o
  obtain ⟨hk, hvk, hvn, hok, hon, hn, hkey, hvs, hos⟩ := ho
  simp only at hk hvk hvn hok hon hn hkey hvs hos
  simp only [mayD, mayOp, Bool.and_eq_true, beq_iff_eq] at hm
  obtain ⟨⟨⟨-, hv⟩, hO⟩, hm⟩ := hm
  have key0 : ∀ x : List UInt8, rdNum (Ph.putI kind ++ (Ph.putT key.data.toList ++ x), false) = (Ph.putT key.data.toList ++ x, false) ∧ (Ph.getI (Ph.putI kind ++ (Ph.putT key.data.toList ++ x))).1 = kind := fun x => rdNum_put kind _ hk
  have key1 : ∀ x : List UInt8, rdTxt (Ph.putT key.data.toList ++ x, false) = (x, false) ∧ (⟨(Ph.getT (Ph.putT key.data.toList ++ x)).1.toArray⟩ : ByteArray) = key := fun x => rdTxt_put key x hkey
  have main : ∀ x : List UInt8, rdOp (Ph.putI kind ++ (Ph.putT key.data.toList ++ x), false) = (if kind = 3 then
      (⟨kind, key, (getR x).1.1, (getR x).1.2.1, (getR x).1.2.2, (getR (rdVal (x, false)).1).1.1, (getR (rdVal (x, false)).1).1.2.1, (getR (rdVal (x, false)).1).1.2.2, 0⟩, rdVal (rdVal (x, false)))
      else if kind = 1 then (⟨kind, key, (getR x).1.1, (getR x).1.2.1, (getR x).1.2.2, 0, 0, ⟨#[]⟩, 0⟩, rdVal (x, false))
      else if kind = 4 then (⟨kind, key, 0, 0, ⟨#[]⟩, 0, 0, ⟨#[]⟩, (Ph.getI x).1⟩, rdNum (x, false))
      else (⟨kind, key, 0, 0, ⟨#[]⟩, 0, 0, ⟨#[]⟩, 0⟩, (x, false))) := fun x => by
    unfold rdOp
    simp only
    rw [(key0 x).1, (key0 x).2]
    simp only
    rw [(key1 x).1, (key1 x).2]
  have hA : opB ⟨kind, key, vk, vn, vs, ok, on, os, n⟩ ++ t = Ph.putI kind ++ (Ph.putT key.data.toList ++ ((if kind = 3 then putR vk vn vs ++ putR ok on os else if kind = 1 then putR vk vn vs else if kind = 4 then Ph.putI n else []) ++ t)) := by
    unfold opB
    simp only [List.append_assoc]
  rw [hA, main]
  clear main hA key0 key1
  split at hm
  · rename_i k1
    subst k1
    simp only [Bool.and_eq_true, beq_iff_eq] at hm
    obtain ⟨⟨-, h2⟩, rfl⟩ := hm
    obtain ⟨rfl, rfl, rfl⟩ := rawEq_iff.1 h2
    obtain ⟨g1, g2⟩ := rdVal_put t hv hvn hvs
    rw [if_neg (by decide), if_pos rfl, if_neg (by decide), if_pos rfl, g1, g2]
  · rename_i k1
    split at hm
    · rename_i k2
      subst k2
      simp only [Bool.and_eq_true, beq_iff_eq] at hm
      obtain ⟨⟨h1, h2⟩, rfl⟩ := hm
      obtain ⟨rfl, rfl, rfl⟩ := rawEq_iff.1 h1
      obtain ⟨rfl, rfl, rfl⟩ := rawEq_iff.1 h2
      rw [if_neg (by decide), if_neg (by decide), if_neg (by decide), if_neg (by decide), if_neg (by decide), if_neg (by decide), List.nil_append]
    · split at hm
      · rename_i k3
        subst k3
        simp only [Bool.and_eq_true, beq_iff_eq] at hm
        obtain ⟨-, rfl⟩ := hm
        obtain ⟨g1, g2⟩ := rdVal_put (putR ok on os ++ t) hv hvn hvs
        obtain ⟨g3, g4⟩ := rdVal_put t hO hon hos
        rw [if_pos rfl, if_pos rfl, List.append_assoc, g1, g2]
        simp only
        rw [g3, g4]
      · split at hm
        · rename_i k4
          subst k4
          simp only [Bool.and_eq_true] at hm
          obtain ⟨⟨⟨h1, h2⟩, -⟩, -⟩ := hm
          obtain ⟨rfl, rfl, rfl⟩ := rawEq_iff.1 h1
          obtain ⟨rfl, rfl, rfl⟩ := rawEq_iff.1 h2
          obtain ⟨g1, g2⟩ := rdNum_put n t hn
          rw [if_neg (by decide), if_neg (by decide), if_pos rfl, if_neg (by decide), if_neg (by decide), if_pos rfl, g1, g2]
        · cases hm
theorem rdOps_zero (f : Nat) (acc : List OpD) (s : List UInt8 × Bool) : rdOps f 0 acc s = (acc, s) := by
  cases f with
  | zero => rfl
  | succ f => rw [rdOps, if_neg (by omega)]
theorem rdOps_put : ∀ (l : List OpD) (f : Nat) (acc : List OpD) (t : List UInt8), acc.length + l.length ≤ 8 → l.length ≤ f → l.all mayD = true → (∀ o ∈ l, OpOk o) → rdOps f (l.length : Int) acc (l.flatMap opB ++ t, false) = (acc ++ l, (t, false))
  | [], f, acc, t, _, _, _, _ => by
    rw [show (([] : List OpD).length : Int) = 0 from rfl, rdOps_zero]; simp
  | o :: l, 0, acc, t, _, hf, _, _ => by simp at hf
  | o :: l, f + 1, acc, t, h8, hf, hm, ho => by
    simp only [List.length_cons] at h8 hf
    rw [List.all_cons, Bool.and_eq_true] at hm
    rw [rdOps, if_pos ⟨by simp only [List.length_cons]; omega, rfl, by omega⟩, List.flatMap_cons, List.append_assoc, rdOp_put o _ hm.1 (ho o (by simp))]
    simp only
    have e : ((o :: l).length : Int) - 1 = (l.length : Int) := by simp only [List.length_cons]; omega
    rw [e, rdOps_put l f (acc ++ [o]) t (by simp; omega) (by omega) hm.2 fun x hx => ho x (by simp [hx])]
    simp
theorem parse_text {c q : Int} {l : List OpD} (t : List UInt8) (h : mayBatch c q l = true) (ho : ∀ o ∈ l, OpOk o) : parse (textB c q l ++ t) = ((c, q, l), (t, false)) := by
  obtain ⟨hc, hq, hl, hm, -⟩ := mayBatch_parts h
  have e : textB c q l ++ t = Ph.putI c ++ (Ph.putI q ++ (Ph.putI l.length ++ (l.flatMap opB ++ t))) := by
    unfold textB headB; simp only [List.append_assoc]
  obtain ⟨g1, g2⟩ := rdNum_put c (Ph.putI q ++ (Ph.putI l.length ++ (l.flatMap opB ++ t))) ⟨by omega, by omega⟩
  obtain ⟨g3, g4⟩ := rdNum_put q (Ph.putI l.length ++ (l.flatMap opB ++ t)) ⟨by omega, by omega⟩
  obtain ⟨g5, g6⟩ := rdNum_put l.length (l.flatMap opB ++ t) ⟨by omega, by omega⟩
  unfold parse
  simp only
  rw [e, g1, g2]
  simp only
  rw [g3, g4]
  simp only
  rw [g5, g6, rdOps_put l 10 [] t (by simp; omega) (by omega) hm ho]
  rfl
theorem decode_text {c q : Int} {l : List OpD} (h : mayBatch c q l = true) (ho : ∀ o ∈ l, OpOk o) : decode (textB c q l) = some (c, q, l) := by
  have := parse_text [] h ho
  rw [List.append_nil] at this
  unfold decode
  simp only
  rw [this, if_pos ⟨rfl, h, rfl⟩]
theorem decode_some {b : List UInt8} {c q : Int} {l : List OpD} (h : decode b = some (c, q, l)) : mayBatch c q l = true ∧ textB c q l = b ∧ (parse b).1 = (c, q, l) := by
  unfold decode at h
  simp only at h
  split at h
  · rename_i hh
    have e := Option.some.inj h
    rw [e] at hh
    exact ⟨hh.2.1, hh.2.2, e⟩
  · cases h
theorem unzig_range (y : Nat) (h : y < 18446744073709551616) : i64 (Ph.unzig y) := by
  unfold Ph.unzig i64
  split <;> omega
theorem getN_range : ∀ (l : List UInt8) (i u : Nat), u < 128 ^ i → i ≤ 9 → i64 (Ph.getN i u l).1
  | [], i, u, _, _ => by rw [Ph.getN_end]; simp [i64]
  | c :: t, i, u, hu, hi => by
    have hc := c.toNat_lt
    rw [Ph.getN]
    split
    · simp [i64]
    · rename_i c1
      split
      · rename_i c2
        have h8 : i ≤ 8 := by omega
        exact getN_range t (i + 1) _ (Ph.sum_small u c.toNat i hu h8 (by omega)).2 (by omega)
      · rename_i c2
        split
        · simp [i64]
        · refine unzig_range _ ?_
          by_cases h8 : i ≤ 8
          · have h1 := (Ph.sum_small u c.toNat i hu h8 (by omega)).2
            have h2 : 128 ^ (i + 1) ≤ 128 ^ 9 := Nat.pow_le_pow_right (by omega) (by omega)
            have h3 : (128 : Nat) ^ 9 = 9223372036854775808 := by decide
            omega
          · obtain rfl : i = 9 := by omega
            have h3 : (128 : Nat) ^ 9 = 9223372036854775808 := by decide
            rw [h3] at hu
            have : c.toNat ≤ 1 := by omega
            have h4 : c.toNat % 128 * 128 ^ 9 ≤ 9223372036854775808 := by
              rw [h3, Nat.mod_eq_of_lt (by omega)]
              omega
            omega
theorem getI_range (l : List UInt8) : i64 (Ph.getI l).1 := getN_range l 0 0 (by simp) (by omega)
theorem getR_range (l : List UInt8) : i64 (getR l).1.1 ∧ i64 (getR l).1.2.1 ∧ (getR l).1.2.2.size ≤ l.length := by
  have h1 := getI_range (l.drop (Ph.getI l).2.1)
  have z : i64 0 := ⟨by omega, by omega⟩
  have e0 : (⟨#[]⟩ : ByteArray).size = 0 := rfl
  unfold getR
  simp only
  split
  · exact ⟨z, z, by simp [e0]⟩
  · split
    · exact ⟨z, z, by simp [e0]⟩
    · split
      · split
        · exact ⟨z, z, by simp [e0]⟩
        · exact ⟨⟨by simp, by simp⟩, h1, by simp [e0]⟩
      · split
        · split
          · exact ⟨z, z, by simp [e0]⟩
          · have := getT_size (l.drop (Ph.getI l).2.1)
            rw [List.length_drop] at this
            split
            · exact ⟨z, z, by simp [e0]⟩
            · exact ⟨⟨by simp, by simp⟩, z, by simp only; omega⟩
        · exact ⟨z, z, by simp [e0]⟩
theorem tk_le (s : List UInt8 × Bool) (n : Nat) (err : Int) : (tk s n err).1.length ≤ s.1.length := by
  unfold tk
  simp only
  split
  · exact Nat.le_refl _
  · rw [List.length_drop]; omega
theorem rdOp_ok (s : List UInt8 × Bool) (h : s.1.length ≤ 1000000) : OpOk (rdOp s).1 ∧ (rdOp s).2.1.length ≤ s.1.length := by
  have h1 : (rdNum s).1.length ≤ s.1.length := tk_le _ _ _
  have h2 : (rdTxt (rdNum s)).1.length ≤ (rdNum s).1.length := tk_le _ _ _
  have k0 := getI_range s.1
  have hkey := getT_size (rdNum s).1
  unfold rdOp
  simp only
  generalize rdTxt (rdNum s) = s2 at *
  have h3 : (rdVal s2).1.length ≤ s2.1.length := tk_le _ _ _
  have h4 : (rdVal (rdVal s2)).1.length ≤ (rdVal s2).1.length := tk_le _ _ _
  have h5 : (rdNum s2).1.length ≤ s2.1.length := tk_le _ _ _
  obtain ⟨a1, a2, a3⟩ := getR_range s2.1
  obtain ⟨b1, b2, b3⟩ := getR_range (rdVal s2).1
  have c1 := getI_range s2.1
  have z : i64 0 := ⟨by omega, by omega⟩
  have e0 : (⟨#[]⟩ : ByteArray).size ≤ 1000000 := by show 0 ≤ _; omega
  split
  · exact ⟨⟨k0, a1, a2, b1, b2, z, by simp only; omega, by simp only; omega, by simp only; omega⟩, by simp only; omega⟩
  · split
    · exact ⟨⟨k0, a1, a2, z, z, z, by simp only; omega, by simp only; omega, e0⟩, by simp only; omega⟩
    · split
      · exact ⟨⟨k0, z, z, z, z, c1, by simp only; omega, e0, e0⟩, by simp only; omega⟩
      · exact ⟨⟨k0, z, z, z, z, z, by simp only; omega, e0, e0⟩, by simp only; omega⟩
theorem rdOps_ok : ∀ (f : Nat) (n : Int) (l : List OpD) (s : List UInt8 × Bool), s.1.length ≤ 1000000 → l.length ≤ 9 → (∀ o ∈ l, OpOk o) → (rdOps f n l s).1.length ≤ 9 ∧ ∀ o ∈ (rdOps f n l s).1, OpOk o
  | 0, n, l, s, _, h9, ho => ⟨h9, ho⟩
  | f + 1, n, l, s, hs, h9, ho => by
    rw [rdOps]
    split
    · rename_i c
      obtain ⟨g1, g2⟩ := rdOp_ok s hs
      refine rdOps_ok f (n - 1) _ _ (by omega) (by simp; omega) fun o h => ?_
      rcases List.mem_append.1 h with h | h
      · exact ho o h
      · rw [List.mem_singleton] at h; rw [h]; exact g1
    · exact ⟨h9, ho⟩
theorem parse_ok (b : List UInt8) (h : b.length ≤ 1000000) : i64 (parse b).1.1 ∧ i64 (parse b).1.2.1 ∧ (parse b).1.2.2.length ≤ 9 ∧ ∀ o ∈ (parse b).1.2.2, OpOk o := by
  have h1 : (rdNum (b, false)).1.length ≤ b.length := tk_le _ _ _
  have h2 : (rdNum (rdNum (b, false))).1.length ≤ (rdNum (b, false)).1.length := tk_le _ _ _
  have h3 : (rdNum (rdNum (rdNum (b, false)))).1.length ≤ (rdNum (rdNum (b, false))).1.length := tk_le _ _ _
  have := rdOps_ok 10 (Ph.getI (rdNum (rdNum (b, false))).1).1 [] (rdNum (rdNum (rdNum (b, false)))) (by omega) (by simp) (by simp)
  exact ⟨getI_range _, getI_range _, this.1, this.2⟩
theorem decode_ok {b : List UInt8} {c q : Int} {l : List OpD} (hb : b.length ≤ 1000000) (h : decode b = some (c, q, l)) : i64 c ∧ i64 q ∧ l.length ≤ 9 ∧ ∀ o ∈ l, OpOk o := by
  have := parse_ok b hb
  rw [(decode_some h).2.2] at this
  exact this
end Go.Proofs.YtmalklakaalaoaaGreatDoor.Sw

set_option linter.unusedVariables false
set_option maxRecDepth 10000
namespace Go.Proofs.YtmalklakaalaoaaGreatDoor.Sw
open Go.RowKit Go.Sx
structure DocFine (d : Dm) : Prop where
  ok : DocOk d
  srt : Srt d
  key : ∀ p ∈ d, Ph.keyB p.1.data.toList = true
theorem DocFine.nil : DocFine [] := ⟨DocOk.nil, Srt.nil, by simp⟩
theorem mayD_key {o : OpD} (h : mayD o = true) : Ph.keyB o.key.data.toList = true := by
  unfold mayD mayOp at h
  simp only [Bool.and_eq_true] at h
  exact h.1.1.1
theorem setRL_key {d : Dm} (h : ∀ p ∈ d, Ph.keyB p.1.data.toList = true) {k : ByteArray} (hk : Ph.keyB k.data.toList = true) (x : Option DV) : ∀ p ∈ (setRL d k x).2, Ph.keyB p.1.data.toList = true := by
  cases x with
  | none => exact fun p hp => h p (delD_mem hp).1
  | some v =>
    unfold setRL
    simp only
    split
    · exact h
    · intro p hp
      rcases List.mem_cons.1 ((setL_perm d k v).mem_iff.1 hp) with rfl | hp
      · exact hk
      · exact h p (delD_mem hp).1
theorem doL_key {d : Dm} (h : ∀ p ∈ d, Ph.keyB p.1.data.toList = true) {o : OpD} (hk : Ph.keyB o.key.data.toList = true) : ∀ p ∈ (doL d o).2, Ph.keyB p.1.data.toList = true := by
  unfold doL
  split
  · split
    · exact setRL_key h hk _
    · exact h
  · split
    · split
      · exact h
      · split
        · exact h
        · exact setRL_key h hk _
    · exact setRL_key h hk _
theorem goL_key : ∀ (l : List OpD) {d : Dm}, (∀ p ∈ d, Ph.keyB p.1.data.toList = true) → ∀ p ∈ (goL l d).2, Ph.keyB p.1.data.toList = true
  | [], d, h => h
  | o :: l, d, h => by
    unfold goL
    split
    · exact h
    · rename_i hm
      split
      · exact goL_key l (doL_key h (mayD_key (by simpa using hm)))
      · exact h
theorem applyL_fine {d : Dm} (h : DocFine d) {l : List OpD} (ho : ∀ o ∈ l, OpOk o) : DocFine (applyL d l).2 := by
  refine ⟨applyL_ok h.ok ho, applyL_srt h.srt l, ?_⟩
  unfold applyL
  split
  · exact h.key
  · split
    · exact goL_key l h.key
    · exact h.key
def rawB (x : Option DV) : List UInt8 := putR (kindOf x) (intIn x) (textIn x)
def pairB (p : ByteArray × DV) : List UInt8 := Ph.putT p.1.data.toList ++ rawB (some p.2)
def docB (d : Dm) : List UInt8 := Ph.putI (d.length : Int) ++ d.flatMap pairB
theorem raw_range {k : ByteArray} {v : DV} (h : PairOk (k, v)) : i64 (intIn (some v)) ∧ (textIn (some v)).size ≤ 200 := by
  rcases v with n | s
  · exact ⟨h.num n rfl, by show (0 : Nat) ≤ 200; decide⟩
  · exact ⟨⟨by show -9223372036854775808 ≤ (0 : Int); decide, by show (0 : Int) ≤ 9223372036854775807; decide⟩, (h.txt s rfl).1⟩
theorem pairB_len {p : ByteArray × DV} (h : PairOk p) : (pairB p).length ≤ p.1.size + 300 := by
  obtain ⟨k, v⟩ := p
  have h1 : (Ph.putT k.data.toList).length ≤ k.size + 10 := by
    unfold Ph.putT
    have := Ph.putI_length_le (k.data.toList.length : Int)
    rw [List.length_append]
    have e : k.data.toList.length = k.size := by rw [Array.length_toList]; rfl
    omega
  have h2 : (rawB (some v)).length ≤ 240 := by
    have := raw_range h
    unfold rawB putR
    have a1 := Ph.putI_length_le (kindOf (some v))
    have a2 := Ph.putI_length_le (intIn (some v))
    rw [List.length_append]
    split
    · omega
    · split
      · unfold Ph.putT
        have a3 := Ph.putI_length_le ((textIn (some v)).data.toList.length : Int)
        rw [List.length_append]
        have e : (textIn (some v)).data.toList.length = (textIn (some v)).size := by rw [Array.length_toList]; rfl
        omega
      · simp; omega
  unfold pairB
  rw [List.length_append]
  show (Ph.putT k.data.toList).length + (rawB (some v)).length ≤ k.size + 300
  omega
end Go.Proofs.YtmalklakaalaoaaGreatDoor.Sw

set_option linter.unusedVariables false
namespace Go.Sx
open Go.RowKit Go.Maps
open Go.WideElems (Fit rd rg rd_mk rg_of)
theorem key_str {P : Program} {K : TypeId} (hK : P.underlying K = some .string) {s : ByteArray} (hs : s.size ≤ maxLen) : keyOf P K (.string s) = some (.string s.data.toList) := by
  unfold keyOf
  rw [hK]
  simp [mapKey, hK, hs]
theorem map_owns {P : Program} {K : TypeId} (hK : P.underlying K = some .string) {W : World} {b c : Nat} {es : List Ent} (h : MapAt W b es c) (hn : (es.map (·.k)).Nodup) (hs : ∀ e ∈ es, e.k.size ≤ maxLen) (hl : es.length ≤ maxLen) :
    ∃ D0 : DataW Unit, W.ownsMap P K (fun _ => some (.nil, [])) b es.length D0 ∧ (strKeys D0).Perm (es.map fun e => e.k.data.toList) ∧ Maps.size D0 = es.length := by
  have hrd : ∀ e ∈ es, rd (H := Unit) P K (fun _ => some (.nil, [])) e.raw = some (.string e.k.data.toList, .nil) := fun e he => rd_mk (yv := (.nil, [])) (key_str hK (hs e he)) rfl
  refine ⟨_, ⟨⟨es.map Ent.raw⟩, c, h.at_, ⟨by simpa using hl, ⟨?_, ?_, ?_⟩, ?_⟩, by simp, rfl⟩, ?_, ?_⟩
  · intro x hx
    obtain ⟨e, he, rfl⟩ := List.mem_map.1 hx
    exact h.lt e he
  · show ((es.map Ent.raw).map (·.born)).Nodup
    rw [List.map_map]
    exact h.nodup
  · show ((es.map Ent.raw).map (·.key)).Nodup
    rw [List.map_map]
    have : es.map ((·.key) ∘ Ent.raw) = (es.map (·.k)).map Value.string := by rw [List.map_map]; rfl
    rw [this]
    exact List.Pairwise.map (R := (· ≠ ·)) (S := (· ≠ ·)) Value.string (fun a b hab e => hab (by injection e)) hn
  · intro x hx
    obtain ⟨e, he, rfl⟩ := List.mem_map.1 hx
    exact ⟨_, hrd e he⟩
  · show (List.map (fun p : Lit × DataW Unit => strOf p.1) _).Perm _
    refine ((WideShapes.sorted_perm _).map _).trans ?_
    show (List.map _ (List.map _ (es.map Ent.raw))).Perm _
    rw [List.map_map, List.map_map]
    refine List.Perm.of_eq (List.map_congr_left fun e he => ?_)
    show strOf (rg P K _ e.raw).1 = _
    rw [rg_of (hrd e he)]
    rfl
  · show List.length _ = _
    rw [(WideShapes.sorted_perm _).length_eq]
    simp
end Go.Sx

set_option linter.unusedVariables false
set_option maxRecDepth 10000
namespace Go.Sx
open Go.RowKit
theorem Has.newOwn {G : Nat} {w W W' : World} {R : List Res} {E : TypeId} {size n : Nat} {v : Value} {xs : List Value} (h : Has G w W R) (hb : Below W.heap.size W W') (ho : OwnAt (fun b => W.heap.size ≤ b ∧ b < W'.heap.size) W' E size v n xs) : Has G w W' (Own E size v n xs :: R) := by
  have h1 := h.below hb
  refine ⟨h1.ext, h1.glob, _, ?_, ho, ?_⟩
  · rintro b ⟨hb1, hb2⟩
    exact ⟨Nat.le_trans h.globW hb1, hb2⟩
  · refine (h.has.loc fun b hb' => hb.block b hb'.2).mono fun b hb' => ⟨⟨hb'.1, Nat.lt_of_lt_of_le hb'.2 hb.size⟩, by omega⟩
section
variable {P : Program} {W : World}
end
section
variable {P : Program} {ops : Array Oper} {rest : List Oper} {Q : Exit → Act → World → Prop} {a : Act} {n G : Nat} {L : List (Nat × Value)} {w W : World} {R : List Res} {d : Nat} {T S S' E E' : TypeId} {p : String} {e : Array Edge} {x y hi mx : Operand} {v u : Value} {cur xs news : List Value} {g k m len cap size bytes : Nat} {q q' : IntKind} {z : List Value}
end
section
variable {P : Program} {ops : Array Oper} {rest : List Oper} {Q : Exit → Act → World → Prop} {a : Act} {n G : Nat} {L : List (Nat × Value)} {w W : World} {R : List Res} {d : Nat} {T S E : TypeId} {p : String} {e : Array Edge} {x lo : Operand} {g k m cap size : Nat} {q : IntKind} {z cur : List Value} {H : Fh}
def tailV (g size k cap m : Nat) : Value := .slice (if cap = m then some ⟨g, 0, none⟩ else some ⟨g, m * size, none⟩) (k - m) (cap - m)
theorem st_slice_lo_at {agg : Bool} [sl : Sl P S E] [t : Ty P E agg z] (hs : Slots a n L) (h1 : m ≤ k) (hc : k ≤ cap) (hx : ev L x = some (.slice (some ⟨g, 0, none⟩) k cap) := by with_unfolding_all exact rfl) (hl : ev L lo = some (.int q (m : Int)) := by with_unfolding_all exact rfl) (hd : Nat.blt d n = true := by with_unfolding_all exact rfl)
    (c : ∀ a', Slots a' n ((d, tailV g z.length k cap m) :: L) → wpList P ops Q rest a' W) : wpList P ops Q (⟨some d, .slice S x (some lo) none none, T, p, e, none⟩ :: rest) a W := by
  have hb : (Instr.sliceBound (.int q (m : Int)) k .sliceB).run P W = .ok m W := by
    have : (0 : Int) ≤ (m : Int) ∧ (m : Int) ≤ (k : Int) := ⟨by omega, by omega⟩
    simp only [Instr.sliceBound, asIntOf, Sem.run_bind, Sem.run_pure, Result.andThen_ok]
    rw [if_pos this]
    simp
  have hbs : (Instr.sliceBounds true k cap (some (.int q (m : Int))) none none).run P W = .ok (m, k, cap) W := by
    unfold Instr.sliceBounds
    simp [hb]
  refine st_value hs hd (v := tailV g z.length k cap m) (W' := W) ?_ c
  simp only [execOp, Option.map_some, Option.map_none, hs.ev hx, hs.ev hl, Instr.sliceAt, Instr.slice, Sem.run_bind, run_underlying sl.out, Result.andThen_ok, hbs, t.sizeOf, Sem.run_pure]
  unfold tailV
  by_cases h0 : cap = m
  · simp [h0]
  · rw [if_neg h0, if_neg h0]; simp [addr_add]
end
end Go.Sx

set_option linter.unusedVariables false
set_option maxRecDepth 10000
namespace Go.Proofs.YtmalklakaalaoaaGreatDoor.Sw
open Go.RowKit Go.Sx Go.Sort Go.Proofs Go.Maps
theorem maps_Keys (w0 W : World) (m : Nat) (R : List Res) (hw : Has 0 w0 W R) :
    Calls Tryz.prog 95 ⟨[.map (some m)]⟩ W fun e W' => ∃ q, e = .returned (.func (.func 121) #[] #[.pointer (some ⟨q, 0, none⟩)]) ∧ Has 0 w0 W' (Cells q [.map (some m)] (Tryz.keysD_ren.t 23) :: R) :=
  (callsIn_wide.1 (AnyZ.keys_in Tryz.keysD Fence.wide 5 trivial rfl (some m) W)).mono (by
    rintro e W' ⟨rfl, rfl⟩
    exact ⟨_, rfl, hw.new [.map (some m)] _⟩)
theorem keys_collect (w0 W : World) (q m : Nat) (d : Dm) (R : List Res) (hd : DocOk d) (hw : Has 0 w0 W (Cells q [.map (some m)] (Tryz.keysD_ren.t 23) :: MapOf m (kvOf d) :: R)) :
    Calls Tryz.prog 119 ⟨[.func (.func 121) #[] #[.pointer (some ⟨q, 0, none⟩)]]⟩ W fun e W' => ∃ (sv : Value) (ks : List ByteArray), e = .returned sv ∧ ks.Perm (d.map (·.1)) ∧
      Has 0 w0 W' (Own 9 1 sv ks.length (ks.map Value.string) :: Cells q [.map (some m)] (Tryz.keysD_ren.t 23) :: MapOf m (kvOf d) :: R) := by
  obtain ⟨es, c, hm, he⟩ := hw.map_at (In.tl In.hd)
  have hk : es.map (·.k) = d.map (·.1) := by
    have := congrArg (List.map (·.1)) he
    rw [kvOf_keys] at this
    rw [← this, List.map_map]
    rfl
  have hlen : es.length = d.length := by simpa using congrArg List.length hk
  have hl := hd.len
  have hsz : ∀ e ∈ es, e.k.size ≤ maxLen := by
    intro e he'
    have h1 : e.k ∈ d.map (·.1) := hk ▸ List.mem_map_of_mem he'
    obtain ⟨p, hp, hpe⟩ := List.mem_map.1 h1
    have h2 := (hd.all p hp).key
    rw [hpe] at h2
    exact Nat.le_trans h2 (by decide)
  obtain ⟨D0, ho, hp, hs⟩ := map_owns (P := Tryz.prog) (K := Tryz.keysD_ren.t 26) (by kernel_rfl) hm (by rw [hk]; exact hd.keys) hsz (Nat.le_trans (by omega : es.length ≤ 50) (by decide))
  have hq := hw.block In.hd
  have hseq : SeqGives Fence.wide 3 Tryz.prog (Tryz.keysD_ren.f 10) #[.pointer (some ⟨q, 0, none⟩)] encStr (fun ss => ss.Perm (strKeys D0)) (Maps.size D0) W :=
    AnyZ.keys_gives (ρ := Tryz.keysD_ren) { Tryz.keysD with } Fence.wide _ trivial rfl (by omega) q m es.length D0 W hq.2.2 (by rw [cell_block hq.1]; rfl) ho
  refine (callsIn_wide.1 (AnyZ.collect_in Tryz.collD Fence.wide 5 trivial trivial rfl (by omega) (Tryz.keysD_ren.f 10) #[.pointer (some ⟨q, 0, none⟩)] trivial (enters_of Tryz.func121 (by kernel_rfl) rfl) _ _ (by rw [hs]; exact Nat.le_trans (by omega : es.length ≤ 50) (by decide)) (by rw [hs]; omega) W hseq)).mono ?_
  rintro e W' ⟨v, ss, rfl, hS, hrow, hnil, hb⟩
  have hks : (ss.map fun s => (⟨s.toArray⟩ : ByteArray)).map Value.string = ss.map encStr := by rw [List.map_map]; rfl
  refine ⟨v, ss.map fun s => (⟨s.toArray⟩ : ByteArray), rfl, ?_, ?_⟩
  · refine ((hS.trans hp).map _).trans (List.Perm.of_eq ?_)
    rw [List.map_map, ← hk]
    refine List.map_congr_left fun e _ => ?_
    show (⟨e.k.data.toList.toArray⟩ : ByteArray) = e.k
    simp
  · rw [hks, List.length_map]
    refine hw.newOwn hb ?_
    obtain ⟨h1, h2⟩ := hrow
    refine ⟨h1, h2.imp id ?_⟩
    rintro ⟨g, cap, cur, h3, h4, h5, h6, h7, h8, h9⟩
    exact ⟨g, cap, cur.toList, h3, ⟨h4, (Array.getElem?_eq_some_iff.1 h5).1⟩, h5, h6, h7, by simpa using h8, h9⟩
set_option maxHeartbeats 8000000 in
theorem sorted_keys (w0 W : World) (q m : Nat) (d : Dm) (R : List Res) (hd : DocOk d) (hw : Has 0 w0 W (Cells q [.map (some m)] (Tryz.keysD_ren.t 23) :: MapOf m (kvOf d) :: R)) :
    Calls Tryz.prog 94 ⟨[.func (.func 121) #[] #[.pointer (some ⟨q, 0, none⟩)], .func (.func 96) #[] #[]]⟩ W fun e W' => ∃ (sv : Value) (ks : List ByteArray), e = .returned sv ∧ ks.Perm (d.map (·.1)) ∧ ks.Pairwise (fun a b => lessK b a = false) ∧
      Has 0 w0 W' (Own 9 1 sv ks.length (ks.map Value.string) :: Cells q [.map (some m)] (Tryz.keysD_ren.t 23) :: MapOf m (kvOf d) :: R) := by
  refine enter Tryz.func94 Tryz.ntmps94 rfl rfl fun a hs => ?_
  repeat (first | (refine sxv hs hw ?_; clear hs; intro a hs) | refine sxc hs ?_ | (refine sxa hs hw ?_; clear hs hw; intro a b W hw hs) | (refine sxs hs hw ?_; clear hs hw; intro W hs hw) | ((with_reducible first | refine st_ptrSome hs (k := ?_) | refine st_ptrNone hs (k := ?_)); clear hs; intro a hs))
  refine st_call hs (hc := keys_collect w0 _ q m d _ hd hw) (k := ?_); rintro e0 W1 ⟨sv, ks, rfl, hp, hw1⟩; refine ⟨_, rfl, ?_⟩; clear hs hw; intro a hs; have hw := hw1; clear hw1
  repeat (first | (refine sxv hs hw ?_; clear hs; intro a hs) | refine sxc hs ?_ | (refine sxa hs hw ?_; clear hs hw; intro a b W hw hs) | (refine sxs hs hw ?_; clear hs hw; intro W hs hw) | ((with_reducible first | refine st_ptrSome hs (k := ?_) | refine st_ptrNone hs (k := ?_)); clear hs; intro a hs))
  have hlen : ks.length = d.length := by simpa using hp.length_eq
  have hl := hd.len
  refine st_call hs (hc := sort_keys w0 _ sv ks _ (fun k hk => ?hk) (by omega) hw) (k := ?_)
  case hk =>
    obtain ⟨p, hp', rfl⟩ := List.mem_map.1 (hp.mem_iff.1 hk)
    exact (hd.all p hp').key
  rintro e0 W1 ⟨rfl, ks', hp2, hsr, hw1⟩; refine ⟨_, rfl, ?_⟩; clear hs hw; intro a hs; have hw := hw1; clear hw1
  repeat (first | (refine sxv hs hw ?_; clear hs; intro a hs) | refine sxc hs ?_ | (refine sxa hs hw ?_; clear hs hw; intro a b W hw hs) | (refine sxs hs hw ?_; clear hs hw; intro W hs hw) | ((with_reducible first | refine st_ptrSome hs (k := ?_) | refine st_ptrNone hs (k := ?_)); clear hs; intro a hs))
  exact rt1 hs rfl rfl ⟨_, ks', rfl, hp2.trans hp, hsr, hw⟩
set_option maxHeartbeats 8000000 in
theorem doc_Keys (w0 W : World) (p : Nat) (d : Dm) (R : List Res) (hd : DocFine d) (hw : Has 0 w0 W (DocAt p d :: R)) :
    Calls Tryz.prog 64 ⟨[.pointer (some ⟨p, 0, none⟩)]⟩ W fun e W' => ∃ sv, e = .returned sv ∧ Has 0 w0 W' (Own 9 1 sv d.length (d.map fun x => Value.string x.1) :: DocAt p d :: R) := by
  obtain ⟨m, d', hp, hk, hw⟩ := docOpen hw
  have hd' : DocOk d' := ⟨(dKeys_perm hp).2 hk, by rw [hp.length_eq]; exact hd.ok.len, fun x hx => hd.ok.all x (hp.mem_iff.1 hx)⟩
  refine enter Tryz.func64 Tryz.ntmps64 rfl rfl fun a hs => ?_
  repeat (first | (refine sxv hs hw ?_; clear hs; intro a hs) | refine sxc hs ?_ | (refine sxa hs hw ?_; clear hs hw; intro a b W hw hs) | (refine sxs hs hw ?_; clear hs hw; intro W hs hw) | ((with_reducible first | refine st_ptrSome hs (k := ?_) | refine st_ptrNone hs (k := ?_)); clear hs; intro a hs))
  refine st_call hs (hc := maps_Keys w0 _ m _ hw) (k := ?_); rintro e0 W1 ⟨q, rfl, hw1⟩; refine ⟨_, rfl, ?_⟩; clear hs hw; intro a hs
  have hw : Has 0 w0 W1 (Cells q [.map (some m)] (Tryz.keysD_ren.t 23) :: MapOf m (kvOf d') :: Cells p [.map (some m)] 141 :: R) := hw1.perm (by repeat (first | exact List.Perm.refl _ | refine perm_pick (by repeat (first | exact Pick.hd | apply Pick.tl)) ?_))
  clear hw1
  repeat (first | (refine sxv hs hw ?_; clear hs; intro a hs) | refine sxc hs ?_ | (refine sxa hs hw ?_; clear hs hw; intro a b W hw hs) | (refine sxs hs hw ?_; clear hs hw; intro W hs hw) | ((with_reducible first | refine st_ptrSome hs (k := ?_) | refine st_ptrNone hs (k := ?_)); clear hs; intro a hs))
  refine st_call hs (hc := sorted_keys w0 _ q m d' _ hd' hw) (k := ?_); rintro e0 W2 ⟨sv, ks, rfl, hpk, hsr, hw1⟩; refine ⟨_, rfl, ?_⟩; clear hs hw; intro a hs; have hw := hw1; clear hw1
  have hpd : ks.Perm (d.map (·.1)) := hpk.trans (hp.map _)
  have hks : ks = d.map (·.1) := srt_unique hpd (srt_of_not (hpd.nodup_iff.2 hk) hsr) hd.srt.keys
  subst hks
  repeat (first | (refine sxv hs hw ?_; clear hs; intro a hs) | refine sxc hs ?_ | (refine sxa hs hw ?_; clear hs hw; intro a b W hw hs) | (refine sxs hs hw ?_; clear hs hw; intro W hs hw) | ((with_reducible first | refine st_ptrSome hs (k := ?_) | refine st_ptrNone hs (k := ?_)); clear hs; intro a hs))
  refine rt1 hs rfl rfl ⟨sv, rfl, ?_⟩
  have hw : Has 0 w0 W2 (Cells p [.map (some m)] 141 :: MapOf m (kvOf d') :: Own 9 1 sv (d.map (·.1)).length ((d.map (·.1)).map Value.string) :: R) := (hw.sub (List.Sublist.cons_cons _ (List.Sublist.cons _ (List.Sublist.refl _)))).perm (by repeat (first | exact List.Perm.refl _ | refine perm_pick (by repeat (first | exact Pick.hd | apply Pick.tl)) ?_))
  have hw := (docShut hw hp hk).perm (List.Perm.swap _ _ _)
  rwa [List.length_map, List.map_map] at hw
end Go.Proofs.YtmalklakaalaoaaGreatDoor.Sw

set_option linter.unusedVariables false
set_option maxRecDepth 10000
namespace Go.Proofs.YtmalklakaalaoaaGreatDoor.Sw
open Go.RowKit Go.Sx
set_option maxHeartbeats 8000000 in
theorem doc_Get (w0 W : World) (p : Nat) (d : Dm) (k : ByteArray) (R : List Res) (hw : Has 0 w0 W (DocAt p d :: R)) :
    Calls Tryz.prog 83 ⟨[.pointer (some ⟨p, 0, none⟩), .string k]⟩ W fun e W' => e = .returned (.tuple ⟨[.agg ⟨rawCells (getK d k)⟩, .bool (getK d k).isSome]⟩) ∧ Has 0 w0 W' (DocAt p d :: R) := by
  refine enter Tryz.func83 Tryz.ntmps83 rfl rfl fun a hs => ?_
  repeat (first | (refine sxv hs hw ?_; clear hs; intro a hs) | refine sxc hs ?_ | (refine sxa hs hw ?_; clear hs hw; intro a b W hw hs) | (refine sxs hs hw ?_; clear hs hw; intro W hs hw) | ((with_reducible first | refine st_ptrSome hs (k := ?_) | refine st_ptrNone hs (k := ?_)); clear hs; intro a hs))
  obtain ⟨b4, q4⟩ := nm1 hw; subst q4
  refine st_call hs (hc := doc_has w0 _ p d k _ (hw.perm (List.Perm.swap _ _ _))) (k := ?_); rintro e0 W1 ⟨rfl, hw1⟩; refine ⟨_, rfl, ?_⟩; clear hs hw; intro a hs; have hw := hw1; clear hw1
  cases hg : (getK d k).isSome with
  | false =>
    rw [hg] at hs
    have hn : getK d k = none := by simpa using hg
    repeat (first | (refine sxv hs hw ?_; clear hs; intro a hs) | refine sxc hs ?_ | (refine sxa hs hw ?_; clear hs hw; intro a b W hw hs) | (refine sxs hs hw ?_; clear hs hw; intro W hs hw) | ((with_reducible first | refine st_ptrSome hs (k := ?_) | refine st_ptrNone hs (k := ?_)); clear hs; intro a hs))
    refine rc2 hs rfl rfl hw (In.tl In.hd) rfl rfl ?_
    rw [hn]
    exact ⟨rfl, hw.sub (List.Sublist.cons_cons _ (List.Sublist.cons _ (List.Sublist.refl _)))⟩
  | true =>
    rw [hg] at hs
    obtain ⟨m, d', hp, hk, hw⟩ := docOpen hw
    repeat (first | (refine sxv hs hw ?_; clear hs; intro a hs) | refine sxc hs ?_ | (refine sxa hs hw ?_; clear hs hw; intro a b W hw hs) | (refine sxs hs hw ?_; clear hs hw; intro W hs hw) | ((with_reducible first | refine st_ptrSome hs (k := ?_) | refine st_ptrNone hs (k := ?_)); clear hs; intro a hs))
    refine st_lookup hs (hw := hw) (hz := zeroVal) (c := ?_); clear hs; intro a hs
    rw [dget_kv, getK_perm hp ((dKeys_perm hp).2 hk)] at hs
    repeat (first | (refine sxv hs hw ?_; clear hs; intro a hs) | refine sxc hs ?_ | (refine sxa hs hw ?_; clear hs hw; intro a b W hw hs) | (refine sxs hs hw ?_; clear hs hw; intro W hs hw) | ((with_reducible first | refine st_ptrSome hs (k := ?_) | refine st_ptrNone hs (k := ?_)); clear hs; intro a hs))
    refine st_call hs (hc := Raw_any (getK d k) _) (k := ?_); rintro e0 W1 ⟨rfl, hb⟩; refine ⟨_, rfl, ?_⟩; clear hs; intro a hs; replace hw := hw.below hb; clear hb
    repeat (first | (refine sxv hs hw ?_; clear hs; intro a hs) | refine sxc hs ?_ | (refine sxa hs hw ?_; clear hs hw; intro a b W hw hs) | (refine sxs hs hw ?_; clear hs hw; intro W hs hw) | ((with_reducible first | refine st_ptrSome hs (k := ?_) | refine st_ptrNone hs (k := ?_)); clear hs; intro a hs))
    refine rc2 hs rfl rfl hw (In.tl (In.tl In.hd)) rfl rfl ?_
    exact ⟨rfl, docShut (hw.sub (List.Sublist.cons_cons _ (List.Sublist.cons_cons _ (List.Sublist.cons _ (List.Sublist.refl _))))) hp hk⟩
end Go.Proofs.YtmalklakaalaoaaGreatDoor.Sw

set_option linter.unusedVariables false
set_option maxRecDepth 10000
namespace Go.Sx
open Go.RowKit
section
variable {P : Program} {ops : Array Oper} {rest : List Oper} {Q : Exit → Act → World → Prop} {a : Act} {n : Nat} {L : List (Nat × Value)} {W : World} {d : Nat} {T : TypeId} {p : String} {e : Array Edge}
end
theorem Ch.mem {α : Type} {R : α → List Value → Prop} {k : Nat} (hk : ∀ a c, R a c → c.length = k) {l : List α} {cs : List Value} (h : Ch R l cs) {i : Nat} {a : α} (hi : l[i]? = some a) : ∃ c, R a c ∧ cut cs (i * k) k = c := by
  obtain ⟨c, h1, h2, h3⟩ := h.get hk hi
  exact ⟨c, h1, h3⟩
theorem set_mid {cs1 c cs2 : List Value} {m : Nat} {x : Value} (hm : m < c.length) : (cs1 ++ (c ++ cs2)).set (cs1.length + m) x = cs1 ++ (c.set m x ++ cs2) := by
  rw [List.set_append_right _ _ (Nat.le_add_right _ _), Nat.add_sub_cancel_left, List.set_append_left _ _ hm]
theorem Ch.set_in {α : Type} {R R' : α → List Value → Prop} {k m i : Nat} {x : Value} {l : List α} {a a' : α} {cs : List Value} (hk : ∀ a c, R a c → c.length = k) (h : Ch R l cs) (hi : l[i]? = some a) (hm : m < k) (hx : ∀ c, R a c → R a' (c.set m x)) : Ch R (l.set i a') (cs.set (i * k + m) x) := by
  obtain ⟨cs1, c, cs2, rfl, h1, h2, h3, h4⟩ := h.split hk hi
  have hl := hk a c h2
  have hlt := (List.getElem?_eq_some_iff.1 hi).1
  rw [← h1, set_mid (by omega), List.set_eq_take_append_cons_drop, if_pos hlt]
  exact h3.app ⟨c.set m x, cs2, rfl, hx c h2, h4⟩
theorem Ch.at_cur {α : Type} {R : α → List Value → Prop} {k i n j : Nat} {l : List α} {a : α} {cs cur c : List Value} {u : Value} (hcut : cut cs (i * k) k = c) (ht : cur.take n = cs) (hu : c[j]? = some u) : cur[i * k + j]? = some u := by
  have h1 := congrArg (fun t => t[j]?) hcut
  simp only [cut_eq, List.getElem?_take, List.getElem?_drop, hu] at h1
  split at h1
  · rw [← ht, List.getElem?_take] at h1
    split at h1
    · exact h1
    · cases h1
  · cases h1
theorem keepB {w W : World} {p : Fh → Prop} {b : Bool} (h : Has 0 w W ((if b = true then Ex (fun H => Fz H :: Fact ((fr w).le H ∧ p H) :: []) else Fz (fr w)) :: [])) : Below w.heap.size w W := by
  cases b with
  | false => exact h.endF In.hd (Fh.le.refl _)
  | true =>
    have h : Has 0 w W (Ex (fun H => Fz H :: Fact ((fr w).le H ∧ p H) :: []) :: []) := h
    obtain ⟨H, h⟩ := Has.open h
    have h : Has 0 w W (Fz H :: Fact ((fr w).le H ∧ p H) :: []) := h
    have h2 := h.told (In.tl In.hd)
    exact h.endF In.hd h2.1
inductive Sel : List Res → List Res → Prop
  | nil {L : List Res} : Sel [] L
  | refl (L : List Res) : Sel L L
  | cons {r : Res} {K L L' : List Res} : Pick r L L' → Sel K L' → Sel (r :: K) L
  | skip {r : Res} {K L : List Res} : Sel K L → Sel K (r :: L)
theorem Sel.perm {K L : List Res} (s : Sel K L) : ∃ M, L.Perm (K ++ M) := by
  induction s with
  | nil => exact ⟨_, List.Perm.refl _⟩
  | refl L => exact ⟨[], by rw [List.append_nil]⟩
  | cons p _ ih =>
    obtain ⟨M, h⟩ := ih
    exact ⟨M, perm_pick p h⟩
  | @skip r K L _ ih =>
    obtain ⟨M, h⟩ := ih
    exact ⟨r :: M, (h.cons r).trans List.perm_middle.symm⟩
theorem Has.sel {G : Nat} {w W : World} {K L : List Res} (h : Has G w W L) (s : Sel K L) : Has G w W K := by
  obtain ⟨M, hp⟩ := s.perm
  exact (h.perm hp).sub (List.sublist_append_left K M)
end Go.Sx

set_option linter.unusedVariables false
namespace Go.Sx
open Go.RowKit
theorem chH_at {α : Type} {Rr : α → List Value → Prop} {H : Fh} {sad : Option Addr} {scap n k : Nat} {l : List α} {xs : List Value} {i : Nat} {o : α} (hk : ∀ a c, Rr a c → c.length = k) (r : RdH H k (.slice sad n scap) n xs) (hc : Ch Rr l xs) (hn : l.length = n) (h : l[i]? = some o) :
    ∃ g off c, sad = some ⟨g, off, none⟩ ∧ Rr o c ∧ ∀ {G : Nat} {w0 W : World} {L : List Res}, Has G w0 W L → In (Fz H) L → ∀ j u, c[j]? = some u → W.cell? ⟨g, off + i * k + j, none⟩ = some u := by
  have hi : i < l.length := (List.getElem?_eq_some_iff.1 h).1
  obtain ⟨c, h1, h2, h3⟩ := hc.get hk h
  obtain ⟨_, ad, cap, e, h4, h5, h6⟩ := r
  injection e with e1 e2 e3
  subst e1
  rcases h6 with h6 | ⟨b, off, cs, T, z, rfl, hb, hcell⟩
  · omega
  · refine ⟨b, off, c, rfl, h1, fun hw hin j u hu => ?_⟩
    obtain ⟨F, hF, h7⟩ := hw.of_in hin
    unfold World.cell?
    rw [(h7 b _ hb).2, Nat.add_assoc]
    have : cs[off + (i * k + j)]? = some u := by
      refine hcell _ _ ?_
      rw [← h3, cut_eq, List.getElem?_take] at hu
      split at hu
      · rw [List.getElem?_drop] at hu; exact hu
      · cases hu
    simpa using this
theorem Has.thaw {G : Nat} {w W : World} {R : List Res} {H H' : Fh} (h : Has G w W (Fz H' :: R)) (hl : H.le H') : Has G w W (Fz H :: R) := by
  obtain ⟨F1, h1, h2, h3⟩ := h.has
  exact ⟨h.ext, h.glob, F1, h1, fun b o hb => h2 b o (hl b o hb), h3⟩
theorem chMap {α : Type} (f : α → Value) : ∀ l : List α, Ch (fun a c => c = [f a]) l (l.map f)
  | [] => rfl
  | a :: l => ⟨[f a], l.map f, rfl, rfl, chMap f l⟩
end Go.Sx

set_option linter.unusedVariables false
set_option maxRecDepth 10000
namespace Go.Proofs.YtmalklakaalaoaaGreatDoor.Sw
open Go.RowKit Go.Sx
-- pieces
set_option maxHeartbeats 4000000 in
theorem ref_Eq_self (k n : Int) (s : ByteArray) (w : World) :
    Calls Tryz.prog 84 ⟨[.agg ⟨[.int .i64 k, .int .i64 n, .string s]⟩, .agg ⟨[.int .i64 k, .int .i64 n, .string s]⟩]⟩ w fun e w' => e = .returned (.bool true) ∧ Below w.heap.size w w' := by
  have hw := Has.start (G := 0) (w := w) (Nat.zero_le _)
  refine enter Tryz.func84 Tryz.ntmps84 rfl rfl fun a hs => ?_
  repeat (first | (refine sxv hs hw ?_; clear hs; intro a hs) | refine sxc hs ?_ | (refine sxa hs hw ?_; clear hs hw; intro a b W hw hs) | (refine sxs hs hw ?_; clear hs hw; intro W hs hw) | ((with_reducible first | refine st_ptrSome hs (k := ?_) | refine st_ptrNone hs (k := ?_)); clear hs; intro a hs))
  rw [beq_self_eq_true] at hs
  repeat (first | (refine sxv hs hw ?_; clear hs; intro a hs) | refine sxc hs ?_ | (refine sxa hs hw ?_; clear hs hw; intro a b W hw hs) | (refine sxs hs hw ?_; clear hs hw; intro W hs hw) | ((with_reducible first | refine st_ptrSome hs (k := ?_) | refine st_ptrNone hs (k := ?_)); clear hs; intro a hs))
  rw [beq_self_eq_true] at hs
  repeat (first | (refine sxv hs hw ?_; clear hs; intro a hs) | refine sxc hs ?_ | (refine sxa hs hw ?_; clear hs hw; intro a b W hw hs) | (refine sxs hs hw ?_; clear hs hw; intro W hs hw) | ((with_reducible first | refine st_ptrSome hs (k := ?_) | refine st_ptrNone hs (k := ?_)); clear hs; intro a hs))
  rw [beq_self_eq_true] at hs
  repeat (first | (refine sxv hs hw ?_; clear hs; intro a hs) | refine sxc hs ?_ | (refine sxa hs hw ?_; clear hs hw; intro a b W hw hs) | (refine sxs hs hw ?_; clear hs hw; intro W hs hw) | ((with_reducible first | refine st_ptrSome hs (k := ?_) | refine st_ptrNone hs (k := ?_)); clear hs; intro a hs))
  exact rt1 hs rfl rfl ⟨rfl, hw.end (by repeat (first | exact In.hd | apply In.tl))⟩
theorem getK_at {d : Dm} (hk : dKeys d) {i : Nat} {o : ByteArray × DV} (h : d[i]? = some o) : getK d o.1 = some o.2 := (getK_mem hk).2 (List.mem_of_getElem? h)
set_option maxHeartbeats 8000000 in
theorem law6_Same (w0 W : World) (H : Fh) (p : Nat) (d : Dm) (dv : Value) (R : List Res) (hd : DocFine d) (r : DocH H dv d) (hw : Has 0 w0 W (DocAt p d :: Fz H :: R)) :
    Calls Tryz.prog 49 ⟨[.pointer (some ⟨p, 0, none⟩), .agg ⟨[dv]⟩]⟩ W fun e W' => e = .returned (.bool true) ∧ Has 0 w0 W' (DocAt p d :: Fz H :: R) := by
  obtain ⟨dad, dcap, rfl⟩ := r.slice
  have hl := hd.ok.len
  refine enter Tryz.func49 Tryz.ntmps49 rfl rfl fun a hs => ?_
  repeat (first | (refine sxv hs hw ?_; clear hs; intro a hs) | refine sxc hs ?_ | (refine sxa hs hw ?_; clear hs hw; intro a b W hw hs) | (refine sxs hs hw ?_; clear hs hw; intro W hs hw) | ((with_reducible first | refine st_ptrSome hs (k := ?_) | refine st_ptrNone hs (k := ?_)); clear hs; intro a hs))
  obtain ⟨b3, q3⟩ := nm1 hw; subst q3
  refine st_call hs (hc := doc_Keys w0 _ p d _ hd (hw.perm (List.Perm.swap _ _ _))) (k := ?_); rintro e0 W1 ⟨kv, rfl, hw1⟩; refine ⟨_, rfl, ?_⟩; clear hs hw; intro a hs
  have hw : Has 0 w0 W1 (Own 9 1 kv d.length (d.map fun x => Value.string x.1) :: Fz H :: Cells b3 [.slice dad d.length dcap] 32 :: DocAt p d :: R) := hw1.perm (by repeat (first | exact List.Perm.refl _ | refine perm_pick (by repeat (first | exact Pick.hd | apply Pick.tl)) ?_))
  clear hw1
  obtain ⟨H1, hle, hw2, rk⟩ := hw.freeze_own
  clear hw; have hw := hw2; clear hw2
  obtain ⟨kad, kcap, rfl⟩ := rk.slice
  have r1 := r.le hle
  repeat (first | (refine sxv hs hw ?_; clear hs; intro a hs) | refine sxc hs ?_ | (refine sxa hs hw ?_; clear hs hw; intro a b W hw hs) | (refine sxs hs hw ?_; clear hs hw; intro W hs hw) | ((with_reducible first | refine st_ptrSome hs (k := ?_) | refine st_ptrNone hs (k := ?_)); clear hs; intro a hs))
  rw [show (((d.length : Int)) != (d.length : Int)) = false from bne_self_eq_false _] at hs
  repeat (first | (refine sxv hs hw ?_; clear hs; intro a hs) | refine sxc hs ?_ | (refine sxa hs hw ?_; clear hs hw; intro a b W hw hs) | (refine sxs hs hw ?_; clear hs hw; intro W hs hw) | ((with_reducible first | refine st_ptrSome hs (k := ?_) | refine st_ptrNone hs (k := ?_)); clear hs; intro a hs))
  refine st_loop (σ := Nat) (fun i => [(0, .pointer (some ⟨p, 0, none⟩)), (3, .pointer (some ⟨b3, 0, none⟩)), (5, .slice kad d.length kcap), (6, .int .i64 (i : Int))]) (fun _ => DocAt p d :: Cells b3 [.slice dad d.length dcap] 32 :: Fz H1 :: R) (fun i => i ≤ d.length) (fun i => d.length - i) 0 (Nat.zero_le _) hs ⟨rfl, rfl, rfl, rfl, trivial⟩ (hw.perm (by repeat (first | exact List.Perm.refl _ | refine perm_pick (by repeat (first | exact Pick.hd | apply Pick.tl)) ?_))) ?_
  clear hs hw
  rintro i a W hi hs hw
  repeat (first | (refine sxv hs hw ?_; clear hs; intro a hs) | refine sxc hs ?_ | (refine sxa hs hw ?_; clear hs hw; intro a b W hw hs) | (refine sxs hs hw ?_; clear hs hw; intro W hs hw) | ((with_reducible first | refine st_ptrSome hs (k := ?_) | refine st_ptrNone hs (k := ?_)); clear hs; intro a hs))
  refine cd_split hs (kt := fun hcc => ?_) (kf := fun hcc => ?_)
  · have hi' : i < d.length := by simpa using hcc
    obtain ⟨o, hoi⟩ : ∃ o, d[i]? = some o := ⟨d[i], List.getElem?_eq_getElem hi'⟩
    have hgk := getK_at hd.ok.keys hoi
    obtain ⟨g1, f1, c1, rfl, rfl, hc1⟩ := chH_at (fun _ _ h => by rw [h]; rfl) rk (chMap (fun x : ByteArray × DV => Value.string x.1) d) rfl hoi
    obtain ⟨g2, f2, c2, rfl, rfl, hc2⟩ := chH_at pair_len r1 (chFlat pairCells d) rfl hoi
    repeat (first | (refine sxv hs hw ?_; clear hs; intro a hs) | refine sxc hs ?_ | (refine sxa hs hw ?_; clear hs hw; intro a b W hw hs) | (refine sxs hs hw ?_; clear hs hw; intro W hs hw) | ((with_reducible first | refine st_ptrSome hs (k := ?_) | refine st_ptrNone hs (k := ?_)); clear hs; intro a hs))
    refine st_index_at hs (z := [.string ⟨#[]⟩]) (h0 := by omega) (h1 := by omega) (c := ?_); clear hs; intro a hs
    repeat (first | (refine sxv hs hw ?_; clear hs; intro a hs) | refine sxc hs ?_ | (refine sxa hs hw ?_; clear hs hw; intro a b W hw hs) | (refine sxs hs hw ?_; clear hs hw; intro W hs hw) | ((with_reducible first | refine st_ptrSome hs (k := ?_) | refine st_ptrNone hs (k := ?_)); clear hs; intro a hs))
    refine st_load_at hs (hc := hc1 hw (by repeat (first | exact In.hd | apply In.tl)) 0 _ rfl) (c := ?_); clear hs; intro a hs
    repeat (first | (refine sxv hs hw ?_; clear hs; intro a hs) | refine sxc hs ?_ | (refine sxa hs hw ?_; clear hs hw; intro a b W hw hs) | (refine sxs hs hw ?_; clear hs hw; intro W hs hw) | ((with_reducible first | refine st_ptrSome hs (k := ?_) | refine st_ptrNone hs (k := ?_)); clear hs; intro a hs))
    refine st_call hs (hc := doc_Get w0 _ p d o.1 _ hw) (k := ?_); rintro e0 W1 ⟨rfl, hw1⟩; refine ⟨_, rfl, ?_⟩; clear hs hw; intro a hs; have hw := hw1; clear hw1
    rw [hgk, show (some o.2).isSome = true from rfl] at hs
    repeat (first | (refine sxv hs hw ?_; clear hs; intro a hs) | refine sxc hs ?_ | (refine sxa hs hw ?_; clear hs hw; intro a b W hw hs) | (refine sxs hs hw ?_; clear hs hw; intro W hs hw) | ((with_reducible first | refine st_ptrSome hs (k := ?_) | refine st_ptrNone hs (k := ?_)); clear hs; intro a hs))
    obtain ⟨b7, q7⟩ := nm1 hw; subst q7
    refine rg_draw (V := [.slice (some ⟨g1, f1, none⟩) d.length kcap, .int .i64 (i : Int), .pointer (some ⟨g1, f1 + i * 1, none⟩), .string o.1, .pointer (some ⟨b3, 0 + 0, none⟩), .slice (some ⟨g2, f2, none⟩) d.length dcap, .int .i64 (i : Int), .pointer (some ⟨g2, f2 + i * 4, none⟩), .pointer (some ⟨g2, f2 + i * 4 + 0, none⟩), .string o.1, .bool false, .bool false, .bool true, .bool false, .bool false, .bool false, .agg ⟨rawCells (some o.2)⟩, .pointer (some ⟨b3, 0 + 0, none⟩), .slice (some ⟨g2, f2, none⟩) d.length dcap, .int .i64 (i : Int), .pointer (some ⟨g2, f2 + i * 4, none⟩), .pointer (some ⟨g2, f2 + i * 4 + 1, none⟩), .agg ⟨rawCells (some o.2)⟩, .bool true, .bool false, .bool false])
      (Rs := fun D => Cells b7 (rawCells (some o.2)) 93 :: DocAt p d :: Cells b3 [.slice (some ⟨g2, f2, none⟩) d.length dcap] 32 :: Fz H1 :: R) hs hw (ho := ⟨?_, ?_, ?c2_c, ?c3_c, ?_, ?_, ?_, ?c7_c, ?_, ?c9_c, ?c10_c, ?_, ?_, ?_, ?_, ?_, ?_, ?_, ?_, ?_, ?c20_c, ?_, ?c22_c, ?c23_c, ?_, ?_, trivial⟩) (k := ?k_c)
    case c2_c =>
      intro LD D a W hcl hi hp hs hw
      refine st_index_at hs (z := [.string ⟨#[]⟩]) (h0 := by omega) (h1 := by omega) (c := ?_); clear hs; intro a hs
      repeat (first | (refine sxv hs hw ?_; clear hs; intro a hs) | refine sxc hs ?_ | (refine sxa hs hw ?_; clear hs hw; intro a b W hw hs) | (refine sxs hs hw ?_; clear hs hw; intro W hs hw) | ((with_reducible first | refine st_ptrSome hs (k := ?_) | refine st_ptrNone hs (k := ?_)); clear hs; intro a hs))
      exact ⟨hs, hw⟩
    case c3_c =>
      intro LD D a W hcl hi hp hs hw
      refine st_load_at hs (hc := hc1 hw (by repeat (first | exact In.hd | apply In.tl)) 0 _ rfl) (c := ?_); clear hs; intro a hs
      repeat (first | (refine sxv hs hw ?_; clear hs; intro a hs) | refine sxc hs ?_ | (refine sxa hs hw ?_; clear hs hw; intro a b W hw hs) | (refine sxs hs hw ?_; clear hs hw; intro W hs hw) | ((with_reducible first | refine st_ptrSome hs (k := ?_) | refine st_ptrNone hs (k := ?_)); clear hs; intro a hs))
      exact ⟨hs, hw⟩
    case c7_c =>
      intro LD D a W hcl hi hp hs hw
      refine st_index_at hs (z := [.string ⟨#[]⟩, .int .i64 0, .int .i64 0, .string ⟨#[]⟩]) (h0 := by omega) (h1 := by omega) (c := ?_); clear hs; intro a hs
      repeat (first | (refine sxv hs hw ?_; clear hs; intro a hs) | refine sxc hs ?_ | (refine sxa hs hw ?_; clear hs hw; intro a b W hw hs) | (refine sxs hs hw ?_; clear hs hw; intro W hs hw) | ((with_reducible first | refine st_ptrSome hs (k := ?_) | refine st_ptrNone hs (k := ?_)); clear hs; intro a hs))
      exact ⟨hs, hw⟩
    case c9_c =>
      intro LD D a W hcl hi hp hs hw
      refine st_load_at hs (hc := hc2 hw (by repeat (first | exact In.hd | apply In.tl)) 0 _ rfl) (c := ?_); clear hs; intro a hs
      repeat (first | (refine sxv hs hw ?_; clear hs; intro a hs) | refine sxc hs ?_ | (refine sxa hs hw ?_; clear hs hw; intro a b W hw hs) | (refine sxs hs hw ?_; clear hs hw; intro W hs hw) | ((with_reducible first | refine st_ptrSome hs (k := ?_) | refine st_ptrNone hs (k := ?_)); clear hs; intro a hs))
      exact ⟨hs, hw⟩
    case c10_c =>
      intro LD D a W hcl hi hp hs hw
      repeat (first | (refine sxv hs hw ?_; clear hs; intro a hs) | refine sxc hs ?_ | (refine sxa hs hw ?_; clear hs hw; intro a b W hw hs) | (refine sxs hs hw ?_; clear hs hw; intro W hs hw) | ((with_reducible first | refine st_ptrSome hs (k := ?_) | refine st_ptrNone hs (k := ?_)); clear hs; intro a hs))
      rw [beq_self_eq_true] at hs
      repeat (first | (refine sxv hs hw ?_; clear hs; intro a hs) | refine sxc hs ?_ | (refine sxa hs hw ?_; clear hs hw; intro a b W hw hs) | (refine sxs hs hw ?_; clear hs hw; intro W hs hw) | ((with_reducible first | refine st_ptrSome hs (k := ?_) | refine st_ptrNone hs (k := ?_)); clear hs; intro a hs))
      exact ⟨hs, hw⟩
    case c20_c =>
      intro LD D a W hcl hi hp hs hw
      repeat (first | (refine sxv hs hw ?_; clear hs; intro a hs) | refine sxc hs ?_ | (refine sxa hs hw ?_; clear hs hw; intro a b W hw hs) | (refine sxs hs hw ?_; clear hs hw; intro W hs hw) | ((with_reducible first | refine st_ptrSome hs (k := ?_) | refine st_ptrNone hs (k := ?_)); clear hs; intro a hs))
      refine st_index_at hs (z := [.string ⟨#[]⟩, .int .i64 0, .int .i64 0, .string ⟨#[]⟩]) (h0 := by omega) (h1 := by omega) (c := ?_); clear hs; intro a hs
      repeat (first | (refine sxv hs hw ?_; clear hs; intro a hs) | refine sxc hs ?_ | (refine sxa hs hw ?_; clear hs hw; intro a b W hw hs) | (refine sxs hs hw ?_; clear hs hw; intro W hs hw) | ((with_reducible first | refine st_ptrSome hs (k := ?_) | refine st_ptrNone hs (k := ?_)); clear hs; intro a hs))
      exact ⟨hs, hw⟩
    case c22_c =>
      intro LD D a W hcl hi hp hs hw
      repeat (first | (refine sxv hs hw ?_; clear hs; intro a hs) | refine sxc hs ?_ | (refine sxa hs hw ?_; clear hs hw; intro a b W hw hs) | (refine sxs hs hw ?_; clear hs hw; intro W hs hw) | ((with_reducible first | refine st_ptrSome hs (k := ?_) | refine st_ptrNone hs (k := ?_)); clear hs; intro a hs))
      refine st_load_ats hs (cs := rawCells (some o.2)) (hc := fun j u h => by rw [Nat.add_assoc _ 1 j, Nat.add_comm 1 j]; exact hc2 hw (by repeat (first | exact In.hd | apply In.tl)) (j + 1) u h) (hl := by rfl) (c := ?_); clear hs; intro a hs
      repeat (first | (refine sxv hs hw ?_; clear hs; intro a hs) | refine sxc hs ?_ | (refine sxa hs hw ?_; clear hs hw; intro a b W hw hs) | (refine sxs hs hw ?_; clear hs hw; intro W hs hw) | ((with_reducible first | refine st_ptrSome hs (k := ?_) | refine st_ptrNone hs (k := ?_)); clear hs; intro a hs))
      exact ⟨hs, hw⟩
    case c23_c =>
      intro LD D a W hcl hi hp hs hw
      repeat (first | (refine sxv hs hw ?_; clear hs; intro a hs) | refine sxc hs ?_ | (refine sxa hs hw ?_; clear hs hw; intro a b W hw hs) | (refine sxs hs hw ?_; clear hs hw; intro W hs hw) | ((with_reducible first | refine st_ptrSome hs (k := ?_) | refine st_ptrNone hs (k := ?_)); clear hs; intro a hs))
      refine st_call hs (hc := ref_Eq_self (kindOf (some o.2)) (intIn (some o.2)) (textIn (some o.2)) _) (k := ?_); rintro e0 W1 ⟨rfl, hb⟩; refine ⟨_, rfl, ?_⟩; clear hs; intro a hs; replace hw := hw.below hb; clear hb
      repeat (first | (refine sxv hs hw ?_; clear hs; intro a hs) | refine sxc hs ?_ | (refine sxa hs hw ?_; clear hs hw; intro a b W hw hs) | (refine sxs hs hw ?_; clear hs hw; intro W hs hw) | ((with_reducible first | refine st_ptrSome hs (k := ?_) | refine st_ptrNone hs (k := ?_)); clear hs; intro a hs))
      exact ⟨hs, hw⟩
    case k_c =>
      clear hs hw
      intro a W hs hw
      replace hw : Has 0 w0 W (Cells b7 (rawCells (some o.2)) 93 :: DocAt p d :: Cells b3 [.slice (some ⟨g2, f2, none⟩) d.length dcap] 32 :: Fz H1 :: R) := hw
      replace hs : Slots a 60 [(59, .bool false), (0, .pointer (some ⟨p, 0, none⟩)), (3, .pointer (some ⟨b3, 0, none⟩)), (5, .slice (some ⟨g1, f1, none⟩) d.length kcap), (6, .int .i64 (i : Int))] := hs.of ⟨rfl, rfl, rfl, rfl, rfl, trivial⟩
      repeat (first | (refine sxv hs hw ?_; clear hs; intro a hs) | refine sxc hs ?_ | (refine sxa hs hw ?_; clear hs hw; intro a b W hw hs) | (refine sxs hs hw ?_; clear hs hw; intro W hs hw) | ((with_reducible first | refine st_ptrSome hs (k := ?_) | refine st_ptrNone hs (k := ?_)); clear hs; intro a hs))
      exact st_again (i + 1) hs (hw.sub (List.Sublist.cons _ (List.Sublist.refl _))) hi' (by show d.length - (i + 1) < d.length - i; omega) ⟨rfl, rfl, rfl, int_eq (by show IntKind.i64.wrap ((i : Int) + 1) = ((i + 1 : Nat) : Int); rw [IntWalk.i64_in _ (by omega)]; omega), trivial⟩
    all_goals
      intro LD D a W hcl hi hp hs hw
      repeat (first | (refine sxv hs hw ?_; clear hs; intro a hs) | refine sxc hs ?_ | (refine sxa hs hw ?_; clear hs hw; intro a b W hw hs) | (refine sxs hs hw ?_; clear hs hw; intro W hs hw) | ((with_reducible first | refine st_ptrSome hs (k := ?_) | refine st_ptrNone hs (k := ?_)); clear hs; intro a hs))
      exact ⟨hs, hw⟩
  · repeat (first | (refine sxv hs hw ?_; clear hs; intro a hs) | refine sxc hs ?_ | (refine sxa hs hw ?_; clear hs hw; intro a b W hw hs) | (refine sxs hs hw ?_; clear hs hw; intro W hs hw) | ((with_reducible first | refine st_ptrSome hs (k := ?_) | refine st_ptrNone hs (k := ?_)); clear hs; intro a hs))
    refine rt1 hs rfl rfl ⟨rfl, ?_⟩
    have hw : Has 0 w0 _ (Fz H1 :: DocAt p d :: Cells b3 [.slice dad d.length dcap] 32 :: R) := hw.perm (by repeat (first | exact List.Perm.refl _ | refine perm_pick (by repeat (first | exact Pick.hd | apply Pick.tl)) ?_))
    have hw := hw.thaw hle
    have hw : Has 0 w0 _ (Cells b3 [.slice dad d.length dcap] 32 :: DocAt p d :: Fz H :: R) := hw.perm (by repeat (first | exact List.Perm.refl _ | refine perm_pick (by repeat (first | exact Pick.hd | apply Pick.tl)) ?_))
    exact hw.sub (List.Sublist.cons _ (List.Sublist.refl _))
end Go.Proofs.YtmalklakaalaoaaGreatDoor.Sw

set_option linter.unusedVariables false
set_option maxRecDepth 10000
namespace Go.Proofs.YtmalklakaalaoaaGreatDoor.Sw
open Go.RowKit Go.Sx
def rowOf (f : FoldD) (c : Int) : RowD := if 1 ≤ c ∧ c ≤ 5 then ((f.told[c.toNat]?).map (·.2)).getD zeroRow else zeroRow
def toldOf (f : FoldD) (c : Int) : RowD := if lastOf f c = 0 then zeroRow else rowOf f c
structure FoldOk (f : FoldD) : Prop where
  doc : DocFine f.d
  six : f.told.length = 6
  told : ∀ x ∈ f.told, 0 ≤ x.1 ∧ (x.1 = 0 → x.2 = zeroRow) ∧ x.2.b.l.length ≤ 8
theorem FoldOk.at_ {f : FoldD} (h : FoldOk f) {c : Int} (hc : 1 ≤ c ∧ c ≤ 5) : ∃ x, f.told[c.toNat]? = some x ∧ x ∈ f.told ∧ lastOf f c = x.1 ∧ rowOf f c = x.2 := by
  have hlt : c.toNat < f.told.length := by rw [h.six]; omega
  refine ⟨f.told[c.toNat], List.getElem?_eq_getElem hlt, List.getElem_mem hlt, lastOf_at hc.1 hc.2 (List.getElem?_eq_getElem hlt), ?_⟩
  unfold rowOf
  rw [if_pos hc, List.getElem?_eq_getElem hlt]
  rfl
theorem FoldOk.last {f : FoldD} (h : FoldOk f) (c : Int) : 0 ≤ lastOf f c := by
  by_cases hc : 1 ≤ c ∧ c ≤ 5
  · obtain ⟨x, _, hm, h1, _⟩ := h.at_ hc
    rw [h1]; exact (h.told x hm).1
  · unfold lastOf; rw [if_neg hc]; exact Int.le_refl _
theorem FoldOk.toldOf {f : FoldD} (h : FoldOk f) (c : Int) : toldOf f c = rowOf f c := by
  unfold Sw.toldOf
  by_cases hc : 1 ≤ c ∧ c ≤ 5
  · obtain ⟨x, _, hm, h1, h2⟩ := h.at_ hc
    split
    · rename_i h0
      rw [h2, (h.told x hm).2.1 (by rw [← h1]; exact h0)]
    · rfl
  · split
    · unfold rowOf; rw [if_neg hc]
    · rfl
set_option maxHeartbeats 4000000 in
theorem fold_Doc (w0 W : World) (H : Fh) (p : Nat) (f : FoldD) (R : List Res) (hw : Has 0 w0 W (FoldAt H p f :: R)) :
    Calls Tryz.prog 43 ⟨[.pointer (some ⟨p, 0, none⟩)]⟩ W fun e W' => ∃ c, e = .returned (.pointer (some ⟨c, 0, none⟩)) ∧ Has 0 w0 W' (DocAt c f.d :: FoldAt H p f :: R) := by
  obtain ⟨pd, xs, ht, hw⟩ := foldOpen hw
  refine enter Tryz.func43 Tryz.ntmps43 rfl rfl fun a hs => ?_
  repeat (first | (refine sxv hs hw ?_; clear hs; intro a hs) | refine sxc hs ?_ | (refine sxa hs hw ?_; clear hs hw; intro a b W hw hs) | (refine sxs hs hw ?_; clear hs hw; intro W hs hw) | ((with_reducible first | refine st_ptrSome hs (k := ?_) | refine st_ptrNone hs (k := ?_)); clear hs; intro a hs))
  refine st_call hs (hc := doc_Copy w0 _ pd f.d _ hw.swap2) (k := ?_); rintro e0 W1 ⟨c, rfl, hw1⟩; refine ⟨_, rfl, ?_⟩; clear hs hw; intro a hs; have hw := hw1; clear hw1
  repeat (first | (refine sxv hs hw ?_; clear hs; intro a hs) | refine sxc hs ?_ | (refine sxa hs hw ?_; clear hs hw; intro a b W hw hs) | (refine sxs hs hw ?_; clear hs hw; intro W hs hw) | ((with_reducible first | refine st_ptrSome hs (k := ?_) | refine st_ptrNone hs (k := ?_)); clear hs; intro a hs))
  have hw : Has 0 w0 _ (Cells p (foldCells f.place pd xs) 126 :: DocAt pd f.d :: DocAt c f.d :: R) := hw.perm (by repeat (first | exact List.Perm.refl _ | refine perm_pick (by repeat (first | exact Pick.hd | apply Pick.tl)) ?_))
  exact rt1 hs rfl rfl ⟨c, rfl, (foldShut hw ht).swap2⟩
set_option maxHeartbeats 8000000 in
theorem fold_Told (w0 W : World) (H : Fh) (p : Nat) (f : FoldD) (c : Int) (R : List Res) (h8 : ∀ x ∈ f.told, x.2.b.l.length ≤ 8) (hw : Has 0 w0 W (FoldAt H p f :: Fz H :: R)) :
    Calls Tryz.prog 50 ⟨[.pointer (some ⟨p, 0, none⟩), .int .i64 c]⟩ W fun e W' => ∃ sv H', e = .returned (.tuple ⟨[.agg ⟨rowCells (toldOf f c) sv⟩, .bool (!(lastOf f c == 0))]⟩) ∧ H.le H' ∧ OpsH H' sv (toldOf f c).b.l ∧ Has 0 w0 W' (FoldAt H p f :: Fz H' :: R) := by
  refine enter Tryz.func50 Tryz.ntmps50 rfl rfl fun a hs => ?_
  repeat (first | (refine sxv hs hw ?_; clear hs; intro a hs) | refine sxc hs ?_ | (refine sxa hs hw ?_; clear hs hw; intro a b W hw hs) | (refine sxs hs hw ?_; clear hs hw; intro W hs hw) | ((with_reducible first | refine st_ptrSome hs (k := ?_) | refine st_ptrNone hs (k := ?_)); clear hs; intro a hs))
  obtain ⟨b4, q4⟩ := nm1 hw; subst q4
  refine st_call hs (hc := fold_Last w0 _ H p f c _ hw.swap2) (k := ?_); rintro e0 W1 ⟨rfl, hw1⟩; refine ⟨_, rfl, ?_⟩; clear hs hw; intro a hs; have hw := hw1; clear hw1
  repeat (first | (refine sxv hs hw ?_; clear hs; intro a hs) | refine sxc hs ?_ | (refine sxa hs hw ?_; clear hs hw; intro a b W hw hs) | (refine sxs hs hw ?_; clear hs hw; intro W hs hw) | ((with_reducible first | refine st_ptrSome hs (k := ?_) | refine st_ptrNone hs (k := ?_)); clear hs; intro a hs))
  cases h0 : (lastOf f c == 0) with
  | true =>
    rw [h0] at hs
    have hT : toldOf f c = zeroRow := by unfold toldOf; rw [if_pos (by simpa using h0)]
    repeat (first | (refine sxv hs hw ?_; clear hs; intro a hs) | refine sxc hs ?_ | (refine sxa hs hw ?_; clear hs hw; intro a b W hw hs) | (refine sxs hs hw ?_; clear hs hw; intro W hs hw) | ((with_reducible first | refine st_ptrSome hs (k := ?_) | refine st_ptrNone hs (k := ?_)); clear hs; intro a hs))
    refine rc2 hs rfl rfl hw (In.tl In.hd) rfl rfl ?_
    rw [hT]
    exact ⟨.slice none 0 0, H, rfl, Fh.le.refl _, ops_nil H, hw.sub (List.Sublist.cons_cons _ (List.Sublist.cons _ (List.Sublist.refl _)))⟩
  | false =>
    rw [h0] at hs
    have h0' : ¬ lastOf f c = 0 := by simpa using h0
    have hc : 1 ≤ c ∧ c ≤ 5 := by
      by_cases hc : 1 ≤ c ∧ c ≤ 5
      · exact hc
      · exfalso; apply h0'; unfold lastOf; rw [if_neg hc]
    obtain ⟨pd, xs, ht, hw⟩ := foldOpen hw
    obtain ⟨x, hx⟩ : ∃ x, f.told[c.toNat]? = some x := ⟨f.told[c.toNat]'(by rw [ht.1]; omega), List.getElem?_eq_getElem _⟩
    have hT : toldOf f c = x.2 := by unfold toldOf rowOf; rw [if_neg h0', if_pos hc, hx]; rfl
    have hx8 := h8 x (List.mem_of_getElem? hx)
    obtain ⟨sv, hsv, h6⟩ := told_get ht hx
    rw [hT]
    repeat (first | (refine sxv hs hw ?_; clear hs; intro a hs) | refine sxc hs ?_ | (refine sxa hs hw ?_; clear hs hw; intro a b W hw hs) | (refine sxs hs hw ?_; clear hs hw; intro W hs hw) | ((with_reducible first | refine st_ptrSome hs (k := ?_) | refine st_ptrNone hs (k := ?_)); clear hs; intro a hs))
    refine st_index_arr hs (h0 := by omega) (h1 := by omega) (c := ?_); clear hs; intro a hs
    repeat (first | (refine sxv hs hw ?_; clear hs; intro a hs) | refine sxc hs ?_ | (refine sxa hs hw ?_; clear hs hw; intro a b W hw hs) | (refine sxs hs hw ?_; clear hs hw; intro W hs hw) | ((with_reducible first | refine st_ptrSome hs (k := ?_) | refine st_ptrNone hs (k := ?_)); clear hs; intro a hs))
    refine st_load_ats (z := zrc) hs (cs := rowCells x.2 sv) (hc := fun j u hu => ?hcc) (hl := rfl) (c := ?_)
    case hcc =>
      rw [cell_block (hw.block In.hd).1]
      show (foldCells f.place pd xs)[0 + 2 + c.toNat * 6 + 1 + j]? = _
      rw [show 0 + 2 + c.toNat * 6 + 1 + j = c.toNat * 6 + (j + 1) + 1 + 1 by omega]
      have h9 := congrArg (fun t => t[j + 1]?) h6
      simp only [cut_eq, List.getElem?_take, List.getElem?_drop, List.getElem?_cons_succ] at h9
      rw [hu] at h9
      split at h9
      · simpa [foldCells] using h9
      · cases h9
    clear hs; intro a hs
    repeat (first | (refine sxv hs hw ?_; clear hs; intro a hs) | refine sxc hs ?_ | (refine sxa hs hw ?_; clear hs hw; intro a b W hw hs) | (refine sxs hs hw ?_; clear hs hw; intro W hs hw) | ((with_reducible first | refine st_ptrSome hs (k := ?_) | refine st_ptrNone hs (k := ?_)); clear hs; intro a hs))
    have hw : Has 0 w0 _ (Fz H :: Cells p (foldCells f.place pd xs) 126 :: DocAt pd f.d :: Cells b4 zrc 39 :: R) := hw.perm (by repeat (first | exact List.Perm.refl _ | refine perm_pick (by repeat (first | exact Pick.hd | apply Pick.tl)) ?_))
    refine st_call hs (hc := fold_own w0 _ H x.2 sv _ (by omega) hsv hw) (k := ?_); rintro e0 W1 ⟨sv', H', rfl, hle, hsv', hw1⟩; refine ⟨_, rfl, ?_⟩; clear hs hw; intro a hs; have hw := hw1; clear hw1
    obtain ⟨tad, tcap, rfl⟩ := hsv'.slice
    repeat (first | (refine sxv hs hw ?_; clear hs; intro a hs) | refine sxc hs ?_ | (refine sxa hs hw ?_; clear hs hw; intro a b W hw hs) | (refine sxs hs hw ?_; clear hs hw; intro W hs hw) | ((with_reducible first | refine st_ptrSome hs (k := ?_) | refine st_ptrNone hs (k := ?_)); clear hs; intro a hs))
    refine rc2 hs rfl rfl hw (In.tl (In.tl (In.tl In.hd))) rfl rfl ?_
    have hw : Has 0 w0 _ (Cells p (foldCells f.place pd xs) 126 :: DocAt pd f.d :: Cells b4 (rowCells x.2 (.slice tad x.2.b.l.length tcap)) 39 :: Fz H' :: R) := hw.perm (by repeat (first | exact List.Perm.refl _ | refine perm_pick (by repeat (first | exact Pick.hd | apply Pick.tl)) ?_))
    exact ⟨_, H', rfl, hle, hsv', (foldShut hw ht).sub (List.Sublist.cons_cons _ (List.Sublist.cons _ (List.Sublist.refl _)))⟩
end Go.Proofs.YtmalklakaalaoaaGreatDoor.Sw

set_option linter.unusedVariables false
set_option maxRecDepth 10000
namespace Go.Proofs.YtmalklakaalaoaaGreatDoor.Sw
open Go.RowKit Go.Sx
set_option maxHeartbeats 16000000 in
theorem law7_Same (w0 W : World) (H : Fh) (p : Nat) (f : FoldD) (cs : List Value) (R : List Res) (hok : FoldOk f) (hf : RfIn H f cs) (hw : Has 0 w0 W (FoldAt H p f :: Fz H :: R)) :
    Calls Tryz.prog 17 ⟨[.pointer (some ⟨p, 0, none⟩), .agg ⟨cs⟩]⟩ W fun e W' => e = .returned (.bool true) ∧ Has 0 w0 W' (FoldAt H p f :: Fz H :: R) := by
  obtain ⟨dv, ls, ts, rfl, hdv, h6, hls, hts⟩ := hf
  obtain ⟨hll, htl⟩ := rf_len h6 hls hts
  obtain ⟨dad, dcap, rfl⟩ := hdv.slice
  refine enter Tryz.func17 Tryz.ntmps17 rfl rfl fun a hs => ?_
  repeat (first | (refine sxv hs hw ?_; clear hs; intro a hs) | refine sxc hs ?_ | (refine sxa hs hw ?_; clear hs hw; intro a b W hw hs) | (refine sxs hs hw ?_; clear hs hw; intro W hs hw) | ((with_reducible first | refine st_ptrSome hs (k := ?_) | refine st_ptrNone hs (k := ?_)); clear hs; intro a hs))
  obtain ⟨b3, q3⟩ := nm1 hw; subst q3
  have hw : Has 0 w0 _ (Free :: FoldAt H p f :: Cells b3 (rfC f.place (.slice dad f.d.length dcap) ls ts) 42 :: Fz H :: R) := (hw.perm (List.Perm.swap _ _ _)).free
  refine rg_drawU (σ := Nat) (V := fun u => [.pointer (some ⟨p, 0, none⟩), .bool false, .bool false, .pointer (some ⟨p, 0, none⟩), .int .i64 f.place, .pointer (some ⟨b3, 0 + 0, none⟩), .int .i64 f.place, .bool false, .bool false, .bool false, .pointer (some ⟨p, 0, none⟩), .pointer (some ⟨u 11, 0, none⟩), .pointer (some ⟨b3, 0 + 1, none⟩), .agg ⟨[.slice dad f.d.length dcap]⟩, .bool true, .bool false, .bool false])
    (Rs := fun u D => (if D 14 then Free else if D 11 then DocAt (u 11) f.d else Free) :: FoldAt H p f :: Cells b3 (rfC f.place (.slice dad f.d.length dcap) ls ts) 42 :: Fz H :: R) (fun _ => 0) hs hw (hVu := ?vu_c) (ho := ⟨?_, ?_, ?_, ?_, ?c4_c, ?_, ?_, ?c7_c, ?_, ?_, ?_, ?c11_c, ?_, ?c13_c, ?c14_c, ?_, ?_, trivial⟩) (k := ?k_c)
  case vu_c =>
    intro u u' j h
    rcases j with _ | _ | _ | _ | _ | _ | _ | _ | _ | _ | _ | _ | _ | _ | _ | _ | _ | j
    all_goals first | rfl | simp [h]
  case c4_c =>
    intro u LD D a W hcl hi hp hs hw
    repeat (first | (refine sxv hs hw ?_; clear hs; intro a hs) | refine sxc hs ?_ | (refine sxa hs hw ?_; clear hs hw; intro a b W hw hs) | (refine sxs hs hw ?_; clear hs hw; intro W hs hw) | ((with_reducible first | refine st_ptrSome hs (k := ?_) | refine st_ptrNone hs (k := ?_)); clear hs; intro a hs))
    refine st_call hs (hc := fold_Place w0 _ H p f _ hw.swap2) (k := ?_); rintro e0 W1 ⟨rfl, hw1⟩; refine ⟨_, rfl, ?_⟩; clear hs hw; intro a hs; have hw := hw1.swap2; clear hw1
    repeat (first | (refine sxv hs hw ?_; clear hs; intro a hs) | refine sxc hs ?_ | (refine sxa hs hw ?_; clear hs hw; intro a b W hw hs) | (refine sxs hs hw ?_; clear hs hw; intro W hs hw) | ((with_reducible first | refine st_ptrSome hs (k := ?_) | refine st_ptrNone hs (k := ?_)); clear hs; intro a hs))
    exact Or.inl ⟨hs, hw⟩
  case c7_c =>
    intro u LD D a W hcl hi hp hs hw
    repeat (first | (refine sxv hs hw ?_; clear hs; intro a hs) | refine sxc hs ?_ | (refine sxa hs hw ?_; clear hs hw; intro a b W hw hs) | (refine sxs hs hw ?_; clear hs hw; intro W hs hw) | ((with_reducible first | refine st_ptrSome hs (k := ?_) | refine st_ptrNone hs (k := ?_)); clear hs; intro a hs))
    rw [show (f.place != f.place) = false from bne_self_eq_false _] at hs
    repeat (first | (refine sxv hs hw ?_; clear hs; intro a hs) | refine sxc hs ?_ | (refine sxa hs hw ?_; clear hs hw; intro a b W hw hs) | (refine sxs hs hw ?_; clear hs hw; intro W hs hw) | ((with_reducible first | refine st_ptrSome hs (k := ?_) | refine st_ptrNone hs (k := ?_)); clear hs; intro a hs))
    exact Or.inl ⟨hs, hw⟩
  case c11_c =>
    intro u LD D a W hcl hi hp hs hw
    have h14 := Go.Sx.not_done hcl hi 14 (by kernel_rfl)
    simp only [hi, h14, Bool.false_eq_true, if_false] at hw
    repeat (first | (refine sxv hs hw ?_; clear hs; intro a hs) | refine sxc hs ?_ | (refine sxa hs hw ?_; clear hs hw; intro a b W hw hs) | (refine sxs hs hw ?_; clear hs hw; intro W hs hw) | ((with_reducible first | refine st_ptrSome hs (k := ?_) | refine st_ptrNone hs (k := ?_)); clear hs; intro a hs))
    refine st_call hs (hc := fold_Doc w0 _ H p f _ (hw.sub (List.Sublist.cons _ (List.Sublist.refl _)))) (k := ?_); rintro e0 W1 ⟨c, rfl, hw1⟩; refine ⟨_, rfl, ?_⟩; clear hs hw; intro a hs; have hw := hw1; clear hw1
    repeat (first | (refine sxv hs hw ?_; clear hs; intro a hs) | refine sxc hs ?_ | (refine sxa hs hw ?_; clear hs hw; intro a b W hw hs) | (refine sxs hs hw ?_; clear hs hw; intro W hs hw) | ((with_reducible first | refine st_ptrSome hs (k := ?_) | refine st_ptrNone hs (k := ?_)); clear hs; intro a hs))
    refine Or.inr ⟨c, hs, ?_⟩
    show Has 0 w0 _ ((if (Nat.beq 14 11 || D 14) = true then _ else _) :: _)
    rw [h14]
    exact hw
  case c13_c =>
    intro u LD D a W hcl hi hp hs hw
    have hcut : cut (rfC f.place (.slice dad f.d.length dcap) ls ts) (0 + 1) 1 = [.slice dad f.d.length dcap] := by rw [cut_eq]; rfl
    repeat (first | (refine sxv hs hw ?_; clear hs; intro a hs) | refine sxc hs ?_ | (refine sxa hs hw ?_; clear hs hw; intro a b W hw hs) | (refine sxs hs hw ?_; clear hs hw; intro W hs hw) | ((with_reducible first | refine st_ptrSome hs (k := ?_) | refine st_ptrNone hs (k := ?_)); clear hs; intro a hs))
    rw [show cut (rfC f.place (.slice dad f.d.length dcap) ls ts) (0 + 1) [Value.slice none 0 0].length = [.slice dad f.d.length dcap] from hcut] at hs
    exact Or.inl ⟨hs, hw⟩
  case c14_c =>
    intro u LD D a W hcl hi hp hs hw
    have h11 := Go.Sx.done hp 11 (by kernel_rfl)
    simp only [hi, h11, Bool.false_eq_true, if_false, if_true] at hw
    repeat (first | (refine sxv hs hw ?_; clear hs; intro a hs) | refine sxc hs ?_ | (refine sxa hs hw ?_; clear hs hw; intro a b W hw hs) | (refine sxs hs hw ?_; clear hs hw; intro W hs hw) | ((with_reducible first | refine st_ptrSome hs (k := ?_) | refine st_ptrNone hs (k := ?_)); clear hs; intro a hs))
    have hw : Has 0 w0 _ (DocAt (u 11) f.d :: Fz H :: FoldAt H p f :: Cells b3 (rfC f.place (.slice dad f.d.length dcap) ls ts) 42 :: R) := hw.perm (by repeat (first | exact List.Perm.refl _ | refine perm_pick (by repeat (first | exact Pick.hd | apply Pick.tl)) ?_))
    refine st_call hs (hc := law6_Same w0 _ H (u 11) f.d _ _ hok.doc hdv hw) (k := ?_); rintro e0 W1 ⟨rfl, hw1⟩; refine ⟨_, rfl, ?_⟩; clear hs hw; intro a hs
    have hw : Has 0 w0 _ (Free :: FoldAt H p f :: Cells b3 (rfC f.place (.slice dad f.d.length dcap) ls ts) 42 :: Fz H :: R) := ((hw1.sub (List.Sublist.cons _ (List.Sublist.refl _))).perm (by repeat (first | exact List.Perm.refl _ | refine perm_pick (by repeat (first | exact Pick.hd | apply Pick.tl)) ?_))).free
    clear hw1
    repeat (first | (refine sxv hs hw ?_; clear hs; intro a hs) | refine sxc hs ?_ | (refine sxa hs hw ?_; clear hs hw; intro a b W hw hs) | (refine sxs hs hw ?_; clear hs hw; intro W hs hw) | ((with_reducible first | refine st_ptrSome hs (k := ?_) | refine st_ptrNone hs (k := ?_)); clear hs; intro a hs))
    exact Or.inl ⟨hs, hw⟩
  case k_c =>
    clear hs hw
    intro u a W hs hw
    replace hw : Has 0 w0 W (Free :: FoldAt H p f :: Cells b3 (rfC f.place (.slice dad f.d.length dcap) ls ts) 42 :: Fz H :: R) := hw
    replace hw := hw.sub (List.Sublist.cons _ (List.Sublist.refl _))
    replace hs : Slots a 69 [(0, .pointer (some ⟨p, 0, none⟩)), (3, .pointer (some ⟨b3, 0, none⟩)), (26, .bool false)] := hs.of ⟨rfl, rfl, rfl, trivial⟩
    clear u
    repeat (first | (refine sxv hs hw ?_; clear hs; intro a hs) | refine sxc hs ?_ | (refine sxa hs hw ?_; clear hs hw; intro a b W hw hs) | (refine sxs hs hw ?_; clear hs hw; intro W hs hw) | ((with_reducible first | refine st_ptrSome hs (k := ?_) | refine st_ptrNone hs (k := ?_)); clear hs; intro a hs))
    refine st_loop (σ := Nat) (fun i => [(0, .pointer (some ⟨p, 0, none⟩)), (3, .pointer (some ⟨b3, 0, none⟩)), (5, .int .i64 (i : Int))]) (fun _ => FoldAt H p f :: Cells b3 (rfC f.place (.slice dad f.d.length dcap) ls ts) 42 :: Fz H :: R) (fun i => i ≤ 7) (fun i => 7 - i) 0 (Nat.zero_le _) hs ⟨rfl, rfl, rfl, trivial⟩ hw ?_
    clear hs hw
    rintro i a W hi hs hw
    repeat (first | (refine sxv hs hw ?_; clear hs; intro a hs) | refine sxc hs ?_ | (refine sxa hs hw ?_; clear hs hw; intro a b W hw hs) | (refine sxs hs hw ?_; clear hs hw; intro W hs hw) | ((with_reducible first | refine st_ptrSome hs (k := ?_) | refine st_ptrNone hs (k := ?_)); clear hs; intro a hs))
    refine cd_split hs (kt := fun hcc => ?_) (kf := fun hcc => ?_)
    · have hi' : i ≤ 6 := by have : (i : Int) ≤ 6 := by simpa using hcc
                             omega
      repeat (first | (refine sxv hs hw ?_; clear hs; intro a hs) | refine sxn hs ?_ | (refine sxa hs hw ?_; clear hs hw; intro a b W hw hs) | (refine sxs hs hw ?_; clear hs hw; intro W hs hw))
      refine sq ?_
      repeat (first | (refine sxv hs hw ?_; clear hs; intro a hs) | refine sxn hs ?_ | (refine sxa hs hw ?_; clear hs hw; intro a b W hw hs) | (refine sxs hs hw ?_; clear hs hw; intro W hs hw))
      obtain ⟨b7, q7⟩ := nm1 hw; subst q7
      refine sq ?_
      refine merge (M := fun a W => ∃ sv, OpsH H sv (rowOf f i).b.l ∧ Slots a 69 [(0, .pointer (some ⟨p, 0, none⟩)), (3, .pointer (some ⟨b3, 0, none⟩)), (5, .int .i64 (i : Int)), (6, .int .i64 (lastOf f i)), (7, .pointer (some ⟨b7, 0, none⟩))] ∧ Has 0 w0 W (Cells b7 (rowCells (rowOf f i) sv) 39 :: FoldAt H p f :: Cells b3 (rfC f.place (.slice dad f.d.length dcap) ls ts) 42 :: Fz H :: R)) ?_ ?_
      · repeat (first | (refine sxv hs hw ?_; clear hs; intro a hs) | refine sxc hs ?_ | (refine sxa hs hw ?_; clear hs hw; intro a b W hw hs) | (refine sxs hs hw ?_; clear hs hw; intro W hs hw) | ((with_reducible first | refine st_ptrSome hs (k := ?_) | refine st_ptrNone hs (k := ?_)); clear hs; intro a hs))
        by_cases hc : 1 ≤ (i : Int) ∧ (i : Int) ≤ 5
        · rw [show decide ((i : Int) ≥ 1) = true from decide_eq_true hc.1] at hs
          repeat (first | (refine sxv hs hw ?_; clear hs; intro a hs) | refine sxc hs ?_ | (refine sxa hs hw ?_; clear hs hw; intro a b W hw hs) | (refine sxs hs hw ?_; clear hs hw; intro W hs hw) | ((with_reducible first | refine st_ptrSome hs (k := ?_) | refine st_ptrNone hs (k := ?_)); clear hs; intro a hs))
          rw [show decide ((i : Int) ≤ 5) = true from decide_eq_true hc.2] at hs
          obtain ⟨x, hx, hmem, hlx, hrx⟩ := hok.at_ hc
          rw [Int.toNat_natCast] at hx
          obtain ⟨c1, rfl, hc1, hcut1⟩ := hls.get NumIn.len hx
          obtain ⟨c2, ⟨sv, rfl, hsv⟩, hc2, hcut2⟩ := hts.get ToRow.len hx
          have hL : ls[i]? = some (.int .i64 x.1) := by
            have := congrArg (fun t => t[0]?) hcut1
            simpa [cut_eq] using this
          have hT : ∀ j u, (rowCells x.2 sv)[j]? = some u → ts[i * 5 + j]? = some u := by
            intro j u hu
            have := congrArg (fun t => t[j]?) hcut2
            simp only [cut_eq, List.getElem?_take, List.getElem?_drop] at this
            rw [hu] at this
            split at this
            · exact this
            · cases this
          rw [hrx, hlx]
          repeat (first | (refine sxv hs hw ?_; clear hs; intro a hs) | refine sxc hs ?_ | (refine sxa hs hw ?_; clear hs hw; intro a b W hw hs) | (refine sxs hs hw ?_; clear hs hw; intro W hs hw) | ((with_reducible first | refine st_ptrSome hs (k := ?_) | refine st_ptrNone hs (k := ?_)); clear hs; intro a hs))
          have hw : Has 0 w0 _ (Cells b7 zrc 39 :: FoldAt H p f :: Cells b3 (rfC f.place (.slice dad f.d.length dcap) ls ts) 42 :: Fz H :: R) := hw
          refine rg_draw (V := [.int .i64 (i : Int), .pointer (some ⟨b3, 0 + 2, none⟩), .pointer (some ⟨b3, 0 + 2 + i * 1, none⟩), .int .i64 x.1, .int .i64 (i : Int), .pointer (some ⟨b3, 0 + 8, none⟩), .pointer (some ⟨b3, 0 + 8 + i * 5, none⟩), .agg ⟨rowCells x.2 sv⟩, .int .i64 x.1, undef])
            (Rs := fun D => (if D 9 then Cells b7 (rowCells x.2 sv) 39 else Cells b7 zrc 39) :: FoldAt H p f :: Cells b3 (rfC f.place (.slice dad f.d.length dcap) ls ts) 42 :: Fz H :: R) hs hw (ho := ⟨?_, ?_, ?d2_c, ?d3_c, ?_, ?_, ?d6_c, ?d7_c, ?_, ?d9_c, trivial⟩) (k := ?kd_c)
          case d2_c =>
            intro LD D a W hcl hi hp hs hw
            refine st_index_arr hs (h0 := by omega) (h1 := by omega) (c := ?_); clear hs; intro a hs
            repeat (first | (refine sxv hs hw ?_; clear hs; intro a hs) | refine sxc hs ?_ | (refine sxa hs hw ?_; clear hs hw; intro a b W hw hs) | (refine sxs hs hw ?_; clear hs hw; intro W hs hw) | ((with_reducible first | refine st_ptrSome hs (k := ?_) | refine st_ptrNone hs (k := ?_)); clear hs; intro a hs))
            exact ⟨hs, hw⟩
          case d6_c =>
            intro LD D a W hcl hi hp hs hw
            refine st_index_arr hs (h0 := by omega) (h1 := by omega) (c := ?_); clear hs; intro a hs
            repeat (first | (refine sxv hs hw ?_; clear hs; intro a hs) | refine sxc hs ?_ | (refine sxa hs hw ?_; clear hs hw; intro a b W hw hs) | (refine sxs hs hw ?_; clear hs hw; intro W hs hw) | ((with_reducible first | refine st_ptrSome hs (k := ?_) | refine st_ptrNone hs (k := ?_)); clear hs; intro a hs))
            exact ⟨hs, hw⟩
          case d3_c =>
            intro LD D a W hcl hi hp hs hw
            refine st_load_one hs (hw := hw) (hi := In.tl (In.tl In.hd)) (v := .int .i64 x.1) (hv := ?hv) (k := ?_)
            case hv =>
              rw [show 0 + 2 + i * 1 = i + 1 + 1 by omega]
              show (ls ++ ts)[i]? = _
              rw [List.getElem?_append_left (by omega)]
              exact hL
            clear hs; intro a hs
            repeat (first | (refine sxv hs hw ?_; clear hs; intro a hs) | refine sxc hs ?_ | (refine sxa hs hw ?_; clear hs hw; intro a b W hw hs) | (refine sxs hs hw ?_; clear hs hw; intro W hs hw) | ((with_reducible first | refine st_ptrSome hs (k := ?_) | refine st_ptrNone hs (k := ?_)); clear hs; intro a hs))
            exact ⟨hs, hw⟩
          case d7_c =>
            intro LD D a W hcl hi hp hs hw
            refine st_load_ats (z := zrc) hs (cs := rowCells x.2 sv) (hc := fun j u hu => ?hcc) (hl := rfl) (c := ?_)
            case hcc =>
              rw [cell_block (hw.block (In.tl (In.tl In.hd))).1]
              rw [show 0 + 8 + i * 5 + j = (6 + (i * 5 + j)) + 1 + 1 by omega]
              show (ls ++ ts)[6 + (i * 5 + j)]? = _
              rw [List.getElem?_append_right (by omega), show 6 + (i * 5 + j) - ls.length = i * 5 + j by omega]
              exact hT j u hu
            clear hs; intro a hs
            repeat (first | (refine sxv hs hw ?_; clear hs; intro a hs) | refine sxc hs ?_ | (refine sxa hs hw ?_; clear hs hw; intro a b W hw hs) | (refine sxs hs hw ?_; clear hs hw; intro W hs hw) | ((with_reducible first | refine st_ptrSome hs (k := ?_) | refine st_ptrNone hs (k := ?_)); clear hs; intro a hs))
            exact ⟨hs, hw⟩
          case d9_c =>
            intro LD D a W hcl hi hp hs hw
            simp only [hi, Bool.false_eq_true, if_false] at hw
            obtain ⟨svad, svcap, rfl⟩ := hsv.slice
            repeat (first | (refine sxv hs hw ?_; clear hs; intro a hs) | refine sxc hs ?_ | (refine sxa hs hw ?_; clear hs hw; intro a b W hw hs) | (refine sxs hs hw ?_; clear hs hw; intro W hs hw) | ((with_reducible first | refine st_ptrSome hs (k := ?_) | refine st_ptrNone hs (k := ?_)); clear hs; intro a hs))
            exact ⟨hs, hw⟩
          case kd_c =>
            clear hs hw
            intro a W hs hw
            exact ⟨sv, hsv, hs.of ⟨rfl, rfl, rfl, rfl, rfl, trivial⟩, hw⟩
          all_goals
            intro LD D a W hcl hi hp hs hw
            repeat (first | (refine sxv hs hw ?_; clear hs; intro a hs) | refine sxc hs ?_ | (refine sxa hs hw ?_; clear hs hw; intro a b W hw hs) | (refine sxs hs hw ?_; clear hs hw; intro W hs hw) | ((with_reducible first | refine st_ptrSome hs (k := ?_) | refine st_ptrNone hs (k := ?_)); clear hs; intro a hs))
            exact ⟨hs, hw⟩
        · have hlx : lastOf f i = 0 := by unfold lastOf; rw [if_neg hc]
          have hrx : rowOf f i = zeroRow := by unfold rowOf; rw [if_neg hc]
          rw [hlx, hrx]
          by_cases h1 : 1 ≤ (i : Int)
          · rw [show decide ((i : Int) ≥ 1) = true from decide_eq_true h1] at hs
            repeat (first | (refine sxv hs hw ?_; clear hs; intro a hs) | refine sxc hs ?_ | (refine sxa hs hw ?_; clear hs hw; intro a b W hw hs) | (refine sxs hs hw ?_; clear hs hw; intro W hs hw) | ((with_reducible first | refine st_ptrSome hs (k := ?_) | refine st_ptrNone hs (k := ?_)); clear hs; intro a hs))
            rw [show decide ((i : Int) ≤ 5) = false from decide_eq_false (by omega)] at hs
            repeat (first | (refine sxv hs hw ?_; clear hs; intro a hs) | refine sxc hs ?_ | (refine sxa hs hw ?_; clear hs hw; intro a b W hw hs) | (refine sxs hs hw ?_; clear hs hw; intro W hs hw) | ((with_reducible first | refine st_ptrSome hs (k := ?_) | refine st_ptrNone hs (k := ?_)); clear hs; intro a hs))
            exact ⟨_, ops_nil H, hs.of ⟨rfl, rfl, rfl, rfl, rfl, trivial⟩, hw⟩
          · rw [show decide ((i : Int) ≥ 1) = false from decide_eq_false h1] at hs
            repeat (first | (refine sxv hs hw ?_; clear hs; intro a hs) | refine sxc hs ?_ | (refine sxa hs hw ?_; clear hs hw; intro a b W hw hs) | (refine sxs hs hw ?_; clear hs hw; intro W hs hw) | ((with_reducible first | refine st_ptrSome hs (k := ?_) | refine st_ptrNone hs (k := ?_)); clear hs; intro a hs))
            exact ⟨_, ops_nil H, hs.of ⟨rfl, rfl, rfl, rfl, rfl, trivial⟩, hw⟩
      clear hs hw
      rintro a W ⟨sv, hsv, hs, hw⟩
      repeat (first | (refine sxv hs hw ?_; clear hs; intro a hs) | refine sxc hs ?_ | (refine sxa hs hw ?_; clear hs hw; intro a b W hw hs) | (refine sxs hs hw ?_; clear hs hw; intro W hs hw) | ((with_reducible first | refine st_ptrSome hs (k := ?_) | refine st_ptrNone hs (k := ?_)); clear hs; intro a hs))
      have hw : Has 0 w0 _ (FoldAt H p f :: Fz H :: Cells b7 (rowCells (rowOf f i) sv) 39 :: Cells b3 (rfC f.place (.slice dad f.d.length dcap) ls ts) 42 :: R) := hw.perm (by repeat (first | exact List.Perm.refl _ | refine perm_pick (by repeat (first | exact Pick.hd | apply Pick.tl)) ?_))
      refine st_call hs (hc := fold_Told w0 _ H p f i _ (fun x hx => (hok.told x hx).2.2) hw) (k := ?_); rintro e0 W1 ⟨sv2, H2, rfl, hle2, hsv2, hw1⟩; refine ⟨_, rfl, ?_⟩; clear hs hw; intro a hs; have hw := hw1; clear hw1
      rw [hok.toldOf] at hs hsv2
      obtain ⟨uad, ucap, rfl⟩ := hsv2.slice
      repeat (first | (refine sxv hs hw ?_; clear hs; intro a hs) | refine sxc hs ?_ | (refine sxa hs hw ?_; clear hs hw; intro a b W hw hs) | (refine sxs hs hw ?_; clear hs hw; intro W hs hw) | ((with_reducible first | refine st_ptrSome hs (k := ?_) | refine st_ptrNone hs (k := ?_)); clear hs; intro a hs))
      obtain ⟨b8, q8⟩ := nm1 hw; subst q8
      have hw : Has 0 w0 _ (FoldAt H p f :: Fz H2 :: Cells b8 (rowCells (rowOf f i) (.slice uad (rowOf f i).b.l.length ucap)) 39 :: Cells b7 (rowCells (rowOf f i) sv) 39 :: Cells b3 (rfC f.place (.slice dad f.d.length dcap) ls ts) 42 :: R) := hw.perm (by repeat (first | exact List.Perm.refl _ | refine perm_pick (by repeat (first | exact Pick.hd | apply Pick.tl)) ?_))
      refine st_call hs (hc := fold_Last w0 _ H p f i _ hw) (k := ?_); rintro e0 W1 ⟨rfl, hw1⟩; refine ⟨_, rfl, ?_⟩; clear hs hw; intro a hs; have hw := hw1; clear hw1
      repeat (first | (refine sxv hs hw ?_; clear hs; intro a hs) | refine sxc hs ?_ | (refine sxa hs hw ?_; clear hs hw; intro a b W hw hs) | (refine sxs hs hw ?_; clear hs hw; intro W hs hw) | ((with_reducible first | refine st_ptrSome hs (k := ?_) | refine st_ptrNone hs (k := ?_)); clear hs; intro a hs))
      rw [show (lastOf f i != lastOf f i) = false from bne_self_eq_false _] at hs
      repeat (first | (refine sxv hs hw ?_; clear hs; intro a hs) | refine sxc hs ?_ | (refine sxa hs hw ?_; clear hs hw; intro a b W hw hs) | (refine sxs hs hw ?_; clear hs hw; intro W hs hw) | ((with_reducible first | refine st_ptrSome hs (k := ?_) | refine st_ptrNone hs (k := ?_)); clear hs; intro a hs))
      have hlast := hok.last i
      rw [show (!((!(lastOf f i == 0)) == decide (lastOf f i > 0))) = false from by
        by_cases h0 : lastOf f i = 0
        · rw [h0]; rfl
        · rw [show (lastOf f i == 0) = false from by simpa using h0, show decide (lastOf f i > 0) = true from decide_eq_true (by omega)]; rfl] at hs
      repeat (first | (refine sxv hs hw ?_; clear hs; intro a hs) | refine sxc hs ?_ | (refine sxa hs hw ?_; clear hs hw; intro a b W hw hs) | (refine sxs hs hw ?_; clear hs hw; intro W hs hw) | ((with_reducible first | refine st_ptrSome hs (k := ?_) | refine st_ptrNone hs (k := ?_)); clear hs; intro a hs))
      refine st_call hs (hc := ref_EqRow (rowOf f i) (rowOf f i) (.slice uad (rowOf f i).b.l.length ucap) sv _ (hw.rdH (by repeat (first | exact In.hd | apply In.tl)) hsv2) (hw.rdH (by repeat (first | exact In.hd | apply In.tl)) (hsv.le hle2))) (k := ?_); rintro e0 W1 ⟨rfl, hb⟩; refine ⟨_, rfl, ?_⟩; clear hs; intro a hs; replace hw := hw.below hb; clear hb
      rw [show eqRow (rowOf f i) (rowOf f i) = true from eqRow_iff.2 rfl] at hs
      repeat (first | (refine sxv hs hw ?_; clear hs; intro a hs) | refine sxc hs ?_ | (refine sxa hs hw ?_; clear hs hw; intro a b W hw hs) | (refine sxs hs hw ?_; clear hs hw; intro W hs hw) | ((with_reducible first | refine st_ptrSome hs (k := ?_) | refine st_ptrNone hs (k := ?_)); clear hs; intro a hs))
      have hw : Has 0 w0 _ (Fz H2 :: FoldAt H p f :: Cells b3 (rfC f.place (.slice dad f.d.length dcap) ls ts) 42 :: Cells b8 (rowCells (rowOf f i) (.slice uad (rowOf f i).b.l.length ucap)) 39 :: Cells b7 (rowCells (rowOf f i) sv) 39 :: R) := hw.perm (by repeat (first | exact List.Perm.refl _ | refine perm_pick (by repeat (first | exact Pick.hd | apply Pick.tl)) ?_))
      have hw := hw.thaw hle2
      have hw : Has 0 w0 _ (Cells b8 (rowCells (rowOf f i) (.slice uad (rowOf f i).b.l.length ucap)) 39 :: Cells b7 (rowCells (rowOf f i) sv) 39 :: FoldAt H p f :: Cells b3 (rfC f.place (.slice dad f.d.length dcap) ls ts) 42 :: Fz H :: R) := hw.perm (by repeat (first | exact List.Perm.refl _ | refine perm_pick (by repeat (first | exact Pick.hd | apply Pick.tl)) ?_))
      exact st_again (i + 1) hs (hw.sub (List.Sublist.cons _ (List.Sublist.cons _ (List.Sublist.refl _)))) (by show i + 1 ≤ 7; omega) (by show 7 - (i + 1) < 7 - i; omega) ⟨rfl, rfl, int_eq (by show IntKind.i64.wrap ((i : Int) + 1) = ((i + 1 : Nat) : Int); rw [IntWalk.i64_in _ (by omega)]; omega), trivial⟩
    · repeat (first | (refine sxv hs hw ?_; clear hs; intro a hs) | refine sxc hs ?_ | (refine sxa hs hw ?_; clear hs hw; intro a b W hw hs) | (refine sxs hs hw ?_; clear hs hw; intro W hs hw) | ((with_reducible first | refine st_ptrSome hs (k := ?_) | refine st_ptrNone hs (k := ?_)); clear hs; intro a hs))
      exact rt1 hs rfl rfl ⟨rfl, hw.sub (List.Sublist.cons_cons _ (List.Sublist.cons _ (List.Sublist.refl _)))⟩
  all_goals
    intro u LD D a W hcl hi hp hs hw
    repeat (first | (refine sxv hs hw ?_; clear hs; intro a hs) | refine sxc hs ?_ | (refine sxa hs hw ?_; clear hs hw; intro a b W hw hs) | (refine sxs hs hw ?_; clear hs hw; intro W hs hw) | ((with_reducible first | refine st_ptrSome hs (k := ?_) | refine st_ptrNone hs (k := ?_)); clear hs; intro a hs))
    exact Or.inl ⟨hs, hw⟩
end Go.Proofs.YtmalklakaalaoaaGreatDoor.Sw

set_option linter.unusedVariables false
set_option maxRecDepth 10000
namespace Go.Proofs.YtmalklakaalaoaaGreatDoor.Sw
open Go.RowKit Go.Sx
structure TabD where
  ix : Int
  f : FoldD
  rows : List RowD
structure EntD where
  ix : Int
  term : Int
  kind : Int
  data : ByteArray
def entCells (e : EntD) : List Value := [.int .i64 e.ix, .int .i64 e.term, .int .i64 e.kind, .string e.data]
def playT (ix : Int) (t : TabD) (b : BatchD) : TabD × RowD × Bool :=
  match (next t.f b).2.2 with
  | true => (⟨ix, (next t.f b).1, t.rows ++ [(next t.f b).2.1]⟩, (next t.f b).2.1, true)
  | false => (⟨ix, t.f, t.rows⟩, zeroRow, false)
def applyT (t : TabD) (e : EntD) : TabD × RowD × Bool :=
  if e.ix = IntKind.i64.wrap (t.ix + 1) then
    (match e.kind == 2, decode e.data.data.toList with
     | true, some p => playT (IntKind.i64.wrap (t.ix + 1)) t ⟨p.1, p.2.1, p.2.2⟩
     | _, _ => (⟨IntKind.i64.wrap (t.ix + 1), t.f, t.rows⟩, zeroRow, false))
  else (t, zeroRow, false)
def encB (b : BatchD) : List UInt8 := textB b.c b.q b.l
def rowB (r : RowD) : List UInt8 := Ph.putT (encB r.b)
def dataT (t : TabD) : List UInt8 := Ph.putI t.ix ++ (Ph.putI (t.rows.length : Int) ++ t.rows.flatMap rowB)
def batOf (p : Int × Int × List OpD) : BatchD := ⟨p.1, p.2.1, p.2.2⟩
def loadRows : Nat → FoldD → List RowD → List UInt8 → Option (FoldD × List RowD)
  | 0, f, rs, _ => some (f, rs)
  | n + 1, f, rs, s =>
    match (Ph.getT s).2.2 == 0, decode (Ph.getT s).1 with
    | true, some p =>
      (match (next f (batOf p)).2.2 with
       | true => loadRows n (next f (batOf p)).1 (rs ++ [(next f (batOf p)).2.1]) (s.drop (Ph.getT s).2.1)
       | false => none)
    | _, _ => none
def headT (s : List UInt8) : Option (Int × Nat × List UInt8) :=
  if (Ph.getI s).2.2 = 0 ∧ 0 ≤ (Ph.getI s).1 ∧ (Ph.getI s).1 ≤ 1099511627776 then
    (if (Ph.getI (s.drop (Ph.getI s).2.1)).2.2 = 0 ∧ 0 ≤ (Ph.getI (s.drop (Ph.getI s).2.1)).1 ∧ (Ph.getI (s.drop (Ph.getI s).2.1)).1 ≤ (Ph.getI s).1 ∧ (Ph.getI (s.drop (Ph.getI s).2.1)).1 ≤ s.length then
      some ((Ph.getI s).1, (Ph.getI (s.drop (Ph.getI s).2.1)).1.toNat, s.drop ((Ph.getI s).2.1 + (Ph.getI (s.drop (Ph.getI s).2.1)).2.1)) else none)
  else none
def loadT (s : List UInt8) : Option TabD :=
  match headT s with
  | none => none
  | some (ix, n, t) =>
    match loadRows n emptyF [] t with
    | none => none
    | some (f, rs) => if dataT ⟨ix, f, rs⟩ = s then some ⟨ix, f, rs⟩ else none
structure TabOk (t : TabD) : Prop where
  play : Play emptyF t.rows t.f
  ok : ∀ r ∈ t.rows, RowOk r
  ix : (t.rows.length : Int) ≤ t.ix ∧ t.ix ≤ 1099511627776
  len : t.rows.length ≤ 100000
theorem putT_len (s : List UInt8) : s.length < (Ph.putT s).length := by
  unfold Ph.putT
  rw [List.length_append]
  have : 0 < (Ph.putI (s.length : Int)).length := List.length_pos_iff.2 (Ph.putI_ne_nil _)
  omega
theorem nextB_may {f : FoldD} {b : BatchD} (h : nextB f b = true) : mayB b = true := by
  unfold nextB at h
  exact (Bool.and_eq_true_iff.1 h).1
theorem loadRows_put : ∀ (rows : List RowD) (f f' : FoldD) (rs : List RowD) (t : List UInt8), Play f rows f' → (∀ r ∈ rows, RowOk r) → loadRows rows.length f rs (rows.flatMap rowB ++ t) = some (f', rs ++ rows)
  | [], f, f', rs, t, h, _ => by
    have h : f = f' := h
    subst h
    simp [loadRows]
  | r :: rows, f, f', rs, t, ⟨h1, h2, h3⟩, hok => by
    have hm : mayB r.b = true := (nextB_may (next_ok h1).1)
    have hbo := hok r (by simp)
    have h12 : (encB r.b).length ≤ 1200 := (mayBatch_parts hm).2.2.2.2
    have hg := Ph.getT_putT (encB r.b) (rows.flatMap rowB ++ t) (by omega)
    have hd : decode (encB r.b) = some (r.b.c, r.b.q, r.b.l) := decode_text hm hbo.b.ops
    have e : (r :: rows).flatMap rowB ++ t = Ph.putT (encB r.b) ++ (rows.flatMap rowB ++ t) := by
      simp [rowB]
    rw [e]
    have hb : batOf (r.b.c, r.b.q, r.b.l) = r.b := rfl
    show (match (Ph.getT (Ph.putT (encB r.b) ++ (rows.flatMap rowB ++ t))).2.2 == 0, decode (Ph.getT (Ph.putT (encB r.b) ++ (rows.flatMap rowB ++ t))).1 with
      | true, some p => _
      | _, _ => _) = _
    rw [hg]
    simp only [hd, hb, beq_self_eq_true, h1, h2]
    rw [List.drop_left, loadRows_put rows _ f' _ t h3 fun q hq => hok q (by simp [hq])]
    simp
theorem headT_put (ix : Int) (n : Nat) (t : List UInt8) (h1 : (n : Int) ≤ ix) (h2 : ix ≤ 1099511627776) (h3 : n ≤ t.length) : headT (Ph.putI ix ++ (Ph.putI (n : Int) ++ t)) = some (ix, n, t) := by
  have g1 := Ph.getI_putI ix (Ph.putI (n : Int) ++ t) (by omega) (by omega)
  have g2 := Ph.getI_putI (n : Int) t (by omega) (by omega)
  unfold headT
  rw [g1]
  simp only [List.drop_left]
  rw [g2]
  simp only
  rw [if_pos ⟨by trivial, by omega, h2⟩, if_pos ⟨by trivial, by omega, h1, by simp only [List.length_append]; omega⟩, ← List.drop_drop, List.drop_left, List.drop_left]
  simp
theorem rowB_pos : ∀ rows : List RowD, rows.length ≤ (rows.flatMap rowB).length
  | [] => by simp
  | r :: rows => by
    have h := rowB_pos rows
    have h2 := putT_len (encB r.b)
    simp only [List.flatMap_cons, List.length_append, List.length_cons]
    unfold rowB
    unfold rowB at h
    omega
theorem load_data {t : TabD} (h : TabOk t) : loadT (dataT t) = some t := by
  unfold loadT dataT
  rw [headT_put _ _ _ h.ix.1 h.ix.2 (rowB_pos _)]
  have := loadRows_put t.rows emptyF t.f [] [] h.play h.ok
  rw [List.append_nil, List.nil_append] at this
  simp only [this]
  rw [if_pos (by trivial)]
end Go.Proofs.YtmalklakaalaoaaGreatDoor.Sw

set_option linter.unusedVariables false
set_option maxRecDepth 10000
namespace Ph
open Go Go.Lib
theorem decodeN_le4 (n b0 b1 b2 b3 : Nat) : (decodeN n b0 b1 b2 b3).2 ≤ 4 := by
  unfold decodeN
  repeat' split
  all_goals first | decide | simp
theorem decodeL_le4 (l : List UInt8) : (decodeL l).2 ≤ 4 := by
  unfold decodeL
  rw [decode_at]; exact decodeN_le4 _ _ _ _ _
theorem wid_le4 : ∀ l : List UInt8, wid (rs l) ≤ 4 * (rs l).length :=
  rs_induct (by simp [rs_nil, wid]) (fun l he ih => by
    rw [rs_step l he, wid_cons, List.length_cons]
    have hw := decodeL_le4 l
    omega)
theorem keyB_len {l : List UInt8} (h : keyB l = true) : l.length ≤ 160 := by
  unfold keyB at h
  simp only [Bool.and_eq_true, decide_eq_true_eq] at h
  have h1 := wid_le4 l
  rw [wid_rs] at h1
  have h2 := h.1.2
  unfold count at h2
  omega
end Ph
namespace Go.Proofs.YtmalklakaalaoaaGreatDoor.Sw
open Go.RowKit Go.Sx
def fineE (e : Int) : Bool := e == 0 || e == 6 || e == 7 || e == 8 || e == 4
def seqB (x : Int × RowD) : List UInt8 := Ph.putI x.1 ++ (if x.1 > 0 then Ph.putI x.2.place ++ Ph.putT (encB x.2.b) ++ Ph.putI x.2.err else [])
def foldB (f : FoldD) : List UInt8 := Ph.putI f.place ++ Ph.putT (docB f.d) ++ (f.told.drop 1).flatMap seqB
structure ToldFine (place : Int) (c : Nat) (x : Int × RowD) : Prop where
  seq : x.1 = x.2.b.q
  cli : x.2.b.c = c
  may : mayB x.2.b = true
  ok : BatOk x.2.b
  pl : 1 ≤ x.2.place ∧ x.2.place ≤ place
  err : fineE x.2.err = true
structure FoldFine (f : FoldD) : Prop where
  doc : DocFine f.d
  place : 0 ≤ f.place ∧ f.place ≤ 9223372036854775807
  six : f.told.length = 6
  told : ∀ (c : Nat) (x : Int × RowD), f.told[c]? = some x → x = (0, zeroRow) ∨ (1 ≤ c ∧ ToldFine f.place c x)
  dist : ∀ (c c' : Nat) (x x' : Int × RowD), f.told[c]? = some x → f.told[c']? = some x' → x.1 ≠ 0 → x'.1 ≠ 0 → x.2.place = x'.2.place → c = c'
theorem ToldFine.pos {place : Int} {c : Nat} {x : Int × RowD} (h : ToldFine place c x) : 0 < x.1 := by
  have := (may_parts h.may).2.1.1
  have := h.seq
  omega
theorem fineE_i64 {e : Int} (h : fineE e = true) : i64 e := by
  unfold fineE at h
  simp only [Bool.or_eq_true, beq_iff_eq] at h
  unfold i64
  omega
theorem DocFine.len {d : Dm} (h : DocFine d) : (docB d).length ≤ 30000 := by
  have h1 : ∀ m : Dm, (∀ p ∈ m, PairOk p) → (∀ p ∈ m, Ph.keyB p.1.data.toList = true) → (m.flatMap pairB).length ≤ m.length * 460 := by
    intro m
    induction m with
    | nil => intro _ _; simp
    | cons p m ih =>
      intro a b
      have h1 := pairB_len (a p (by simp))
      have h2 := Ph.keyB_len (b p (by simp))
      have h3 := ih (fun q hq => a q (by simp [hq])) (fun q hq => b q (by simp [hq]))
      have h4 : p.1.data.toList.length = p.1.size := by rw [Array.length_toList]; rfl
      rw [List.flatMap_cons, List.length_append, List.length_cons]
      omega
  have h2 := h1 d h.ok.all h.key
  have h3 := Ph.putI_length_le (d.length : Int)
  have h4 := h.ok.len
  unfold docB
  rw [List.length_append]
  omega
theorem encB_le {b : BatchD} (h : mayB b = true) : (encB b).length ≤ 1200 := (mayBatch_parts h).2.2.2.2
theorem FoldFine.ok {f : FoldD} (h : FoldFine f) : FoldOk f := by
  refine ⟨h.doc, h.six, fun x hx => ?_⟩
  obtain ⟨i, hi⟩ := List.mem_iff_getElem?.1 hx
  rcases h.told i x hi with rfl | ⟨_, e⟩
  · exact ⟨by decide, fun _ => rfl, by decide⟩
  · have := e.pos
    exact ⟨by omega, fun h0 => by omega, (may_parts e.may).2.2⟩
theorem FoldFine.empty : FoldFine emptyF := by
  refine ⟨DocFine.nil, ⟨by decide, by decide⟩, rfl, fun c x hx => .inl (List.eq_of_mem_replicate (List.mem_of_getElem? hx)), fun c c' x x' hx _ h0 => ?_⟩
  rw [List.eq_of_mem_replicate (List.mem_of_getElem? hx)] at h0
  exact absurd rfl h0
theorem setRL_fineE (d : Dm) (k : ByteArray) (x : Option DV) : fineE (setRL d k x).1 = true := by
  rcases setRL_err d k x with h | h <;> rw [h] <;> rfl
theorem doL_fineE (d : Dm) (o : OpD) : fineE (doL d o).1 = true := by
  unfold doL
  split
  · split
    · exact setRL_fineE _ _ _
    · exact (rfl : fineE 8 = true)
  · split
    · split
      · exact (rfl : fineE 7 = true)
      · split
        · exact (rfl : fineE 4 = true)
        · exact setRL_fineE _ _ _
    · exact setRL_fineE _ _ _
theorem goL_fineE : ∀ (l : List OpD) (d : Dm), l.all mayD = true → fineE (goL l d).1 = true
  | [], d, _ => (rfl : fineE 0 = true)
  | o :: l, d, h => by
    rw [List.all_cons, Bool.and_eq_true] at h
    unfold goL
    rw [if_neg (by rw [h.1]; simp)]
    split
    · exact goL_fineE l _ h.2
    · exact doL_fineE d o
theorem applyL_fineE {b : BatchD} (h : mayB b = true) (d : Dm) : fineE (applyL d b.l).1 = true := by
  obtain ⟨_, _, h3, h4, _⟩ := mayBatch_parts h
  unfold applyL
  rw [if_neg (by omega)]
  have := goL_fineE b.l d h4
  split
  · exact (rfl : fineE 0 = true)
  · exact this
theorem FoldFine.next {f : FoldD} (h : FoldFine f) {b : BatchD} (hb : BatOk b) (hp : f.place < 1000000) : FoldFine (next f b).1 ∧ (next f b).1.place ≤ f.place + 1 := by
  unfold Sw.next
  cases hn : nextB f b with
  | false => exact ⟨h, by show f.place ≤ f.place + 1; omega⟩
  | true =>
    have hm : mayB b = true := by
      unfold nextB at hn
      rw [Bool.and_eq_true] at hn
      exact hn.1
    obtain ⟨hc, hq, hl⟩ := may_parts hm
    have hp0 := h.place.1
    have hwr : IntKind.i64.wrap (f.place + 1) = f.place + 1 := IntWalk.i64_in _ (by omega)
    have hlt : b.c.toNat < f.told.length := by rw [h.six]; omega
    have hat : ∀ (i : Nat) (y : Int × RowD), (f.told.set b.c.toNat (b.q, nextR f b))[i]? = some y → (i = b.c.toNat ∧ y = (b.q, nextR f b)) ∨ (i ≠ b.c.toNat ∧ f.told[i]? = some y) := by
      intro i y hy
      by_cases e : i = b.c.toNat
      · subst e
        rw [List.getElem?_set_self hlt] at hy
        injection hy with hy
        exact .inl ⟨rfl, hy.symm⟩
      · rw [List.getElem?_set_ne (fun k => e k.symm)] at hy
        exact .inr ⟨e, hy⟩
    have hpl : ∀ (i : Nat) (y : Int × RowD), f.told[i]? = some y → y.1 ≠ 0 → y.2.place ≤ f.place := by
      intro i y hy h0
      rcases h.told i y hy with rfl | ⟨_, e⟩
      · exact absurd rfl h0
      · exact e.pl.2
    refine ⟨⟨applyL_fine h.doc hb.ops, ?_, by show (f.told.set _ _).length = 6; rw [List.length_set]; exact h.six, fun i y hy => ?_, fun i i' y y' hy hy' h0 h0' he => ?_⟩, ?_⟩
    · show 0 ≤ IntKind.i64.wrap (f.place + 1) ∧ IntKind.i64.wrap (f.place + 1) ≤ _
      rw [hwr]; omega
    · rcases hat i y hy with ⟨rfl, rfl⟩ | ⟨_, hy⟩
      · refine .inr ⟨by omega, rfl, by show b.c = _; omega, hm, hb, ?_, applyL_fineE hm f.d⟩
        show 1 ≤ IntKind.i64.wrap (f.place + 1) ∧ IntKind.i64.wrap (f.place + 1) ≤ IntKind.i64.wrap (f.place + 1)
        rw [hwr]; omega
      · refine (h.told i y hy).imp id fun ⟨a, e⟩ => ⟨a, e.seq, e.cli, e.may, e.ok, ⟨e.pl.1, ?_⟩, e.err⟩
        show _ ≤ IntKind.i64.wrap (f.place + 1)
        have := e.pl.2
        rw [hwr]; omega
    · have hnp : (nextR f b).place = f.place + 1 := hwr
      rcases hat i y hy with ⟨rfl, rfl⟩ | ⟨hne, hy⟩
      · rcases hat i' y' hy' with ⟨rfl, rfl⟩ | ⟨hne', hy'⟩
        · rfl
        · have h1 := hpl i' y' hy' h0'
          have h2 : (nextR f b).place = y'.2.place := he
          omega
      · rcases hat i' y' hy' with ⟨rfl, rfl⟩ | ⟨hne', hy'⟩
        · have h1 := hpl i y hy h0
          have h2 : y.2.place = (nextR f b).place := he
          omega
        · exact h.dist i i' y y' hy hy' h0 h0' he
    · show IntKind.i64.wrap (f.place + 1) ≤ f.place + 1
      rw [hwr]; omega
end Go.Proofs.YtmalklakaalaoaaGreatDoor.Sw

set_option linter.unusedVariables false
set_option maxRecDepth 10000
namespace Go.Sx
end Go.Sx
