/-
  Texts of the proof, one behind the other (part 6).
-/
import Derived.Test.YthpenehgfogloaaDoorM5
import Derived.Maps.Own
import Derived.Maps.Views
import Derived.Sort.KeysCollected
import Derived.Laws.Small
import Derived.Shelf.SlIter.Collect
/-
  The walk of op's reader's op.
-/
set_option linter.unusedVariables false
set_option maxRecDepth 10000
namespace Go.Proofs.YthpenehgfogloaaDoor.Sw
open Go.RowKit Go.Sx

-- pieces

def rdNum (s : List UInt8 × Bool) : List UInt8 × Bool := tk s (Ph.getI s.1).2.1 (Ph.getI s.1).2.2

def rdTxt (s : List UInt8 × Bool) : List UInt8 × Bool := tk s (Ph.getT s.1).2.1 (Ph.getT s.1).2.2

def rdVal (s : List UInt8 × Bool) : List UInt8 × Bool := tk s (getR s.1).2.1 (getR s.1).2.2

/-- An operation read. -/
def rdOp (s : List UInt8 × Bool) : OpD × (List UInt8 × Bool) :=
  let kind := (Ph.getI s.1).1
  let s1 := rdNum s
  let key : ByteArray := ⟨(Ph.getT s1.1).1.toArray⟩
  let s2 := rdTxt s1
  if kind = 3 then
    let s3 := rdVal s2
    (⟨kind, key, (getR s2.1).1.1, (getR s2.1).1.2.1, (getR s2.1).1.2.2, (getR s3.1).1.1, (getR s3.1).1.2.1, (getR s3.1).1.2.2, 0⟩, rdVal s3)
  else if kind = 1 then (⟨kind, key, (getR s2.1).1.1, (getR s2.1).1.2.1, (getR s2.1).1.2.2, 0, 0, ⟨#[]⟩, 0⟩, rdVal s2)
  else if kind = 4 then (⟨kind, key, 0, 0, ⟨#[]⟩, 0, 0, ⟨#[]⟩, (Ph.getI s2.1).1⟩, rdNum s2)
  else (⟨kind, key, 0, 0, ⟨#[]⟩, 0, 0, ⟨#[]⟩, 0⟩, s2)

end Go.Proofs.YthpenehgfogloaaDoor.Sw

/-
  The plain law of chapter 5: a batch's bytes, read again. No program in sight.
-/
set_option linter.unusedVariables false
set_option maxRecDepth 10000
namespace Go.Proofs.YthpenehgfogloaaDoor.Sw
open Go.RowKit Go.Sx

/-- A RAW VALUE's BYTES, READ AGAIN. -/
theorem getR_putR {k n : Int} {s : ByteArray} (t : List UInt8) (h : (ofRaw k n s).2 = 0) (h0 : -9223372036854775808 ≤ n) (h1 : n ≤ 9223372036854775807) (hs : s.size ≤ 1000000) :
    getR (putR k n s ++ t) = ((k, n, s), (putR k n s).length, 0) := by
  have hd : s.data.toList.length = s.size := by rw [Array.length_toList]; rfl
  have hO := h
  unfold ofRaw at h
  have he : s.size = 0 → s = ⟨#[]⟩ := fun h => by
    apply ByteArray.ext
    exact Array.eq_empty_of_size_eq_zero h
  split at h
  · rename_i c
    obtain ⟨rfl, rfl, hz⟩ := c
    have g := Ph.getI_putI 0 t (by omega) (by omega)
    have e : putR 0 0 s = Ph.putI 0 := by simp [putR]
    rw [e, getR.eq_1, g, he hz]
    simp
  · split at h
    · rename_i c
      obtain ⟨rfl, hz⟩ := c
      have e : putR 1 n s = Ph.putI 1 ++ Ph.putI n := by simp [putR]
      have g := Ph.getI_putI 1 (Ph.putI n ++ t) (by omega) (by omega)
      have g2 := Ph.getI_putI n t h0 h1
      rw [e, List.append_assoc, getR.eq_1, g, he hz]
      simp only [List.drop_left, g2, List.length_append]
      simp
    · split at h
      · rename_i c
        obtain ⟨rfl, rfl, hz, hv⟩ := c
        have e : putR 2 0 s = Ph.putI 2 ++ Ph.putT s.data.toList := by simp [putR]
        have g := Ph.getI_putI 2 (Ph.putT s.data.toList ++ t) (by omega) (by omega)
        have g2 := Ph.getT_putT s.data.toList t (by omega)
        rw [e, List.append_assoc, getR.eq_1, g]
        simp only [List.drop_left, g2, List.length_append, ba_mk, hO]
        simp
      · cases h

def rdOps : Nat → Int → List OpD → (List UInt8 × Bool) → List OpD × (List UInt8 × Bool)
  | 0, _, l, s => (l, s)
  | f + 1, n, l, s => if 0 < n ∧ s.2 = false ∧ l.length ≤ 8 then rdOps f (n - 1) (l ++ [(rdOp s).1]) (rdOp s).2 else (l, s)
/-- What a text of bytes says. -/
def parse (b : List UInt8) : (Int × Int × List OpD) × (List UInt8 × Bool) :=
  let s1 := rdNum (b, false)
  let s2 := rdNum s1
  let r := rdOps 10 (Ph.getI s2.1).1 [] (rdNum s2)
  (((Ph.getI b).1, (Ph.getI s1.1).1, r.1), r.2)
/-- Whose batch the bytes are. -/
def decode (b : List UInt8) : Option (Int × Int × List OpD) :=
  let p := parse b
  if p.2.2 = false ∧ mayBatch p.1.1 p.1.2.1 p.1.2.2 = true ∧ textB p.1.1 p.1.2.1 p.1.2.2 = b then some p.1 else none

theorem rdNum_put (n : Int) (t : List UInt8) (h : i64 n) : rdNum (Ph.putI n ++ t, false) = (t, false) ∧ (Ph.getI (Ph.putI n ++ t)).1 = n := by
  unfold rdNum tk
  simp only
  rw [Ph.getI_putI n t h.1 h.2]
  simp
theorem rdTxt_put (s : ByteArray) (t : List UInt8) (h : s.size ≤ 1000000) : rdTxt (Ph.putT s.data.toList ++ t, false) = (t, false) ∧ (⟨(Ph.getT (Ph.putT s.data.toList ++ t)).1.toArray⟩ : ByteArray) = s := by
  have hd : s.data.toList.length = s.size := by rw [Array.length_toList]; rfl
  unfold rdTxt tk
  simp only
  rw [Ph.getT_putT s.data.toList t (by omega)]
  refine ⟨?_, ba_mk s⟩
  simp
theorem rdVal_put {k n : Int} {s : ByteArray} (t : List UInt8) (h : (ofRaw k n s).2 = 0) (hn : i64 n) (hs : s.size ≤ 1000000) : rdVal (putR k n s ++ t, false) = (t, false) ∧ (getR (putR k n s ++ t)).1 = (k, n, s) := by
  unfold rdVal tk
  simp only
  rw [getR_putR t h hn.1 hn.2 hs]
  simp

/-- AN OPERATION's BYTES, READ AGAIN. -/
theorem rdOp_put (o : OpD) (t : List UInt8) (hm : mayD o = true) (ho : OpOk o) : rdOp (opB o ++ t, false) = (o, (t, false)) := by
  obtain ⟨kind, key, vk, vn, vs, ok, on, os, n⟩ := o
  obtain ⟨hk, hvk, hvn, hok, hon, hn, hkey, hvs, hos⟩ := ho
  simp only at hk hvk hvn hok hon hn hkey hvs hos
  simp only [mayD, mayOp, Bool.and_eq_true, beq_iff_eq] at hm
  obtain ⟨⟨⟨-, hv⟩, hO⟩, hm⟩ := hm
  have key0 : ∀ x : List UInt8, rdNum (Ph.putI kind ++ (Ph.putT key.data.toList ++ x), false) = (Ph.putT key.data.toList ++ x, false) ∧ (Ph.getI (Ph.putI kind ++ (Ph.putT key.data.toList ++ x))).1 = kind := fun x => rdNum_put kind _ hk
  have key1 : ∀ x : List UInt8, rdTxt (Ph.putT key.data.toList ++ x, false) = (x, false) ∧ (⟨(Ph.getT (Ph.putT key.data.toList ++ x)).1.toArray⟩ : ByteArray) = key := fun x => rdTxt_put key x hkey
  have main : ∀ x : List UInt8, rdOp (Ph.putI kind ++ (Ph.putT key.data.toList ++ x), false) = (if kind = 3 then
      (⟨kind, key, (getR x).1.1, (getR x).1.2.1, (getR x).1.2.2, (getR (rdVal (x, false)).1).1.1, (getR (rdVal (x, false)).1).1.2.1, (getR (rdVal (x, false)).1).1.2.2, 0⟩, rdVal (rdVal (x, false)))
      else if kind = 1 then (⟨kind, key, (getR x).1.1, (getR x).1.2.1, (getR x).1.2.2, 0, 0, ⟨#[]⟩, 0⟩, rdVal (x, false))
      else if kind = 4 then (⟨kind, key, 0, 0, ⟨#[]⟩, 0, 0, ⟨#[]⟩, (Ph.getI x).1⟩, rdNum (x, false))
      else (⟨kind, key, 0, 0, ⟨#[]⟩, 0, 0, ⟨#[]⟩, 0⟩, (x, false))) := fun x => by
    unfold rdOp
    simp only
    rw [(key0 x).1, (key0 x).2]
    simp only
    rw [(key1 x).1, (key1 x).2]
  have hA : opB ⟨kind, key, vk, vn, vs, ok, on, os, n⟩ ++ t = Ph.putI kind ++ (Ph.putT key.data.toList ++ ((if kind = 3 then putR vk vn vs ++ putR ok on os else if kind = 1 then putR vk vn vs else if kind = 4 then Ph.putI n else []) ++ t)) := by
    unfold opB
    simp only [List.append_assoc]
  rw [hA, main]
  clear main hA key0 key1
  split at hm
  · rename_i k1
    subst k1
    simp only [Bool.and_eq_true, beq_iff_eq] at hm
    obtain ⟨⟨-, h2⟩, rfl⟩ := hm
    obtain ⟨rfl, rfl, rfl⟩ := rawEq_iff.1 h2
    obtain ⟨g1, g2⟩ := rdVal_put t hv hvn hvs
    rw [if_neg (by decide), if_pos rfl, if_neg (by decide), if_pos rfl, g1, g2]
  · rename_i k1
    split at hm
    · rename_i k2
      subst k2
      simp only [Bool.and_eq_true, beq_iff_eq] at hm
      obtain ⟨⟨h1, h2⟩, rfl⟩ := hm
      obtain ⟨rfl, rfl, rfl⟩ := rawEq_iff.1 h1
      obtain ⟨rfl, rfl, rfl⟩ := rawEq_iff.1 h2
      rw [if_neg (by decide), if_neg (by decide), if_neg (by decide), if_neg (by decide), if_neg (by decide), if_neg (by decide), List.nil_append]
    · split at hm
      · rename_i k3
        subst k3
        simp only [Bool.and_eq_true, beq_iff_eq] at hm
        obtain ⟨-, rfl⟩ := hm
        obtain ⟨g1, g2⟩ := rdVal_put (putR ok on os ++ t) hv hvn hvs
        obtain ⟨g3, g4⟩ := rdVal_put t hO hon hos
        rw [if_pos rfl, if_pos rfl, List.append_assoc, g1, g2]
        simp only
        rw [g3, g4]
      · split at hm
        · rename_i k4
          subst k4
          simp only [Bool.and_eq_true] at hm
          obtain ⟨⟨⟨h1, h2⟩, -⟩, -⟩ := hm
          obtain ⟨rfl, rfl, rfl⟩ := rawEq_iff.1 h1
          obtain ⟨rfl, rfl, rfl⟩ := rawEq_iff.1 h2
          obtain ⟨g1, g2⟩ := rdNum_put n t hn
          rw [if_neg (by decide), if_neg (by decide), if_pos rfl, if_neg (by decide), if_neg (by decide), if_pos rfl, g1, g2]
        · cases hm

theorem rdOps_zero (f : Nat) (acc : List OpD) (s : List UInt8 × Bool) : rdOps f 0 acc s = (acc, s) := by
  cases f with
  | zero => rfl
  | succ f => rw [rdOps, if_neg (by omega)]
theorem rdOps_put : ∀ (l : List OpD) (f : Nat) (acc : List OpD) (t : List UInt8), acc.length + l.length ≤ 8 → l.length ≤ f → l.all mayD = true → (∀ o ∈ l, OpOk o) → rdOps f (l.length : Int) acc (l.flatMap opB ++ t, false) = (acc ++ l, (t, false))
  | [], f, acc, t, _, _, _, _ => by
    rw [show (([] : List OpD).length : Int) = 0 from rfl, rdOps_zero]; simp
  | o :: l, 0, acc, t, _, hf, _, _ => by simp at hf
  | o :: l, f + 1, acc, t, h8, hf, hm, ho => by
    simp only [List.length_cons] at h8 hf
    rw [List.all_cons, Bool.and_eq_true] at hm
    rw [rdOps, if_pos ⟨by simp only [List.length_cons]; omega, rfl, by omega⟩, List.flatMap_cons, List.append_assoc, rdOp_put o _ hm.1 (ho o (by simp))]
    simp only
    have e : ((o :: l).length : Int) - 1 = (l.length : Int) := by simp only [List.length_cons]; omega
    rw [e, rdOps_put l f (acc ++ [o]) t (by simp; omega) (by omega) hm.2 fun x hx => ho x (by simp [hx])]
    simp

/-- A BATCH's BYTES, READ AGAIN; WHAT COMES BEHIND THEM IS LEFT. -/
theorem parse_text {c q : Int} {l : List OpD} (t : List UInt8) (h : mayBatch c q l = true) (ho : ∀ o ∈ l, OpOk o) : parse (textB c q l ++ t) = ((c, q, l), (t, false)) := by
  obtain ⟨hc, hq, hl, hm, -⟩ := mayBatch_parts h
  have e : textB c q l ++ t = Ph.putI c ++ (Ph.putI q ++ (Ph.putI l.length ++ (l.flatMap opB ++ t))) := by
    unfold textB headB; simp only [List.append_assoc]
  obtain ⟨g1, g2⟩ := rdNum_put c (Ph.putI q ++ (Ph.putI l.length ++ (l.flatMap opB ++ t))) ⟨by omega, by omega⟩
  obtain ⟨g3, g4⟩ := rdNum_put q (Ph.putI l.length ++ (l.flatMap opB ++ t)) ⟨by omega, by omega⟩
  obtain ⟨g5, g6⟩ := rdNum_put l.length (l.flatMap opB ++ t) ⟨by omega, by omega⟩
  unfold parse
  simp only
  rw [e, g1, g2]
  simp only
  rw [g3, g4]
  simp only
  rw [g5, g6, rdOps_put l 10 [] t (by simp; omega) (by omega) hm ho]
  rfl
theorem decode_text {c q : Int} {l : List OpD} (h : mayBatch c q l = true) (ho : ∀ o ∈ l, OpOk o) : decode (textB c q l) = some (c, q, l) := by
  have := parse_text [] h ho
  rw [List.append_nil] at this
  unfold decode
  simp only
  rw [this, if_pos ⟨rfl, h, rfl⟩]
theorem decode_some {b : List UInt8} {c q : Int} {l : List OpD} (h : decode b = some (c, q, l)) : mayBatch c q l = true ∧ textB c q l = b ∧ (parse b).1 = (c, q, l) := by
  unfold decode at h
  simp only at h
  split at h
  · rename_i hh
    have e := Option.some.inj h
    rw [e] at hh
    exact ⟨hh.2.1, hh.2.2, e⟩
  · cases h

/-! what is read is in range -/
theorem unzig_range (y : Nat) (h : y < 18446744073709551616) : i64 (Ph.unzig y) := by
  unfold Ph.unzig i64
  split <;> omega
theorem getN_range : ∀ (l : List UInt8) (i u : Nat), u < 128 ^ i → i ≤ 9 → i64 (Ph.getN i u l).1
  | [], i, u, _, _ => by rw [Ph.getN_end]; simp [i64]
  | c :: t, i, u, hu, hi => by
    have hc := c.toNat_lt
    rw [Ph.getN]
    split
    · simp [i64]
    · rename_i c1
      split
      · rename_i c2
        have h8 : i ≤ 8 := by omega
        exact getN_range t (i + 1) _ (Ph.sum_small u c.toNat i hu h8 (by omega)).2 (by omega)
      · rename_i c2
        split
        · simp [i64]
        · refine unzig_range _ ?_
          by_cases h8 : i ≤ 8
          · have h1 := (Ph.sum_small u c.toNat i hu h8 (by omega)).2
            have h2 : 128 ^ (i + 1) ≤ 128 ^ 9 := Nat.pow_le_pow_right (by omega) (by omega)
            have h3 : (128 : Nat) ^ 9 = 9223372036854775808 := by decide
            omega
          · obtain rfl : i = 9 := by omega
            have h3 : (128 : Nat) ^ 9 = 9223372036854775808 := by decide
            rw [h3] at hu
            have : c.toNat ≤ 1 := by omega
            have h4 : c.toNat % 128 * 128 ^ 9 ≤ 9223372036854775808 := by
              rw [h3, Nat.mod_eq_of_lt (by omega)]
              omega
            omega
theorem getI_range (l : List UInt8) : i64 (Ph.getI l).1 := getN_range l 0 0 (by simp) (by omega)
theorem getR_range (l : List UInt8) : i64 (getR l).1.1 ∧ i64 (getR l).1.2.1 ∧ (getR l).1.2.2.size ≤ l.length := by
  have h1 := getI_range (l.drop (Ph.getI l).2.1)
  have z : i64 0 := ⟨by omega, by omega⟩
  have e0 : (⟨#[]⟩ : ByteArray).size = 0 := rfl
  unfold getR
  simp only
  split
  · exact ⟨z, z, by simp [e0]⟩
  · split
    · exact ⟨z, z, by simp [e0]⟩
    · split
      · split
        · exact ⟨z, z, by simp [e0]⟩
        · exact ⟨⟨by simp, by simp⟩, h1, by simp [e0]⟩
      · split
        · split
          · exact ⟨z, z, by simp [e0]⟩
          · have := getT_size (l.drop (Ph.getI l).2.1)
            rw [List.length_drop] at this
            split
            · exact ⟨z, z, by simp [e0]⟩
            · exact ⟨⟨by simp, by simp⟩, z, by simp only; omega⟩
        · exact ⟨z, z, by simp [e0]⟩
theorem tk_le (s : List UInt8 × Bool) (n : Nat) (err : Int) : (tk s n err).1.length ≤ s.1.length := by
  unfold tk
  simp only
  split
  · exact Nat.le_refl _
  · rw [List.length_drop]; omega
theorem rdOp_ok (s : List UInt8 × Bool) (h : s.1.length ≤ 1000000) : OpOk (rdOp s).1 ∧ (rdOp s).2.1.length ≤ s.1.length := by
  have h1 : (rdNum s).1.length ≤ s.1.length := tk_le _ _ _
  have h2 : (rdTxt (rdNum s)).1.length ≤ (rdNum s).1.length := tk_le _ _ _
  have k0 := getI_range s.1
  have hkey := getT_size (rdNum s).1
  unfold rdOp
  simp only
  generalize rdTxt (rdNum s) = s2 at *
  have h3 : (rdVal s2).1.length ≤ s2.1.length := tk_le _ _ _
  have h4 : (rdVal (rdVal s2)).1.length ≤ (rdVal s2).1.length := tk_le _ _ _
  have h5 : (rdNum s2).1.length ≤ s2.1.length := tk_le _ _ _
  obtain ⟨a1, a2, a3⟩ := getR_range s2.1
  obtain ⟨b1, b2, b3⟩ := getR_range (rdVal s2).1
  have c1 := getI_range s2.1
  have z : i64 0 := ⟨by omega, by omega⟩
  have e0 : (⟨#[]⟩ : ByteArray).size ≤ 1000000 := by show 0 ≤ _; omega
  split
  · exact ⟨⟨k0, a1, a2, b1, b2, z, by simp only; omega, by simp only; omega, by simp only; omega⟩, by simp only; omega⟩
  · split
    · exact ⟨⟨k0, a1, a2, z, z, z, by simp only; omega, by simp only; omega, e0⟩, by simp only; omega⟩
    · split
      · exact ⟨⟨k0, z, z, z, z, c1, by simp only; omega, e0, e0⟩, by simp only; omega⟩
      · exact ⟨⟨k0, z, z, z, z, z, by simp only; omega, e0, e0⟩, by simp only; omega⟩
theorem rdOps_ok : ∀ (f : Nat) (n : Int) (l : List OpD) (s : List UInt8 × Bool), s.1.length ≤ 1000000 → l.length ≤ 9 → (∀ o ∈ l, OpOk o) → (rdOps f n l s).1.length ≤ 9 ∧ ∀ o ∈ (rdOps f n l s).1, OpOk o
  | 0, n, l, s, _, h9, ho => ⟨h9, ho⟩
  | f + 1, n, l, s, hs, h9, ho => by
    rw [rdOps]
    split
    · rename_i c
      obtain ⟨g1, g2⟩ := rdOp_ok s hs
      refine rdOps_ok f (n - 1) _ _ (by omega) (by simp; omega) fun o h => ?_
      rcases List.mem_append.1 h with h | h
      · exact ho o h
      · rw [List.mem_singleton] at h; rw [h]; exact g1
    · exact ⟨h9, ho⟩
theorem parse_ok (b : List UInt8) (h : b.length ≤ 1000000) : i64 (parse b).1.1 ∧ i64 (parse b).1.2.1 ∧ (parse b).1.2.2.length ≤ 9 ∧ ∀ o ∈ (parse b).1.2.2, OpOk o := by
  have h1 : (rdNum (b, false)).1.length ≤ b.length := tk_le _ _ _
  have h2 : (rdNum (rdNum (b, false))).1.length ≤ (rdNum (b, false)).1.length := tk_le _ _ _
  have h3 : (rdNum (rdNum (rdNum (b, false)))).1.length ≤ (rdNum (rdNum (b, false))).1.length := tk_le _ _ _
  have := rdOps_ok 10 (Ph.getI (rdNum (rdNum (b, false))).1).1 [] (rdNum (rdNum (rdNum (b, false)))) (by omega) (by simp) (by simp)
  exact ⟨getI_range _, getI_range _, this.1, this.2⟩
theorem decode_ok {b : List UInt8} {c q : Int} {l : List OpD} (hb : b.length ≤ 1000000) (h : decode b = some (c, q, l)) : i64 c ∧ i64 q ∧ l.length ≤ 9 ∧ ∀ o ∈ l, OpOk o := by
  have := parse_ok b hb
  rw [(decode_some h).2.2] at this
  exact this

/-- BYTES BEHIND A BATCH's: IF BOTH ARE BATCHES', THERE ARE NONE. -/
theorem no_more {c q : Int} {l : List OpD} {b t : List UInt8} (hb : b.length ≤ 1000000) (h : mayBatch c q l = true) (ho : ∀ o ∈ l, OpOk o) (he : textB c q l = b ++ t) (ht : t ≠ []) : decode b = none := by
  cases hd : decode b with
  | none => rfl
  | some p =>
    obtain ⟨c', q', l'⟩ := p
    obtain ⟨m, e, -⟩ := decode_some hd
    have p1 := parse_text [] h ho
    have p2 := parse_text t m (decode_ok hb hd).2.2.2
    rw [e, ← he] at p2
    rw [List.append_nil, p2] at p1
    exact absurd (congrArg (fun x => x.2.1) p1) ht
theorem none_more {c q : Int} {l : List OpD} {t : List UInt8} (h : mayBatch c q l = true) (ho : ∀ o ∈ l, OpOk o) (hb : (textB c q l ++ t).length ≤ 1000000) (ht : t ≠ []) : decode (textB c q l ++ t) = none := by
  cases hd : decode (textB c q l ++ t) with
  | none => rfl
  | some p =>
    obtain ⟨c', q', l'⟩ := p
    obtain ⟨m, e, -⟩ := decode_some hd
    have p1 := parse_text t h ho
    have p2 := parse_text [] m (decode_ok hb hd).2.2.2
    rw [List.append_nil, e, p1] at p2
    exact absurd (congrArg (fun x => x.2.1) p2) ht

/-! one batch, or two -/
theorem twins {c q : Int} {l : List OpD} {c' q' : Int} {l' : List OpD} (h : mayBatch c q l = true) (ho : ∀ o ∈ l, OpOk o) (h' : mayBatch c' q' l' = true) (ho' : ∀ o ∈ l', OpOk o) : (textB c q l == textB c' q' l') = eqBatch c q l c' q' l' := by
  cases he : eqBatch c q l c' q' l' with
  | true =>
    obtain ⟨rfl, rfl, rfl⟩ := eqBatch_iff.1 he
    exact beq_self_eq_true _
  | false =>
    rw [beq_eq_false_iff_ne]
    intro e
    have d := decode_text h ho
    rw [e, decode_text h' ho'] at d
    have d := Option.some.inj d
    simp only [Prod.mk.injEq] at d
    rw [eqBatch_iff.2 ⟨d.1.symm, d.2.1.symm, d.2.2.symm⟩] at he
    cases he
end Go.Proofs.YthpenehgfogloaaDoor.Sw

/-
  Documents, plain: their bytes, and what bytes a document is read from.
-/
set_option linter.unusedVariables false
set_option maxRecDepth 10000
namespace Go.Proofs.YthpenehgfogloaaDoor.Sw
open Go.RowKit Go.Sx

/-- A document that operations made. -/
structure DocFine (d : Dm) : Prop where
  ok : DocOk d
  srt : Srt d
  key : ∀ p ∈ d, Ph.keyB p.1.data.toList = true
theorem DocFine.nil : DocFine [] := ⟨DocOk.nil, Srt.nil, by simp⟩
theorem mayD_key {o : OpD} (h : mayD o = true) : Ph.keyB o.key.data.toList = true := by
  unfold mayD mayOp at h
  simp only [Bool.and_eq_true] at h
  exact h.1.1.1
theorem setRL_key {d : Dm} (h : ∀ p ∈ d, Ph.keyB p.1.data.toList = true) {k : ByteArray} (hk : Ph.keyB k.data.toList = true) (x : Option DV) : ∀ p ∈ (setRL d k x).2, Ph.keyB p.1.data.toList = true := by
  cases x with
  | none => exact fun p hp => h p (delD_mem hp).1
  | some v =>
    unfold setRL
    simp only
    split
    · exact h
    · intro p hp
      rcases List.mem_cons.1 ((setL_perm d k v).mem_iff.1 hp) with rfl | hp
      · exact hk
      · exact h p (delD_mem hp).1
theorem doL_key {d : Dm} (h : ∀ p ∈ d, Ph.keyB p.1.data.toList = true) {o : OpD} (hk : Ph.keyB o.key.data.toList = true) : ∀ p ∈ (doL d o).2, Ph.keyB p.1.data.toList = true := by
  unfold doL
  split
  · split
    · exact setRL_key h hk _
    · exact h
  · split
    · split
      · exact h
      · split
        · exact h
        · exact setRL_key h hk _
    · exact setRL_key h hk _
theorem goL_key : ∀ (l : List OpD) {d : Dm}, (∀ p ∈ d, Ph.keyB p.1.data.toList = true) → ∀ p ∈ (goL l d).2, Ph.keyB p.1.data.toList = true
  | [], d, h => h
  | o :: l, d, h => by
    unfold goL
    split
    · exact h
    · rename_i hm
      split
      · exact goL_key l (doL_key h (mayD_key (by simpa using hm)))
      · exact h
theorem applyL_fine {d : Dm} (h : DocFine d) {l : List OpD} (ho : ∀ o ∈ l, OpOk o) : DocFine (applyL d l).2 := by
  refine ⟨applyL_ok h.ok ho, applyL_srt h.srt l, ?_⟩
  unfold applyL
  split
  · exact h.key
  · split
    · exact goL_key l h.key
    · exact h.key

def rawB (x : Option DV) : List UInt8 := putR (kindOf x) (intIn x) (textIn x)
def pairB (p : ByteArray × DV) : List UInt8 := Ph.putT p.1.data.toList ++ rawB (some p.2)
/-- A document's bytes. -/
def docB (d : Dm) : List UInt8 := Ph.putI (d.length : Int) ++ d.flatMap pairB
def rdPairs : Nat → Dm → List UInt8 → Option Dm
  | 0, d, _ => some d
  | n + 1, d, s =>
    match (Ph.getT s).2.2 == 0 && Ph.keyB (Ph.getT s).1, (getR (s.drop (Ph.getT s).2.1)).2.2 == 0, (ofRaw (getR (s.drop (Ph.getT s).2.1)).1.1 (getR (s.drop (Ph.getT s).2.1)).1.2.1 (getR (s.drop (Ph.getT s).2.1)).1.2.2).1 with
    | true, true, some v => rdPairs n (setL d ⟨(Ph.getT s).1.toArray⟩ v) (s.drop ((Ph.getT s).2.1 + (getR (s.drop (Ph.getT s).2.1)).2.1))
    | _, _, _ => none
def decDoc (s : List UInt8) : Option Dm :=
  if (Ph.getI s).2.2 = 0 ∧ 0 ≤ (Ph.getI s).1 ∧ (Ph.getI s).1 ≤ 50 then
    (match rdPairs (Ph.getI s).1.toNat [] (s.drop (Ph.getI s).2.1) with
     | none => none
     | some d => if docB d = s then some d else none)
  else none
theorem ofRaw_val {k : ByteArray} {v : DV} (h : PairOk (k, v)) : ofRaw (kindOf (some v)) (intIn (some v)) (textIn (some v)) = (some v, 0) := by
  rcases v with n | s
  · exact rfl
  · obtain ⟨h1, h2⟩ := h.txt s rfl
    have h2' : Lib.validD s.data.toList = true := h2
    unfold ofRaw kindOf intIn textIn
    simp [h1, h2']
theorem raw_range {k : ByteArray} {v : DV} (h : PairOk (k, v)) : i64 (intIn (some v)) ∧ (textIn (some v)).size ≤ 200 := by
  rcases v with n | s
  · exact ⟨h.num n rfl, by show (0 : Nat) ≤ 200; decide⟩
  · exact ⟨⟨by show -9223372036854775808 ≤ (0 : Int); decide, by show (0 : Int) ≤ 9223372036854775807; decide⟩, (h.txt s rfl).1⟩
theorem rdPairs_put : ∀ (m d : Dm) (t : List UInt8), (∀ p ∈ m, PairOk p ∧ Ph.keyB p.1.data.toList = true) → Srt (d ++ m) → rdPairs m.length d (m.flatMap pairB ++ t) = some (d ++ m)
  | [], d, t, _, _ => by simp [rdPairs]
  | p :: m, d, t, h, hs => by
    obtain ⟨k, v⟩ := p
    obtain ⟨hp, hk⟩ := h (k, v) (by simp)
    have hk0 : k.data.toList.length ≤ 1000000 := by have := hp.key; rw [Array.length_toList]; exact this
    have hg := Ph.getT_putT k.data.toList (rawB (some v) ++ (m.flatMap pairB ++ t)) (by omega)
    have hv := ofRaw_val hp
    obtain ⟨hr1, hr2⟩ := raw_range hp
    have hr := getR_putR (k := kindOf (some v)) (n := intIn (some v)) (s := textIn (some v)) (m.flatMap pairB ++ t) (by rw [hv]) hr1.1 hr1.2 (by omega)
    have e : ((k, v) :: m).flatMap pairB ++ t = Ph.putT k.data.toList ++ (rawB (some v) ++ (m.flatMap pairB ++ t)) := by
      simp [pairB]
    have hlast : setL d k v = d ++ [(k, v)] := setL_last v fun q hq => by
      have := (List.pairwise_append.1 hs).2.2 q hq (k, v) (by simp)
      exact this
    rw [e]
    simp only [List.length_cons, rdPairs, hg]
    rw [List.drop_left]
    change (match ((0 : Int) == 0) && Ph.keyB k.data.toList, (getR (putR (kindOf (some v)) (intIn (some v)) (textIn (some v)) ++ (m.flatMap pairB ++ t))).2.2 == 0, (ofRaw (getR (putR (kindOf (some v)) (intIn (some v)) (textIn (some v)) ++ (m.flatMap pairB ++ t))).1.1 (getR (putR (kindOf (some v)) (intIn (some v)) (textIn (some v)) ++ (m.flatMap pairB ++ t))).1.2.1 (getR (putR (kindOf (some v)) (intIn (some v)) (textIn (some v)) ++ (m.flatMap pairB ++ t))).1.2.2).1 with
      | true, true, some v' => rdPairs m.length (setL d ⟨k.data.toList.toArray⟩ v') (List.drop ((Ph.putT k.data.toList).length + (getR (putR (kindOf (some v)) (intIn (some v)) (textIn (some v)) ++ (m.flatMap pairB ++ t))).2.1) (Ph.putT k.data.toList ++ (rawB (some v) ++ (m.flatMap pairB ++ t))))
      | _, _, _ => none) = _
    rw [hr]
    simp only [hk, hv, beq_self_eq_true, Bool.and_self]
    rw [ba_mk, hlast, ← List.drop_drop, List.drop_left]
    unfold rawB
    rw [List.drop_left, rdPairs_put m (d ++ [(k, v)]) t (fun q hq => h q (by simp [hq])) (by simpa using hs)]
    simp
theorem dec_docB {d : Dm} (h : DocFine d) : decDoc (docB d) = some d := by
  have hg := Ph.getI_putI (d.length : Int) (d.flatMap pairB) (by omega) (by have := h.ok.len; omega)
  have hr := rdPairs_put d [] [] (fun p hp => ⟨h.ok.all p hp, h.key p hp⟩) h.srt
  rw [List.append_nil, List.nil_append] at hr
  unfold decDoc
  have hd : docB d = Ph.putI (d.length : Int) ++ d.flatMap pairB := rfl
  rw [hd, hg]
  simp only
  rw [if_pos ⟨by trivial, by omega, by have := h.ok.len; omega⟩, List.drop_left, Int.toNat_natCast, hr]
  simp only
  rw [if_pos hd]
theorem rdPairs_some : ∀ (n : Nat) (d : Dm) (s : List UInt8) (d' : Dm), rdPairs n d s = some d' → s.length ≤ 1000000 → d.length + n ≤ 50 → DocFine d → DocFine d'
  | 0, d, s, d', h, _, _, hf => by
    simp only [rdPairs, Option.some.injEq] at h
    rw [← h]; exact hf
  | n + 1, d, s, d', h, hl, hn, hf => by
    simp only [rdPairs] at h
    split at h
    · rename_i v h1 h2 h3
      rw [Bool.and_eq_true] at h1
      have hks : (⟨(Ph.getT s).1.toArray⟩ : ByteArray).size ≤ 1000000 := by have := getT_size s; omega
      have hrr := getR_range (s.drop (Ph.getT s).2.1)
      have hp : PairOk (⟨(Ph.getT s).1.toArray⟩, v) := ofRaw_pair hks hrr.2.1 v h3
      have hperm := setL_perm d ⟨(Ph.getT s).1.toArray⟩ v
      have hlen : (setL d ⟨(Ph.getT s).1.toArray⟩ v).length ≤ d.length + 1 := by
        rw [hperm.length_eq]
        exact Nat.succ_le_succ (delD_len d _)
      refine rdPairs_some n _ _ d' h (by rw [List.length_drop]; omega) (by omega) ⟨⟨(dKeys_perm hperm).2 (setD_keys hf.ok.keys _ _), by omega, fun p hp' => ?_⟩, hf.srt.setL _ _, fun p hp' => ?_⟩
      · rcases List.mem_cons.1 (hperm.mem_iff.1 hp') with rfl | hp'
        · exact hp
        · exact hf.ok.all p (delD_mem hp').1
      · rcases List.mem_cons.1 (hperm.mem_iff.1 hp') with rfl | hp'
        · exact h1.2
        · exact hf.key p (delD_mem hp').1
    · cases h
theorem decDoc_some {s : List UInt8} {d : Dm} (hl : s.length ≤ 1000000) (h : decDoc s = some d) : docB d = s ∧ DocFine d := by
  unfold decDoc at h
  split at h
  · rename_i hh
    split at h
    · cases h
    · rename_i d2 hr
      split at h
      · rename_i hd
        injection h with h
        subst h
        exact ⟨hd, rdPairs_some _ [] _ d2 hr (by rw [List.length_drop]; omega) (by simp; omega) DocFine.nil⟩
      · cases h
  · cases h
theorem pairB_len {p : ByteArray × DV} (h : PairOk p) : (pairB p).length ≤ p.1.size + 300 := by
  obtain ⟨k, v⟩ := p
  have h1 : (Ph.putT k.data.toList).length ≤ k.size + 10 := by
    unfold Ph.putT
    have := Ph.putI_length_le (k.data.toList.length : Int)
    rw [List.length_append]
    have e : k.data.toList.length = k.size := by rw [Array.length_toList]; rfl
    omega
  have h2 : (rawB (some v)).length ≤ 240 := by
    have := raw_range h
    unfold rawB putR
    have a1 := Ph.putI_length_le (kindOf (some v))
    have a2 := Ph.putI_length_le (intIn (some v))
    rw [List.length_append]
    split
    · omega
    · split
      · unfold Ph.putT
        have a3 := Ph.putI_length_le ((textIn (some v)).data.toList.length : Int)
        rw [List.length_append]
        have e : (textIn (some v)).data.toList.length = (textIn (some v)).size := by rw [Array.length_toList]; rfl
        omega
      · simp; omega
  unfold pairB
  rw [List.length_append]
  show (Ph.putT k.data.toList).length + (rawB (some v)).length ≤ k.size + 300
  omega
end Go.Proofs.YthpenehgfogloaaDoor.Sw

/-
  Sx: a map's keys in the kit's words of an own map.
-/
set_option linter.unusedVariables false
namespace Go.Sx
open Go.RowKit Go.Maps
open Go.WideElems (Fit rd rg rd_mk rg_of)
theorem key_str {P : Program} {K : TypeId} (hK : P.underlying K = some .string) {s : ByteArray} (hs : s.size ≤ maxLen) : keyOf P K (.string s) = some (.string s.data.toList) := by
  unfold keyOf
  rw [hK]
  simp [mapKey, hK, hs]
theorem bytes_inj {a b : ByteArray} (h : a.data.toList = b.data.toList) : a = b := by
  cases a; cases b
  simp only at h
  congr 1
  exact Array.toList_inj.1 h
theorem map_owns {P : Program} {K : TypeId} (hK : P.underlying K = some .string) {W : World} {b c : Nat} {es : List Ent} (h : MapAt W b es c) (hn : (es.map (·.k)).Nodup) (hs : ∀ e ∈ es, e.k.size ≤ maxLen) (hl : es.length ≤ maxLen) :
    ∃ D0 : DataW Unit, W.ownsMap P K (fun _ => some (.nil, [])) b es.length D0 ∧ (strKeys D0).Perm (es.map fun e => e.k.data.toList) ∧ Maps.size D0 = es.length := by
  have hrd : ∀ e ∈ es, rd (H := Unit) P K (fun _ => some (.nil, [])) e.raw = some (.string e.k.data.toList, .nil) := fun e he => rd_mk (yv := (.nil, [])) (key_str hK (hs e he)) rfl
  refine ⟨_, ⟨⟨es.map Ent.raw⟩, c, h.at_, ⟨by simpa using hl, ⟨?_, ?_, ?_⟩, ?_⟩, by simp, rfl⟩, ?_, ?_⟩
  · intro x hx
    obtain ⟨e, he, rfl⟩ := List.mem_map.1 hx
    exact h.lt e he
  · show ((es.map Ent.raw).map (·.born)).Nodup
    rw [List.map_map]
    exact h.nodup
  · show ((es.map Ent.raw).map (·.key)).Nodup
    rw [List.map_map]
    have : es.map ((·.key) ∘ Ent.raw) = (es.map (·.k)).map Value.string := by rw [List.map_map]; rfl
    rw [this]
    exact List.Pairwise.map (R := (· ≠ ·)) (S := (· ≠ ·)) Value.string (fun a b hab e => hab (by injection e)) hn
  · intro x hx
    obtain ⟨e, he, rfl⟩ := List.mem_map.1 hx
    exact ⟨_, hrd e he⟩
  · show (List.map (fun p : Lit × DataW Unit => strOf p.1) _).Perm _
    refine ((WideShapes.sorted_perm _).map _).trans ?_
    show (List.map _ (List.map _ (es.map Ent.raw))).Perm _
    rw [List.map_map, List.map_map]
    refine List.Perm.of_eq (List.map_congr_left fun e he => ?_)
    show strOf (rg P K _ e.raw).1 = _
    rw [rg_of (hrd e he)]
    rfl
  · show List.length _ = _
    rw [(WideShapes.sorted_perm _).length_eq]
    simp
end Go.Sx

/-
  Sx: slices of what is frozen; min; a literal frozen.
-/
set_option linter.unusedVariables false
namespace Go.Sx
open Go.RowKit
section
variable {P : Program} {ops : Array Oper} {rest : List Oper} {Q : Exit → Act → World → Prop} {a : Act} {n G : Nat} {L : List (Nat × Value)} {w W W' : World} {R : List Res} {d : Nat} {T S E : TypeId} {p : String} {e : Array Edge} {x y lo hi : Operand} {v : Value} {xs cs : List Value} {k sz : Nat} {i j : Int} {q q' : IntKind} {z : List Value} {H : Fh}
theorem run_slice_rdH {agg : Bool} [sl : Sl P S E] [t : Ty P E agg z] (r : RdH H sz v k xs) (hz : z.length = sz) (l h : Option Value) {i' j' : Nat} (h0 : i' ≤ j') (h1 : j' ≤ k)
    (hl : l = none ∧ i' = 0 ∨ ∃ q, l = some (.int q i')) (hh : h = none ∧ j' = k ∨ ∃ q, h = some (.int q j')) :
    ∃ v', (Instr.sliceAt S v l h none).run P W = .ok v' W ∧ RdH H sz v' (j' - i') ((xs.drop (i' * sz)).take ((j' - i') * sz)) := by
  subst hz
  obtain ⟨hx, ad, cap, rfl, h3, h4, h5⟩ := r
  have hb : ∀ (u : Value) (m y : Nat) (c : BoundsCode) (q : IntKind), u = .int q m → m ≤ y → (Instr.sliceBound u y c).run P W = .ok m W := by
    rintro u m y c q rfl hm
    have : (0 : Int) ≤ (m : Int) ∧ (m : Int) ≤ (y : Int) := ⟨by omega, by omega⟩
    simp only [Instr.sliceBound, asIntOf, Sem.run_bind, Sem.run_pure, Result.andThen_ok]
    rw [if_pos this]
    simp
  have hbs : (Instr.sliceBounds true k cap l h none).run P W = .ok (i', j', cap) W := by
    unfold Instr.sliceBounds
    rcases hh with ⟨rfl, rfl⟩ | ⟨q2, rfl⟩ <;> rcases hl with ⟨rfl, rfl⟩ | ⟨q1, rfl⟩
    · simp
    · simp [hb _ i' j' .sliceB q1 rfl h0]
    · simp [hb _ j' cap .sliceAcap q2 rfl (by omega)]
    · simp [hb _ j' cap .sliceAcap q2 rfl (by omega), hb _ i' j' .sliceB q1 rfl h0]
  refine ⟨.slice (if cap = i' then ad else ad.map (·.add (i' * z.length))) (j' - i') (cap - i'), ?_, ?_, _, _, rfl, by omega, by omega, ?_⟩
  · simp only [Instr.sliceAt, Instr.slice, Sem.run_bind, run_underlying sl.out, Result.andThen_ok, hbs, t.sizeOf, Sem.run_pure]
  · rw [List.length_take, List.length_drop, hx]
    have : (j' - i') * z.length ≤ k * z.length - i' * z.length := by rw [← Nat.sub_mul]; exact Nat.mul_le_mul_right _ (by omega)
    omega
  · rcases h5 with rfl | ⟨b, o, cs, T, zz, rfl, hlt, hc⟩
    · exact .inl (by omega)
    · by_cases hci : cap = i'
      · exact .inl (by omega)
      · refine .inr ⟨b, o + i' * z.length, cs, T, zz, by rw [if_neg hci]; simp [addr_add], hlt, fun m u hu => ?_⟩
        rw [List.getElem?_take] at hu
        split at hu
        · rw [List.getElem?_drop] at hu
          rw [Nat.add_assoc]
          exact hc _ _ hu
        · cases hu
theorem st_sliceH_lo {agg : Bool} [sl : Sl P S E] [t : Ty P E agg z] (hs : Slots a n L) (r : RdH H sz v k xs) (h0 : 0 ≤ i) (h1 : i ≤ k) (hx : ev L x = some v := by with_unfolding_all exact rfl) (hl : ev L lo = some (.int q i) := by with_unfolding_all exact rfl) (hd : Nat.blt d n = true := by with_unfolding_all exact rfl) (hz : z.length = sz := by with_unfolding_all exact rfl)
    (c : ∀ a' v', RdH H sz v' (k - i.toNat) (xs.drop (i.toNat * sz)) → Slots a' n ((d, v') :: L) → wpList P ops Q rest a' W) : wpList P ops Q (⟨some d, .slice S x (some lo) none none, T, p, e, none⟩ :: rest) a W := by
  obtain ⟨m, rfl⟩ := Int.eq_ofNat_of_zero_le h0
  obtain ⟨v', h2, h3⟩ := run_slice_rdH (P := P) (S := S) (W := W) r hz (some (.int q m)) none (i' := m) (j' := k) (by omega) (Nat.le_refl _) (.inr ⟨q, rfl⟩) (.inl ⟨rfl, rfl⟩)
  refine st_value hs hd (v := v') (W' := W) ?_ fun a' hs' => c a' v' ?_ hs'
  · simp only [execOp, Option.map_some, Option.map_none, hs.ev hx, hs.ev hl]
    simp only [Sem.run_bind, h2, Result.andThen_ok]
    rfl
  · rw [List.take_of_length_le (by rw [List.length_drop, r.1, Nat.sub_mul]; omega)] at h3
    simpa using h3
theorem st_sliceH_hi {agg : Bool} [sl : Sl P S E] [t : Ty P E agg z] (hs : Slots a n L) (r : RdH H sz v k xs) (h0 : 0 ≤ i) (h1 : i ≤ k) (hx : ev L x = some v := by with_unfolding_all exact rfl) (hh : ev L hi = some (.int q i) := by with_unfolding_all exact rfl) (hd : Nat.blt d n = true := by with_unfolding_all exact rfl) (hz : z.length = sz := by with_unfolding_all exact rfl)
    (c : ∀ a' v', RdH H sz v' i.toNat (xs.take (i.toNat * sz)) → Slots a' n ((d, v') :: L) → wpList P ops Q rest a' W) : wpList P ops Q (⟨some d, .slice S x none (some hi) none, T, p, e, none⟩ :: rest) a W := by
  obtain ⟨m, rfl⟩ := Int.eq_ofNat_of_zero_le h0
  obtain ⟨v', h2, h3⟩ := run_slice_rdH (P := P) (S := S) (W := W) r hz none (some (.int q m)) (i' := 0) (j' := m) (by omega) (by omega) (.inl ⟨rfl, rfl⟩) (.inr ⟨q, rfl⟩)
  refine st_value hs hd (v := v') (W' := W) ?_ fun a' hs' => c a' v' ?_ hs'
  · simp only [execOp, Option.map_some, Option.map_none, hs.ev hx, hs.ev hh]
    simp only [Sem.run_bind, h2, Result.andThen_ok]
    rfl
  · simpa using h3
theorem st_sliceH_lh {agg : Bool} [sl : Sl P S E] [t : Ty P E agg z] (hs : Slots a n L) (r : RdH H sz v k xs) (h0 : 0 ≤ i) (h1 : i ≤ j) (h2 : j ≤ k) (hx : ev L x = some v := by with_unfolding_all exact rfl) (hl : ev L lo = some (.int q i) := by with_unfolding_all exact rfl) (hh : ev L hi = some (.int q' j) := by with_unfolding_all exact rfl) (hd : Nat.blt d n = true := by with_unfolding_all exact rfl) (hz : z.length = sz := by with_unfolding_all exact rfl)
    (c : ∀ a' v', RdH H sz v' (j.toNat - i.toNat) ((xs.drop (i.toNat * sz)).take ((j.toNat - i.toNat) * sz)) → Slots a' n ((d, v') :: L) → wpList P ops Q rest a' W) : wpList P ops Q (⟨some d, .slice S x (some lo) (some hi) none, T, p, e, none⟩ :: rest) a W := by
  obtain ⟨m, rfl⟩ := Int.eq_ofNat_of_zero_le h0
  obtain ⟨m', rfl⟩ := Int.eq_ofNat_of_zero_le (show 0 ≤ j by omega)
  obtain ⟨v', h4, h3⟩ := run_slice_rdH (P := P) (S := S) (W := W) r hz (some (.int q m)) (some (.int q' m')) (i' := m) (j' := m') (by omega) (by omega) (.inr ⟨q, rfl⟩) (.inr ⟨q', rfl⟩)
  refine st_value hs hd (v := v') (W' := W) ?_ fun a' hs' => c a' v' ?_ hs'
  · simp only [execOp, Option.map_some, Option.map_none, hs.ev hx, hs.ev hl, hs.ev hh]
    simp only [Sem.run_bind, h4, Result.andThen_ok]
    rfl
  · simpa using h3
theorem st_min {ts : Array TypeId} (hs : Slots a n L) (hx : ev L x = some (.int q i) := by with_unfolding_all exact rfl) (hy : ev L y = some (.int q' j) := by with_unfolding_all exact rfl) (hd : Nat.blt d n = true := by with_unfolding_all exact rfl)
    (k : ∀ a', Slots a' n ((d, .int q (if j < i then j else i)) :: L) → wpList P ops Q rest a' W) : wpList P ops Q (⟨some d, .call { callee := .builtin .min, args := #[x, y], argTypes := ts }, T, p, e, none⟩ :: rest) a W :=
  st_value hs hd (by simp only [execOp, resolve, invoke, builtin, List.map_toArray, List.map_cons, List.map_nil, hs.ev hx, hs.ev hy, Sem.run_bind, Sem.run_pure, Result.andThen_ok, run_min_int2]) k
/-- A literal is frozen. -/
theorem Has.freeze_lit {b m : Nat} (h : Has G w W (Cells b cs E :: Fz H :: R)) (hl : cs.length = m * sz) (hm : m ≤ 9223372036854775807) : ∃ H', H.le H' ∧ Has G w W (Fz H' :: R) ∧ RdH H' sz (.slice (some ⟨b, 0, none⟩) m m) m cs := by
  obtain ⟨H', h1, h2, F, ⟨hF, hb⟩, h4⟩ := h.freeze (R' := [])
  exact ⟨H', h1, h2, hl, some ⟨b, 0, none⟩, m, rfl, Nat.le_refl _, hm, .inr ⟨b, 0, ⟨cs⟩, E, (0, 0), rfl, h4 b _ hF hb, fun j x hx => by simpa using hx⟩⟩
end
end Go.Sx

/-
  Sx: a slice cut with its capacity; append to a slice that is full.
-/
set_option linter.unusedVariables false
set_option maxRecDepth 10000
namespace Go.Sx
open Go.RowKit
theorem Has.newOwn {G : Nat} {w W W' : World} {R : List Res} {E : TypeId} {size n : Nat} {v : Value} {xs : List Value} (h : Has G w W R) (hb : Below W.heap.size W W') (ho : OwnAt (fun b => W.heap.size ≤ b ∧ b < W'.heap.size) W' E size v n xs) : Has G w W' (Own E size v n xs :: R) := by
  have h1 := h.below hb
  refine ⟨h1.ext, h1.glob, _, ?_, ho, ?_⟩
  · rintro b ⟨hb1, hb2⟩
    exact ⟨Nat.le_trans h.globW hb1, hb2⟩
  · refine (h.has.loc fun b hb' => hb.block b hb'.2).mono fun b hb' => ⟨⟨hb'.1, Nat.lt_of_lt_of_le hb'.2 hb.size⟩, by omega⟩
section
variable {P : Program} {W : World}
theorem run_append_full {t tx ty E T : TypeId} {i : TypeInfo} {z : Value} (ht : P.underlying t = some (.slice E)) (hi : P.info? E = some i) (hz : i.zero = some z) (hzs : z.cells.size = i.size)
    {g k : Nat} {cur xs : List Value} (hg : W.heap[g]? = some (.cells ⟨cur⟩ T (0, 0))) (hk : k * i.size ≤ cur.length) (htk : cur.take (k * i.size) = xs) {x : Value} {m : Nat} {news : List Value} (hs : Src P i.size tx x m news W) (hm : 0 < m) (h63 : k + m ≤ 9223372036854775807) (hb : (k + m) * i.bytes ≤ 140737488355328) :
    ∃ ad cap W', (Builtin.append_ #[t, tx] ty #[.slice (some ⟨g, 0, none⟩) k k, x]).run P W = .ok (.slice ad (k + m) cap) W' ∧ OwnAt (fun b => W.heap.size ≤ b ∧ b < W'.heap.size) W' E i.size (.slice ad (k + m) cap) (k + m) (xs ++ news) ∧ Below W.heap.size W W' := by
  have hnl : news.length = m * i.size := hs.newsLen
  have hxl : xs.length = k * i.size := by rw [← htk, List.length_take]; omega
  have hlen : (xs ++ news).length = (k + m) * i.size := by rw [List.length_append, hxl, hnl, Nat.add_mul]
  have hold : (Builtin.firstCells i.size k (.slice (some ⟨g, 0, none⟩) k k)).run P W.drew = .ok xs.toArray W.drew := by
    have := run_loadCells_block (P := P) (W := W.drew) (b := g) (T := T) (cs := cur) hg 0 (k * i.size) (by omega)
    simp only [List.drop_zero, htk] at this
    simpa [Builtin.firstCells] using this
  have hr := run_append_grow_src (P := P) W t tx ty E i z ht hi hz (some ⟨g, 0, none⟩) k k xs hold x m news hs (by omega) (by omega) (growslice_fits (by omega) hb)
  have hge := grownCap_ge W (k + m) k E
  have hcm : grownCap W (k + m) k E ≤ maxLen := grownCap_le_maxLen W (k + m) k E (by unfold maxLen; omega)
  refine ⟨_, _, _, hr, ⟨hlen, .inr ⟨W.heap.size, _, ((xs ++ news).toArray ++ Builtin.zeroCells z.cells (grownCap W (k + m) k E - (k + m))).toList, rfl, ⟨Nat.le_refl _, lt_of_block (heap_alloc_new W.drew _)⟩, heap_alloc_new W.drew _, hge, hcm, ?_, ?_⟩⟩, rfl, rfl, rfl, by simp, fun b hb => heap_alloc_old W.drew _ hb⟩
  · simp only [Array.toList_append, List.length_append, Array.length_toList, size_zeroCells, hzs]
    rw [← List.length_append, hlen, ← Nat.add_mul]
    congr 1
    omega
  · simp only [Array.toList_append]
    rw [← hlen]
    exact List.take_left
end
section
variable {P : Program} {ops : Array Oper} {rest : List Oper} {Q : Exit → Act → World → Prop} {a : Act} {n G : Nat} {L : List (Nat × Value)} {w W : World} {R : List Res} {d : Nat} {T S S' E E' : TypeId} {p : String} {e : Array Edge} {x y hi mx : Operand} {v u : Value} {cur xs news : List Value} {g k m len cap size bytes : Nat} {q q' : IntKind} {z : List Value}
theorem st_slice3 {agg : Bool} [sl : Sl P S E] [t : Ty P E agg z] (hs : Slots a n L) (hk : k ≤ cap) (hx : ev L x = some (.slice (some ⟨g, 0, none⟩) len cap) := by with_unfolding_all exact rfl) (hh : ev L hi = some (.int q (k : Int)) := by with_unfolding_all exact rfl) (hm : ev L mx = some (.int q' (k : Int)) := by with_unfolding_all exact rfl) (hd : Nat.blt d n = true := by with_unfolding_all exact rfl)
    (c : ∀ a', Slots a' n ((d, .slice (some ⟨g, 0, none⟩) k k) :: L) → wpList P ops Q rest a' W) : wpList P ops Q (⟨some d, .slice S x none (some hi) (some mx), T, p, e, none⟩ :: rest) a W := by
  have hb : ∀ (y : Nat) (c : BoundsCode) (q : IntKind), k ≤ y → (Instr.sliceBound (.int q (k : Int)) y c).run P W = .ok k W := by
    intro y c q hy
    have : (0 : Int) ≤ (k : Int) ∧ (k : Int) ≤ (y : Int) := ⟨by omega, by omega⟩
    simp only [Instr.sliceBound, asIntOf, Sem.run_bind, Sem.run_pure, Result.andThen_ok]
    rw [if_pos this]
    simp
  have hbs : (Instr.sliceBounds true len cap none (some (.int q (k : Int))) (some (.int q' (k : Int)))).run P W = .ok (0, k, k) W := by
    unfold Instr.sliceBounds
    simp [hb cap .slice3Acap q' hk, hb k .slice3B q (Nat.le_refl _)]
  refine st_value hs hd (v := .slice (some ⟨g, 0, none⟩) k k) (W' := W) ?_ c
  simp only [execOp, Option.map_some, Option.map_none, hs.ev hx, hs.ev hh, hs.ev hm, Instr.sliceAt, Instr.slice, Sem.run_bind, run_underlying sl.out, Result.andThen_ok, hbs, t.sizeOf, Sem.run_pure]
  by_cases h0 : k = 0
  · subst h0; simp
  · rw [if_neg h0]; simp [addr_add]
/-- Nothing is appended. -/
theorem st_append_none [sl : Sl P S E] [el : El P E size bytes] (hs : Slots a n L) (hsrc : Src P size S' u 0 [] W) (hx : ev L x = some (.slice (some ⟨g, 0, none⟩) k k) := by with_unfolding_all exact rfl) (hy : ev L y = some u := by with_unfolding_all exact rfl) (hd : Nat.blt d n = true := by with_unfolding_all exact rfl)
    (c : ∀ a', Slots a' n ((d, .slice (some ⟨g, 0, none⟩) k k) :: L) → wpList P ops Q rest a' W) : wpList P ops Q (⟨some d, .call { callee := .builtin .append, args := #[x, y], argTypes := #[S, S'] }, T, p, e, none⟩ :: rest) a W := by
  obtain ⟨i, z, h1, h2, h3, h4, h5⟩ := el.out
  subst h4 h5
  have hr : (Builtin.append_ #[S, S'] T #[.slice (some ⟨g, 0, none⟩) k k, u]).run P W = .ok (.slice (some ⟨g, 0, none⟩) k k) W := by
    rcases hsrc.kind with ⟨e', hk⟩ | hk <;> simp [Builtin.append_, run_underlying sl.out, run_underlying hk, sizeOf, typeInfo, h1, hsrc.len, hsrc.cells, storeCells]
  refine st_value hs hd (v := .slice (some ⟨g, 0, none⟩) k k) (W' := W) ?_ c
  simp only [execOp, resolve, invoke, builtin, Sem.run_bind, Sem.run_pure, Result.andThen_ok, List.map_toArray, List.map_cons, List.map_nil, hs.ev hx, hs.ev hy, hr]
theorem st_append_full [sl : Sl P S E] [el : El P E size bytes] (hs : Slots a n L) (hw : Has G w W R) (hg : W.heap[g]? = some (.cells ⟨cur⟩ E' (0, 0))) (hk : k * size ≤ cur.length) (htk : cur.take (k * size) = xs) (hsrc : Src P size S' u m news W) (hm : 0 < m) (h63 : k + m ≤ 9223372036854775807) (hb : (k + m) * bytes ≤ 140737488355328) (hx : ev L x = some (.slice (some ⟨g, 0, none⟩) k k) := by with_unfolding_all exact rfl) (hy : ev L y = some u := by with_unfolding_all exact rfl) (hd : Nat.blt d n = true := by with_unfolding_all exact rfl)
    (c : ∀ a' ad cap W', Slots a' n ((d, .slice ad (k + m) cap) :: L) → Has G w W' (Own E size (.slice ad (k + m) cap) (k + m) (xs ++ news) :: R) → wpList P ops Q rest a' W') : wpList P ops Q (⟨some d, .call { callee := .builtin .append, args := #[x, y], argTypes := #[S, S'] }, T, p, e, none⟩ :: rest) a W := by
  obtain ⟨i, z, h1, h2, h3, h4, h5⟩ := el.out
  subst h4 h5
  obtain ⟨ad, cap, W', hr, ho, hbl⟩ := run_append_full (P := P) (ty := T) sl.out h1 h2 h3 hg hk htk hsrc hm h63 hb
  refine st_value hs hd (v := .slice ad (k + m) cap) (W' := W') ?_ fun a' hs' => c a' ad cap W' hs' (hw.newOwn hbl ho)
  simp only [execOp, resolve, invoke, builtin, Sem.run_bind, Sem.run_pure, Result.andThen_ok, List.map_toArray, List.map_cons, List.map_nil, hs.ev hx, hs.ev hy, hr]
end
section
variable {P : Program} {ops : Array Oper} {rest : List Oper} {Q : Exit → Act → World → Prop} {a : Act} {n G : Nat} {L : List (Nat × Value)} {w W : World} {R : List Res} {d : Nat} {T S E : TypeId} {p : String} {e : Array Edge} {x lo : Operand} {g k m cap size : Nat} {q : IntKind} {z cur : List Value} {H : Fh}
/-- The end of a slice of a block's own. -/
def tailV (g size k cap m : Nat) : Value := .slice (if cap = m then some ⟨g, 0, none⟩ else some ⟨g, m * size, none⟩) (k - m) (cap - m)
theorem st_slice_lo_at {agg : Bool} [sl : Sl P S E] [t : Ty P E agg z] (hs : Slots a n L) (h1 : m ≤ k) (hc : k ≤ cap) (hx : ev L x = some (.slice (some ⟨g, 0, none⟩) k cap) := by with_unfolding_all exact rfl) (hl : ev L lo = some (.int q (m : Int)) := by with_unfolding_all exact rfl) (hd : Nat.blt d n = true := by with_unfolding_all exact rfl)
    (c : ∀ a', Slots a' n ((d, tailV g z.length k cap m) :: L) → wpList P ops Q rest a' W) : wpList P ops Q (⟨some d, .slice S x (some lo) none none, T, p, e, none⟩ :: rest) a W := by
  have hb : (Instr.sliceBound (.int q (m : Int)) k .sliceB).run P W = .ok m W := by
    have : (0 : Int) ≤ (m : Int) ∧ (m : Int) ≤ (k : Int) := ⟨by omega, by omega⟩
    simp only [Instr.sliceBound, asIntOf, Sem.run_bind, Sem.run_pure, Result.andThen_ok]
    rw [if_pos this]
    simp
  have hbs : (Instr.sliceBounds true k cap (some (.int q (m : Int))) none none).run P W = .ok (m, k, cap) W := by
    unfold Instr.sliceBounds
    simp [hb]
  refine st_value hs hd (v := tailV g z.length k cap m) (W' := W) ?_ c
  simp only [execOp, Option.map_some, Option.map_none, hs.ev hx, hs.ev hl, Instr.sliceAt, Instr.slice, Sem.run_bind, run_underlying sl.out, Result.andThen_ok, hbs, t.sizeOf, Sem.run_pure]
  unfold tailV
  by_cases h0 : cap = m
  · simp [h0]
  · rw [if_neg h0, if_neg h0]; simp [addr_add]
theorem rd_tail (hg : W.heap[g]? = some (.cells ⟨cur⟩ E (0, 0))) (hl : cur.length = cap * size) (hc : k ≤ cap) (h1 : m ≤ k) (hm : cap ≤ maxLen) : Rd W size (tailV g size k cap m) (k - m) ((cur.take (k * size)).drop (m * size)) := by
  have e1 : k * size ≤ cap * size := Nat.mul_le_mul_right _ hc
  have e2 : m * size ≤ k * size := Nat.mul_le_mul_right _ h1
  unfold tailV
  refine ⟨by rw [List.length_drop, List.length_take, Nat.sub_mul]; omega, _, _, rfl, by omega, by unfold maxLen at hm; omega, ?_⟩
  by_cases h0 : cap = m
  · exact .inl (by omega)
  · refine .inr ⟨g, m * size, by rw [if_neg h0], lt_of_block hg, fun j u hu => ?_⟩
    rw [List.getElem?_drop, List.getElem?_take] at hu
    split at hu
    · rw [cell_block hg]; exact hu
    · cases hu
/-- A block is frozen. -/
theorem Has.freeze_cells (h : Has G w W (Cells g cur E :: Fz H :: R)) : ∃ H', H.le H' ∧ Has G w W (Fz H' :: R) ∧ H' g = some (.cells ⟨cur⟩ E (0, 0)) := by
  obtain ⟨H', h1, h2, F, ⟨hF, hg⟩, h4⟩ := h.freeze (R' := [])
  exact ⟨H', h1, h2, h4 g _ hF hg⟩
theorem rdH_head (hg : H g = some (.cells ⟨cur⟩ E (0, 0))) (hk : k * size ≤ cur.length) (h63 : k ≤ 9223372036854775807) : RdH H size (.slice (some ⟨g, 0, none⟩) k k) k (cur.take (k * size)) := by
  refine ⟨by rw [List.length_take]; omega, _, _, rfl, Nat.le_refl _, h63, .inr ⟨g, 0, _, _, _, rfl, hg, fun j u hu => ?_⟩⟩
  rw [List.getElem?_take] at hu
  split at hu
  · simpa using hu
  · cases hu
end
end Go.Sx

/-
  Documents: the walks of the keys in order (maps.Keys, slices.Collect, slices.SortFunc).
-/
set_option linter.unusedVariables false
set_option maxRecDepth 10000
namespace Go.Proofs.YthpenehgfogloaaDoor.Sw
open Go.RowKit Go.Sx Go.Sort Go.Proofs Go.Maps

theorem maps_Keys (w0 W : World) (m : Nat) (R : List Res) (hw : Has 0 w0 W R) :
    Calls Tryd.prog 35 ⟨[.map (some m)]⟩ W fun e W' => ∃ q, e = .returned (.func (.func 68) #[] #[.pointer (some ⟨q, 0, none⟩)]) ∧ Has 0 w0 W' (Cells q [.map (some m)] (Tryd.keysD_ren.t 23) :: R) :=
  (callsIn_wide.1 (AnyZ.keys_in Tryd.keysD Fence.wide 5 trivial rfl (some m) W)).mono (by
    rintro e W' ⟨rfl, rfl⟩
    exact ⟨_, rfl, hw.new [.map (some m)] _⟩)

theorem keys_collect (w0 W : World) (q m : Nat) (d : Dm) (R : List Res) (hd : DocOk d) (hw : Has 0 w0 W (Cells q [.map (some m)] (Tryd.keysD_ren.t 23) :: MapOf m (kvOf d) :: R)) :
    Calls Tryd.prog 66 ⟨[.func (.func 68) #[] #[.pointer (some ⟨q, 0, none⟩)]]⟩ W fun e W' => ∃ (sv : Value) (ks : List ByteArray), e = .returned sv ∧ ks.Perm (d.map (·.1)) ∧
      Has 0 w0 W' (Own 9 1 sv ks.length (ks.map Value.string) :: Cells q [.map (some m)] (Tryd.keysD_ren.t 23) :: MapOf m (kvOf d) :: R) := by
  obtain ⟨es, c, hm, he⟩ := hw.map_at (In.tl In.hd)
  have hk : es.map (·.k) = d.map (·.1) := by
    have := congrArg (List.map (·.1)) he
    rw [kvOf_keys] at this
    rw [← this, List.map_map]
    rfl
  have hlen : es.length = d.length := by simpa using congrArg List.length hk
  have hl := hd.len
  have hsz : ∀ e ∈ es, e.k.size ≤ maxLen := by
    intro e he'
    have h1 : e.k ∈ d.map (·.1) := hk ▸ List.mem_map_of_mem he'
    obtain ⟨p, hp, hpe⟩ := List.mem_map.1 h1
    have h2 := (hd.all p hp).key
    rw [hpe] at h2
    exact Nat.le_trans h2 (by decide)
  obtain ⟨D0, ho, hp, hs⟩ := map_owns (P := Tryd.prog) (K := Tryd.keysD_ren.t 26) (by kernel_rfl) hm (by rw [hk]; exact hd.keys) hsz (Nat.le_trans (by omega : es.length ≤ 50) (by decide))
  have hq := hw.block In.hd
  have hseq : SeqGives Fence.wide 3 Tryd.prog (Tryd.keysD_ren.f 10) #[.pointer (some ⟨q, 0, none⟩)] encStr (fun ss => ss.Perm (strKeys D0)) (Maps.size D0) W :=
    AnyZ.keys_gives (ρ := Tryd.keysD_ren) { Tryd.keysD with } Fence.wide _ trivial rfl (by omega) q m es.length D0 W hq.2.2 (by rw [cell_block hq.1]; rfl) ho
  refine (callsIn_wide.1 (AnyZ.collect_in Tryd.collD Fence.wide 5 trivial trivial rfl (by omega) (Tryd.keysD_ren.f 10) #[.pointer (some ⟨q, 0, none⟩)] trivial (enters_of Tryd.func68 (by kernel_rfl) rfl) _ _ (by rw [hs]; exact Nat.le_trans (by omega : es.length ≤ 50) (by decide)) (by rw [hs]; omega) W hseq)).mono ?_
  rintro e W' ⟨v, ss, rfl, hS, hrow, hnil, hb⟩
  have hks : (ss.map fun s => (⟨s.toArray⟩ : ByteArray)).map Value.string = ss.map encStr := by rw [List.map_map]; rfl
  refine ⟨v, ss.map fun s => (⟨s.toArray⟩ : ByteArray), rfl, ?_, ?_⟩
  · refine ((hS.trans hp).map _).trans (List.Perm.of_eq ?_)
    rw [List.map_map, ← hk]
    refine List.map_congr_left fun e _ => ?_
    show (⟨e.k.data.toList.toArray⟩ : ByteArray) = e.k
    simp
  · rw [hks, List.length_map]
    refine hw.newOwn hb ?_
    obtain ⟨h1, h2⟩ := hrow
    refine ⟨h1, h2.imp id ?_⟩
    rintro ⟨g, cap, cur, h3, h4, h5, h6, h7, h8, h9⟩
    exact ⟨g, cap, cur.toList, h3, ⟨h4, (Array.getElem?_eq_some_iff.1 h5).1⟩, h5, h6, h7, by simpa using h8, h9⟩

set_option maxHeartbeats 8000000 in
theorem sorted_keys (w0 W : World) (q m : Nat) (d : Dm) (R : List Res) (hd : DocOk d) (hw : Has 0 w0 W (Cells q [.map (some m)] (Tryd.keysD_ren.t 23) :: MapOf m (kvOf d) :: R)) :
    Calls Tryd.prog 34 ⟨[.func (.func 68) #[] #[.pointer (some ⟨q, 0, none⟩)], .func (.func 36) #[] #[]]⟩ W fun e W' => ∃ (sv : Value) (ks : List ByteArray), e = .returned sv ∧ ks.Perm (d.map (·.1)) ∧ ks.Pairwise (fun a b => lessK b a = false) ∧
      Has 0 w0 W' (Own 9 1 sv ks.length (ks.map Value.string) :: Cells q [.map (some m)] (Tryd.keysD_ren.t 23) :: MapOf m (kvOf d) :: R) := by
  refine enter Tryd.func34 Tryd.ntmps34 rfl rfl fun a hs => ?_
  repeat (first | (refine sxv hs hw ?_; clear hs; intro a hs) | refine sxc hs ?_ | (refine sxa hs hw ?_; clear hs hw; intro a b W hw hs) | (refine sxs hs hw ?_; clear hs hw; intro W hs hw) | ((with_reducible first | refine st_ptrSome hs (k := ?_) | refine st_ptrNone hs (k := ?_)); clear hs; intro a hs))
  refine st_call hs (hc := keys_collect w0 _ q m d _ hd hw) (k := ?_); rintro e0 W1 ⟨sv, ks, rfl, hp, hw1⟩; refine ⟨_, rfl, ?_⟩; clear hs hw; intro a hs; have hw := hw1; clear hw1
  repeat (first | (refine sxv hs hw ?_; clear hs; intro a hs) | refine sxc hs ?_ | (refine sxa hs hw ?_; clear hs hw; intro a b W hw hs) | (refine sxs hs hw ?_; clear hs hw; intro W hs hw) | ((with_reducible first | refine st_ptrSome hs (k := ?_) | refine st_ptrNone hs (k := ?_)); clear hs; intro a hs))
  have hlen : ks.length = d.length := by simpa using hp.length_eq
  have hl := hd.len
  refine st_call hs (hc := sort_keys w0 _ sv ks _ (fun k hk => ?hk) (by omega) hw) (k := ?_)
  case hk =>
    obtain ⟨p, hp', rfl⟩ := List.mem_map.1 (hp.mem_iff.1 hk)
    exact (hd.all p hp').key
  rintro e0 W1 ⟨rfl, ks', hp2, hsr, hw1⟩; refine ⟨_, rfl, ?_⟩; clear hs hw; intro a hs; have hw := hw1; clear hw1
  repeat (first | (refine sxv hs hw ?_; clear hs; intro a hs) | refine sxc hs ?_ | (refine sxa hs hw ?_; clear hs hw; intro a b W hw hs) | (refine sxs hs hw ?_; clear hs hw; intro W hs hw) | ((with_reducible first | refine st_ptrSome hs (k := ?_) | refine st_ptrNone hs (k := ?_)); clear hs; intro a hs))
  exact rt1 hs rfl rfl ⟨_, ks', rfl, hp2.trans hp, hsr, hw⟩

set_option maxHeartbeats 8000000 in
theorem doc_Keys (w0 W : World) (p : Nat) (d : Dm) (R : List Res) (hd : DocFine d) (hw : Has 0 w0 W (DocAt p d :: R)) :
    Calls Tryd.prog 16 ⟨[.pointer (some ⟨p, 0, none⟩)]⟩ W fun e W' => ∃ sv, e = .returned sv ∧ Has 0 w0 W' (Own 9 1 sv d.length (d.map fun x => Value.string x.1) :: DocAt p d :: R) := by
  obtain ⟨m, d', hp, hk, hw⟩ := docOpen hw
  have hd' : DocOk d' := ⟨(dKeys_perm hp).2 hk, by rw [hp.length_eq]; exact hd.ok.len, fun x hx => hd.ok.all x (hp.mem_iff.1 hx)⟩
  refine enter Tryd.func16 Tryd.ntmps16 rfl rfl fun a hs => ?_
  repeat (first | (refine sxv hs hw ?_; clear hs; intro a hs) | refine sxc hs ?_ | (refine sxa hs hw ?_; clear hs hw; intro a b W hw hs) | (refine sxs hs hw ?_; clear hs hw; intro W hs hw) | ((with_reducible first | refine st_ptrSome hs (k := ?_) | refine st_ptrNone hs (k := ?_)); clear hs; intro a hs))
  refine st_call hs (hc := maps_Keys w0 _ m _ hw) (k := ?_); rintro e0 W1 ⟨q, rfl, hw1⟩; refine ⟨_, rfl, ?_⟩; clear hs hw; intro a hs
  have hw : Has 0 w0 W1 (Cells q [.map (some m)] (Tryd.keysD_ren.t 23) :: MapOf m (kvOf d') :: Cells p [.map (some m)] 79 :: R) := hw1.perm (by repeat (first | exact List.Perm.refl _ | refine perm_pick (by repeat (first | exact Pick.hd | apply Pick.tl)) ?_))
  clear hw1
  repeat (first | (refine sxv hs hw ?_; clear hs; intro a hs) | refine sxc hs ?_ | (refine sxa hs hw ?_; clear hs hw; intro a b W hw hs) | (refine sxs hs hw ?_; clear hs hw; intro W hs hw) | ((with_reducible first | refine st_ptrSome hs (k := ?_) | refine st_ptrNone hs (k := ?_)); clear hs; intro a hs))
  refine st_call hs (hc := sorted_keys w0 _ q m d' _ hd' hw) (k := ?_); rintro e0 W2 ⟨sv, ks, rfl, hpk, hsr, hw1⟩; refine ⟨_, rfl, ?_⟩; clear hs hw; intro a hs; have hw := hw1; clear hw1
  have hpd : ks.Perm (d.map (·.1)) := hpk.trans (hp.map _)
  have hks : ks = d.map (·.1) := srt_unique hpd (srt_of_not (hpd.nodup_iff.2 hk) hsr) hd.srt.keys
  subst hks
  repeat (first | (refine sxv hs hw ?_; clear hs; intro a hs) | refine sxc hs ?_ | (refine sxa hs hw ?_; clear hs hw; intro a b W hw hs) | (refine sxs hs hw ?_; clear hs hw; intro W hs hw) | ((with_reducible first | refine st_ptrSome hs (k := ?_) | refine st_ptrNone hs (k := ?_)); clear hs; intro a hs))
  refine rt1 hs rfl rfl ⟨sv, rfl, ?_⟩
  have hw : Has 0 w0 W2 (Cells p [.map (some m)] 79 :: MapOf m (kvOf d') :: Own 9 1 sv (d.map (·.1)).length ((d.map (·.1)).map Value.string) :: R) := (hw.sub (List.Sublist.cons_cons _ (List.Sublist.cons _ (List.Sublist.refl _)))).perm (by repeat (first | exact List.Perm.refl _ | refine perm_pick (by repeat (first | exact Pick.hd | apply Pick.tl)) ?_))
  have hw := (docShut hw hp hk).perm (List.Perm.swap _ _ _)
  rwa [List.length_map, List.map_map] at hw

set_option maxHeartbeats 4000000 in
theorem doc_Keys0 (W : World) : Calls Tryd.prog 16 ⟨[.pointer none]⟩ W fun e W' => e = .returned (.slice none 0 0) ∧ Below W.heap.size W W' := by
  have hw := Has.start (G := 0) (w := W) (Nat.zero_le _)
  refine enter Tryd.func16 Tryd.ntmps16 rfl rfl fun a hs => ?_
  repeat (first | (refine sxv hs hw ?_; clear hs; intro a hs) | refine sxc hs ?_ | (refine sxa hs hw ?_; clear hs hw; intro a b W hw hs) | (refine sxs hs hw ?_; clear hs hw; intro W hs hw) | ((with_reducible first | refine st_ptrSome hs (k := ?_) | refine st_ptrNone hs (k := ?_)); clear hs; intro a hs))
  exact rt1 hs rfl rfl ⟨rfl, hw.end (by repeat (first | exact In.hd | apply In.tl))⟩

end Go.Proofs.YthpenehgfogloaaDoor.Sw

/-
  The walk of the reference's MayOp; it answers as op.May.
-/
set_option linter.unusedVariables false
set_option maxRecDepth 10000
namespace Go.Proofs.YthpenehgfogloaaDoor.Sw
open Go.RowKit Go.Sx

-- pieces

theorem raw_zero_may {k n : Int} {s : ByteArray} (h : rawEq k n s 0 0 ⟨#[]⟩ = true) : ((ofRaw k n s).2 == 0) = true := by
  simp only [rawEq, Bool.and_eq_true, beq_iff_eq] at h
  obtain ⟨⟨rfl, rfl⟩, h3⟩ := h
  have hz : s.size = 0 := by
    have := congrArg List.length h3
    rw [toList_size, toList_size] at this
    exact this
  unfold ofRaw; rw [if_pos ⟨rfl, rfl, hz⟩]; rfl

theorem may_zero {k n : Int} {s : ByteArray} (h : ((ofRaw k n s).2 == 0) = true) : rawEq k n s 0 0 ⟨#[]⟩ = !(k != 0) := by
  by_cases hk : k = 0
  · subst hk
    unfold ofRaw at h
    split at h
    · rename_i c
      have e := empty_eq s c.2.2
      rw [c.2.1]; unfold rawEq; rw [e]; rfl
    · split at h
      · rename_i c; omega
      · split at h
        · rename_i c; omega
        · simp at h
  · have : (k == 0) = false := by simpa using hk
    simp [rawEq, this, hk]

def refMayOp (kind : Int) (key : ByteArray) (vk vn : Int) (vs : ByteArray) (ok on : Int) (os : ByteArray) (n : Int) : Bool :=
  Ph.keyB key.data.toList &&
    (if kind = 1 then (vk != 0) && ((ofRaw vk vn vs).2 == 0) && rawEq ok on os 0 0 ⟨#[]⟩ && (n == 0)
     else if kind = 2 then rawEq vk vn vs 0 0 ⟨#[]⟩ && rawEq ok on os 0 0 ⟨#[]⟩ && (n == 0)
     else if kind = 3 then ((ofRaw vk vn vs).2 == 0) && ((ofRaw ok on os).2 == 0) && ((vk != 0) || (ok != 0)) && (n == 0)
     else if kind = 4 then rawEq vk vn vs 0 0 ⟨#[]⟩ && rawEq ok on os 0 0 ⟨#[]⟩ && decide (n ≥ -1099511627776) && decide (n ≤ 1099511627776)
     else false)

theorem mayOp_eq (kind : Int) (key : ByteArray) (vk vn : Int) (vs : ByteArray) (ok on : Int) (os : ByteArray) (n : Int) : refMayOp kind key vk vn vs ok on os n = mayOp kind key vk vn vs ok on os n := by
  have a1 := @raw_zero_may vk vn vs
  have a2 := @may_zero vk vn vs
  have b1 := @raw_zero_may ok on os
  have b2 := @may_zero ok on os
  unfold refMayOp mayOp
  generalize rawEq vk vn vs 0 0 ⟨#[]⟩ = zv at *
  generalize rawEq ok on os 0 0 ⟨#[]⟩ = zo at *
  generalize ((ofRaw vk vn vs).2 == 0) = mv at *
  generalize ((ofRaw ok on os).2 == 0) = mo at *
  generalize (vk != 0) = kv at *
  generalize (ok != 0) = ko at *
  generalize Ph.keyB key.data.toList = kb at *
  generalize (n == 0) = n0 at *
  generalize decide (n ≥ -1099511627776) = n1 at *
  generalize decide (n ≤ 1099511627776) = n2 at *
  by_cases k1 : kind = 1
  · simp only [if_pos k1]
    revert a1 a2 b1 b2; revert zv zo mv mo kv ko kb n0; decide
  by_cases k2 : kind = 2
  · simp only [if_neg k1, if_pos k2]
    revert a1 a2 b1 b2; revert zv zo mv mo kv ko kb n0; decide
  by_cases k3 : kind = 3
  · simp only [if_neg k1, if_neg k2, if_pos k3]
    revert a1 a2 b1 b2; revert zv zo mv mo kv ko kb n0; decide
  by_cases k4 : kind = 4
  · simp only [if_neg k1, if_neg k2, if_neg k3, if_pos k4]
    clear n0
    generalize (n1 && n2) = q
    cases zv <;> cases zo <;> cases mv <;> cases mo <;> cases kb <;> cases n1 <;> cases n2 <;> simp_all
  simp only [if_neg k1, if_neg k2, if_neg k3, if_neg k4]
  simp

theorem ref_EqS (k n : Int) (s : ByteArray) (k' n' : Int) (s' : ByteArray) (w : World) :
    Calls Tryd.prog 50 ⟨[.agg #[.int .i64 k, .int .i64 n, .string s], .agg #[.int .i64 k', .int .i64 n', .string s']]⟩ w fun e w' => e = .returned (.bool (rawEq k n s k' n' s')) ∧ Below w.heap.size w w' := by
  have hw := Has.start (G := 0) (w := w) (Nat.zero_le _)
  refine enter Tryd.func50 Tryd.ntmps50 rfl rfl fun a hs => ?_
  repeat (first | (refine sxv hs hw ?_; clear hs; intro a hs) | refine sxc hs ?_ | (refine sxa hs hw ?_; clear hs hw; intro a b W hw hs) | (refine sxs hs hw ?_; clear hs hw; intro W hs hw))
  cases h1 : (k == k') with
  | false =>
    rw [h1] at hs
    repeat (first | (refine sxv hs hw ?_; clear hs; intro a hs) | refine sxc hs ?_ | (refine sxa hs hw ?_; clear hs hw; intro a b W hw hs) | (refine sxs hs hw ?_; clear hs hw; intro W hs hw))
    exact rt1 hs rfl rfl ⟨by simp [rawEq, h1], hw.end (by repeat (first | exact In.hd | apply In.tl))⟩
  | true =>
    rw [h1] at hs
    repeat (first | (refine sxv hs hw ?_; clear hs; intro a hs) | refine sxc hs ?_ | (refine sxa hs hw ?_; clear hs hw; intro a b W hw hs) | (refine sxs hs hw ?_; clear hs hw; intro W hs hw))
    cases h2 : (n == n') with
    | false =>
      rw [h2] at hs
      repeat (first | (refine sxv hs hw ?_; clear hs; intro a hs) | refine sxc hs ?_ | (refine sxa hs hw ?_; clear hs hw; intro a b W hw hs) | (refine sxs hs hw ?_; clear hs hw; intro W hs hw))
      exact rt1 hs rfl rfl ⟨by simp [rawEq, h2], hw.end (by repeat (first | exact In.hd | apply In.tl))⟩
    | true =>
      rw [h2] at hs
      repeat (first | (refine sxv hs hw ?_; clear hs; intro a hs) | refine sxc hs ?_ | (refine sxa hs hw ?_; clear hs hw; intro a b W hw hs) | (refine sxs hs hw ?_; clear hs hw; intro W hs hw))
      exact rt1 hs rfl rfl ⟨by simp [rawEq, h1, h2], hw.end (by repeat (first | exact In.hd | apply In.tl))⟩

set_option maxHeartbeats 8000000 in
theorem ref_MayOp0 (kind : Int) (key : ByteArray) (vk vn : Int) (vs : ByteArray) (ok on : Int) (os : ByteArray) (n : Int) (w : World) (hs0 : key.size ≤ 1000000) (hs1 : vs.size ≤ 1000000) (hs2 : os.size ≤ 1000000) :
    Calls Tryd.prog 48 ⟨[.agg #[.int .i64 kind, .string key, .int .i64 vk, .int .i64 vn, .string vs, .int .i64 ok, .int .i64 on, .string os, .int .i64 n]]⟩ w fun e w' => e = .returned (.bool (refMayOp kind key vk vn vs ok on os n)) ∧ Below w.heap.size w w' := by
  have hw := Has.start (G := 0) (w := w) (Nat.zero_le _)
  refine enter Tryd.func48 Tryd.ntmps48 rfl rfl fun a hs => ?_
  repeat (first | (refine sxv hs hw ?_; clear hs; intro a hs) | refine sxc hs ?_ | (refine sxa hs hw ?_; clear hs hw; intro a b W hw hs) | (refine sxs hs hw ?_; clear hs hw; intro W hs hw))
  refine st_call hs (hc := ref_Key key _ hs0) (k := ?_); rintro e0 W1 ⟨rfl, hb⟩; refine ⟨_, rfl, ?_⟩; clear hs; intro a hs; replace hw := hw.below hb; clear hb
  cases h1 : (Ph.keyB key.data.toList) with
  | false =>
    rw [h1] at hs
    repeat (first | (refine sxv hs hw ?_; clear hs; intro a hs) | refine sxc hs ?_ | (refine sxa hs hw ?_; clear hs hw; intro a b W hw hs) | (refine sxs hs hw ?_; clear hs hw; intro W hs hw))
    exact rt1 hs rfl rfl ⟨by simp [refMayOp, h1], hw.end (by repeat (first | exact In.hd | apply In.tl))⟩
  | true =>
    rw [h1] at hs
    repeat (first | (refine sxv hs hw ?_; clear hs; intro a hs) | refine sxc hs ?_ | (refine sxa hs hw ?_; clear hs hw; intro a b W hw hs) | (refine sxs hs hw ?_; clear hs hw; intro W hs hw))
    obtain ⟨b1, q1⟩ := nm1 hw; subst q1
    have hw : Has 0 w _ [Cells b1 [.int .i64 kind, .string key, .int .i64 vk, .int .i64 vn, .string vs, .int .i64 ok, .int .i64 on, .string os, .int .i64 n] 47, Old w 0] := hw
    refine rg_draw (V := [.pointer (some ⟨b1, 0 + 2, none⟩), .pointer (some ⟨b1, 0 + 2 + 0, none⟩), .int .i64 vk, .pointer (some ⟨b1, 0 + 5, none⟩), .pointer (some ⟨b1, 0 + 5 + 0, none⟩), .int .i64 ok, .int .i64 vk, .int .i64 ok])
      (Rs := fun _ => [Cells b1 [.int .i64 kind, .string key, .int .i64 vk, .int .i64 vn, .string vs, .int .i64 ok, .int .i64 on, .string os, .int .i64 n] 47, Old w 0]) hs hw (ho := ⟨?_, ?_, ?_, ?_, ?_, ?_, ?_, ?_, trivial⟩) (k := ?k_a)
    case k_a =>
      clear hs hw
      intro a W hs hw
      repeat (first | (refine sxv hs hw ?_; clear hs; intro a hs) | refine sxc hs ?_ | (refine sxa hs hw ?_; clear hs hw; intro a b W hw hs) | (refine sxs hs hw ?_; clear hs hw; intro W hs hw))
      by_cases k1 : kind = 1
      · subst k1
        repeat (first | (refine sxv hs hw ?_; clear hs; intro a hs) | refine sxc hs ?_ | (refine sxa hs hw ?_; clear hs hw; intro a b W hw hs) | (refine sxs hs hw ?_; clear hs hw; intro W hs hw))
        cases h6 : (vk != 0) with
        | false =>
          rw [h6] at hs
          repeat (first | (refine sxv hs hw ?_; clear hs; intro a hs) | refine sxc hs ?_ | (refine sxa hs hw ?_; clear hs hw; intro a b W hw hs) | (refine sxs hs hw ?_; clear hs hw; intro W hs hw))
          exact rt1 hs rfl rfl ⟨by simp [refMayOp, h1, h6], hw.end (by repeat (first | exact In.hd | apply In.tl))⟩
        | true =>
          rw [h6] at hs
          repeat (first | (refine sxv hs hw ?_; clear hs; intro a hs) | refine sxc hs ?_ | (refine sxa hs hw ?_; clear hs hw; intro a b W hw hs) | (refine sxs hs hw ?_; clear hs hw; intro W hs hw))
          refine st_call hs (hc := ref_May vk vn vs _ hs1) (k := ?_); rintro e0 W1 ⟨rfl, hb⟩; refine ⟨_, rfl, ?_⟩; clear hs; intro a hs; replace hw := hw.below hb; clear hb
          cases h2 : ((ofRaw vk vn vs).2 == 0) with
          | false =>
            rw [h2] at hs
            repeat (first | (refine sxv hs hw ?_; clear hs; intro a hs) | refine sxc hs ?_ | (refine sxa hs hw ?_; clear hs hw; intro a b W hw hs) | (refine sxs hs hw ?_; clear hs hw; intro W hs hw))
            exact rt1 hs rfl rfl ⟨by simp [refMayOp, h1, h6, h2], hw.end (by repeat (first | exact In.hd | apply In.tl))⟩
          | true =>
            rw [h2] at hs
            repeat (first | (refine sxv hs hw ?_; clear hs; intro a hs) | refine sxc hs ?_ | (refine sxa hs hw ?_; clear hs hw; intro a b W hw hs) | (refine sxs hs hw ?_; clear hs hw; intro W hs hw))
            refine st_call hs (hc := ref_EqS ok on os 0 0 ⟨#[]⟩ _) (k := ?_); rintro e0 W1 ⟨rfl, hb⟩; refine ⟨_, rfl, ?_⟩; clear hs; intro a hs; replace hw := hw.below hb; clear hb
            cases h5 : (rawEq ok on os 0 0 ⟨#[]⟩) with
            | false =>
              rw [h5] at hs
              repeat (first | (refine sxv hs hw ?_; clear hs; intro a hs) | refine sxc hs ?_ | (refine sxa hs hw ?_; clear hs hw; intro a b W hw hs) | (refine sxs hs hw ?_; clear hs hw; intro W hs hw))
              exact rt1 hs rfl rfl ⟨by simp [refMayOp, h1, h6, h2, h5], hw.end (by repeat (first | exact In.hd | apply In.tl))⟩
            | true =>
              rw [h5] at hs
              repeat (first | (refine sxv hs hw ?_; clear hs; intro a hs) | refine sxc hs ?_ | (refine sxa hs hw ?_; clear hs hw; intro a b W hw hs) | (refine sxs hs hw ?_; clear hs hw; intro W hs hw))
              exact rt1 hs rfl rfl ⟨by simp [refMayOp, h1, h6, h2, h5], hw.end (by repeat (first | exact In.hd | apply In.tl))⟩
      have e1 : (kind == 1) = false := by simpa using k1
      rw [e1] at hs
      repeat (first | (refine sxv hs hw ?_; clear hs; intro a hs) | refine sxc hs ?_ | (refine sxa hs hw ?_; clear hs hw; intro a b W hw hs) | (refine sxs hs hw ?_; clear hs hw; intro W hs hw))
      by_cases k2 : kind = 2
      · subst k2
        repeat (first | (refine sxv hs hw ?_; clear hs; intro a hs) | refine sxc hs ?_ | (refine sxa hs hw ?_; clear hs hw; intro a b W hw hs) | (refine sxs hs hw ?_; clear hs hw; intro W hs hw))
        repeat (first | (refine sxv hs hw ?_; clear hs; intro a hs) | refine sxc hs ?_ | (refine sxa hs hw ?_; clear hs hw; intro a b W hw hs) | (refine sxs hs hw ?_; clear hs hw; intro W hs hw))
        refine st_call hs (hc := ref_EqS vk vn vs 0 0 ⟨#[]⟩ _) (k := ?_); rintro e0 W1 ⟨rfl, hb⟩; refine ⟨_, rfl, ?_⟩; clear hs; intro a hs; replace hw := hw.below hb; clear hb
        cases h4 : (rawEq vk vn vs 0 0 ⟨#[]⟩) with
        | false =>
          rw [h4] at hs
          repeat (first | (refine sxv hs hw ?_; clear hs; intro a hs) | refine sxc hs ?_ | (refine sxa hs hw ?_; clear hs hw; intro a b W hw hs) | (refine sxs hs hw ?_; clear hs hw; intro W hs hw))
          exact rt1 hs rfl rfl ⟨by simp [refMayOp, h1, h4], hw.end (by repeat (first | exact In.hd | apply In.tl))⟩
        | true =>
          rw [h4] at hs
          repeat (first | (refine sxv hs hw ?_; clear hs; intro a hs) | refine sxc hs ?_ | (refine sxa hs hw ?_; clear hs hw; intro a b W hw hs) | (refine sxs hs hw ?_; clear hs hw; intro W hs hw))
          refine st_call hs (hc := ref_EqS ok on os 0 0 ⟨#[]⟩ _) (k := ?_); rintro e0 W1 ⟨rfl, hb⟩; refine ⟨_, rfl, ?_⟩; clear hs; intro a hs; replace hw := hw.below hb; clear hb
          cases h5 : (rawEq ok on os 0 0 ⟨#[]⟩) with
          | false =>
            rw [h5] at hs
            repeat (first | (refine sxv hs hw ?_; clear hs; intro a hs) | refine sxc hs ?_ | (refine sxa hs hw ?_; clear hs hw; intro a b W hw hs) | (refine sxs hs hw ?_; clear hs hw; intro W hs hw))
            exact rt1 hs rfl rfl ⟨by simp [refMayOp, h1, h4, h5], hw.end (by repeat (first | exact In.hd | apply In.tl))⟩
          | true =>
            rw [h5] at hs
            repeat (first | (refine sxv hs hw ?_; clear hs; intro a hs) | refine sxc hs ?_ | (refine sxa hs hw ?_; clear hs hw; intro a b W hw hs) | (refine sxs hs hw ?_; clear hs hw; intro W hs hw))
            exact rt1 hs rfl rfl ⟨by simp [refMayOp, h1, h4, h5], hw.end (by repeat (first | exact In.hd | apply In.tl))⟩
      have e2 : (kind == 2) = false := by simpa using k2
      rw [e2] at hs
      repeat (first | (refine sxv hs hw ?_; clear hs; intro a hs) | refine sxc hs ?_ | (refine sxa hs hw ?_; clear hs hw; intro a b W hw hs) | (refine sxs hs hw ?_; clear hs hw; intro W hs hw))
      by_cases k3 : kind = 3
      · subst k3
        repeat (first | (refine sxv hs hw ?_; clear hs; intro a hs) | refine sxc hs ?_ | (refine sxa hs hw ?_; clear hs hw; intro a b W hw hs) | (refine sxs hs hw ?_; clear hs hw; intro W hs hw))
        repeat (first | (refine sxv hs hw ?_; clear hs; intro a hs) | refine sxc hs ?_ | (refine sxa hs hw ?_; clear hs hw; intro a b W hw hs) | (refine sxs hs hw ?_; clear hs hw; intro W hs hw))
        refine st_call hs (hc := ref_May vk vn vs _ hs1) (k := ?_); rintro e0 W1 ⟨rfl, hb⟩; refine ⟨_, rfl, ?_⟩; clear hs; intro a hs; replace hw := hw.below hb; clear hb
        cases h2 : ((ofRaw vk vn vs).2 == 0) with
        | false =>
          rw [h2] at hs
          repeat (first | (refine sxv hs hw ?_; clear hs; intro a hs) | refine sxc hs ?_ | (refine sxa hs hw ?_; clear hs hw; intro a b W hw hs) | (refine sxs hs hw ?_; clear hs hw; intro W hs hw))
          exact rt1 hs rfl rfl ⟨by simp [refMayOp, h1, h2], hw.end (by repeat (first | exact In.hd | apply In.tl))⟩
        | true =>
          rw [h2] at hs
          repeat (first | (refine sxv hs hw ?_; clear hs; intro a hs) | refine sxc hs ?_ | (refine sxa hs hw ?_; clear hs hw; intro a b W hw hs) | (refine sxs hs hw ?_; clear hs hw; intro W hs hw))
          refine st_call hs (hc := ref_May ok on os _ hs2) (k := ?_); rintro e0 W1 ⟨rfl, hb⟩; refine ⟨_, rfl, ?_⟩; clear hs; intro a hs; replace hw := hw.below hb; clear hb
          cases h3 : ((ofRaw ok on os).2 == 0) with
          | false =>
            rw [h3] at hs
            repeat (first | (refine sxv hs hw ?_; clear hs; intro a hs) | refine sxc hs ?_ | (refine sxa hs hw ?_; clear hs hw; intro a b W hw hs) | (refine sxs hs hw ?_; clear hs hw; intro W hs hw))
            exact rt1 hs rfl rfl ⟨by simp [refMayOp, h1, h2, h3], hw.end (by repeat (first | exact In.hd | apply In.tl))⟩
          | true =>
            rw [h3] at hs
            repeat (first | (refine sxv hs hw ?_; clear hs; intro a hs) | refine sxc hs ?_ | (refine sxa hs hw ?_; clear hs hw; intro a b W hw hs) | (refine sxs hs hw ?_; clear hs hw; intro W hs hw))
            cases h6 : (vk != 0) with
            | false =>
              rw [h6] at hs
              repeat (first | (refine sxv hs hw ?_; clear hs; intro a hs) | refine sxc hs ?_ | (refine sxa hs hw ?_; clear hs hw; intro a b W hw hs) | (refine sxs hs hw ?_; clear hs hw; intro W hs hw))
              cases h7 : (ok != 0) with
              | false =>
                rw [h7] at hs
                repeat (first | (refine sxv hs hw ?_; clear hs; intro a hs) | refine sxc hs ?_ | (refine sxa hs hw ?_; clear hs hw; intro a b W hw hs) | (refine sxs hs hw ?_; clear hs hw; intro W hs hw))
                exact rt1 hs rfl rfl ⟨by simp [refMayOp, h1, h2, h3, h6, h7], hw.end (by repeat (first | exact In.hd | apply In.tl))⟩
              | true =>
                rw [h7] at hs
                repeat (first | (refine sxv hs hw ?_; clear hs; intro a hs) | refine sxc hs ?_ | (refine sxa hs hw ?_; clear hs hw; intro a b W hw hs) | (refine sxs hs hw ?_; clear hs hw; intro W hs hw))
                exact rt1 hs rfl rfl ⟨by simp [refMayOp, h1, h2, h3, h6, h7], hw.end (by repeat (first | exact In.hd | apply In.tl))⟩
            | true =>
              rw [h6] at hs
              repeat (first | (refine sxv hs hw ?_; clear hs; intro a hs) | refine sxc hs ?_ | (refine sxa hs hw ?_; clear hs hw; intro a b W hw hs) | (refine sxs hs hw ?_; clear hs hw; intro W hs hw))
              exact rt1 hs rfl rfl ⟨by simp [refMayOp, h1, h2, h3, h6], hw.end (by repeat (first | exact In.hd | apply In.tl))⟩
      have e3 : (kind == 3) = false := by simpa using k3
      rw [e3] at hs
      repeat (first | (refine sxv hs hw ?_; clear hs; intro a hs) | refine sxc hs ?_ | (refine sxa hs hw ?_; clear hs hw; intro a b W hw hs) | (refine sxs hs hw ?_; clear hs hw; intro W hs hw))
      by_cases k4 : kind = 4
      · subst k4
        repeat (first | (refine sxv hs hw ?_; clear hs; intro a hs) | refine sxc hs ?_ | (refine sxa hs hw ?_; clear hs hw; intro a b W hw hs) | (refine sxs hs hw ?_; clear hs hw; intro W hs hw))
        repeat (first | (refine sxv hs hw ?_; clear hs; intro a hs) | refine sxc hs ?_ | (refine sxa hs hw ?_; clear hs hw; intro a b W hw hs) | (refine sxs hs hw ?_; clear hs hw; intro W hs hw))
        refine st_call hs (hc := ref_EqS vk vn vs 0 0 ⟨#[]⟩ _) (k := ?_); rintro e0 W1 ⟨rfl, hb⟩; refine ⟨_, rfl, ?_⟩; clear hs; intro a hs; replace hw := hw.below hb; clear hb
        cases h4 : (rawEq vk vn vs 0 0 ⟨#[]⟩) with
        | false =>
          rw [h4] at hs
          repeat (first | (refine sxv hs hw ?_; clear hs; intro a hs) | refine sxc hs ?_ | (refine sxa hs hw ?_; clear hs hw; intro a b W hw hs) | (refine sxs hs hw ?_; clear hs hw; intro W hs hw))
          exact rt1 hs rfl rfl ⟨by simp [refMayOp, h1, h4], hw.end (by repeat (first | exact In.hd | apply In.tl))⟩
        | true =>
          rw [h4] at hs
          repeat (first | (refine sxv hs hw ?_; clear hs; intro a hs) | refine sxc hs ?_ | (refine sxa hs hw ?_; clear hs hw; intro a b W hw hs) | (refine sxs hs hw ?_; clear hs hw; intro W hs hw))
          refine st_call hs (hc := ref_EqS ok on os 0 0 ⟨#[]⟩ _) (k := ?_); rintro e0 W1 ⟨rfl, hb⟩; refine ⟨_, rfl, ?_⟩; clear hs; intro a hs; replace hw := hw.below hb; clear hb
          cases h5 : (rawEq ok on os 0 0 ⟨#[]⟩) with
          | false =>
            rw [h5] at hs
            repeat (first | (refine sxv hs hw ?_; clear hs; intro a hs) | refine sxc hs ?_ | (refine sxa hs hw ?_; clear hs hw; intro a b W hw hs) | (refine sxs hs hw ?_; clear hs hw; intro W hs hw))
            exact rt1 hs rfl rfl ⟨by simp [refMayOp, h1, h4, h5], hw.end (by repeat (first | exact In.hd | apply In.tl))⟩
          | true =>
            rw [h5] at hs
            repeat (first | (refine sxv hs hw ?_; clear hs; intro a hs) | refine sxc hs ?_ | (refine sxa hs hw ?_; clear hs hw; intro a b W hw hs) | (refine sxs hs hw ?_; clear hs hw; intro W hs hw))
            cases h6 : (decide (n ≥ -1099511627776)) with
            | false =>
              rw [h6] at hs
              repeat (first | (refine sxv hs hw ?_; clear hs; intro a hs) | refine sxc hs ?_ | (refine sxa hs hw ?_; clear hs hw; intro a b W hw hs) | (refine sxs hs hw ?_; clear hs hw; intro W hs hw))
              exact rt1 hs rfl rfl ⟨by simp [refMayOp, h1, h4, h5, h6], hw.end (by repeat (first | exact In.hd | apply In.tl))⟩
            | true =>
              rw [h6] at hs
              repeat (first | (refine sxv hs hw ?_; clear hs; intro a hs) | refine sxc hs ?_ | (refine sxa hs hw ?_; clear hs hw; intro a b W hw hs) | (refine sxs hs hw ?_; clear hs hw; intro W hs hw))
              exact rt1 hs rfl rfl ⟨by simp [refMayOp, h1, h4, h5, h6], hw.end (by repeat (first | exact In.hd | apply In.tl))⟩
      have e4 : (kind == 4) = false := by simpa using k4
      rw [e4] at hs
      repeat (first | (refine sxv hs hw ?_; clear hs; intro a hs) | refine sxc hs ?_ | (refine sxa hs hw ?_; clear hs hw; intro a b W hw hs) | (refine sxs hs hw ?_; clear hs hw; intro W hs hw))
      repeat (first | (refine sxv hs hw ?_; clear hs; intro a hs) | refine sxc hs ?_ | (refine sxa hs hw ?_; clear hs hw; intro a b W hw hs) | (refine sxs hs hw ?_; clear hs hw; intro W hs hw))
      exact rt1 hs rfl rfl ⟨by simp [refMayOp, h1, k1, k2, k3, k4], hw.end (by repeat (first | exact In.hd | apply In.tl))⟩
    all_goals
      intro LD D a W hcl hi hp hs hw
      repeat (first | (refine sxv hs hw ?_; clear hs; intro a hs) | refine sxc hs ?_ | (refine sxa hs hw ?_; clear hs hw; intro a b W hw hs) | (refine sxs hs hw ?_; clear hs hw; intro W hs hw))
      exact ⟨hs, hw⟩

theorem ref_MayOp (kind : Int) (key : ByteArray) (vk vn : Int) (vs : ByteArray) (ok on : Int) (os : ByteArray) (n : Int) (w : World) (hs0 : key.size ≤ 1000000) (hs1 : vs.size ≤ 1000000) (hs2 : os.size ≤ 1000000) :
    Calls Tryd.prog 48 ⟨[.agg #[.int .i64 kind, .string key, .int .i64 vk, .int .i64 vn, .string vs, .int .i64 ok, .int .i64 on, .string os, .int .i64 n]]⟩ w fun e w' => e = .returned (.bool (mayOp kind key vk vn vs ok on os n)) ∧ Below w.heap.size w w' := by
  rw [← mayOp_eq]
  exact ref_MayOp0 kind key vk vn vs ok on os n w hs0 hs1 hs2

end Go.Proofs.YthpenehgfogloaaDoor.Sw

/-
  The walk of the reference's EqBatch; of bytes.Equal.
-/
set_option linter.unusedVariables false
set_option maxRecDepth 10000
namespace Go.Proofs.YthpenehgfogloaaDoor.Sw
open Go.RowKit Go.Sx
-- pieces

set_option maxHeartbeats 4000000 in
theorem bytes_Equal (l m : List UInt8) (v u : Value) (w : World) (r : RdB w v l) (r' : RdB w u m) :
    Calls Tryd.prog 59 ⟨[v, u]⟩ w fun e w' => e = .returned (.bool (l == m)) ∧ Below w.heap.size w w' := by
  have hw := Has.start (G := 0) (w := w) (Nat.zero_le _)
  refine enter Tryd.func59 Tryd.ntmps59 rfl rfl fun a hs => ?_
  repeat (first | (refine sxv hs hw ?_; clear hs; intro a hs) | refine sxc hs ?_ | (refine sxa hs hw ?_; clear hs hw; intro a b W hw hs) | (refine sxs hs hw ?_; clear hs hw; intro W hs hw))
  refine st_string_b (hs := hs) (r := r) (k := ?_); clear hs; intro a hs
  repeat (first | (refine sxv hs hw ?_; clear hs; intro a hs) | refine sxc hs ?_ | (refine sxa hs hw ?_; clear hs hw; intro a b W hw hs) | (refine sxs hs hw ?_; clear hs hw; intro W hs hw))
  refine st_string_b (hs := hs) (r := r') (k := ?_); clear hs; intro a hs
  repeat (first | (refine sxv hs hw ?_; clear hs; intro a hs) | refine sxc hs ?_ | (refine sxa hs hw ?_; clear hs hw; intro a b W hw hs) | (refine sxs hs hw ?_; clear hs hw; intro W hs hw))
  have e : ((⟨l.toArray⟩ : ByteArray).toList == (⟨m.toArray⟩ : ByteArray).toList) = (l == m) := by
    rw [Go.ByteArray.toList_eq, Go.ByteArray.toList_eq]
  rw [e] at hs
  exact rt1 hs rfl rfl ⟨rfl, hw.end (by repeat (first | exact In.hd | apply In.tl))⟩

theorem op_at {W : World} {sad : Option Addr} {scap : Nat} {l : List OpD} {i : Nat} {o : OpD} (r : Rd W 9 (.slice sad l.length scap) l.length (l.flatMap opCells)) (h : l[i]? = some o) :
    ∃ g off, sad = some ⟨g, off, none⟩ ∧ g < W.heap.size ∧ ∀ j u, (opCells o)[j]? = some u → W.cell? ⟨g, off + i * 9 + j, none⟩ = some u := by
  have hi : i < l.length := (List.getElem?_eq_some_iff.1 h).1
  obtain ⟨h1, ad, cap, e, h3, h4, h5⟩ := r
  injection e with e1 e2 e3
  subst e1
  rcases h5 with h5 | ⟨b, off, rfl, hlt, hc⟩
  · omega
  · refine ⟨b, off, rfl, hlt, fun j u hu => ?_⟩
    rw [Nat.add_assoc]
    refine hc _ _ ?_
    have e := (congrArg (fun t => t[j]?) (cut_ops l i o h)).trans hu
    simp only [List.getElem?_take] at e
    split at e
    · rw [List.getElem?_drop] at e; exact e
    · cases e

theorem eqOps_snoc {l l' : List OpD} {i : Nat} {o o' : OpD} (h : l[i]? = some o) (h' : l'[i]? = some o') (e : eqOps (l.take i) (l'.take i) = true) : eqOps (l.take (i + 1)) (l'.take (i + 1)) = eqOp o o' := by
  unfold eqOps at *
  have h1 := (List.getElem?_eq_some_iff.1 h).1
  have h2 := (List.getElem?_eq_some_iff.1 h').1
  rw [List.take_add_one, List.take_add_one, h, h', List.zip_append (by simp; omega), List.all_append, e]
  simp
theorem eqOps_no {l l' : List OpD} {i : Nat} {o o' : OpD} (h : l[i]? = some o) (h' : l'[i]? = some o') (e : eqOp o o' = false) : eqOps l l' = false := by
  unfold eqOps
  rw [List.all_eq_false]
  exact ⟨(o, o'), List.mem_of_getElem? (i := i) (by rw [List.getElem?_zip_eq_some]; exact ⟨h, h'⟩), by rw [e]; simp⟩

end Go.Proofs.YthpenehgfogloaaDoor.Sw

/-
  The walk of the reference's Apply.
-/
set_option linter.unusedVariables false
set_option maxRecDepth 10000
namespace Go.Proofs.YthpenehgfogloaaDoor.Sw
open Go.RowKit Go.Sx

-- pieces

abbrev OpsH (H : Fh) (sv : Value) (l : List OpD) : Prop := RdH H 9 sv l.length (l.flatMap opCells)

abbrev DocH (H : Fh) (dv : Value) (d : Dm) : Prop := RdH H 4 dv d.length (d.flatMap pairCells)

theorem raw_of {k n : Int} {s : ByteArray} (h : (ofRaw k n s).2 = 0) : [Value.int .i64 k, .int .i64 n, .string s] = rawCells (ofRaw k n s).1 := by
  obtain ⟨h1, h2, h3⟩ := ofRaw_ok h
  unfold rawCells
  rw [h1, h2, ba_eq h3]

theorem may_val {o : OpD} (h : mayD o = true) : (ofRaw o.vk o.vn o.vs).2 = 0 ∧ (ofRaw o.ok o.on o.os).2 = 0 := by
  unfold mayD mayOp at h
  simp only [Bool.and_eq_true, beq_iff_eq] at h
  exact ⟨h.1.1.2, h.1.2⟩

theorem eqV_raw {x : Option DV} {k n : Int} {s : ByteArray} (h : (ofRaw k n s).2 = 0) : rawEq (kindOf x) (intIn x) (textIn x) k n s = eqV x (ofRaw k n s).1 := by
  obtain ⟨h1, h2, h3⟩ := ofRaw_ok h
  unfold rawEq eqV
  rw [h1, h2, h3]

theorem kind_ne_int (x : Option DV) : (x.isSome && (kindOf x != 1)) = (kindOf x != 0 && !isInt x) := by rcases x with _ | n | s <;> rfl

theorem intIn_i64 {d : Dm} (h : DocOk d) (k : ByteArray) : i64 (intIn (getK d k)) := by
  cases hg : getK d k with
  | none => exact ⟨by decide, by decide⟩
  | some v =>
    have := h.all _ ((getK_mem h.keys).1 hg)
    rcases v with n | s
    · exact this.num n rfl
    · show i64 0
      exact ⟨by decide, by decide⟩

set_option maxHeartbeats 16000000 in
theorem ref_Apply (w0 W : World) (H : Fh) (d : Dm) (dv : Value) (l : List OpD) (sv : Value) (R : List Res) (hd : DocOk d) (ho : ∀ o ∈ l, OpOk o) (r : DocH H dv d) (rl : OpsH H sv l) (hw : Has 0 w0 W (Fz H :: R)) :
    Calls Tryd.prog 24 ⟨[.agg ⟨[dv]⟩, sv]⟩ W fun e W' => ∃ dv' H', e = .returned (.tuple ⟨[.agg ⟨[dv']⟩, .int .i64 (applyL d l).1]⟩) ∧ H.le H' ∧ DocH H' dv' (applyL d l).2 ∧ Has 0 w0 W' (Fz H' :: R) := by
  obtain ⟨sad, scap, rfl⟩ := rl.slice
  obtain ⟨dad, dcap, rfl⟩ := r.slice
  have hlen := rl.len
  refine enter Tryd.func24 Tryd.ntmps24 rfl rfl fun a hs => ?_
  repeat (first | (refine sxv hs hw ?_; clear hs; intro a hs) | refine sxc hs ?_ | (refine sxa hs hw ?_; clear hs hw; intro a b W hw hs) | (refine sxs hs hw ?_; clear hs hw; intro W hs hw))
  cases h0 : decide ((l.length : Int) < 1) with
  | true =>
    rw [h0] at hs
    repeat (first | (refine sxv hs hw ?_; clear hs; intro a hs) | refine sxc hs ?_ | (refine sxa hs hw ?_; clear hs hw; intro a b W hw hs) | (refine sxs hs hw ?_; clear hs hw; intro W hs hw))
    have hX : applyL d l = (1, d) := by
      unfold applyL
      rw [if_pos (.inl (by have := of_decide_eq_true h0; omega))]
    refine rc2 hs rfl rfl hw (In.hd) rfl rfl ?_
    rw [hX]
    exact ⟨.slice dad d.length dcap, H, rfl, Fh.le.refl _, r, hw.sub (List.Sublist.cons _ (List.Sublist.cons _ (List.Sublist.refl _)))⟩
  | false =>
  rw [h0] at hs
  repeat (first | (refine sxv hs hw ?_; clear hs; intro a hs) | refine sxc hs ?_ | (refine sxa hs hw ?_; clear hs hw; intro a b W hw hs) | (refine sxs hs hw ?_; clear hs hw; intro W hs hw))
  cases h8 : decide ((l.length : Int) > 8) with
  | true =>
    rw [h8] at hs
    repeat (first | (refine sxv hs hw ?_; clear hs; intro a hs) | refine sxc hs ?_ | (refine sxa hs hw ?_; clear hs hw; intro a b W hw hs) | (refine sxs hs hw ?_; clear hs hw; intro W hs hw))
    have hX : applyL d l = (1, d) := by
      unfold applyL
      rw [if_pos (.inr (by have := of_decide_eq_true h8; omega))]
    refine rc2 hs rfl rfl hw (In.hd) rfl rfl ?_
    rw [hX]
    exact ⟨.slice dad d.length dcap, H, rfl, Fh.le.refl _, r, hw.sub (List.Sublist.cons _ (List.Sublist.cons _ (List.Sublist.refl _)))⟩
  | false =>
  rw [h8] at hs
  repeat (first | (refine sxv hs hw ?_; clear hs; intro a hs) | refine sxc hs ?_ | (refine sxa hs hw ?_; clear hs hw; intro a b W hw hs) | (refine sxs hs hw ?_; clear hs hw; intro W hs hw))
  have hX : applyL d l = (if (goL l d).1 = 0 then (0, (goL l d).2) else ((goL l d).1, d)) := by
    unfold applyL
    rw [if_neg]
    have := of_decide_eq_false h0
    have := of_decide_eq_false h8
    omega
  rw [hX]
  clear hX h0 h8
  obtain ⟨b6, q6⟩ := nm1 hw; subst q6
  obtain ⟨b4, q4⟩ := nm2 hw; subst q4
  obtain ⟨b2, q2⟩ := nm3 hw; subst q2
  refine st_loop (σ := Nat × Dm × Value × Fh) (fun t => [(1, .slice sad l.length scap), (2, .pointer (some ⟨b2, 0, none⟩)), (4, .pointer (some ⟨b4, 0, none⟩)), (6, .pointer (some ⟨b6, 0, none⟩)), (7, .int .i64 (t.1 : Int))]) (fun t => Cells b6 [t.2.2.1] 52 :: Cells b4 [.slice none 0 0] 52 :: Cells b2 [.slice dad d.length dcap] 52 :: Fz t.2.2.2 :: R) (fun t => t.1 ≤ l.length ∧ H.le t.2.2.2 ∧ DocOk t.2.1 ∧ DocH t.2.2.2 t.2.2.1 t.2.1 ∧ goL (l.drop t.1) t.2.1 = goL l d) (fun t => l.length - t.1) (0, d, .slice dad d.length dcap, H) ⟨Nat.zero_le _, Fh.le.refl _, hd, r, rfl⟩ hs ⟨rfl, rfl, rfl, rfl, rfl, trivial⟩ hw ?_
  clear hs hw
  rintro ⟨j, dc, dw, H'⟩ a W ⟨hj, hH', hdc, hr, hgo⟩ hs hw
  simp only at hj hH' hdc hr hgo hs hw
  obtain ⟨wad, wcap, rfl⟩ := hr.slice
  repeat (first | (refine sxv hs hw ?_; clear hs; intro a hs) | refine sxc hs ?_ | (refine sxa hs hw ?_; clear hs hw; intro a b W hw hs) | (refine sxs hs hw ?_; clear hs hw; intro W hs hw))
  refine cd_split hs (kt := fun hcc => ?_) (kf := fun hcc => ?_)
  · have hj' : j < l.length := by simpa using hcc
    obtain ⟨o, hoi⟩ : ∃ o, l[j]? = some o := ⟨l[j], List.getElem?_eq_getElem hj'⟩
    have hok := ho o (List.mem_of_getElem? hoi)
    have hdrop : l.drop j = o :: l.drop (j + 1) := by
      rw [List.drop_eq_getElem_cons hj']
      congr 1
      rw [List.getElem?_eq_getElem hj'] at hoi
      exact Option.some.inj hoi
    rw [hdrop] at hgo
    simp only [goL] at hgo
    have rl' := rl.le hH'
    repeat (first | (refine sxv hs hw ?_; clear hs; intro a hs) | refine sxc hs ?_ | (refine sxa hs hw ?_; clear hs hw; intro a b W hw hs) | (refine sxs hs hw ?_; clear hs hw; intro W hs hw))
    refine st_index_op hs (r := hw.rdH (by repeat (first | exact In.hd | apply In.tl)) rl') (ho := hoi) (c := ?_); clear hs; intro a q off hpc hs
    refine st_load_ats (z := opCells ⟨0, ⟨#[]⟩, 0, 0, ⟨#[]⟩, 0, 0, ⟨#[]⟩, 0⟩) hs (hc := hpc) (hl := rfl) (c := ?_); clear hs; intro a hs
    clear hpc
    repeat (first | (refine sxv hs hw ?_; clear hs; intro a hs) | refine sxc hs ?_ | (refine sxa hs hw ?_; clear hs hw; intro a b W hw hs) | (refine sxs hs hw ?_; clear hs hw; intro W hs hw))
    obtain ⟨b8, q8⟩ := nm1 hw; subst q8
    have hw : Has 0 w0 _ (Cells b8 (opCells o) 47 :: Cells b6 [.slice wad dc.length wcap] 52 :: Cells b4 [.slice none 0 0] 52 :: Cells b2 [.slice dad d.length dcap] 52 :: Fz H' :: R) := hw
    have hM : ∀ W, Calls Tryd.prog 48 ⟨[.agg ⟨opCells o⟩]⟩ W fun e w' => e = .returned (.bool (mayD o)) ∧ Below W.heap.size W w' := fun W => ref_MayOp o.kind o.key o.vk o.vn o.vs o.ok o.on o.os o.n W hok.key hok.vs hok.os
    refine st_call hs (hc := hM _) (k := ?_); rintro e0 W1 ⟨rfl, hb⟩; refine ⟨_, rfl, ?_⟩; clear hs; intro a hs; replace hw := hw.below hb; clear hb
    repeat (first | (refine sxv hs hw ?_; clear hs; intro a hs) | refine sxc hs ?_ | (refine sxa hs hw ?_; clear hs hw; intro a b W hw hs) | (refine sxs hs hw ?_; clear hs hw; intro W hs hw))
    cases hm : mayD o with
    | false =>
      rw [hm] at hs hgo
      rw [if_pos rfl] at hgo
      repeat (first | (refine sxv hs hw ?_; clear hs; intro a hs) | refine sxc hs ?_ | (refine sxa hs hw ?_; clear hs hw; intro a b W hw hs) | (refine sxs hs hw ?_; clear hs hw; intro W hs hw))
      refine rc2 hs rfl rfl hw (In.tl (In.tl In.hd)) rfl rfl ?_
      rw [← hgo, if_neg (by show ¬ (1 : Int) = 0; decide)]
      exact ⟨.slice dad d.length dcap, H', rfl, hH', r.le hH', hw.sub (List.Sublist.cons _ (List.Sublist.cons _ (List.Sublist.cons _ (List.Sublist.cons _ (List.Sublist.refl _)))))⟩
    | true =>
    rw [hm] at hs hgo
    rw [if_neg (by decide)] at hgo
    obtain ⟨hmv, hmo⟩ := may_val hm
    repeat (first | (refine sxv hs hw ?_; clear hs; intro a hs) | refine sxc hs ?_ | (refine sxa hs hw ?_; clear hs hw; intro a b W hw hs) | (refine sxs hs hw ?_; clear hs hw; intro W hs hw))
    refine st_call hs (hc := ref_Get dc _ o.key _ (hw.rdH (by repeat (first | exact In.hd | apply In.tl)) hr)) (k := ?_); rintro e0 W1 ⟨rfl, hb⟩; refine ⟨_, rfl, ?_⟩; clear hs; intro a hs; replace hw := hw.below hb; clear hb
    have hnow := intIn_i64 hdc o.key
    repeat (first | (refine sxv hs hw ?_; clear hs; intro a hs) | refine sxn hs ?_ | (refine sxa hs hw ?_; clear hs hw; intro a b W hw hs) | (refine sxs hs hw ?_; clear hs hw; intro W hs hw))
    obtain ⟨b11, q11⟩ := nm1 hw; subst q11
    obtain ⟨b9, q9⟩ := nm2 hw; subst q9
    have hw : Has 0 w0 _ (Cells b11 [.int .i64 o.vk, .int .i64 o.vn, .string o.vs] 25 :: Cells b9 (rawCells (getK dc o.key)) 25 :: Cells b8 (opCells o) 47 :: Cells b6 [.slice wad dc.length wcap] 52 :: Cells b4 [.slice none 0 0] 52 :: Cells b2 [.slice dad d.length dcap] 52 :: Fz H' :: R) := hw
    rw [raw_of hmv] at hw
    obtain ⟨now, hn⟩ : ∃ x, getK dc o.key = x := ⟨_, rfl⟩
    rw [hn] at hs hw hnow
    refine sq ?_
    refine merge (M := fun a W => ∃ x : Option DV, doL dc o = setRL dc o.key x ∧ (∀ v, x = some v → PairOk (o.key, v)) ∧ Slots a 102 [(1, .slice sad l.length scap), (2, .pointer (some ⟨b2, 0, none⟩)), (4, .pointer (some ⟨b4, 0, none⟩)), (6, .pointer (some ⟨b6, 0, none⟩)), (7, .int .i64 (j : Int)), (8, .pointer (some ⟨b8, 0, none⟩)), (10, .bool now.isSome), (11, .pointer (some ⟨b11, 0, none⟩))] ∧ Has 0 w0 W (Cells b11 (rawCells x) 25 :: Cells b9 (rawCells now) 25 :: Cells b8 (opCells o) 47 :: Cells b6 [.slice wad dc.length wcap] 52 :: Cells b4 [.slice none 0 0] 52 :: Cells b2 [.slice dad d.length dcap] 52 :: Fz H' :: R)) ?_ ?_
    · repeat (first | (refine sxv hs hw ?_; clear hs; intro a hs) | refine sxc hs ?_ | (refine sxa hs hw ?_; clear hs hw; intro a b W hw hs) | (refine sxs hs hw ?_; clear hs hw; intro W hs hw))
      by_cases k3 : o.kind = 3
      · have e3 : (o.kind == 3) = true := by simpa using k3
        rw [e3] at hs
        repeat (first | (refine sxv hs hw ?_; clear hs; intro a hs) | refine sxc hs ?_ | (refine sxa hs hw ?_; clear hs hw; intro a b W hw hs) | (refine sxs hs hw ?_; clear hs hw; intro W hs hw))
        have hE : ∀ W, Calls Tryd.prog 50 ⟨[.agg ⟨rawCells now⟩, .agg ⟨[.int .i64 o.ok, .int .i64 o.on, .string o.os]⟩]⟩ W fun e w' => e = .returned (.bool (rawEq (kindOf now) (intIn now) (textIn now) o.ok o.on o.os)) ∧ Below W.heap.size W w' := fun W => ref_EqS _ _ _ _ _ _ W
        refine st_call hs (hc := hE _) (k := ?_); rintro e0 W1 ⟨rfl, hb⟩; refine ⟨_, rfl, ?_⟩; clear hs; intro a hs; replace hw := hw.below hb; clear hb
        rw [eqV_raw hmo] at hs
        have hD : doL dc o = (if eqV now (ofRaw o.ok o.on o.os).1 then setRL dc o.key (ofRaw o.vk o.vn o.vs).1 else (8, dc)) := by unfold doL; rw [if_pos k3, hn]
        repeat (first | (refine sxv hs hw ?_; clear hs; intro a hs) | refine sxc hs ?_ | (refine sxa hs hw ?_; clear hs hw; intro a b W hw hs) | (refine sxs hs hw ?_; clear hs hw; intro W hs hw))
        cases he : eqV now (ofRaw o.ok o.on o.os).1 with
        | false =>
          rw [he] at hs hD
          rw [if_neg (by decide)] at hD
          rw [hD, if_neg (by show ¬ (8 : Int) = 0; decide)] at hgo
          repeat (first | (refine sxv hs hw ?_; clear hs; intro a hs) | refine sxc hs ?_ | (refine sxa hs hw ?_; clear hs hw; intro a b W hw hs) | (refine sxs hs hw ?_; clear hs hw; intro W hs hw))
          refine rc2 hs rfl rfl hw (In.tl (In.tl (In.tl (In.tl In.hd)))) rfl rfl ?_
          rw [← hgo, if_neg (by show ¬ (8 : Int) = 0; decide)]
          exact ⟨.slice dad d.length dcap, H', rfl, hH', r.le hH', hw.sub (List.Sublist.cons _ (List.Sublist.cons _ (List.Sublist.cons _ (List.Sublist.cons _ (List.Sublist.cons _ (List.Sublist.cons _ (List.Sublist.refl _)))))))⟩
        | true =>
          rw [he] at hs hD
          rw [if_pos rfl] at hD
          repeat (first | (refine sxv hs hw ?_; clear hs; intro a hs) | refine sxc hs ?_ | (refine sxa hs hw ?_; clear hs hw; intro a b W hw hs) | (refine sxs hs hw ?_; clear hs hw; intro W hs hw))
          exact ⟨_, hD, ofRaw_pair hok.key hok.vn, hs.of ⟨rfl, rfl, rfl, rfl, rfl, rfl, rfl, rfl, trivial⟩, hw⟩
      · have e3 : (o.kind == 3) = false := by simpa using k3
        rw [e3] at hs
        repeat (first | (refine sxv hs hw ?_; clear hs; intro a hs) | refine sxc hs ?_ | (refine sxa hs hw ?_; clear hs hw; intro a b W hw hs) | (refine sxs hs hw ?_; clear hs hw; intro W hs hw))
        by_cases k4 : o.kind = 4
        · have e4 : (o.kind == 4) = true := by simpa using k4
          rw [e4] at hs
          have hD : doL dc o = (if (kindOf now != 0 && !isInt now) = true then (7, dc) else if (!inB (intIn now) || !inB (IntKind.i64.wrap (intIn now + o.n))) = true then (4, dc) else setRL dc o.key (some (.inl (IntKind.i64.wrap (intIn now + o.n))))) := by unfold doL; rw [if_neg k3, if_pos k4, hn]
          rw [← kind_ne_int] at hD
          repeat (first | (refine sxv hs hw ?_; clear hs; intro a hs) | refine sxn hs ?_ | (refine sxa hs hw ?_; clear hs hw; intro a b W hw hs) | (refine sxs hs hw ?_; clear hs hw; intro W hs hw))
          refine sq ?_
          refine merge (M := fun a W => (now.isSome && (kindOf now != 1)) = false ∧ Slots a 102 [(1, .slice sad l.length scap), (2, .pointer (some ⟨b2, 0, none⟩)), (4, .pointer (some ⟨b4, 0, none⟩)), (6, .pointer (some ⟨b6, 0, none⟩)), (7, .int .i64 (j : Int)), (8, .pointer (some ⟨b8, 0, none⟩)), (9, .pointer (some ⟨b9, 0, none⟩)), (10, .bool now.isSome), (11, .pointer (some ⟨b11, 0, none⟩))] ∧ Has 0 w0 W (Cells b11 (rawCells (ofRaw o.vk o.vn o.vs).1) 25 :: Cells b9 (rawCells now) 25 :: Cells b8 (opCells o) 47 :: Cells b6 [.slice wad dc.length wcap] 52 :: Cells b4 [.slice none 0 0] 52 :: Cells b2 [.slice dad d.length dcap] 52 :: Fz H' :: R)) ?_ ?_
          · cases hsm : now.isSome with
            | false =>
              rw [hsm] at hs
              repeat (first | (refine sxv hs hw ?_; clear hs; intro a hs) | refine sxc hs ?_ | (refine sxa hs hw ?_; clear hs hw; intro a b W hw hs) | (refine sxs hs hw ?_; clear hs hw; intro W hs hw))
              exact ⟨rfl, hs.of ⟨rfl, rfl, rfl, rfl, rfl, rfl, rfl, rfl, rfl, trivial⟩, hw⟩
            | true =>
              rw [hsm] at hs
              repeat (first | (refine sxv hs hw ?_; clear hs; intro a hs) | refine sxc hs ?_ | (refine sxa hs hw ?_; clear hs hw; intro a b W hw hs) | (refine sxs hs hw ?_; clear hs hw; intro W hs hw))
              cases hk1 : (kindOf now != 1) with
              | false =>
                rw [hk1] at hs
                repeat (first | (refine sxv hs hw ?_; clear hs; intro a hs) | refine sxc hs ?_ | (refine sxa hs hw ?_; clear hs hw; intro a b W hw hs) | (refine sxs hs hw ?_; clear hs hw; intro W hs hw))
                exact ⟨rfl, hs.of ⟨rfl, rfl, rfl, rfl, rfl, rfl, rfl, rfl, rfl, trivial⟩, hw⟩
              | true =>
                rw [hk1] at hs
                rw [hsm, hk1, if_pos (by decide)] at hD
                rw [hD, if_neg (by show ¬ (7 : Int) = 0; decide)] at hgo
                repeat (first | (refine sxv hs hw ?_; clear hs; intro a hs) | refine sxc hs ?_ | (refine sxa hs hw ?_; clear hs hw; intro a b W hw hs) | (refine sxs hs hw ?_; clear hs hw; intro W hs hw))
                refine rc2 hs rfl rfl hw (In.tl (In.tl (In.tl (In.tl In.hd)))) rfl rfl ?_
                rw [← hgo, if_neg (by show ¬ (7 : Int) = 0; decide)]
                exact ⟨.slice dad d.length dcap, H', rfl, hH', r.le hH', hw.sub (List.Sublist.cons _ (List.Sublist.cons _ (List.Sublist.cons _ (List.Sublist.cons _ (List.Sublist.cons _ (List.Sublist.cons _ (List.Sublist.refl _)))))))⟩
          clear hs hw
          rintro a W ⟨h7, hs, hw⟩
          rw [h7, if_neg (by decide)] at hD
          repeat (first | (refine sxv hs hw ?_; clear hs; intro a hs) | refine sxc hs ?_ | (refine sxa hs hw ?_; clear hs hw; intro a b W hw hs) | (refine sxs hs hw ?_; clear hs hw; intro W hs hw))
          refine st_call hs (hc := ref_far (intIn now) _) (k := ?_); rintro e0 W1 ⟨rfl, hb⟩; refine ⟨_, rfl, ?_⟩; clear hs; intro a hs; replace hw := hw.below hb; clear hb
          have hout : (!inB (intIn now) || !inB (IntKind.i64.wrap (intIn now + o.n))) = true → doL dc o = (4, dc) := fun h => by rw [hD, if_pos h]
          cases hf1 : inB (intIn now) with
          | false =>
            rw [hf1] at hs
            have hD := hout (by rw [hf1]; rfl)
            rw [hD, if_neg (by show ¬ (4 : Int) = 0; decide)] at hgo
            repeat (first | (refine sxv hs hw ?_; clear hs; intro a hs) | refine sxc hs ?_ | (refine sxa hs hw ?_; clear hs hw; intro a b W hw hs) | (refine sxs hs hw ?_; clear hs hw; intro W hs hw))
            refine rc2 hs rfl rfl hw (In.tl (In.tl (In.tl (In.tl In.hd)))) rfl rfl ?_
            rw [← hgo, if_neg (by show ¬ (4 : Int) = 0; decide)]
            exact ⟨.slice dad d.length dcap, H', rfl, hH', r.le hH', hw.sub (List.Sublist.cons _ (List.Sublist.cons _ (List.Sublist.cons _ (List.Sublist.cons _ (List.Sublist.cons _ (List.Sublist.cons _ (List.Sublist.refl _)))))))⟩
          | true =>
          rw [hf1] at hs
          repeat (first | (refine sxv hs hw ?_; clear hs; intro a hs) | refine sxc hs ?_ | (refine sxa hs hw ?_; clear hs hw; intro a b W hw hs) | (refine sxs hs hw ?_; clear hs hw; intro W hs hw))
          refine st_call hs (hc := ref_far (IntKind.i64.wrap (intIn now + o.n)) _) (k := ?_); rintro e0 W1 ⟨rfl, hb⟩; refine ⟨_, rfl, ?_⟩; clear hs; intro a hs; replace hw := hw.below hb; clear hb
          repeat (first | (refine sxv hs hw ?_; clear hs; intro a hs) | refine sxc hs ?_ | (refine sxa hs hw ?_; clear hs hw; intro a b W hw hs) | (refine sxs hs hw ?_; clear hs hw; intro W hs hw))
          cases hf2 : inB (IntKind.i64.wrap (intIn now + o.n)) with
          | false =>
            rw [hf2] at hs
            have hD := hout (by rw [hf2, Bool.or_comm]; rfl)
            rw [hD, if_neg (by show ¬ (4 : Int) = 0; decide)] at hgo
            repeat (first | (refine sxv hs hw ?_; clear hs; intro a hs) | refine sxc hs ?_ | (refine sxa hs hw ?_; clear hs hw; intro a b W hw hs) | (refine sxs hs hw ?_; clear hs hw; intro W hs hw))
            refine rc2 hs rfl rfl hw (In.tl (In.tl (In.tl (In.tl In.hd)))) rfl rfl ?_
            rw [← hgo, if_neg (by show ¬ (4 : Int) = 0; decide)]
            exact ⟨.slice dad d.length dcap, H', rfl, hH', r.le hH', hw.sub (List.Sublist.cons _ (List.Sublist.cons _ (List.Sublist.cons _ (List.Sublist.cons _ (List.Sublist.cons _ (List.Sublist.cons _ (List.Sublist.refl _)))))))⟩
          | true =>
          rw [hf2] at hs
          rw [hf1, hf2, if_neg (by decide)] at hD
          repeat (first | (refine sxv hs hw ?_; clear hs; intro a hs) | refine sxc hs ?_ | (refine sxa hs hw ?_; clear hs hw; intro a b W hw hs) | (refine sxs hs hw ?_; clear hs hw; intro W hs hw))
          exact ⟨some (.inl (IntKind.i64.wrap (intIn now + o.n))), hD, (fun v hv => by cases hv; exact ⟨hok.key, (fun n hn => by cases hn; exact wrap_i64 _), (fun s hs => by cases hs)⟩), hs.of ⟨rfl, rfl, rfl, rfl, rfl, rfl, rfl, rfl, trivial⟩, hw⟩
        · have e4 : (o.kind == 4) = false := by simpa using k4
          rw [e4] at hs
          have hD : doL dc o = setRL dc o.key (ofRaw o.vk o.vn o.vs).1 := by unfold doL; rw [if_neg k3, if_neg k4]
          repeat (first | (refine sxv hs hw ?_; clear hs; intro a hs) | refine sxc hs ?_ | (refine sxa hs hw ?_; clear hs hw; intro a b W hw hs) | (refine sxs hs hw ?_; clear hs hw; intro W hs hw))
          exact ⟨_, hD, ofRaw_pair hok.key hok.vn, hs.of ⟨rfl, rfl, rfl, rfl, rfl, rfl, rfl, rfl, trivial⟩, hw⟩
    · clear hs hw
      rintro a W ⟨x, hD, hxo, hs, hw⟩
      rw [hD] at hgo
      have hsl : ∀ v, x = some v → setRL dc o.key x = if now.isSome = false ∧ 50 ≤ dc.length then (6, dc) else (0, setL dc o.key v) := fun v hv => by rw [hv]; unfold setRL; simp only; rw [hn]
      refine sq ?_
      refine merge (M := fun a W => setRL dc o.key x = (0, setX dc o.key x) ∧ Slots a 102 [(1, .slice sad l.length scap), (2, .pointer (some ⟨b2, 0, none⟩)), (4, .pointer (some ⟨b4, 0, none⟩)), (6, .pointer (some ⟨b6, 0, none⟩)), (7, .int .i64 (j : Int)), (8, .pointer (some ⟨b8, 0, none⟩)), (10, .bool now.isSome), (11, .pointer (some ⟨b11, 0, none⟩))] ∧ Has 0 w0 W (Cells b11 (rawCells x) 25 :: Cells b9 (rawCells now) 25 :: Cells b8 (opCells o) 47 :: Cells b6 [.slice wad dc.length wcap] 52 :: Cells b4 [.slice none 0 0] 52 :: Cells b2 [.slice dad d.length dcap] 52 :: Fz H' :: R)) ?_ ?_
      · cases x with
        | none =>
          repeat (first | (refine sxv hs hw ?_; clear hs; intro a hs) | refine sxc hs ?_ | (refine sxa hs hw ?_; clear hs hw; intro a b W hw hs) | (refine sxs hs hw ?_; clear hs hw; intro W hs hw))
          exact ⟨rfl, hs.of ⟨rfl, rfl, rfl, rfl, rfl, rfl, rfl, rfl, trivial⟩, hw⟩
        | some v =>
          have hsl := hsl v rfl
          repeat (first | (refine sxv hs hw ?_; clear hs; intro a hs) | refine sxc hs ?_ | (refine sxa hs hw ?_; clear hs hw; intro a b W hw hs) | (refine sxs hs hw ?_; clear hs hw; intro W hs hw))
          rw [show (kindOf (some v) != 0) = true from kind_some (some v)] at hs
          repeat (first | (refine sxv hs hw ?_; clear hs; intro a hs) | refine sxc hs ?_ | (refine sxa hs hw ?_; clear hs hw; intro a b W hw hs) | (refine sxs hs hw ?_; clear hs hw; intro W hs hw))
          cases hsm : now.isSome with
          | true =>
            rw [hsm] at hs hsl
            repeat (first | (refine sxv hs hw ?_; clear hs; intro a hs) | refine sxc hs ?_ | (refine sxa hs hw ?_; clear hs hw; intro a b W hw hs) | (refine sxs hs hw ?_; clear hs hw; intro W hs hw))
            rw [if_neg (fun h => by cases h.1)] at hsl
            exact ⟨hsl, hs.of ⟨rfl, rfl, rfl, rfl, rfl, rfl, rfl, rfl, trivial⟩, hw⟩
          | false =>
            rw [hsm] at hs hsl
            repeat (first | (refine sxv hs hw ?_; clear hs; intro a hs) | refine sxc hs ?_ | (refine sxa hs hw ?_; clear hs hw; intro a b W hw hs) | (refine sxs hs hw ?_; clear hs hw; intro W hs hw))
            cases h50 : decide ((dc.length : Int) ≥ 50) with
            | false =>
              rw [h50] at hs
              rw [if_neg (fun h => by have := of_decide_eq_false h50; omega)] at hsl
              repeat (first | (refine sxv hs hw ?_; clear hs; intro a hs) | refine sxc hs ?_ | (refine sxa hs hw ?_; clear hs hw; intro a b W hw hs) | (refine sxs hs hw ?_; clear hs hw; intro W hs hw))
              exact ⟨hsl, hs.of ⟨rfl, rfl, rfl, rfl, rfl, rfl, rfl, rfl, trivial⟩, hw⟩
            | true =>
              rw [h50] at hs
              rw [if_pos ⟨rfl, by have := of_decide_eq_true h50; omega⟩] at hsl
              rw [hsl, if_neg (by show ¬ (6 : Int) = 0; decide)] at hgo
              repeat (first | (refine sxv hs hw ?_; clear hs; intro a hs) | refine sxc hs ?_ | (refine sxa hs hw ?_; clear hs hw; intro a b W hw hs) | (refine sxs hs hw ?_; clear hs hw; intro W hs hw))
              refine rc2 hs rfl rfl hw (In.tl (In.tl (In.tl (In.tl In.hd)))) rfl rfl ?_
              rw [← hgo, if_neg (by show ¬ (6 : Int) = 0; decide)]
              exact ⟨.slice dad d.length dcap, H', rfl, hH', r.le hH', hw.sub (List.Sublist.cons _ (List.Sublist.cons _ (List.Sublist.cons _ (List.Sublist.cons _ (List.Sublist.cons _ (List.Sublist.cons _ (List.Sublist.refl _)))))))⟩
      · clear hs hw hsl
        rintro a W ⟨hsl, hs, hw⟩
        have hdn := setRL_ok hdc (k := o.key) (x := x) hxo
        rw [hsl] at hgo hdn
        rw [if_pos rfl] at hgo
        repeat (first | (refine sxv hs hw ?_; clear hs; intro a hs) | refine sxc hs ?_ | (refine sxa hs hw ?_; clear hs hw; intro a b W hw hs) | (refine sxs hs hw ?_; clear hs hw; intro W hs hw))
        have hw : Has 0 w0 W (Fz H' :: Cells b6 [.slice wad dc.length wcap] 52 :: Cells b4 [.slice none 0 0] 52 :: Cells b2 [.slice dad d.length dcap] 52 :: Cells b11 (rawCells x) 25 :: Cells b9 (rawCells now) 25 :: Cells b8 (opCells o) 47 :: R) := hw.perm (by repeat (first | exact List.Perm.refl _ | refine perm_pick (by repeat (first | exact Pick.hd | apply Pick.tl)) ?_))
        have hlen2 := hdc.len
        refine st_call hs (hc := ref_set w0 _ H' dc _ o.key x _ hok.key (fun p hp => (hdc.all p hp).key) (by omega) hr hw) (k := ?_); rintro e0 W1 ⟨nv, H2, rfl, hle, hnd, hw1⟩; refine ⟨_, rfl, ?_⟩; clear hs hw; intro a hs; have hw := hw1; clear hw1
        obtain ⟨nad, ncap, rfl⟩ := hnd.slice
        repeat (first | (refine sxv hs hw ?_; clear hs; intro a hs) | refine sxc hs ?_ | (refine sxa hs hw ?_; clear hs hw; intro a b W hw hs) | (refine sxs hs hw ?_; clear hs hw; intro W hs hw))
        have hw : Has 0 w0 _ (Cells b6 [.slice nad (setX dc o.key x).length ncap] 52 :: Cells b4 [.slice none 0 0] 52 :: Cells b2 [.slice dad d.length dcap] 52 :: Fz H2 :: Cells b11 (rawCells x) 25 :: Cells b9 (rawCells now) 25 :: Cells b8 (opCells o) 47 :: R) := hw.perm (by repeat (first | exact List.Perm.refl _ | refine perm_pick (by repeat (first | exact Pick.hd | apply Pick.tl)) ?_))
        have hw := hw.sub (L' := Cells b6 [.slice nad (setX dc o.key x).length ncap] 52 :: Cells b4 [.slice none 0 0] 52 :: Cells b2 [.slice dad d.length dcap] 52 :: Fz H2 :: R) (List.Sublist.cons_cons _ (List.Sublist.cons_cons _ (List.Sublist.cons_cons _ (List.Sublist.cons_cons _ (List.Sublist.cons _ (List.Sublist.cons _ (List.Sublist.cons _ (List.Sublist.refl _))))))))
        exact st_again (j + 1, setX dc o.key x, .slice nad (setX dc o.key x).length ncap, H2) hs hw ⟨hj', hH'.trans hle, hdn, hnd, hgo⟩ (by show l.length - (j + 1) < l.length - j; omega) ⟨rfl, rfl, rfl, rfl, int_eq (by show IntKind.i64.wrap ((j : Int) + 1) = ((j + 1 : Nat) : Int); rw [IntWalk.i64_in _ (by omega)]; omega), trivial⟩
  · have hj' : j = l.length := by have : ¬ j < l.length := by simpa using hcc
                                  omega
    subst hj'
    rw [List.drop_length] at hgo
    repeat (first | (refine sxv hs hw ?_; clear hs; intro a hs) | refine sxc hs ?_ | (refine sxa hs hw ?_; clear hs hw; intro a b W hw hs) | (refine sxs hs hw ?_; clear hs hw; intro W hs hw))
    refine rc2 hs rfl rfl hw (In.tl In.hd) rfl rfl ?_
    rw [← hgo]
    exact ⟨_, H', rfl, hH', hr, hw.sub (List.Sublist.cons _ (List.Sublist.cons _ (List.Sublist.cons _ (List.Sublist.refl _))))⟩

end Go.Proofs.YthpenehgfogloaaDoor.Sw

/-
  Sx, more: parts of cells; a region that only reads; function values.
-/
set_option linter.unusedVariables false
set_option maxRecDepth 10000
namespace Go.Sx
open Go.RowKit
section
variable {P : Program} {ops : Array Oper} {rest : List Oper} {Q : Exit → Act → World → Prop} {a : Act} {n : Nat} {L : List (Nat × Value)} {W : World} {d : Nat} {T : TypeId} {p : String} {e : Array Edge}
/-- A function value over what it captures. -/
theorem st_makeFunc {f : FuncId} {xs : List Operand} {vs : List Value} (hs : Slots a n L) (hx : evs L xs = some vs := by with_unfolding_all exact rfl) (hd : Nat.blt d n = true := by with_unfolding_all exact rfl)
    (k : ∀ a', Slots a' n ((d, .func (.func f) ⟨[]⟩ ⟨vs⟩) :: L) → wpList P ops Q rest a' W) : wpList P ops Q (⟨some d, .makeFunc (.func f) ⟨[]⟩ ⟨xs⟩, T, p, e, none⟩ :: rest) a W := by
  refine st_value hs hd (v := .func (.func f) ⟨[]⟩ ⟨vs⟩) (W' := W) ?_ k
  simp only [execOp, List.map_toArray, hs.evs hx, Instr.makeFunc, Sem.run_bind, Sem.run_pure, Result.andThen_ok, List.map_nil]
/-- A call of a function value whose contract is at hand. -/
theorem st_callv {f : FuncId} {x : Operand} {xs : List Operand} {ts : Array TypeId} {vs cs : List Value} {C : Ending → World → Prop} (hs : Slots a n L) (hfv : ev L x = some (.func (.func f) ⟨[]⟩ ⟨cs⟩) := by with_unfolding_all exact rfl) (hx : evs L xs = some vs := by with_unfolding_all exact rfl) (hd : Nat.blt d n = true := by with_unfolding_all exact rfl)
    (hf : callee P f = true) (hc : Calls P f ⟨vs ++ cs⟩ W C)
    (k : ∀ e' W', C e' W' → ∃ v, e' = .returned v ∧ ∀ a', Slots a' n ((d, v) :: L) → wpList P ops Q rest a' W') :
    wpList P ops Q (⟨some d, .call { callee := .value x, args := ⟨xs⟩, argTypes := ts }, T, p, e, none⟩ :: rest) a W := by
  refine wpList_plain rfl fun K hK => ?_
  have hr : (execOp a.eval ⟨some d, .call { callee := .value x, args := ⟨xs⟩, argTypes := ts }, T, p, e, none⟩).run P W = .ok (.enter f ⟨vs ++ cs⟩) W := by
    simp only [execOp, resolve, List.map_toArray, hs.evs hx, hs.ev hfv, Deferred.ofValue, Sem.run_bind, Sem.run_pure, Result.andThen_ok, invoke]
    have : ((⟨[]⟩ : Array Value) ++ ⟨vs⟩ ++ ⟨cs⟩) = ⟨vs ++ cs⟩ := by simp
    simp only [this, run_callFunc hf]
  simp only [Oper.wp, hr, Oper.upon_enter]
  refine hc.mono fun e' W' h => ?_
  obtain ⟨v, rfl, h2⟩ := k e' W' h
  exact hK _ _ (h2 _ (hs.put hd v))
end
theorem Ch.mem {α : Type} {R : α → List Value → Prop} {k : Nat} (hk : ∀ a c, R a c → c.length = k) {l : List α} {cs : List Value} (h : Ch R l cs) {i : Nat} {a : α} (hi : l[i]? = some a) : ∃ c, R a c ∧ cut cs (i * k) k = c := by
  obtain ⟨c, h1, h2, h3⟩ := h.get hk hi
  exact ⟨c, h1, h3⟩
theorem set_mid {cs1 c cs2 : List Value} {m : Nat} {x : Value} (hm : m < c.length) : (cs1 ++ (c ++ cs2)).set (cs1.length + m) x = cs1 ++ (c.set m x ++ cs2) := by
  rw [List.set_append_right _ _ (Nat.le_add_right _ _), Nat.add_sub_cancel_left, List.set_append_left _ _ hm]
/-- A part's cell is written. -/
theorem Ch.set_in {α : Type} {R R' : α → List Value → Prop} {k m i : Nat} {x : Value} {l : List α} {a a' : α} {cs : List Value} (hk : ∀ a c, R a c → c.length = k) (h : Ch R l cs) (hi : l[i]? = some a) (hm : m < k) (hx : ∀ c, R a c → R a' (c.set m x)) : Ch R (l.set i a') (cs.set (i * k + m) x) := by
  obtain ⟨cs1, c, cs2, rfl, h1, h2, h3, h4⟩ := h.split hk hi
  have hl := hk a c h2
  have hlt := (List.getElem?_eq_some_iff.1 hi).1
  rw [← h1, set_mid (by omega), List.set_eq_take_append_cons_drop, if_pos hlt]
  exact h3.app ⟨c.set m x, cs2, rfl, hx c h2, h4⟩
theorem set_same {α : Type} {l : List α} {i : Nat} {a : α} (h : l[i]? = some a) : l.set i a = l := by
  apply List.ext_getElem?
  intro j
  rw [List.getElem?_set]
  split
  · rename_i e
    subst e
    split
    · exact h.symm
    · rename_i hn
      exact absurd (List.getElem?_eq_some_iff.1 h).1 hn
  · rfl
/-- A cell of a part, in the block. -/
theorem Ch.at_cur {α : Type} {R : α → List Value → Prop} {k i n j : Nat} {l : List α} {a : α} {cs cur c : List Value} {u : Value} (hcut : cut cs (i * k) k = c) (ht : cur.take n = cs) (hu : c[j]? = some u) : cur[i * k + j]? = some u := by
  have h1 := congrArg (fun t => t[j]?) hcut
  simp only [cut_eq, List.getElem?_take, List.getElem?_drop, hu] at h1
  split at h1
  · rw [← ht, List.getElem?_take] at h1
    split at h1
    · exact h1
    · cases h1
  · cases h1
theorem In.of_mem {r : Res} : ∀ {L : List Res}, r ∈ L → In r L
  | q :: L, h => by
    rcases List.mem_cons.1 h with rfl | h
    · exact In.hd
    · exact In.tl (In.of_mem h)
theorem keepB {w W : World} {p : Fh → Prop} {b : Bool} (h : Has 0 w W ((if b = true then Ex (fun H => Fz H :: Fact ((fr w).le H ∧ p H) :: []) else Fz (fr w)) :: [])) : Below w.heap.size w W := by
  cases b with
  | false => exact h.endF In.hd (Fh.le.refl _)
  | true =>
    have h : Has 0 w W (Ex (fun H => Fz H :: Fact ((fr w).le H ∧ p H) :: []) :: []) := h
    obtain ⟨H, h⟩ := Has.open h
    have h : Has 0 w W (Fz H :: Fact ((fr w).le H ∧ p H) :: []) := h
    have h2 := h.told (In.tl In.hd)
    exact h.endF In.hd h2.1
theorem keepP {w W : World} {p : Fh → Prop} {b : Bool} (h : Has 0 w W ((if b = true then Ex (fun H => Fz H :: Fact ((fr w).le H ∧ p H) :: []) else Fz (fr w)) :: [])) (hb : b = true) : ∃ H, p H ∧ Has 0 w W (Fz H :: []) := by
  subst hb
  have h : Has 0 w W (Ex (fun H => Fz H :: Fact ((fr w).le H ∧ p H) :: []) :: []) := h
  obtain ⟨H, h⟩ := Has.open h
  have h : Has 0 w W (Fz H :: Fact ((fr w).le H ∧ p H) :: []) := h
  have h2 := h.told (In.tl In.hd)
  exact ⟨H, h2.2, h.sub (List.Sublist.cons_cons _ (List.Sublist.cons _ (List.Sublist.refl _)))⟩
theorem frLe {w W : World} (h : Below w.heap.size w W) : (fr w).le (fr W) := fun b o hb => by
  have hlt : b < w.heap.size := (Array.getElem?_eq_some_iff.1 hb).1
  exact (h.block b hlt).trans hb
theorem keepNew {w W : World} {p : Fh → Prop} (h : Below w.heap.size w W) (hp : p (fr W)) : Has 0 w W (Ex (fun H => Fz H :: Fact ((fr w).le H ∧ p H) :: []) :: []) := by
  have h1 : Has 0 w W (Fz (fr W) :: []) := ((Has.startF w).below h).trans (Has.startF W)
  exact Has.shut (Ls := fun H => Fz H :: Fact ((fr w).le H ∧ p H) :: []) (fr W) ((h1.fact (p := (fr w).le (fr W) ∧ p (fr W)) ⟨frLe h, hp⟩).perm (List.Perm.swap _ _ _))
theorem perm_pull {α β : Type} (f : α → β) : ∀ {l : List α} {i : Nat} {x : α}, l[i]? = some x → (l.map f).Perm (f x :: (l.eraseIdx i).map f)
  | y :: l, 0, x, h => by
    obtain rfl : y = x := by simpa using h
    exact List.Perm.refl _
  | y :: l, i + 1, x, h => ((perm_pull f (l := l) (i := i) (by simpa using h)).cons _).trans (List.Perm.swap _ _ _)
theorem erase_set {α : Type} : ∀ {l : List α} {i : Nat} {x : α}, (l.set i x).eraseIdx i = l.eraseIdx i
  | [], _, _ => rfl
  | y :: l, 0, x => rfl
  | y :: l, i + 1, x => by simp [erase_set]
/-- Some pieces are picked, in any order; the others are left. -/
inductive Sel : List Res → List Res → Prop
  | nil {L : List Res} : Sel [] L
  | refl (L : List Res) : Sel L L
  | cons {r : Res} {K L L' : List Res} : Pick r L L' → Sel K L' → Sel (r :: K) L
  | skip {r : Res} {K L : List Res} : Sel K L → Sel K (r :: L)
theorem Sel.perm {K L : List Res} (s : Sel K L) : ∃ M, L.Perm (K ++ M) := by
  induction s with
  | nil => exact ⟨_, List.Perm.refl _⟩
  | refl L => exact ⟨[], by rw [List.append_nil]⟩
  | cons p _ ih =>
    obtain ⟨M, h⟩ := ih
    exact ⟨M, perm_pick p h⟩
  | @skip r K L _ ih =>
    obtain ⟨M, h⟩ := ih
    exact ⟨r :: M, (h.cons r).trans List.perm_middle.symm⟩
theorem Has.sel {G : Nat} {w W : World} {K L : List Res} (h : Has G w W L) (s : Sel K L) : Has G w W K := by
  obtain ⟨M, hp⟩ := s.perm
  exact (h.perm hp).sub (List.sublist_append_left K M)
end Go.Sx

/-
  Sx: elements of what is frozen, by their addresses; less of it.
-/
set_option linter.unusedVariables false
namespace Go.Sx
open Go.RowKit
theorem chH_at {α : Type} {Rr : α → List Value → Prop} {H : Fh} {sad : Option Addr} {scap n k : Nat} {l : List α} {xs : List Value} {i : Nat} {o : α} (hk : ∀ a c, Rr a c → c.length = k) (r : RdH H k (.slice sad n scap) n xs) (hc : Ch Rr l xs) (hn : l.length = n) (h : l[i]? = some o) :
    ∃ g off c, sad = some ⟨g, off, none⟩ ∧ Rr o c ∧ ∀ {G : Nat} {w0 W : World} {L : List Res}, Has G w0 W L → In (Fz H) L → ∀ j u, c[j]? = some u → W.cell? ⟨g, off + i * k + j, none⟩ = some u := by
  have hi : i < l.length := (List.getElem?_eq_some_iff.1 h).1
  obtain ⟨c, h1, h2, h3⟩ := hc.get hk h
  obtain ⟨_, ad, cap, e, h4, h5, h6⟩ := r
  injection e with e1 e2 e3
  subst e1
  rcases h6 with h6 | ⟨b, off, cs, T, z, rfl, hb, hcell⟩
  · omega
  · refine ⟨b, off, c, rfl, h1, fun hw hin j u hu => ?_⟩
    obtain ⟨F, hF, h7⟩ := hw.of_in hin
    unfold World.cell?
    rw [(h7 b _ hb).2, Nat.add_assoc]
    have : cs[off + (i * k + j)]? = some u := by
      refine hcell _ _ ?_
      rw [← h3, cut_eq, List.getElem?_take] at hu
      split at hu
      · rw [List.getElem?_drop] at hu; exact hu
      · cases hu
    simpa using this
theorem Has.thaw {G : Nat} {w W : World} {R : List Res} {H H' : Fh} (h : Has G w W (Fz H' :: R)) (hl : H.le H') : Has G w W (Fz H :: R) := by
  obtain ⟨F1, h1, h2, h3⟩ := h.has
  exact ⟨h.ext, h.glob, F1, h1, fun b o hb => h2 b o (hl b o hb), h3⟩
theorem chMap {α : Type} (f : α → Value) : ∀ l : List α, Ch (fun a c => c = [f a]) l (l.map f)
  | [] => rfl
  | a :: l => ⟨[f a], l.map f, rfl, rfl, chMap f l⟩
end Go.Sx

/-
  Documents: the walks of the reference's Eq (of a value and itself) and of the law's Same (of one document in both forms).
-/
set_option linter.unusedVariables false
set_option maxRecDepth 10000
namespace Go.Proofs.YthpenehgfogloaaDoor.Sw
open Go.RowKit Go.Sx

-- pieces

set_option maxHeartbeats 4000000 in
theorem ref_Eq_self (k n : Int) (s : ByteArray) (w : World) :
    Calls Tryd.prog 50 ⟨[.agg ⟨[.int .i64 k, .int .i64 n, .string s]⟩, .agg ⟨[.int .i64 k, .int .i64 n, .string s]⟩]⟩ w fun e w' => e = .returned (.bool true) ∧ Below w.heap.size w w' := by
  have hw := Has.start (G := 0) (w := w) (Nat.zero_le _)
  refine enter Tryd.func50 Tryd.ntmps50 rfl rfl fun a hs => ?_
  repeat (first | (refine sxv hs hw ?_; clear hs; intro a hs) | refine sxc hs ?_ | (refine sxa hs hw ?_; clear hs hw; intro a b W hw hs) | (refine sxs hs hw ?_; clear hs hw; intro W hs hw) | ((with_reducible first | refine st_ptrSome hs (k := ?_) | refine st_ptrNone hs (k := ?_)); clear hs; intro a hs))
  rw [beq_self_eq_true] at hs
  repeat (first | (refine sxv hs hw ?_; clear hs; intro a hs) | refine sxc hs ?_ | (refine sxa hs hw ?_; clear hs hw; intro a b W hw hs) | (refine sxs hs hw ?_; clear hs hw; intro W hs hw) | ((with_reducible first | refine st_ptrSome hs (k := ?_) | refine st_ptrNone hs (k := ?_)); clear hs; intro a hs))
  rw [beq_self_eq_true] at hs
  repeat (first | (refine sxv hs hw ?_; clear hs; intro a hs) | refine sxc hs ?_ | (refine sxa hs hw ?_; clear hs hw; intro a b W hw hs) | (refine sxs hs hw ?_; clear hs hw; intro W hs hw) | ((with_reducible first | refine st_ptrSome hs (k := ?_) | refine st_ptrNone hs (k := ?_)); clear hs; intro a hs))
  rw [beq_self_eq_true] at hs
  repeat (first | (refine sxv hs hw ?_; clear hs; intro a hs) | refine sxc hs ?_ | (refine sxa hs hw ?_; clear hs hw; intro a b W hw hs) | (refine sxs hs hw ?_; clear hs hw; intro W hs hw) | ((with_reducible first | refine st_ptrSome hs (k := ?_) | refine st_ptrNone hs (k := ?_)); clear hs; intro a hs))
  exact rt1 hs rfl rfl ⟨rfl, hw.end (by repeat (first | exact In.hd | apply In.tl))⟩

theorem getK_at {d : Dm} (hk : dKeys d) {i : Nat} {o : ByteArray × DV} (h : d[i]? = some o) : getK d o.1 = some o.2 := (getK_mem hk).2 (List.mem_of_getElem? h)

set_option maxHeartbeats 8000000 in
theorem law6_Same (w0 W : World) (H : Fh) (p : Nat) (d : Dm) (dv : Value) (R : List Res) (hd : DocFine d) (r : DocH H dv d) (hw : Has 0 w0 W (DocAt p d :: Fz H :: R)) :
    Calls Tryd.prog 27 ⟨[.pointer (some ⟨p, 0, none⟩), .agg ⟨[dv]⟩]⟩ W fun e W' => e = .returned (.bool true) ∧ Has 0 w0 W' (DocAt p d :: Fz H :: R) := by
  obtain ⟨dad, dcap, rfl⟩ := r.slice
  have hl := hd.ok.len
  refine enter Tryd.func27 Tryd.ntmps27 rfl rfl fun a hs => ?_
  repeat (first | (refine sxv hs hw ?_; clear hs; intro a hs) | refine sxc hs ?_ | (refine sxa hs hw ?_; clear hs hw; intro a b W hw hs) | (refine sxs hs hw ?_; clear hs hw; intro W hs hw) | ((with_reducible first | refine st_ptrSome hs (k := ?_) | refine st_ptrNone hs (k := ?_)); clear hs; intro a hs))
  obtain ⟨b3, q3⟩ := nm1 hw; subst q3
  refine st_call hs (hc := doc_Keys w0 _ p d _ hd (hw.perm (List.Perm.swap _ _ _))) (k := ?_); rintro e0 W1 ⟨kv, rfl, hw1⟩; refine ⟨_, rfl, ?_⟩; clear hs hw; intro a hs
  have hw : Has 0 w0 W1 (Own 9 1 kv d.length (d.map fun x => Value.string x.1) :: Fz H :: Cells b3 [.slice dad d.length dcap] 52 :: DocAt p d :: R) := hw1.perm (by repeat (first | exact List.Perm.refl _ | refine perm_pick (by repeat (first | exact Pick.hd | apply Pick.tl)) ?_))
  clear hw1
  obtain ⟨H1, hle, hw2, rk⟩ := hw.freeze_own
  clear hw; have hw := hw2; clear hw2
  obtain ⟨kad, kcap, rfl⟩ := rk.slice
  have r1 := r.le hle
  repeat (first | (refine sxv hs hw ?_; clear hs; intro a hs) | refine sxc hs ?_ | (refine sxa hs hw ?_; clear hs hw; intro a b W hw hs) | (refine sxs hs hw ?_; clear hs hw; intro W hs hw) | ((with_reducible first | refine st_ptrSome hs (k := ?_) | refine st_ptrNone hs (k := ?_)); clear hs; intro a hs))
  rw [show (((d.length : Int)) != (d.length : Int)) = false from bne_self_eq_false _] at hs
  repeat (first | (refine sxv hs hw ?_; clear hs; intro a hs) | refine sxc hs ?_ | (refine sxa hs hw ?_; clear hs hw; intro a b W hw hs) | (refine sxs hs hw ?_; clear hs hw; intro W hs hw) | ((with_reducible first | refine st_ptrSome hs (k := ?_) | refine st_ptrNone hs (k := ?_)); clear hs; intro a hs))
  refine st_loop (σ := Nat) (fun i => [(0, .pointer (some ⟨p, 0, none⟩)), (3, .pointer (some ⟨b3, 0, none⟩)), (5, .slice kad d.length kcap), (6, .int .i64 (i : Int))]) (fun _ => DocAt p d :: Cells b3 [.slice dad d.length dcap] 52 :: Fz H1 :: R) (fun i => i ≤ d.length) (fun i => d.length - i) 0 (Nat.zero_le _) hs ⟨rfl, rfl, rfl, rfl, trivial⟩ (hw.perm (by repeat (first | exact List.Perm.refl _ | refine perm_pick (by repeat (first | exact Pick.hd | apply Pick.tl)) ?_))) ?_
  clear hs hw
  rintro i a W hi hs hw
  repeat (first | (refine sxv hs hw ?_; clear hs; intro a hs) | refine sxc hs ?_ | (refine sxa hs hw ?_; clear hs hw; intro a b W hw hs) | (refine sxs hs hw ?_; clear hs hw; intro W hs hw) | ((with_reducible first | refine st_ptrSome hs (k := ?_) | refine st_ptrNone hs (k := ?_)); clear hs; intro a hs))
  refine cd_split hs (kt := fun hcc => ?_) (kf := fun hcc => ?_)
  · have hi' : i < d.length := by simpa using hcc
    obtain ⟨o, hoi⟩ : ∃ o, d[i]? = some o := ⟨d[i], List.getElem?_eq_getElem hi'⟩
    have hgk := getK_at hd.ok.keys hoi
    obtain ⟨g1, f1, c1, rfl, rfl, hc1⟩ := chH_at (fun _ _ h => by rw [h]; rfl) rk (chMap (fun x : ByteArray × DV => Value.string x.1) d) rfl hoi
    obtain ⟨g2, f2, c2, rfl, rfl, hc2⟩ := chH_at pair_len r1 (chFlat pairCells d) rfl hoi
    repeat (first | (refine sxv hs hw ?_; clear hs; intro a hs) | refine sxc hs ?_ | (refine sxa hs hw ?_; clear hs hw; intro a b W hw hs) | (refine sxs hs hw ?_; clear hs hw; intro W hs hw) | ((with_reducible first | refine st_ptrSome hs (k := ?_) | refine st_ptrNone hs (k := ?_)); clear hs; intro a hs))
    refine st_index_at hs (z := [.string ⟨#[]⟩]) (h0 := by omega) (h1 := by omega) (c := ?_); clear hs; intro a hs
    repeat (first | (refine sxv hs hw ?_; clear hs; intro a hs) | refine sxc hs ?_ | (refine sxa hs hw ?_; clear hs hw; intro a b W hw hs) | (refine sxs hs hw ?_; clear hs hw; intro W hs hw) | ((with_reducible first | refine st_ptrSome hs (k := ?_) | refine st_ptrNone hs (k := ?_)); clear hs; intro a hs))
    refine st_load_at hs (hc := hc1 hw (by repeat (first | exact In.hd | apply In.tl)) 0 _ rfl) (c := ?_); clear hs; intro a hs
    repeat (first | (refine sxv hs hw ?_; clear hs; intro a hs) | refine sxc hs ?_ | (refine sxa hs hw ?_; clear hs hw; intro a b W hw hs) | (refine sxs hs hw ?_; clear hs hw; intro W hs hw) | ((with_reducible first | refine st_ptrSome hs (k := ?_) | refine st_ptrNone hs (k := ?_)); clear hs; intro a hs))
    refine st_call hs (hc := doc_Get w0 _ p d o.1 _ hw) (k := ?_); rintro e0 W1 ⟨rfl, hw1⟩; refine ⟨_, rfl, ?_⟩; clear hs hw; intro a hs; have hw := hw1; clear hw1
    rw [hgk, show (some o.2).isSome = true from rfl] at hs
    repeat (first | (refine sxv hs hw ?_; clear hs; intro a hs) | refine sxc hs ?_ | (refine sxa hs hw ?_; clear hs hw; intro a b W hw hs) | (refine sxs hs hw ?_; clear hs hw; intro W hs hw) | ((with_reducible first | refine st_ptrSome hs (k := ?_) | refine st_ptrNone hs (k := ?_)); clear hs; intro a hs))
    obtain ⟨b7, q7⟩ := nm1 hw; subst q7
    refine rg_draw (V := [.slice (some ⟨g1, f1, none⟩) d.length kcap, .int .i64 (i : Int), .pointer (some ⟨g1, f1 + i * 1, none⟩), .string o.1, .pointer (some ⟨b3, 0 + 0, none⟩), .slice (some ⟨g2, f2, none⟩) d.length dcap, .int .i64 (i : Int), .pointer (some ⟨g2, f2 + i * 4, none⟩), .pointer (some ⟨g2, f2 + i * 4 + 0, none⟩), .string o.1, .bool false, .bool false, .bool true, .bool false, .bool false, .bool false, .agg ⟨rawCells (some o.2)⟩, .pointer (some ⟨b3, 0 + 0, none⟩), .slice (some ⟨g2, f2, none⟩) d.length dcap, .int .i64 (i : Int), .pointer (some ⟨g2, f2 + i * 4, none⟩), .pointer (some ⟨g2, f2 + i * 4 + 1, none⟩), .agg ⟨rawCells (some o.2)⟩, .bool true, .bool false, .bool false])
      (Rs := fun D => Cells b7 (rawCells (some o.2)) 25 :: DocAt p d :: Cells b3 [.slice (some ⟨g2, f2, none⟩) d.length dcap] 52 :: Fz H1 :: R) hs hw (ho := ⟨?_, ?_, ?c2_c, ?c3_c, ?_, ?_, ?_, ?c7_c, ?_, ?c9_c, ?c10_c, ?_, ?_, ?_, ?_, ?_, ?_, ?_, ?_, ?_, ?c20_c, ?_, ?c22_c, ?c23_c, ?_, ?_, trivial⟩) (k := ?k_c)
    case c2_c =>
      intro LD D a W hcl hi hp hs hw
      refine st_index_at hs (z := [.string ⟨#[]⟩]) (h0 := by omega) (h1 := by omega) (c := ?_); clear hs; intro a hs
      repeat (first | (refine sxv hs hw ?_; clear hs; intro a hs) | refine sxc hs ?_ | (refine sxa hs hw ?_; clear hs hw; intro a b W hw hs) | (refine sxs hs hw ?_; clear hs hw; intro W hs hw) | ((with_reducible first | refine st_ptrSome hs (k := ?_) | refine st_ptrNone hs (k := ?_)); clear hs; intro a hs))
      exact ⟨hs, hw⟩
    case c3_c =>
      intro LD D a W hcl hi hp hs hw
      refine st_load_at hs (hc := hc1 hw (by repeat (first | exact In.hd | apply In.tl)) 0 _ rfl) (c := ?_); clear hs; intro a hs
      repeat (first | (refine sxv hs hw ?_; clear hs; intro a hs) | refine sxc hs ?_ | (refine sxa hs hw ?_; clear hs hw; intro a b W hw hs) | (refine sxs hs hw ?_; clear hs hw; intro W hs hw) | ((with_reducible first | refine st_ptrSome hs (k := ?_) | refine st_ptrNone hs (k := ?_)); clear hs; intro a hs))
      exact ⟨hs, hw⟩
    case c7_c =>
      intro LD D a W hcl hi hp hs hw
      refine st_index_at hs (z := [.string ⟨#[]⟩, .int .i64 0, .int .i64 0, .string ⟨#[]⟩]) (h0 := by omega) (h1 := by omega) (c := ?_); clear hs; intro a hs
      repeat (first | (refine sxv hs hw ?_; clear hs; intro a hs) | refine sxc hs ?_ | (refine sxa hs hw ?_; clear hs hw; intro a b W hw hs) | (refine sxs hs hw ?_; clear hs hw; intro W hs hw) | ((with_reducible first | refine st_ptrSome hs (k := ?_) | refine st_ptrNone hs (k := ?_)); clear hs; intro a hs))
      exact ⟨hs, hw⟩
    case c9_c =>
      intro LD D a W hcl hi hp hs hw
      refine st_load_at hs (hc := hc2 hw (by repeat (first | exact In.hd | apply In.tl)) 0 _ rfl) (c := ?_); clear hs; intro a hs
      repeat (first | (refine sxv hs hw ?_; clear hs; intro a hs) | refine sxc hs ?_ | (refine sxa hs hw ?_; clear hs hw; intro a b W hw hs) | (refine sxs hs hw ?_; clear hs hw; intro W hs hw) | ((with_reducible first | refine st_ptrSome hs (k := ?_) | refine st_ptrNone hs (k := ?_)); clear hs; intro a hs))
      exact ⟨hs, hw⟩
    case c10_c =>
      intro LD D a W hcl hi hp hs hw
      repeat (first | (refine sxv hs hw ?_; clear hs; intro a hs) | refine sxc hs ?_ | (refine sxa hs hw ?_; clear hs hw; intro a b W hw hs) | (refine sxs hs hw ?_; clear hs hw; intro W hs hw) | ((with_reducible first | refine st_ptrSome hs (k := ?_) | refine st_ptrNone hs (k := ?_)); clear hs; intro a hs))
      rw [beq_self_eq_true] at hs
      repeat (first | (refine sxv hs hw ?_; clear hs; intro a hs) | refine sxc hs ?_ | (refine sxa hs hw ?_; clear hs hw; intro a b W hw hs) | (refine sxs hs hw ?_; clear hs hw; intro W hs hw) | ((with_reducible first | refine st_ptrSome hs (k := ?_) | refine st_ptrNone hs (k := ?_)); clear hs; intro a hs))
      exact ⟨hs, hw⟩
    case c20_c =>
      intro LD D a W hcl hi hp hs hw
      repeat (first | (refine sxv hs hw ?_; clear hs; intro a hs) | refine sxc hs ?_ | (refine sxa hs hw ?_; clear hs hw; intro a b W hw hs) | (refine sxs hs hw ?_; clear hs hw; intro W hs hw) | ((with_reducible first | refine st_ptrSome hs (k := ?_) | refine st_ptrNone hs (k := ?_)); clear hs; intro a hs))
      refine st_index_at hs (z := [.string ⟨#[]⟩, .int .i64 0, .int .i64 0, .string ⟨#[]⟩]) (h0 := by omega) (h1 := by omega) (c := ?_); clear hs; intro a hs
      repeat (first | (refine sxv hs hw ?_; clear hs; intro a hs) | refine sxc hs ?_ | (refine sxa hs hw ?_; clear hs hw; intro a b W hw hs) | (refine sxs hs hw ?_; clear hs hw; intro W hs hw) | ((with_reducible first | refine st_ptrSome hs (k := ?_) | refine st_ptrNone hs (k := ?_)); clear hs; intro a hs))
      exact ⟨hs, hw⟩
    case c22_c =>
      intro LD D a W hcl hi hp hs hw
      repeat (first | (refine sxv hs hw ?_; clear hs; intro a hs) | refine sxc hs ?_ | (refine sxa hs hw ?_; clear hs hw; intro a b W hw hs) | (refine sxs hs hw ?_; clear hs hw; intro W hs hw) | ((with_reducible first | refine st_ptrSome hs (k := ?_) | refine st_ptrNone hs (k := ?_)); clear hs; intro a hs))
      refine st_load_ats hs (cs := rawCells (some o.2)) (hc := fun j u h => by rw [Nat.add_assoc _ 1 j, Nat.add_comm 1 j]; exact hc2 hw (by repeat (first | exact In.hd | apply In.tl)) (j + 1) u h) (hl := by rfl) (c := ?_); clear hs; intro a hs
      repeat (first | (refine sxv hs hw ?_; clear hs; intro a hs) | refine sxc hs ?_ | (refine sxa hs hw ?_; clear hs hw; intro a b W hw hs) | (refine sxs hs hw ?_; clear hs hw; intro W hs hw) | ((with_reducible first | refine st_ptrSome hs (k := ?_) | refine st_ptrNone hs (k := ?_)); clear hs; intro a hs))
      exact ⟨hs, hw⟩
    case c23_c =>
      intro LD D a W hcl hi hp hs hw
      repeat (first | (refine sxv hs hw ?_; clear hs; intro a hs) | refine sxc hs ?_ | (refine sxa hs hw ?_; clear hs hw; intro a b W hw hs) | (refine sxs hs hw ?_; clear hs hw; intro W hs hw) | ((with_reducible first | refine st_ptrSome hs (k := ?_) | refine st_ptrNone hs (k := ?_)); clear hs; intro a hs))
      refine st_call hs (hc := ref_Eq_self (kindOf (some o.2)) (intIn (some o.2)) (textIn (some o.2)) _) (k := ?_); rintro e0 W1 ⟨rfl, hb⟩; refine ⟨_, rfl, ?_⟩; clear hs; intro a hs; replace hw := hw.below hb; clear hb
      repeat (first | (refine sxv hs hw ?_; clear hs; intro a hs) | refine sxc hs ?_ | (refine sxa hs hw ?_; clear hs hw; intro a b W hw hs) | (refine sxs hs hw ?_; clear hs hw; intro W hs hw) | ((with_reducible first | refine st_ptrSome hs (k := ?_) | refine st_ptrNone hs (k := ?_)); clear hs; intro a hs))
      exact ⟨hs, hw⟩
    case k_c =>
      clear hs hw
      intro a W hs hw
      replace hw : Has 0 w0 W (Cells b7 (rawCells (some o.2)) 25 :: DocAt p d :: Cells b3 [.slice (some ⟨g2, f2, none⟩) d.length dcap] 52 :: Fz H1 :: R) := hw
      replace hs : Slots a 60 [(59, .bool false), (0, .pointer (some ⟨p, 0, none⟩)), (3, .pointer (some ⟨b3, 0, none⟩)), (5, .slice (some ⟨g1, f1, none⟩) d.length kcap), (6, .int .i64 (i : Int))] := hs.of ⟨rfl, rfl, rfl, rfl, rfl, trivial⟩
      repeat (first | (refine sxv hs hw ?_; clear hs; intro a hs) | refine sxc hs ?_ | (refine sxa hs hw ?_; clear hs hw; intro a b W hw hs) | (refine sxs hs hw ?_; clear hs hw; intro W hs hw) | ((with_reducible first | refine st_ptrSome hs (k := ?_) | refine st_ptrNone hs (k := ?_)); clear hs; intro a hs))
      exact st_again (i + 1) hs (hw.sub (List.Sublist.cons _ (List.Sublist.refl _))) hi' (by show d.length - (i + 1) < d.length - i; omega) ⟨rfl, rfl, rfl, int_eq (by show IntKind.i64.wrap ((i : Int) + 1) = ((i + 1 : Nat) : Int); rw [IntWalk.i64_in _ (by omega)]; omega), trivial⟩
    all_goals
      intro LD D a W hcl hi hp hs hw
      repeat (first | (refine sxv hs hw ?_; clear hs; intro a hs) | refine sxc hs ?_ | (refine sxa hs hw ?_; clear hs hw; intro a b W hw hs) | (refine sxs hs hw ?_; clear hs hw; intro W hs hw) | ((with_reducible first | refine st_ptrSome hs (k := ?_) | refine st_ptrNone hs (k := ?_)); clear hs; intro a hs))
      exact ⟨hs, hw⟩
  · repeat (first | (refine sxv hs hw ?_; clear hs; intro a hs) | refine sxc hs ?_ | (refine sxa hs hw ?_; clear hs hw; intro a b W hw hs) | (refine sxs hs hw ?_; clear hs hw; intro W hs hw) | ((with_reducible first | refine st_ptrSome hs (k := ?_) | refine st_ptrNone hs (k := ?_)); clear hs; intro a hs))
    refine rt1 hs rfl rfl ⟨rfl, ?_⟩
    have hw : Has 0 w0 _ (Fz H1 :: DocAt p d :: Cells b3 [.slice dad d.length dcap] 52 :: R) := hw.perm (by repeat (first | exact List.Perm.refl _ | refine perm_pick (by repeat (first | exact Pick.hd | apply Pick.tl)) ?_))
    have hw := hw.thaw hle
    have hw : Has 0 w0 _ (Cells b3 [.slice dad d.length dcap] 52 :: DocAt p d :: Fz H :: R) := hw.perm (by repeat (first | exact List.Perm.refl _ | refine perm_pick (by repeat (first | exact Pick.hd | apply Pick.tl)) ?_))
    exact hw.sub (List.Sublist.cons _ (List.Sublist.refl _))

end Go.Proofs.YthpenehgfogloaaDoor.Sw
