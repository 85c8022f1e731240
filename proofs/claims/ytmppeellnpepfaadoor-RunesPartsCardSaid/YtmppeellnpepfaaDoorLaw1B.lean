/-
  The walks of the statements of chapter 1, more.
-/
import Derived.Test.YtmppeellnpepfaaDoorLaw1A
set_option linter.unusedVariables false
namespace Go.Proofs.YtmppeellnpepfaaDoor
open Go.RowKit

/-! ### the contracts at a text that is written as a list of bytes -/
theorem lsize (l : List UInt8) : (ByteArray.mk l.toArray).size = l.length := by simp [ByteArray.size]
theorem fold_l (l : List UInt8) (w : World) (hs : l.length ≤ 1000000) :
    Calls Tryd.prog 23 #[.string ⟨l.toArray⟩] w fun e w' => e = .returned (.string ⟨(Ph.foldL l).toArray⟩) ∧ Below w.heap.size w w' := runes_Fold ⟨l.toArray⟩ w (by rw [lsize]; omega)
theorem valid_l (l : List UInt8) (w : World) (hs : l.length ≤ 1000000) (hT : Tabs w) :
    Calls Tryd.prog 17 #[.string ⟨l.toArray⟩] w fun e w' => e = .returned (.bool (Lib.validD l)) ∧ Below w.heap.size w w' := runes_Valid ⟨l.toArray⟩ w (by rw [lsize]; omega) hT
theorem count_l (l : List UInt8) (w : World) (hs : l.length ≤ 1000000) :
    Calls Tryd.prog 18 #[.string ⟨l.toArray⟩] w fun e w' => e = .returned (.int .i64 (Ph.count l)) ∧ Below w.heap.size w w' := runes_Count ⟨l.toArray⟩ w (by rw [lsize]; omega)
theorem key_l (l : List UInt8) (w : World) (hs : l.length ≤ 1000000) (hT : Tabs w) :
    Calls Tryd.prog 21 #[.string ⟨l.toArray⟩] w fun e w' => e = .returned (.bool (Ph.keyB l)) ∧ Below w.heap.size w w' := runes_Key ⟨l.toArray⟩ w (by rw [lsize]; omega) hT
theorem decode_l (l : List UInt8) (w : World) (hs : l.length ≤ 1000000) :
    Calls Tryd.prog 15 #[.string ⟨l.toArray⟩] w fun e w' => e = .returned (.tuple #[.int .i32 (Ph.decZ l).1, .int .i64 (Ph.decZ l).2]) ∧ Below w.heap.size w w' := runes_Decode ⟨l.toArray⟩ w (by rw [lsize]; omega)
theorem cut_l (l : List UInt8) (n : Int) (w : World) (hs : l.length ≤ 1000000) :
    Calls Tryd.prog 19 #[.string ⟨l.toArray⟩, .int .i64 n] w fun e w' => e = .returned (.string ⟨(Ph.cutL l n).toArray⟩) ∧ Below w.heap.size w w' := runes_Cut ⟨l.toArray⟩ n w (by rw [lsize]; omega)
theorem less_l (a b : List UInt8) (w : World) (ha : a.length ≤ 1000000) (hb : b.length ≤ 1000000) :
    Calls Tryd.prog 29 #[.string ⟨a.toArray⟩, .string ⟨b.toArray⟩] w fun e w' => e = .returned (.bool (Ph.lessL a b)) ∧ Below w.heap.size w w' := runes_Less ⟨a.toArray⟩ ⟨b.toArray⟩ w (by rw [lsize]; omega) (by rw [lsize]; omega)
theorem refdecode_l (l : List UInt8) (w : World) (hs : l.length ≤ 1000000) :
    Calls Tryd.prog 16 #[.string ⟨l.toArray⟩] w fun e w' => e = .returned (.tuple #[.int .i32 (Ph.decZ l).1, .int .i64 (Ph.decZ l).2]) ∧ w = w' := ref_Decode ⟨l.toArray⟩ w (by rw [lsize]; omega)
theorem as_list (s : ByteArray) (n : Nat) (h : s.size ≤ n) : ∃ l : List UInt8, s = ⟨l.toArray⟩ ∧ l.length ≤ n := ⟨s.data.toList, (Ph.eta_bytes s).symm, by rw [Ph.len_toList]; exact h⟩


set_option maxHeartbeats 2000000 in
theorem walk_RunesFold (s : ByteArray) (w : World) (hs : s.size ≤ 9223372036854775807) (hT : Tabs w) :
    Calls Tryd.prog 6 #[.string s] w fun e w' => e = .returned (.bool true) ∧ Below w.heap.size w w' := by
  go_enter Tryd.func6, Tryd.ntmps6
  go_wp2_with fail
  refine (law1_begun _ hT).mono ?_
  rintro e w1 ⟨rfl, hb⟩
  have hb1 := hb
  clear hb
  go_wp2_with fail
  refine (law1_Cut _ _ _ hs (by decide)).mono ?_
  rintro e w2 ⟨rfl, rfl⟩
  have z_t := cutS_size s (Int.toNat 100)
  generalize cutS s (Int.toNat 100) = t at *
  replace z_t : t.size ≤ 100 := z_t
  obtain ⟨l, rfl, hl⟩ := as_list t 100 z_t
  clear z_t
  have hfl := Ph.foldR_len (Ph.rs l)
  have hrl := Ph.rs_length_le l
  have hfl' : (Ph.foldL l).length ≤ 400 := by show (Ph.foldR (Ph.rs l)).length ≤ 400; omega
  have hff := Ph.foldR_len (Ph.rs (Ph.foldL l))
  have hfr := Ph.rs_length_le (Ph.foldL l)
  clear hfl hrl hff hfr
  go_wp2_with fail
  refine (fold_l l _ (by omega)).mono ?_
  rintro e w3 ⟨rfl, hb⟩
  have hb3 := bjoin hb1 hb
  clear hb hb1
  go_wp2_with fail
  refine (fold_l (Ph.foldL l) _ (by omega)).mono ?_
  rintro e w4 ⟨rfl, hb⟩
  have hb4 := bjoin hb3 hb
  clear hb hb3
  rw [Ph.foldL_foldL]
  go_wp2_with fail
  refine (valid_l (Ph.foldL l) _ (by omega) (hT.keep hb4)).mono ?_
  rintro e w5 ⟨rfl, hb⟩
  have hb5 := bjoin hb4 hb
  clear hb hb4
  rw [Ph.foldL_valid]
  go_wp2_with fail
  refine (count_l (Ph.foldL l) _ (by omega)).mono ?_
  rintro e w6 ⟨rfl, hb⟩
  have hb6 := bjoin hb5 hb
  clear hb hb5
  rw [Ph.foldL_count]
  go_wp2_with fail
  refine (count_l l _ (by omega)).mono ?_
  rintro e w7 ⟨rfl, hb⟩
  have hb7 := bjoin hb6 hb
  clear hb hb6
  go_wp2_with fail
  refine (key_l l _ (by omega) (hT.keep hb7)).mono ?_
  rintro e w8 ⟨rfl, hb⟩
  have hb8 := bjoin hb7 hb
  clear hb hb7
  cases hk : Ph.keyB l
  · clear hk
    go_wp2
    go_ret
    exact ⟨rfl, hb8⟩
  · skip
    have hkf := Ph.foldL_key l hk
    clear hk
    go_wp2_with fail
    refine (key_l (Ph.foldL l) _ (by omega) (hT.keep hb8)).mono ?_
    rintro e w9 ⟨rfl, hb⟩
    have hb9 := bjoin hb8 hb
    clear hb hb8
    rw [hkf]
    clear hkf
    go_wp2
    go_ret
    exact ⟨rfl, hb9⟩

set_option maxHeartbeats 2000000 in
theorem walk_RunesOrder (a b c : ByteArray) (w : World) (ha : a.size ≤ 9223372036854775807) (hb0 : b.size ≤ 9223372036854775807) (hc : c.size ≤ 9223372036854775807) (hT : Tabs w) :
    Calls Tryd.prog 5 #[.string a, .string b, .string c] w fun e w' => e = .returned (.bool true) ∧ Below w.heap.size w w' := by
  go_enter Tryd.func5, Tryd.ntmps5
  go_wp2_with fail
  refine (law1_begun _ hT).mono ?_
  rintro e w1 ⟨rfl, hb⟩
  have hb1 := hb
  clear hb
  go_wp2_with fail
  refine (law1_Cut _ _ _ ha (by decide)).mono ?_
  rintro e w2 ⟨rfl, rfl⟩
  have z_x := cutS_size a (Int.toNat 40)
  generalize cutS a (Int.toNat 40) = x at *
  replace z_x : x.size ≤ 40 := z_x
  go_wp2_with fail
  refine (law1_Cut _ _ _ hb0 (by decide)).mono ?_
  rintro e w3 ⟨rfl, rfl⟩
  have z_y := cutS_size b (Int.toNat 40)
  generalize cutS b (Int.toNat 40) = y at *
  replace z_y : y.size ≤ 40 := z_y
  go_wp2_with fail
  refine (law1_Cut _ _ _ hc (by decide)).mono ?_
  rintro e w4 ⟨rfl, rfl⟩
  have z_z := cutS_size c (Int.toNat 40)
  generalize cutS c (Int.toNat 40) = z at *
  replace z_z : z.size ≤ 40 := z_z
  obtain ⟨x, rfl, hx⟩ := as_list x 40 z_x
  obtain ⟨y, rfl, hy⟩ := as_list y 40 z_y
  obtain ⟨z, rfl, hz⟩ := as_list z 40 z_z
  clear z_x z_y z_z
  go_wp2_with fail
  refine (less_l x y _ (by omega) (by omega)).mono ?_
  rintro e w5 ⟨rfl, hb⟩
  have hb5 := bjoin hb1 hb
  clear hb hb1
  have hrl : ∀ W, Calls Tryd.prog 30 #[.string ⟨x.toArray⟩, .string ⟨y.toArray⟩] W fun e w' => e = .returned (.bool (Ph.lessL x y)) ∧ Below W.heap.size W w' := fun W => ref_Less ⟨x.toArray⟩ ⟨y.toArray⟩ W (by rw [lsize]; omega) (by rw [lsize]; omega)
  have HRL := Lib.hid hrl
  clear hrl
  go_wp2_with fail
  refine (HRL.out _).mono ?_
  rintro e w6 ⟨rfl, hb⟩
  have hb6 := bjoin hb5 hb
  clear hb hb5
  cases hxy : Ph.lessL x y
  · skip
    by_cases he : x = y
    · skip
      subst he
      clear hxy
      go_wp2_with fail
      refine (less_l x x _ (by omega) (by omega)).mono ?_
      rintro e w7 ⟨rfl, hb⟩
      have hb7 := bjoin hb6 hb
      clear hb hb6
      rw [Ph.lessL_irr]
      go_wp2
      go_ret
      exact ⟨rfl, hb7⟩
    · skip
      have hyx : Ph.lessL y x = true := by
        have := Ph.lessL_total x y he
        rw [hxy] at this
        simpa using this
      have HE := Lib.hid he
      clear hxy he
      go_wp2_with fail
      refine (less_l y x _ (by omega) (by omega)).mono ?_
      rintro e w7 ⟨rfl, hb⟩
      have hb7 := bjoin hb6 hb
      clear hb hb6
      rw [hyx]
      clear hyx
      have hne : (x == y) = false := beq_eq_false_iff_ne.2 HE.out
      go_wp2
      go_ret
      exact ⟨rfl, hb7⟩
  · skip
    have hyx := Ph.lessL_asymm x y hxy
    have HE : Hid (x ≠ y) := fun he => by
      subst he
      rw [Ph.lessL_irr] at hxy
      cases hxy
    have HT3 : Hid (Ph.lessL y z = true → Ph.lessL x z = true) := fun h => Ph.lessL_trans x y z hxy h
    have hne : (x == y) = false := beq_eq_false_iff_ne.2 HE.out
    clear hxy
    go_wp2_with fail
    refine (less_l y x _ (by omega) (by omega)).mono ?_
    rintro e w7 ⟨rfl, hb⟩
    have hb7 := bjoin hb6 hb
    clear hb hb6
    rw [hyx]
    clear hyx
    go_wp2_with fail
    refine (less_l y z _ (by omega) (by omega)).mono ?_
    rintro e w8 ⟨rfl, hb⟩
    have hb8 := bjoin hb7 hb
    clear hb hb7
    cases hyz : Ph.lessL y z
    · skip
      clear hyz
      go_wp2
      go_ret
      exact ⟨rfl, hb8⟩
    · skip
      have hxz := HT3.out hyz
      clear hyz
      go_wp2_with fail
      refine (less_l x z _ (by omega) (by omega)).mono ?_
      rintro e w9 ⟨rfl, hb⟩
      have hb9 := bjoin hb8 hb
      clear hb hb8
      rw [hxz]
      clear hxz
      go_wp2
      go_ret
      exact ⟨rfl, hb9⟩
end Go.Proofs.YtmppeellnpepfaaDoor
