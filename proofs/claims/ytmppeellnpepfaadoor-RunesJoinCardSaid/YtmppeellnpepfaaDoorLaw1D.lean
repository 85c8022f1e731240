/-
  The walks of the statements of chapter 1: texts put together.
-/
import Derived.Test.YtmppeellnpepfaaDoorLaw1C
set_option linter.unusedVariables false
namespace Go.Proofs.YtmppeellnpepfaaDoor
open Go.RowKit


set_option maxHeartbeats 4000000 in
theorem walk_RunesBad (a b : ByteArray) (c : Int) (w : World) (ha : a.size ≤ 9223372036854775807) (hb0 : b.size ≤ 9223372036854775807) (hc : (Lit.int .u8 c).wf = true) (hT : Tabs w) :
    Calls Tryd.prog 10 #[.string a, .string b, .int .u8 c] w fun e w' => e = .returned (.bool true) ∧ Below w.heap.size w w' := by
  obtain ⟨c0, c1⟩ := IntWalk_u8 hc
  by_cases c2 : c < 248
  · skip
    go_enter Tryd.func10, Tryd.ntmps10
    go_wp2_with fail
    refine (law1_begun _ hT).mono ?_
    rintro e w1 ⟨rfl, hb⟩
    have hb1 := hb
    clear hb
    go_wp2_with fail
    refine (law1_Cut _ _ _ ha (by decide)).mono ?_
    rintro e w2 ⟨rfl, rfl⟩
    have z_x := cutS_size a (Int.toNat 30)
    generalize cutS a (Int.toNat 30) = x at *
    replace z_x : x.size ≤ 30 := z_x
    go_wp2_with fail
    refine (law1_Cut _ _ _ hb0 (by decide)).mono ?_
    rintro e w3 ⟨rfl, rfl⟩
    have z_y := cutS_size b (Int.toNat 30)
    generalize cutS b (Int.toNat 30) = y at *
    replace z_y : y.size ≤ 30 := z_y
    obtain ⟨x, rfl, hx⟩ := as_list x 30 z_x
    obtain ⟨y, rfl, hy⟩ := as_list y 30 z_y
    clear z_x z_y
    go_wp2
    go_ret
    exact ⟨rfl, hb1⟩
  have c3 : 248 ≤ c := by omega
  clear c2
  go_enter Tryd.func10, Tryd.ntmps10
  go_wp2_with fail
  refine (law1_begun _ hT).mono ?_
  rintro e w1 ⟨rfl, hb⟩
  have hb1 := hb
  clear hb
  go_wp2_with fail
  refine (law1_Cut _ _ _ ha (by decide)).mono ?_
  rintro e w2 ⟨rfl, rfl⟩
  have z_x := cutS_size a (Int.toNat 30)
  generalize cutS a (Int.toNat 30) = x at *
  replace z_x : x.size ≤ 30 := z_x
  go_wp2_with fail
  refine (law1_Cut _ _ _ hb0 (by decide)).mono ?_
  rintro e w3 ⟨rfl, rfl⟩
  have z_y := cutS_size b (Int.toNat 30)
  generalize cutS b (Int.toNat 30) = y at *
  replace z_y : y.size ≤ 30 := z_y
  obtain ⟨x, rfl, hx⟩ := as_list x 30 z_x
  obtain ⟨y, rfl, hy⟩ := as_list y 30 z_y
  clear z_x z_y
  go_wp2_with fail
  refine (valid_l x _ (by omega) (hT.keep hb1)).mono ?_
  rintro e w4 ⟨rfl, hb⟩
  have hb4 := bjoin hb1 hb
  clear hb hb1
  cases vx : Lib.validD x
  · skip
    clear vx
    go_wp2
    go_ret
    exact ⟨rfl, hb4⟩
  · skip
    have VX := Lib.hid vx
    clear vx
    go_wp2_with fail
    refine (valid_l y _ (by omega) (hT.keep hb4)).mono ?_
    rintro e w5 ⟨rfl, hb⟩
    have hb5 := bjoin hb4 hb
    clear hb hb4
    cases vy : Lib.validD y
    · skip
      clear vy
      go_wp2
      go_ret
      exact ⟨rfl, hb5⟩
    · skip
      have VY := Lib.hid vy
      clear vy
      have hlit := run_string_lit w5 [c] #[.int .u8 c] 1 rfl rfl (by decide) (by intro z hz; simp at hz; omega)
      obtain ⟨cc, hcc, hcc2⟩ : ∃ cc : UInt8, c.toNat.toUInt8 = cc ∧ 248 ≤ cc.toNat := ⟨_, rfl, by rw [Ph.u8 c (by omega) (by omega)]; omega⟩
      simp only [List.map_cons, List.map_nil] at hlit
      rw [hcc] at hlit
      clear hcc
      have HC2 := Lib.hid hcc2
      clear hcc2
      have hs1 : x.length + 1 ≤ 9223372036854775807 := by omega
      have hs2 : x.length + 1 + y.length ≤ 9223372036854775807 := by omega
      have hcat : (ByteArray.mk x.toArray) ++ (ByteArray.mk #[cc]) ++ (ByteArray.mk y.toArray) = ⟨(x ++ cc :: y).toArray⟩ := by
        have e : (ByteArray.mk #[cc]) = ByteArray.mk [cc].toArray := rfl
        rw [e, bytes_app, bytes_app]
        simp
      have hll : (x ++ cc :: y).length ≤ 61 := by simp; omega
      have hbv := Ph.bad_valid x y cc VX.out HC2.out
      have hbc := Ph.bad_count x y cc VX.out HC2.out
      have hbf := Ph.bad_fold x y cc VX.out HC2.out
      have hbk := Ph.keyB_invalid hbv
      generalize x ++ cc :: y = z at *
      have HBV := Lib.hid hbv
      have HBC := Lib.hid hbc
      have HBF := Lib.hid hbf
      have HBK := Lib.hid hbk
      clear hbv hbc hbf hbk
      have hbn := hb5.alloc hb5.size (.cells #[.int .u8 c] 5)
      clear hb5
      go_wp2_with fail
      refine (valid_l z _ (by omega) (hT.keep hbn)).mono ?_
      rintro e w6 ⟨rfl, hb⟩
      have hb6 := bjoin hbn hb
      clear hb hbn
      rw [HBV.out]
      go_wp2_with fail
      refine (key_l z _ (by omega) (hT.keep hb6)).mono ?_
      rintro e w7 ⟨rfl, hb⟩
      have hb7 := bjoin hb6 hb
      clear hb hb6
      rw [HBK.out]
      go_wp2_with fail
      refine (count_l z _ (by omega)).mono ?_
      rintro e w8 ⟨rfl, hb⟩
      have hb8 := bjoin hb7 hb
      clear hb hb7
      rw [HBC.out]
      have hcx : Ph.count x ≤ 30 := by have := Ph.rs_length_le x; unfold Ph.count; omega
      have hcy : Ph.count y ≤ 30 := by have := Ph.rs_length_le y; unfold Ph.count; omega
      go_wp2_with fail
      refine (count_l x _ (by omega)).mono ?_
      rintro e w9 ⟨rfl, hb⟩
      have hb9 := bjoin hb8 hb
      clear hb hb8
      go_wp2_with fail
      refine (count_l y _ (by omega)).mono ?_
      rintro e w10 ⟨rfl, hb⟩
      have hb10 := bjoin hb9 hb
      clear hb hb9
      have hfx := Ph.foldL_len x
      have hfy := Ph.foldL_len y
      have hcnt : (((Ph.count x + 1 + Ph.count y : Nat) : Int) == (Ph.count x : Int) + 1 + (Ph.count y : Int)) = true := by rw [beq_iff_eq]; omega
      go_wp2_with fail
      refine (fold_l z _ (by omega)).mono ?_
      rintro e w11 ⟨rfl, hb⟩
      have hb11 := bjoin hb10 hb
      clear hb hb10
      go_wp2_with fail
      refine (fold_l x _ (by omega)).mono ?_
      rintro e w12 ⟨rfl, hb⟩
      have hb12 := bjoin hb11 hb
      clear hb hb11
      have hs3 : (Ph.foldL x).length + 3 ≤ 9223372036854775807 := by omega
      have hs4 : (Ph.foldL x).length + 3 + (Ph.foldL y).length ≤ 9223372036854775807 := by omega
      have hcat2 : (ByteArray.mk (Ph.foldL x).toArray) ++ (ByteArray.mk #[239, 191, 189]) ++ (ByteArray.mk (Ph.foldL y).toArray) = ⟨(Ph.foldL z).toArray⟩ := by
        have e : (ByteArray.mk #[239, 191, 189]) = ByteArray.mk [239, 191, 189].toArray := rfl
        rw [e, bytes_app, bytes_app, HBF.out]
      go_wp2_with fail
      refine (fold_l y _ (by omega)).mono ?_
      rintro e w13 ⟨rfl, hb⟩
      have hb13 := bjoin hb12 hb
      clear hb hb12
      go_wp2
      go_ret
      exact ⟨rfl, hb13⟩

set_option maxHeartbeats 4000000 in
theorem walk_RunesJoin (a b : ByteArray) (w : World) (ha : a.size ≤ 9223372036854775807) (hb0 : b.size ≤ 9223372036854775807) (hT : Tabs w) :
    Calls Tryd.prog 11 #[.string a, .string b] w fun e w' => e = .returned (.bool true) ∧ Below w.heap.size w w' := by
  go_enter Tryd.func11, Tryd.ntmps11
  go_wp2_with fail
  refine (law1_begun _ hT).mono ?_
  rintro e w1 ⟨rfl, hb⟩
  have hb1 := hb
  clear hb
  go_wp2_with fail
  refine (law1_Cut _ _ _ ha (by decide)).mono ?_
  rintro e w2 ⟨rfl, rfl⟩
  have z_x := cutS_size a (Int.toNat 40)
  generalize cutS a (Int.toNat 40) = x at *
  replace z_x : x.size ≤ 40 := z_x
  go_wp2_with fail
  refine (law1_Cut _ _ _ hb0 (by decide)).mono ?_
  rintro e w3 ⟨rfl, rfl⟩
  have z_y := cutS_size b (Int.toNat 40)
  generalize cutS b (Int.toNat 40) = y at *
  replace z_y : y.size ≤ 40 := z_y
  obtain ⟨x, rfl, hx⟩ := as_list x 40 z_x
  obtain ⟨y, rfl, hy⟩ := as_list y 40 z_y
  clear z_x z_y
  go_wp2_with fail
  refine (valid_l x _ (by omega) (hT.keep hb1)).mono ?_
  rintro e w4 ⟨rfl, hb⟩
  have hb4 := bjoin hb1 hb
  clear hb hb1
  cases vx : Lib.validD x
  · skip
    clear vx
    go_wp2
    go_ret
    exact ⟨rfl, hb4⟩
  · skip
    have VX := Lib.hid vx
    clear vx
    go_wp2_with fail
    refine (valid_l y _ (by omega) (hT.keep hb4)).mono ?_
    rintro e w5 ⟨rfl, hb⟩
    have hb5 := bjoin hb4 hb
    clear hb hb4
    cases vy : Lib.validD y
    · skip
      clear vy
      go_wp2
      go_ret
      exact ⟨rfl, hb5⟩
    · skip
      have VY := Lib.hid vy
      clear vy
      have hs1 : x.length + y.length ≤ 9223372036854775807 := by omega
      have hcat : (ByteArray.mk x.toArray) ++ (ByteArray.mk y.toArray) = ⟨(x ++ y).toArray⟩ := bytes_app x y
      have hll : (x ++ y).length ≤ 80 := by simp; omega
      have hbv : Lib.validD (x ++ y) = true := by rw [Ph.validD_append x y VX.out, VY.out]
      have hbc := Ph.join_count x y VX.out
      have hbf := Ph.foldL_append x y VX.out
      have hbk := Ph.join_cut x y VX.out
      have hbl := Ph.lessL_append x y VX.out
      generalize x ++ y = z at *
      have HBV := Lib.hid hbv
      have HBC := Lib.hid hbc
      have HBF := Lib.hid hbf
      have HBK := Lib.hid hbk
      have HBL := Lib.hid hbl
      clear hbv hbc hbf hbk hbl
      have hfx := Ph.foldL_len x
      have hfy := Ph.foldL_len y
      have hcx : Ph.count x ≤ 40 := by have := Ph.rs_length_le x; unfold Ph.count; omega
      have hcy : Ph.count y ≤ 40 := by have := Ph.rs_length_le y; unfold Ph.count; omega
      have hcnt : (((Ph.count x + Ph.count y : Nat) : Int) == (Ph.count x : Int) + (Ph.count y : Int)) = true := by rw [beq_iff_eq]; omega
      have hs3 : (Ph.foldL x).length + (Ph.foldL y).length ≤ 9223372036854775807 := by omega
      have hcat2 : (ByteArray.mk (Ph.foldL x).toArray) ++ (ByteArray.mk (Ph.foldL y).toArray) = ⟨(Ph.foldL z).toArray⟩ := by
        rw [bytes_app, HBF.out]
      go_wp2_with fail
      refine (valid_l z _ (by omega) (hT.keep hb5)).mono ?_
      rintro e w6 ⟨rfl, hb⟩
      have hb6 := bjoin hb5 hb
      clear hb hb5
      rw [HBV.out]
      go_wp2_with fail
      refine (count_l z _ (by omega)).mono ?_
      rintro e w7 ⟨rfl, hb⟩
      have hb7 := bjoin hb6 hb
      clear hb hb6
      rw [HBC.out]
      go_wp2_with fail
      refine (count_l x _ (by omega)).mono ?_
      rintro e w8 ⟨rfl, hb⟩
      have hb8 := bjoin hb7 hb
      clear hb hb7
      go_wp2_with fail
      refine (count_l y _ (by omega)).mono ?_
      rintro e w9 ⟨rfl, hb⟩
      have hb9 := bjoin hb8 hb
      clear hb hb8
      go_wp2_with fail
      refine (fold_l z _ (by omega)).mono ?_
      rintro e w10 ⟨rfl, hb⟩
      have hb10 := bjoin hb9 hb
      clear hb hb9
      go_wp2_with fail
      refine (fold_l x _ (by omega)).mono ?_
      rintro e w11 ⟨rfl, hb⟩
      have hb11 := bjoin hb10 hb
      clear hb hb10
      go_wp2_with fail
      refine (fold_l y _ (by omega)).mono ?_
      rintro e w12 ⟨rfl, hb⟩
      have hb12 := bjoin hb11 hb
      clear hb hb11
      go_wp2_with fail
      refine (count_l x _ (by omega)).mono ?_
      rintro e w13 ⟨rfl, hb⟩
      have hb13 := bjoin hb12 hb
      clear hb hb12
      go_wp2_with fail
      refine (cut_l z _ _ (by omega)).mono ?_
      rintro e w14 ⟨rfl, hb⟩
      have hb14 := bjoin hb13 hb
      clear hb hb13
      rw [HBK.out]
      go_wp2_with fail
      refine (less_l z x _ (by omega) (by omega)).mono ?_
      rintro e w15 ⟨rfl, hb⟩
      have hb15 := bjoin hb14 hb
      clear hb hb14
      rw [HBL.out]
      go_wp2
      go_ret
      exact ⟨rfl, hb15⟩
end Go.Proofs.YtmppeellnpepfaaDoor
