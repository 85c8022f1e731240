/-
  The walk of the reference's Less.
-/
import Derived.Test.YtmppeellnpepfaaDoorRefD
set_option linter.unusedVariables false
namespace Go.Proofs.YtmppeellnpepfaaDoor
open Go.RowKit

set_option maxHeartbeats 1000000 in
theorem ref_Less (a b : ByteArray) (w : World) (ha : a.size ≤ 1000000) (hb : b.size ≤ 1000000) :
    Calls Tryd.prog 30 #[.string a, .string b] w fun e w' => e = .returned (.bool (Ph.lessL a.data.toList b.data.toList)) ∧ Below w.heap.size w w' := by
  have hca : (Ph.rs a.data.toList).length ≤ a.size := Ph.count_le a
  have hcb : (Ph.rs b.data.toList).length ≤ b.size := Ph.count_le b
  have HOA := Lib.hid (Ph.rs_small a.data.toList)
  have HOB := Lib.hid (Ph.rs_small b.data.toList)
  have HL := Lib.hid (Ph.lessD_all a.data.toList b.data.toList)
  go_enter Tryd.func30, Tryd.ntmps30
  go_wp2_with fail
  refine (ref_Runes a _ ha).mono ?_
  rintro e w1 ⟨vl, va, rfl, hl, _, hb1⟩
  go_wp2_with fail
  refine (ref_Runes b _ hb).mono ?_
  rintro e w2 ⟨vm, vb, rfl, hm, _, hb2⟩
  have hl2 := own_below hl hb2
  have hb3 : Below w.heap.size w w2 := hb1.trans (hb2.mono hb1.size)
  clear hl hb1 hb2
  obtain ⟨Al, cl, rfl, _, _, fl⟩ := own_slice hl2
  obtain ⟨Am, cm, rfl, _, _, fm⟩ := own_slice hm
  have HLL := Lib.hid hl2
  have HMM := Lib.hid hm
  clear hl2 hm
  generalize hx : Ph.rs a.data.toList = X at *
  generalize hy : Ph.rs b.data.toList = Y at *
  clear hx hy
  go_wp2
  go_loopw [11] (fun i wr => ∃ k : Nat, k ≤ X.length ∧ k ≤ Y.length ∧ i = .int .i64 k ∧ Below w2.heap.size w2 wr ∧ Hid (Ph.lessL a.data.toList b.data.toList = Ph.lessD a.data.toList b.data.toList (X.drop k) (Y.drop k))) (fun i _ => X.length - (intOf i).toNat)
  case atStart => exact ⟨0, by omega, by omega, rfl, Below.refl _ _, by show _ = _; rw [HL.out]; rfl⟩
  case round =>
    obtain ⟨k, hk1, hk2, rfl, hbw, HK⟩ := hrel
    by_cases hlt : k < X.length ∧ k < Y.length
    · obtain ⟨h1, h2⟩ := hlt
      have h1' : (k : Int) < (X.length : Int) := by omega
      have h2' : (k : Int) < (Y.length : Int) := by omega
      obtain ⟨g, rfl, fc⟩ := fl (by omega)
      obtain ⟨g', rfl, fc'⟩ := fm (by omega)
      have hg := (HLL.out.lt g rfl).2
      have hg' := (HMM.out.lt g' rfl).2
      have hc : wr.cell? ⟨g, k, none⟩ = some (.int .i32 (X[k]).1) := by
        rw [hbw.cell (p := ⟨g, k, none⟩) hg, fc k (by omega), Ph.runeVals_get _ k h1]
      have hc' : wr.cell? ⟨g', k, none⟩ = some (.int .i32 (Y[k]).1) := by
        rw [hbw.cell (p := ⟨g', k, none⟩) hg', fc' k (by omega), Ph.runeVals_get _ k h2]
      have HD : Hid (X.drop k = X[k] :: X.drop (k + 1)) := List.drop_eq_getElem_cons h1
      have HD' : Hid (Y.drop k = Y[k] :: Y.drop (k + 1)) := List.drop_eq_getElem_cons h2
      clear fc fc' fl fm
      generalize X[k] = p at *
      generalize Y[k] = q at *
      have g1 : (0 : Int) ≤ (k : Int) := by omega
      by_cases hpq : p.1 = q.1
      · have HN : Hid (Ph.lessL a.data.toList b.data.toList = Ph.lessD a.data.toList b.data.toList (X.drop (k + 1)) (Y.drop (k + 1))) := by
          show _ = _
          rw [HK.out, HD.out, HD'.out, Ph.lessD_eq _ _ _ _ _ _ hpq]
        have hne : ((p.1 : Int) != (q.1 : Int)) = false := by rw [hpq]; simp
        clear hpq
        go_wp2_with fail
        go_quiet (fail)
        go_wp2
        go_roundw
        case rel => exact ⟨k + 1, by omega, by omega, by go_num, below_drewN hbw _, HN⟩
        case measure => simp [intOf]; omega
      · have HN : Hid (Ph.lessL a.data.toList b.data.toList = decide (p.1 < q.1)) := by
          show _ = _
          rw [HK.out, HD.out, HD'.out, Ph.lessD_ne _ _ _ _ _ _ hpq]
        have hne : ((p.1 : Int) != (q.1 : Int)) = true := by rw [bne_iff_ne]; omega
        clear hpq
        go_wp2_with fail
        go_quiet (fail)
        go_wp2
        go_quiet (fail)
        go_wp2
        go_ret
        exact ⟨ret_bool HN.out.symm, hb3.trans (below_drewN (below_drewN (hbw.mono hb3.size) _) _)⟩
    · have H := Lib.hid hlt
      clear hlt
      by_cases e1 : k < X.length
      · have e1' : (k : Int) < (X.length : Int) := by omega
        have e2' : (Y.length : Int) ≤ (k : Int) := by have := H.out; omega
        have HN : Hid (Ph.lessL a.data.toList b.data.toList = false) := by
          show _ = _
          rw [HK.out, Ph.lessD_cn _ _ (by simp; omega) (by simp; omega)]
        have hne : ((X.length : Int) != (Y.length : Int)) = true := by rw [bne_iff_ne]; omega
        have hlt : ¬ X.length < Y.length := by omega
        go_wp2
        go_ret
        exact ⟨ret_bool HN.out.symm, hb3.trans (hbw.mono hb3.size)⟩
      · have e1' : (X.length : Int) ≤ (k : Int) := by omega
        by_cases e2 : k < Y.length
        · have HN : Hid (Ph.lessL a.data.toList b.data.toList = true) := by
            show _ = _
            rw [HK.out, Ph.lessD_nc _ _ (by simp; omega) (by simp; omega)]
          have hne : ((X.length : Int) != (Y.length : Int)) = true := by rw [bne_iff_ne]; omega
          go_wp2
          go_ret
          exact ⟨ret_bool (by rw [HN.out]; exact decide_eq_true (by omega)), hb3.trans (hbw.mono hb3.size)⟩
        · have HN : Hid (Ph.lessL a.data.toList b.data.toList = Op.bytesLess a.toList b.toList) := by
            show _ = _
            rw [HK.out, List.drop_eq_nil_of_le (by omega), List.drop_eq_nil_of_le (by omega), Ph.lessD_nn, Ph.bytesLess_toList]
          have hne : ((X.length : Int) != (Y.length : Int)) = false := by rw [bne_eq_false_iff_eq]; omega
          go_wp2
          go_ret
          exact ⟨ret_bool HN.out.symm, hb3.trans (hbw.mono hb3.size)⟩
end Go.Proofs.YtmppeellnpepfaaDoor
