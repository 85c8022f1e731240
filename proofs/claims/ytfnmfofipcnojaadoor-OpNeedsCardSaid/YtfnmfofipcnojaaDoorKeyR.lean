/-
  The walk of the reference's Key, for a seat that lacks its neighbours.
-/
import Derived.Test.YtfnmfofipcnojaaDoorRefB
import Derived.Deep.QuietTactic
import Derived.BigQuiet
set_option linter.unusedVariables false
namespace Go.Proofs.YtfnmfofipcnojaaDoor
open Go.RowKit

set_option maxHeartbeats 400000 in
theorem ref_Key (s : ByteArray) (w : World) (hs : s.size ≤ 1000000) :
    Calls Tryd.prog 26 #[.string s] w fun e w' => e = .returned (.bool (Ph.keyB s.data.toList)) ∧ Below w.heap.size w w' := by
  have hcl := Ph.count_le s
  have hcl' : (Ph.rs s.data.toList).length ≤ s.size := hcl
  by_cases h1 : (Ph.rs s.data.toList).length < 1 ∨ 40 < (Ph.rs s.data.toList).length ∨ Lib.validD s.data.toList = false
  · have HF : Hid (Ph.keyB s.data.toList = false) := by
      show _ = _
      rcases h1 with h | h | h
      · exact Ph.keyB_short (by unfold Ph.count; omega)
      · exact Ph.keyB_short (by unfold Ph.count; omega)
      · simp [Ph.keyB, h]
    have H1 := Lib.hid h1
    clear h1
    by_cases c1 : (Ph.rs s.data.toList).length < 1
    · have c1' : ((Ph.rs s.data.toList).length : Int) < 1 := by omega
      go_enter Tryd.func26, Tryd.ntmps26
      go_wp2_with fail
      refine (ref_Runes s _ hs).mono ?_
      rintro e w' ⟨vl, va, rfl, hl, ha, hb⟩
      obtain ⟨Al, cl, rfl, _, _, fl⟩ := own_slice hl
      go_wp2
      go_ret
      exact ⟨ret_bool HF.out.symm, hb⟩
    · have c1' : (1 : Int) ≤ ((Ph.rs s.data.toList).length : Int) := by omega
      by_cases c2 : 40 < (Ph.rs s.data.toList).length
      · have c2' : (40 : Int) < ((Ph.rs s.data.toList).length : Int) := by omega
        go_enter Tryd.func26, Tryd.ntmps26
        go_wp2_with fail
        refine (ref_Runes s _ hs).mono ?_
        rintro e w' ⟨vl, va, rfl, hl, ha, hb⟩
        obtain ⟨Al, cl, rfl, _, _, fl⟩ := own_slice hl
        go_wp2
        go_ret
        exact ⟨ret_bool HF.out.symm, hb⟩
      · have c2' : ((Ph.rs s.data.toList).length : Int) ≤ 40 := by omega
        have c3 : Lib.validD s.data.toList = false := by
          rcases H1.out with h | h | h
          · omega
          · omega
          · exact h
        go_enter Tryd.func26, Tryd.ntmps26
        go_wp2_with fail
        refine (ref_Runes s _ hs).mono ?_
        rintro e w' ⟨vl, va, rfl, hl, ha, hb⟩
        rw [c3]
        clear c3
        obtain ⟨Al, cl, rfl, _, _, fl⟩ := own_slice hl
        go_wp2
        go_ret
        exact ⟨ret_bool HF.out.symm, hb⟩
  · have c1' : (1 : Int) ≤ ((Ph.rs s.data.toList).length : Int) := by omega
    have c2' : ((Ph.rs s.data.toList).length : Int) ≤ 40 := by omega
    have c3 : Lib.validD s.data.toList = true := by
      cases h : Lib.validD s.data.toList
      · exact absurd (.inr (.inr h)) h1
      · rfl
    have HK : Hid (Ph.keyB s.data.toList = Ph.plainB (Ph.rs s.data.toList)) := by
      show _ = _
      cases hp : Ph.plainB (Ph.rs s.data.toList)
      · exact Ph.keyB_bad hp
      · rw [Ph.keyB_long hp (by unfold Ph.count; omega) (by unfold Ph.count; omega), c3]
    have hok := Ph.rs_small s.data.toList
    have HOK := Lib.hid hok
    clear h1 hok
    go_enter Tryd.func26, Tryd.ntmps26
    go_wp2_with fail
    refine (ref_Runes s _ hs).mono ?_
    rintro e w' ⟨vl, va, rfl, hl, ha, hb⟩
    rw [c3]
    clear c3
    obtain ⟨Al, cl, rfl, _, _, fl⟩ := own_slice hl
    obtain ⟨g, rfl, fc⟩ := fl (by omega)
    have FC := Lib.hid fc
    clear fc fl
    go_wp2
    go_loop [6] (fun i => ∃ k : Nat, k ≤ (Ph.rs s.data.toList).length ∧ i = .int .i64 k ∧ Hid (Ph.keyB s.data.toList = Ph.plainB ((Ph.rs s.data.toList).drop k))) (fun i => (Ph.rs s.data.toList).length - (intOf i).toNat)
    case atStart => exact ⟨0, by omega, rfl, by show _ = _; rw [HK.out]; rfl⟩
    case round =>
      obtain ⟨k, hk, rfl, HP⟩ := hrel
      by_cases hlt : k < (Ph.rs s.data.toList).length
      · have hlt' : (k : Int) < ((Ph.rs s.data.toList).length : Int) := by omega
        have hc := FC.out k (by omega)
        rw [Ph.runeVals_get _ k hlt] at hc
        have HD : Hid ((Ph.rs s.data.toList).drop k = (Ph.rs s.data.toList)[k] :: (Ph.rs s.data.toList).drop (k + 1)) := List.drop_eq_getElem_cons hlt
        have hr := HOK.out _ (List.getElem_mem hlt)
        generalize (Ph.rs s.data.toList)[k] = d at *
        by_cases h32 : d.1 < 32
        · have h32' : (d.1 : Int) < 32 := by omega
          have HB : Hid (Ph.keyB s.data.toList = false) := by show _ = _; rw [HP.out, HD.out, Ph.plainB_bad (.inl h32)]
          go_wp2
          go_ret
          exact ⟨ret_bool HB.out.symm, hb⟩
        · have h32' : (32 : Int) ≤ (d.1 : Int) := by omega
          by_cases h127 : d.1 = 127
          · have h127' : ((d.1 : Int) == 127) = true := by rw [beq_iff_eq]; omega
            have HB : Hid (Ph.keyB s.data.toList = false) := by show _ = _; rw [HP.out, HD.out, Ph.plainB_bad (.inr h127)]
            clear h127
            go_wp2
            go_ret
            exact ⟨ret_bool HB.out.symm, hb⟩
          · have h127' : ((d.1 : Int) == 127) = false := by rw [beq_eq_false_iff_ne]; omega
            have HG : Hid (Ph.keyB s.data.toList = Ph.plainB ((Ph.rs s.data.toList).drop (k + 1))) := by show _ = _; rw [HP.out, HD.out, Ph.plainB_good (by omega)]
            clear h127
            go_wp2
            go_round
            case rel => exact ⟨k + 1, by omega, by go_num, HG⟩
            case measure => simp [intOf]; omega
      · have hlt' : ((Ph.rs s.data.toList).length : Int) ≤ (k : Int) := by omega
        have HB : Hid (Ph.keyB s.data.toList = true) := by
          show _ = _
          rw [HP.out, List.drop_eq_nil_of_le (by omega)]; rfl
        go_wp2
        go_ret
        exact ⟨ret_bool HB.out.symm, hb⟩


end Go.Proofs.YtfnmfofipcnojaaDoor
