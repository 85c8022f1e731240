/-
  The walk of RunesParts.
-/
import Derived.Test.YtmppeellnpepfaaDoorLaw1B
import Derived.RegionTactic
import Derived.Deep.RegionHeld3
set_option linter.unusedVariables false
namespace Go.Proofs.YtmppeellnpepfaaDoor
open Go.RowKit

set_option maxHeartbeats 4000000 in
theorem walk_RunesParts (s : ByteArray) (n : Int) (w : World) (hs : s.size ≤ 9223372036854775807) (hn : (Lit.int .i64 n).wf = true) (hT : Tabs w) :
    Calls Tryd.prog 7 #[.string s, .int .i64 n] w fun e w' => e = .returned (.bool true) ∧ Below w.heap.size w w' := by
  go_enter Tryd.func7, Tryd.ntmps7
  go_wp2_with fail
  refine (law1_begun _ hT).mono ?_
  rintro e w1 ⟨rfl, hb⟩
  have hb1 := hb
  clear hb
  go_wp2_with fail
  refine (law1_Cut _ _ _ hs (by decide)).mono ?_
  rintro e w2 ⟨rfl, rfl⟩
  have z_t := cutS_size s (Int.toNat 100)
  generalize cutS s (Int.toNat 100) = t at *
  replace z_t : t.size ≤ 100 := z_t
  obtain ⟨l, rfl, hl⟩ := as_list t 100 z_t
  clear z_t
  go_wp2_with fail
  refine (cut_l l n _ (by omega)).mono ?_
  rintro e w3 ⟨rfl, hb⟩
  have hb3 := bjoin hb1 hb
  clear hb hb1
  have hp1 := (Ph.cutL_parts l n).1
  have hp2 : (ByteArray.mk l.toArray).extract 0 (Ph.cutL l n).length = ⟨(Ph.cutL l n).toArray⟩ := by
    rw [Ph.extract_eq]
    show ByteArray.mk (List.take _ l).toArray = _
    rw [(Ph.cutL_parts l n).2.1]
  have hp3 := (Ph.cutL_parts l n).2.2
  have hcc := Ph.cutL_count l n
  have hq1 : ((Ph.cutL l n).length : Int) ≤ (l.length : Int) := by omega
  have hq0 : (0 : Int) ≤ ((Ph.cutL l n).length : Int) := by omega
  have HP2 := Lib.hid hp2
  have HP3 := Lib.hid hp3
  have HCC := Lib.hid hcc
  clear hp3 hcc
  have hcnt : ∀ (S : ByteArray) (W : World), S.size ≤ 100 → Calls Tryd.prog 18 #[.string S] W fun e w' => e = .returned (.int .i64 (Ph.count S.data.toList)) ∧ Below W.heap.size W w' := fun S W h => runes_Count S W (by omega)
  have HCNT := Lib.hid hcnt
  clear hcnt
  replace hb3 := hb3.drew
  go_wp2_with fail
  have sA : (ByteArray.mk (Ph.cutL l n).toArray).size ≤ 100 := by rw [lsize]; omega
  have sB : (ByteArray.mk l.toArray).size ≤ 100 := by rw [lsize]; omega
  have sC : ((ByteArray.mk l.toArray).extract (Ph.cutL l n).length (ByteArray.mk l.toArray).size).size ≤ 100 := by rw [ByteArray.size_extract, lsize]; omega
  have SA := Lib.hid sA
  have SB := Lib.hid sB
  have SC := Lib.hid sC
  clear sA sB sC
  have hg1 : ((Ph.count (Ph.cutL l n) : Int) == max 0 (min n (Ph.count l : Int))) = true := by rw [HCC.out]; simp
  go_region_held3 (fun _ => True) (exact trivial) (first | (go_at_call 18; refine (HCNT.out _ _ (by first | exact SA.out | exact SB.out | exact SC.out)).mono ?_; rintro e w9 ⟨rfl, hb⟩; replace hb3 := bjoin hb3 hb; clear hb))
  have e1 : (l.drop (Ph.cutL l n).length).take (l.length - (Ph.cutL l n).length) = l.drop (Ph.cutL l n).length := List.take_of_length_le (by simp)
  have e2 : Ph.count l ≤ 100 := by have := Ph.rs_length_le l; unfold Ph.count; omega
  have HFIN : Hid ((IntKind.i64.wrap ((Ph.count (Ph.cutL l n) : Int) + (Ph.count ((l.drop (Ph.cutL l n).length).take (l.length - (Ph.cutL l n).length)) : Int)) == (Ph.count l : Int)) = true) := by
    show _ = _
    rw [e1, beq_iff_eq, IntWalk.i64_in _ (by have := HP3.out; omega)]
    have := HP3.out
    omega
  clear e1
  go_wp2
  go_ret
  exact ⟨ret_bool HFIN.out, hb3⟩
end Go.Proofs.YtmppeellnpepfaaDoor
