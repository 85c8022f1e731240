/-
  The walks of the reference's Encode, Fold, Less.
-/
import Derived.Test.YtmppeellnpepfaaDoorRefC
set_option linter.unusedVariables false
namespace Go.Proofs.YtmppeellnpepfaaDoor
open Go.RowKit

/-- 'string([]byte{..})': the bytes written out, as the walk spells them. -/
theorem run_string_lit (w : World) (zs : List Int) (cs : Array Value) (n : Nat) (hcs : cs = (zs.map (Value.int .u8)).toArray) (hn : n = zs.length) (hm : n ≤ maxLen) (hz : ∀ z ∈ zs, 0 ≤ z ∧ z < 256) :
    (convert 39 9 (.slice (some ⟨w.heap.size, 0, none⟩) n n)).run Tryd.prog (w.alloc (.cells cs 5)) = .ok (.string ⟨(zs.map fun x => x.toNat.toUInt8).toArray⟩) (w.alloc (.cells cs 5)) := by
  subst hcs hn
  have ho := World.ownsRow_lit (base := 0) (e := 5) (size := 1) w (zs.map (Value.int .u8)).toArray zs.length (Nat.zero_le _) hm (by simp)
  have e : (zs.map (Value.int .u8)).toArray.toList = Lib.byteCells (zs.map fun x => x.toNat.toUInt8) := by
    unfold Lib.byteCells
    rw [List.map_map]
    apply List.map_congr_left
    intro z hzm
    obtain ⟨h0, h1⟩ := hz z hzm
    simp only [Function.comp]
    congr 1
    rw [Ph.u8 z h0 h1]
    omega
  rw [e] at ho
  have hl : zs.length = (zs.map fun x => x.toNat.toUInt8).length := by simp
  rw [hl] at ho
  have := run_string_own (P := Tryd.prog) 39 9 5 Tryd.underlying39 Tryd.underlying5 Tryd.underlying9 ho
  rw [← hl] at this
  exact this

set_option maxHeartbeats 800000 in
theorem ref_Encode_one (r : Int) (w : World) (h0 : 0 ≤ r) (h1 : r < 128) :
    Calls Tryd.prog 26 #[.int .i32 r] w fun e w' => e = .returned (.string ⟨(Lib.encodeRune r).toArray⟩) ∧ Below w.heap.size w w' := by
  have HE : Hid (Lib.encodeRuneZ r = [r]) := Lib.encodeRuneZ_one h0 (by omega)
  have hc := run_string_lit w [r] #[.int .u8 (r)] 1 rfl rfl (by decide) (by intro z hz; simp at hz; omega)
  go_enter Tryd.func26, Tryd.ntmps26
  go_wp2
  go_ret
  refine ⟨ret_str ?_, (Below.refl _ _).alloc (Nat.le_refl _) _⟩
  rw [Lib.encodeRune, HE.out]
  rfl

set_option maxHeartbeats 800000 in
theorem ref_Encode_two (r : Int) (w : World) (h0 : 128 ≤ r) (h1 : r < 2048) :
    Calls Tryd.prog 26 #[.int .i32 r] w fun e w' => e = .returned (.string ⟨(Lib.encodeRune r).toArray⟩) ∧ Below w.heap.size w w' := by
  have HE : Hid (Lib.encodeRuneZ r = [192 + r / 64, 128 + r % 64]) := Lib.encodeRuneZ_two h0 (by omega)
  have hc := run_string_lit w [192 + r / 64, 128 + r % 64] #[.int .u8 (192 + r / 64), .int .u8 (128 + r % 64)] 2 rfl rfl (by decide) (by intro z hz; simp at hz; omega)
  go_enter Tryd.func26, Tryd.ntmps26
  go_wp2
  go_ret
  refine ⟨ret_str ?_, (Below.refl _ _).alloc (Nat.le_refl _) _⟩
  rw [Lib.encodeRune, HE.out]
  rfl

set_option maxHeartbeats 800000 in
theorem ref_Encode_threelo (r : Int) (w : World) (h0 : 2048 ≤ r) (h1 : r < 55296) :
    Calls Tryd.prog 26 #[.int .i32 r] w fun e w' => e = .returned (.string ⟨(Lib.encodeRune r).toArray⟩) ∧ Below w.heap.size w w' := by
  have HE : Hid (Lib.encodeRuneZ r = [224 + r / 4096, 128 + r / 64 % 64, 128 + r % 64]) := Lib.encodeRuneZ_three (.inl ⟨h0, h1⟩)
  have hc := run_string_lit w [224 + r / 4096, 128 + r / 64 % 64, 128 + r % 64] #[.int .u8 (224 + r / 4096), .int .u8 (128 + r / 64 % 64), .int .u8 (128 + r % 64)] 3 rfl rfl (by decide) (by intro z hz; simp at hz; omega)
  go_enter Tryd.func26, Tryd.ntmps26
  go_wp2
  go_ret
  refine ⟨ret_str ?_, (Below.refl _ _).alloc (Nat.le_refl _) _⟩
  rw [Lib.encodeRune, HE.out]
  rfl

set_option maxHeartbeats 800000 in
theorem ref_Encode_threehi (r : Int) (w : World) (h0 : 57344 ≤ r) (h1 : r < 65536) :
    Calls Tryd.prog 26 #[.int .i32 r] w fun e w' => e = .returned (.string ⟨(Lib.encodeRune r).toArray⟩) ∧ Below w.heap.size w w' := by
  have HE : Hid (Lib.encodeRuneZ r = [224 + r / 4096, 128 + r / 64 % 64, 128 + r % 64]) := Lib.encodeRuneZ_three (.inr ⟨by omega, by omega⟩)
  have hc := run_string_lit w [224 + r / 4096, 128 + r / 64 % 64, 128 + r % 64] #[.int .u8 (224 + r / 4096), .int .u8 (128 + r / 64 % 64), .int .u8 (128 + r % 64)] 3 rfl rfl (by decide) (by intro z hz; simp at hz; omega)
  go_enter Tryd.func26, Tryd.ntmps26
  go_wp2
  go_ret
  refine ⟨ret_str ?_, (Below.refl _ _).alloc (Nat.le_refl _) _⟩
  rw [Lib.encodeRune, HE.out]
  rfl

set_option maxHeartbeats 800000 in
theorem ref_Encode_four (r : Int) (w : World) (h0 : 65536 ≤ r) (h1 : r ≤ 1114111) :
    Calls Tryd.prog 26 #[.int .i32 r] w fun e w' => e = .returned (.string ⟨(Lib.encodeRune r).toArray⟩) ∧ Below w.heap.size w w' := by
  have HE : Hid (Lib.encodeRuneZ r = [240 + r / 262144, 128 + r / 4096 % 64, 128 + r / 64 % 64, 128 + r % 64]) := Lib.encodeRuneZ_four h0 h1
  have hc := run_string_lit w [240 + r / 262144, 128 + r / 4096 % 64, 128 + r / 64 % 64, 128 + r % 64] #[.int .u8 (240 + r / 262144), .int .u8 (128 + r / 4096 % 64), .int .u8 (128 + r / 64 % 64), .int .u8 (128 + r % 64)] 4 rfl rfl (by decide) (by intro z hz; simp at hz; omega)
  go_enter Tryd.func26, Tryd.ntmps26
  go_wp2
  go_ret
  refine ⟨ret_str ?_, (Below.refl _ _).alloc (Nat.le_refl _) _⟩
  rw [Lib.encodeRune, HE.out]
  rfl

set_option maxHeartbeats 800000 in
theorem ref_Encode_badneg (r : Int) (w : World) (h0 : -2147483648 ≤ r) (h1 : r < 0) :
    Calls Tryd.prog 26 #[.int .i32 r] w fun e w' => e = .returned (.string ⟨(Lib.encodeRune r).toArray⟩) ∧ Below w.heap.size w w' := by
  have HE : Hid (Lib.encodeRuneZ r = [239, 191, 189]) := Lib.encodeRuneZ_bad (.inl h1)
  have hc := run_string_lit w [239, 191, 189] #[.int .u8 (239), .int .u8 (191), .int .u8 (189)] 3 rfl rfl (by decide) (by intro z hz; simp at hz; omega)
  go_enter Tryd.func26, Tryd.ntmps26
  go_wp2
  go_ret
  refine ⟨ret_str ?_, (Below.refl _ _).alloc (Nat.le_refl _) _⟩
  rw [Lib.encodeRune, HE.out]
  rfl

set_option maxHeartbeats 800000 in
theorem ref_Encode_badsur (r : Int) (w : World) (h0 : 55296 ≤ r) (h1 : r < 57344) :
    Calls Tryd.prog 26 #[.int .i32 r] w fun e w' => e = .returned (.string ⟨(Lib.encodeRune r).toArray⟩) ∧ Below w.heap.size w w' := by
  have HE : Hid (Lib.encodeRuneZ r = [239, 191, 189]) := Lib.encodeRuneZ_bad (.inr (.inl ⟨h0, by omega⟩))
  have hc := run_string_lit w [239, 191, 189] #[.int .u8 (239), .int .u8 (191), .int .u8 (189)] 3 rfl rfl (by decide) (by intro z hz; simp at hz; omega)
  go_enter Tryd.func26, Tryd.ntmps26
  go_wp2
  go_ret
  refine ⟨ret_str ?_, (Below.refl _ _).alloc (Nat.le_refl _) _⟩
  rw [Lib.encodeRune, HE.out]
  rfl

set_option maxHeartbeats 800000 in
theorem ref_Encode_badbig (r : Int) (w : World) (h0 : 1114111 < r) (h1 : r ≤ 2147483647) :
    Calls Tryd.prog 26 #[.int .i32 r] w fun e w' => e = .returned (.string ⟨(Lib.encodeRune r).toArray⟩) ∧ Below w.heap.size w w' := by
  have HE : Hid (Lib.encodeRuneZ r = [239, 191, 189]) := Lib.encodeRuneZ_bad (.inr (.inr h0))
  have hc := run_string_lit w [239, 191, 189] #[.int .u8 (239), .int .u8 (191), .int .u8 (189)] 3 rfl rfl (by decide) (by intro z hz; simp at hz; omega)
  go_enter Tryd.func26, Tryd.ntmps26
  go_wp2
  go_ret
  refine ⟨ret_str ?_, (Below.refl _ _).alloc (Nat.le_refl _) _⟩
  rw [Lib.encodeRune, HE.out]
  rfl

theorem ref_Encode (r : Int) (w : World) (h0 : -2147483648 ≤ r) (h1 : r ≤ 2147483647) :
    Calls Tryd.prog 26 #[.int .i32 r] w fun e w' => e = .returned (.string ⟨(Lib.encodeRune r).toArray⟩) ∧ Below w.heap.size w w' := by
  by_cases c0 : r < 0
  · exact ref_Encode_badneg r w h0 c0
  by_cases c1 : r < 128
  · exact ref_Encode_one r w (by omega) c1
  by_cases c2 : r < 2048
  · exact ref_Encode_two r w (by omega) c2
  by_cases c3 : r < 55296
  · exact ref_Encode_threelo r w (by omega) c3
  by_cases c4 : r < 57344
  · exact ref_Encode_badsur r w (by omega) c4
  by_cases c5 : r < 65536
  · exact ref_Encode_threehi r w (by omega) c5
  by_cases c6 : r ≤ 1114111
  · exact ref_Encode_four r w (by omega) c6
  exact ref_Encode_badbig r w (by omega) h1

set_option maxHeartbeats 800000 in
theorem ref_Fold (s : ByteArray) (w : World) (hs : s.size ≤ 1000000) :
    Calls Tryd.prog 24 #[.string s] w fun e w' => e = .returned (.string ⟨(Ph.foldL s.data.toList).toArray⟩) ∧ Below w.heap.size w w' := by
  have hcl := Ph.count_le s
  have hcl' : (Ph.rs s.data.toList).length ≤ s.size := hcl
  have HOK := Lib.hid (Ph.rs_small s.data.toList)
  go_enter Tryd.func24, Tryd.ntmps24
  go_wp2_with fail
  refine (ref_Runes s _ hs).mono ?_
  rintro e w1 ⟨vl, va, rfl, hl, ha, hb⟩
  obtain ⟨Al, cl, rfl, _, _, fl⟩ := own_slice hl
  go_wp2
  go_loopw [6, 7] (fun o i wr => ∃ k : Nat, k ≤ (Ph.rs s.data.toList).length ∧ i = .int .i64 k ∧ o = .string ⟨(Ph.foldR ((Ph.rs s.data.toList).take k)).toArray⟩ ∧ Below w1.heap.size w1 wr) (fun _ i _ => (Ph.rs s.data.toList).length - (intOf i).toNat)
  case atStart => exact ⟨0, by omega, rfl, rfl, Below.refl _ _⟩
  case round =>
    obtain ⟨k, hk, rfl, rfl, hbw⟩ := hrel
    by_cases hlt : k < (Ph.rs s.data.toList).length
    · have hlt' : (k : Int) < ((Ph.rs s.data.toList).length : Int) := by omega
      obtain ⟨g, rfl, fc⟩ := fl (by omega)
      have hg : g < w1.heap.size := by have := (hl.lt g rfl).2; exact this
      have hc : wr.cell? ⟨g, k, none⟩ = some (.int .i32 ((Ph.rs s.data.toList)[k]).1) := by
        rw [hbw.cell (p := ⟨g, k, none⟩) hg, fc k (by omega), Ph.runeVals_get _ k hlt]
      have HT : Hid ((Ph.rs s.data.toList).take (k + 1) = (Ph.rs s.data.toList).take k ++ [(Ph.rs s.data.toList)[k]]) := List.take_succ_eq_append_getElem hlt
      have hr := HOK.out _ (List.getElem_mem hlt)
      have hfl := Ph.foldR_len ((Ph.rs s.data.toList).take k)
      have htk : ((Ph.rs s.data.toList).take k).length ≤ s.size := by rw [List.length_take]; omega
      generalize (Ph.rs s.data.toList)[k] = d at *
      have hlr := Ph.lower_range _ hr
      clear fc fl
      go_wp2_with fail
      refine (ref_Lower _ _ (by omega) (by omega)).mono ?_
      rintro e w2 ⟨rfl, rfl⟩
      go_wp2_with fail
      refine (ref_Encode _ _ hlr.1 hlr.2).mono ?_
      rintro e w2 ⟨rfl, hb2⟩
      have hb3 : Below w1.heap.size w1 w2 := hbw.trans (hb2.mono hbw.size)
      have hel := Lib.encodeRuneZ_length (Ph.lower (d.1 : Int))
      have hel2 : (Lib.encodeRune (Ph.lower (d.1 : Int))).length = (Lib.encodeRuneZ (Ph.lower (d.1 : Int))).length := by simp [Lib.encodeRune]
      have hsum : (Ph.foldR ((Ph.rs s.data.toList).take k)).length + (Lib.encodeRune (Ph.lower (d.1 : Int))).length ≤ 9223372036854775807 := by omega
      clear hel hel2
      go_wp2
      go_roundw
      case rel =>
        refine ⟨k + 1, by omega, by go_num, ?_, hb3⟩
        rw [HT.out, Ph.foldR_snoc, ← bytes_app]
      case measure => simp [intOf]; omega
    · have hlt' : ((Ph.rs s.data.toList).length : Int) ≤ (k : Int) := by omega
      have HF : Hid (Ph.foldR ((Ph.rs s.data.toList).take k) = Ph.foldL s.data.toList) := by
        show _ = _
        rw [List.take_of_length_le (by omega)]; rfl
      go_wp2
      go_ret
      exact ⟨by rw [← HF.out]; rfl, hb.trans (hbw.mono hb.size)⟩
end Go.Proofs.YtmppeellnpepfaaDoor
