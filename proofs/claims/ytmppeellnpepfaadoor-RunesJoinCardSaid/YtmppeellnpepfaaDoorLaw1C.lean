/-
  The walks of the statements of chapter 1, the rest.
-/
import Derived.Test.YtmppeellnpepfaaDoorLaw1B
import Derived.Test.YtmppeellnpepfaaDoorRunesMore
import Derived.OpenShut
set_option linter.unusedVariables false
namespace Go.Proofs.YtmppeellnpepfaaDoor
open Go.RowKit

theorem IntWalk_i32 {r : Int} (h : (Lit.int .i32 r).wf = true) : -2147483648 ≤ r ∧ r ≤ 2147483647 := Go.bounds_i32 h
theorem IntWalk_u8 {r : Int} (h : (Lit.int .u8 r).wf = true) : 0 ≤ r ∧ r ≤ 255 := Go.bounds_u8 h
theorem IntWalk_i64 {r : Int} (h : (Lit.int .i64 r).wf = true) : -9223372036854775808 ≤ r ∧ r ≤ 9223372036854775807 := Go.bounds_i64 h


set_option maxHeartbeats 4000000 in
theorem walk_RunesOne (r : Int) (w : World) (hr : (Lit.int .i32 r).wf = true) (hT : Tabs w) :
    Calls Tryd.prog 4 #[.int .i32 r] w fun e w' => e = .returned (.bool true) ∧ Below w.heap.size w w' := by
  have hb := IntWalk_i32 hr
  obtain ⟨h0, h1⟩ := hb
  have hel := Lib.encodeRuneZ_length r
  have hel2 : (Lib.encodeRune r).length = (Lib.encodeRuneZ r).length := by simp [Lib.encodeRune]
  have hel3 : (Lib.encodeRune r).length ≤ 4 := by omega
  clear hel hel2
  by_cases c1 : r < 0
  · skip
    have hd1 := Ph.decZ_bad (r := r) (by omega)
    have HD := Lib.hid hd1
    clear hd1
    go_enter Tryd.func4, Tryd.ntmps4
    go_wp2_with fail
    refine (law1_begun _ hT).mono ?_
    rintro e w1 ⟨rfl, hb⟩
    have hb1 := hb
    clear hb
    go_wp2_with fail
    refine (runes_Encode r _ (by omega) (by omega)).mono ?_
    rintro e w2 ⟨rfl, hb⟩
    have hb2 := bjoin hb1 hb
    clear hb hb1
    go_wp2_with fail
    refine (decode_l (Lib.encodeRune r) _ (by omega)).mono ?_
    rintro e w3 ⟨rfl, hb⟩
    have hb3 := bjoin hb2 hb
    clear hb hb2
    rw [(HD.out).1, (HD.out).2]
    have hre : ∀ W, Calls Tryd.prog 26 #[.int .i32 r] W fun e w' => e = .returned (.string ⟨(Lib.encodeRune r).toArray⟩) ∧ Below W.heap.size W w' := fun W => ref_Encode r W (by omega) (by omega)
    have HRE := Lib.hid hre
    clear hre
    go_wp2_with fail
    refine (HRE.out _).mono ?_
    rintro e w4 ⟨rfl, hb⟩
    have hb4 := bjoin hb3 hb
    clear hb hb3
    go_wp2_with fail
    refine (runes_Lower r _ (by omega) (by omega)).mono ?_
    rintro e w5 ⟨rfl, rfl⟩
    go_wp2_with fail
    refine (ref_Lower r _ (by omega) (by omega)).mono ?_
    rintro e w6 ⟨rfl, rfl⟩
    go_wp2
    go_ret
    exact ⟨rfl, hb4⟩
  by_cases c2 : 1114111 < r
  · skip
    have c1' : 0 ≤ r := by omega
    have hd1 := Ph.decZ_bad (r := r) (by omega)
    have HD := Lib.hid hd1
    clear hd1
    go_enter Tryd.func4, Tryd.ntmps4
    go_wp2_with fail
    refine (law1_begun _ hT).mono ?_
    rintro e w1 ⟨rfl, hb⟩
    have hb1 := hb
    clear hb
    go_wp2_with fail
    refine (runes_Encode r _ (by omega) (by omega)).mono ?_
    rintro e w2 ⟨rfl, hb⟩
    have hb2 := bjoin hb1 hb
    clear hb hb1
    go_wp2_with fail
    refine (decode_l (Lib.encodeRune r) _ (by omega)).mono ?_
    rintro e w3 ⟨rfl, hb⟩
    have hb3 := bjoin hb2 hb
    clear hb hb2
    rw [(HD.out).1, (HD.out).2]
    have hre : ∀ W, Calls Tryd.prog 26 #[.int .i32 r] W fun e w' => e = .returned (.string ⟨(Lib.encodeRune r).toArray⟩) ∧ Below W.heap.size W w' := fun W => ref_Encode r W (by omega) (by omega)
    have HRE := Lib.hid hre
    clear hre
    go_wp2_with fail
    refine (HRE.out _).mono ?_
    rintro e w4 ⟨rfl, hb⟩
    have hb4 := bjoin hb3 hb
    clear hb hb3
    go_wp2_with fail
    refine (runes_Lower r _ (by omega) (by omega)).mono ?_
    rintro e w5 ⟨rfl, rfl⟩
    go_wp2_with fail
    refine (ref_Lower r _ (by omega) (by omega)).mono ?_
    rintro e w6 ⟨rfl, rfl⟩
    go_wp2
    go_ret
    exact ⟨rfl, hb4⟩
  by_cases c3 : r < 55296
  · skip
    have c1' : 0 ≤ r := by omega
    have c2' : r ≤ 1114111 := by omega
    have HOK : Hid (Ph.okRune r) := by show Ph.okRune r; unfold Ph.okRune; omega
    have hd1 := Ph.decZ_encode HOK.out
    have HD := Lib.hid hd1
    clear hd1
    go_enter Tryd.func4, Tryd.ntmps4
    go_wp2_with fail
    refine (law1_begun _ hT).mono ?_
    rintro e w1 ⟨rfl, hb⟩
    have hb1 := hb
    clear hb
    go_wp2_with fail
    refine (runes_Encode r _ (by omega) (by omega)).mono ?_
    rintro e w2 ⟨rfl, hb⟩
    have hb2 := bjoin hb1 hb
    clear hb hb1
    go_wp2_with fail
    refine (decode_l (Lib.encodeRune r) _ (by omega)).mono ?_
    rintro e w3 ⟨rfl, hb⟩
    have hb3 := bjoin hb2 hb
    clear hb hb2
    rw [(HD.out).1, (HD.out).2]
    have hre : ∀ W, Calls Tryd.prog 26 #[.int .i32 r] W fun e w' => e = .returned (.string ⟨(Lib.encodeRune r).toArray⟩) ∧ Below W.heap.size W w' := fun W => ref_Encode r W (by omega) (by omega)
    have HRE := Lib.hid hre
    clear hre
    go_wp2_with fail
    refine (HRE.out _).mono ?_
    rintro e w4 ⟨rfl, hb⟩
    have hb4 := bjoin hb3 hb
    clear hb hb3
    go_wp2_with fail
    refine (runes_Lower r _ (by omega) (by omega)).mono ?_
    rintro e w5 ⟨rfl, rfl⟩
    go_wp2_with fail
    refine (ref_Lower r _ (by omega) (by omega)).mono ?_
    rintro e w6 ⟨rfl, rfl⟩
    go_wp2
    go_ret
    exact ⟨rfl, hb4⟩
  by_cases c4 : r < 57344
  · skip
    have c1' : 0 ≤ r := by omega
    have c2' : r ≤ 1114111 := by omega
    have c3' : 55296 ≤ r := by omega
    have hd1 := Ph.decZ_bad (r := r) (by omega)
    have HD := Lib.hid hd1
    clear hd1
    go_enter Tryd.func4, Tryd.ntmps4
    go_wp2_with fail
    refine (law1_begun _ hT).mono ?_
    rintro e w1 ⟨rfl, hb⟩
    have hb1 := hb
    clear hb
    go_wp2_with fail
    refine (runes_Encode r _ (by omega) (by omega)).mono ?_
    rintro e w2 ⟨rfl, hb⟩
    have hb2 := bjoin hb1 hb
    clear hb hb1
    go_wp2_with fail
    refine (decode_l (Lib.encodeRune r) _ (by omega)).mono ?_
    rintro e w3 ⟨rfl, hb⟩
    have hb3 := bjoin hb2 hb
    clear hb hb2
    rw [(HD.out).1, (HD.out).2]
    have hre : ∀ W, Calls Tryd.prog 26 #[.int .i32 r] W fun e w' => e = .returned (.string ⟨(Lib.encodeRune r).toArray⟩) ∧ Below W.heap.size W w' := fun W => ref_Encode r W (by omega) (by omega)
    have HRE := Lib.hid hre
    clear hre
    go_wp2_with fail
    refine (HRE.out _).mono ?_
    rintro e w4 ⟨rfl, hb⟩
    have hb4 := bjoin hb3 hb
    clear hb hb3
    go_wp2_with fail
    refine (runes_Lower r _ (by omega) (by omega)).mono ?_
    rintro e w5 ⟨rfl, rfl⟩
    go_wp2_with fail
    refine (ref_Lower r _ (by omega) (by omega)).mono ?_
    rintro e w6 ⟨rfl, rfl⟩
    go_wp2
    go_ret
    exact ⟨rfl, hb4⟩
  by_cases c5 : True
  · skip
    have c1' : 0 ≤ r := by omega
    have c2' : r ≤ 1114111 := by omega
    have c3' : 55296 ≤ r := by omega
    have c4' : 57344 ≤ r := by omega
    clear c5
    have HOK : Hid (Ph.okRune r) := by show Ph.okRune r; unfold Ph.okRune; omega
    have hd1 := Ph.decZ_encode HOK.out
    have HD := Lib.hid hd1
    clear hd1
    go_enter Tryd.func4, Tryd.ntmps4
    go_wp2_with fail
    refine (law1_begun _ hT).mono ?_
    rintro e w1 ⟨rfl, hb⟩
    have hb1 := hb
    clear hb
    go_wp2_with fail
    refine (runes_Encode r _ (by omega) (by omega)).mono ?_
    rintro e w2 ⟨rfl, hb⟩
    have hb2 := bjoin hb1 hb
    clear hb hb1
    go_wp2_with fail
    refine (decode_l (Lib.encodeRune r) _ (by omega)).mono ?_
    rintro e w3 ⟨rfl, hb⟩
    have hb3 := bjoin hb2 hb
    clear hb hb2
    rw [(HD.out).1, (HD.out).2]
    have hre : ∀ W, Calls Tryd.prog 26 #[.int .i32 r] W fun e w' => e = .returned (.string ⟨(Lib.encodeRune r).toArray⟩) ∧ Below W.heap.size W w' := fun W => ref_Encode r W (by omega) (by omega)
    have HRE := Lib.hid hre
    clear hre
    go_wp2_with fail
    refine (HRE.out _).mono ?_
    rintro e w4 ⟨rfl, hb⟩
    have hb4 := bjoin hb3 hb
    clear hb hb3
    go_wp2_with fail
    refine (runes_Lower r _ (by omega) (by omega)).mono ?_
    rintro e w5 ⟨rfl, rfl⟩
    go_wp2_with fail
    refine (ref_Lower r _ (by omega) (by omega)).mono ?_
    rintro e w6 ⟨rfl, rfl⟩
    go_wp2
    go_ret
    exact ⟨rfl, hb4⟩
  · exact absurd trivial c5

set_option maxHeartbeats 2000000 in
theorem walk_RunesBytes (a b c d : Int) (w : World) (hwa : (Lit.int .u8 a).wf = true) (hwb : (Lit.int .u8 b).wf = true) (hwc : (Lit.int .u8 c).wf = true) (hwd : (Lit.int .u8 d).wf = true) (hT : Tabs w) :
    Calls Tryd.prog 8 #[.int .u8 a, .int .u8 b, .int .u8 c, .int .u8 d] w fun e w' => e = .returned (.bool true) ∧ Below w.heap.size w w' := by
  have ha := IntWalk_u8 hwa
  have hb0 := IntWalk_u8 hwb
  have hc0 := IntWalk_u8 hwc
  have hd0 := IntWalk_u8 hwd
  obtain ⟨ha0, ha1⟩ := ha
  obtain ⟨hb00, hb01⟩ := hb0
  obtain ⟨hc00, hc01⟩ := hc0
  obtain ⟨hd00, hd01⟩ := hd0
  go_enter Tryd.func8, Tryd.ntmps8
  go_wp2_with fail
  refine (law1_begun _ hT).mono ?_
  rintro e w1 ⟨rfl, hb⟩
  have hb1 := hb
  clear hb
  have hc := run_string_lit w1 [a, b, c, d] #[.int .u8 a, .int .u8 b, .int .u8 c, .int .u8 d] 4 rfl rfl (by decide) (by intro z hz; simp at hz; omega)
  obtain ⟨l, hl, hll⟩ : ∃ l : List UInt8, ([a, b, c, d].map fun x => x.toNat.toUInt8) = l ∧ l.length = 4 := ⟨_, rfl, rfl⟩
  rw [hl] at hc
  clear hl
  have hbn := hb1.alloc hb1.size (.cells #[.int .u8 a, .int .u8 b, .int .u8 c, .int .u8 d] 5)
  clear hb1
  go_wp2_with fail
  refine (decode_l l _ (by omega)).mono ?_
  rintro e w2 ⟨rfl, hb⟩
  have hb2 := bjoin hbn hb
  clear hb hbn
  go_wp2_with fail
  refine (refdecode_l l _ (by omega)).mono ?_
  rintro e w3 ⟨rfl, rfl⟩
  have hrr : ∀ W, Calls Tryd.prog 14 #[.string ⟨l.toArray⟩] W fun e w' => ∃ vl va, e = .returned (.tuple #[vl, va, .bool (Lib.validD l)]) ∧ w'.ownsRow W.heap.size 21 1 vl (Ph.rs l).length (Ph.runeVals (Ph.rs l)) ∧ w'.ownsRow W.heap.size 3 1 va (Ph.rs l).length (Ph.intVals (Ph.offs (Ph.rs l))) ∧ Below W.heap.size W w' := fun W => ref_Runes ⟨l.toArray⟩ W (by rw [lsize]; omega)
  have HRR := Lib.hid hrr
  clear hrr
  go_wp2_with fail
  refine (HRR.out _).mono ?_
  rintro e w9 ⟨vl, va, rfl, hl, ha, hb⟩
  obtain ⟨Al, cl, rfl, _, _, fl⟩ := own_slice hl
  clear hl ha fl
  have hb9 := bjoin hb2 hb
  clear hb hb2
  go_wp2_with fail
  refine (valid_l l _ (by omega) (hT.keep hb9)).mono ?_
  rintro e w10 ⟨rfl, hb⟩
  have hb10 := bjoin hb9 hb
  clear hb hb9
  go_wp2_with fail
  refine (count_l l _ (by omega)).mono ?_
  rintro e w11 ⟨rfl, hb⟩
  have hb11 := bjoin hb10 hb
  clear hb hb10
  unfold Ph.count
  go_wp2
  go_ret
  exact ⟨rfl, hb11⟩

set_option maxHeartbeats 4000000 in
theorem walk_RunesKeys (n r : Int) (w : World) (hn : (Lit.int .i64 n).wf = true) (hr : (Lit.int .i32 r).wf = true) (hT : Tabs w) :
    Calls Tryd.prog 9 #[.int .i64 n, .int .i32 r] w fun e w' => e = .returned (.bool true) ∧ Below w.heap.size w w' := by
  obtain ⟨r0, r1⟩ := IntWalk_i32 hr
  obtain ⟨n0, n1⟩ := IntWalk_i64 hn
  by_cases c1 : n < 0
  · skip
    go_enter Tryd.func9, Tryd.ntmps9
    go_wp2_with fail
    refine (law1_begun _ hT).mono ?_
    rintro e w1 ⟨rfl, hb⟩
    have hb1 := hb
    clear hb
    go_wp2
    go_ret
    exact ⟨rfl, hb1⟩
  by_cases c2 : 50 < n
  · skip
    have d1 : 0 ≤ n := by omega
    go_enter Tryd.func9, Tryd.ntmps9
    go_wp2_with fail
    refine (law1_begun _ hT).mono ?_
    rintro e w1 ⟨rfl, hb⟩
    have hb1 := hb
    clear hb
    go_wp2
    go_ret
    exact ⟨rfl, hb1⟩
  by_cases c3 : r < 32
  · skip
    have d1 : 0 ≤ n := by omega
    have d2 : n ≤ 50 := by omega
    go_enter Tryd.func9, Tryd.ntmps9
    go_wp2_with fail
    refine (law1_begun _ hT).mono ?_
    rintro e w1 ⟨rfl, hb⟩
    have hb1 := hb
    clear hb
    go_wp2
    go_ret
    exact ⟨rfl, hb1⟩
  by_cases c4 : (r == 127) = true
  · skip
    have d1 : 0 ≤ n := by omega
    have d2 : n ≤ 50 := by omega
    have d3 : 32 ≤ r := by omega
    go_enter Tryd.func9, Tryd.ntmps9
    go_wp2_with fail
    refine (law1_begun _ hT).mono ?_
    rintro e w1 ⟨rfl, hb⟩
    have hb1 := hb
    clear hb
    go_wp2
    go_ret
    exact ⟨rfl, hb1⟩
  by_cases c5 : 1114111 < r
  · skip
    have d1 : 0 ≤ n := by omega
    have d2 : n ≤ 50 := by omega
    have d3 : 32 ≤ r := by omega
    have d4 : (r == 127) = false := by simpa using c4
    go_enter Tryd.func9, Tryd.ntmps9
    go_wp2_with fail
    refine (law1_begun _ hT).mono ?_
    rintro e w1 ⟨rfl, hb⟩
    have hb1 := hb
    clear hb
    go_wp2
    go_ret
    exact ⟨rfl, hb1⟩
  by_cases c6 : 55296 ≤ r ∧ r < 57344
  · skip
    have d1 : 0 ≤ n := by omega
    have d2 : n ≤ 50 := by omega
    have d3 : 32 ≤ r := by omega
    have d4 : (r == 127) = false := by simpa using c4
    have d5 : r ≤ 1114111 := by omega
    obtain ⟨c6a, c6b⟩ := c6
    go_enter Tryd.func9, Tryd.ntmps9
    go_wp2_with fail
    refine (law1_begun _ hT).mono ?_
    rintro e w1 ⟨rfl, hb⟩
    have hb1 := hb
    clear hb
    go_wp2
    go_ret
    exact ⟨rfl, hb1⟩
  have d1 : 0 ≤ n := by omega
  have d2 : n ≤ 50 := by omega
  have d3 : 32 ≤ r := by omega
  have d4 : (r == 127) = false := by simpa using c4
  have d5 : r ≤ 1114111 := by omega
  have HOK : Hid (Ph.okRune r) := by show Ph.okRune r; unfold Ph.okRune; omega
  have HNE : Hid (r ≠ 127) := by intro h; subst h; cases d4
  obtain ⟨m, rfl⟩ := Int.eq_ofNat_of_zero_le d1
  have dm : m ≤ 50 := by omega
  have hel := Lib.encodeRuneZ_length r
  have hel2 : (Lib.encodeRune r).length = (Lib.encodeRuneZ r).length := by simp [Lib.encodeRune]
  have hel3 : (Lib.encodeRune r).length ≤ 4 := by omega
  clear hel hel2
  by_cases c7 : r < 55296
  · skip
    clear c6
    go_enter Tryd.func9, Tryd.ntmps9
    go_wp2_with fail
    refine (law1_begun _ hT).mono ?_
    rintro e w1 ⟨rfl, hb⟩
    have hb1 := hb
    clear hb
    go_wp2
    go_loopw [6, 7] (fun s i wr => ∃ k : Nat, k ≤ m ∧ i = .int .i64 k ∧ s = .string ⟨(Ph.repl r k).toArray⟩ ∧ Below w1.heap.size w1 wr) (fun _ i _ => m - (intOf i).toNat)
    case atStart => exact ⟨0, by omega, rfl, rfl, Below.refl _ _⟩
    case round =>
      obtain ⟨k, hk, rfl, rfl, hbw⟩ := hrel
      have hrl := Ph.repl_len r k
      by_cases hlt : k < m
      · have hlt' : (k : Int) < (m : Int) := by omega
        have hsum : (Ph.repl r k).length + (Lib.encodeRune r).length ≤ 9223372036854775807 := by omega
        have hcat : (ByteArray.mk (Ph.repl r k).toArray) ++ (ByteArray.mk (Lib.encodeRune r).toArray) = ⟨(Ph.repl r (k + 1)).toArray⟩ := bytes_app _ _
        go_wp2_with fail
        refine (runes_Encode r _ (by omega) (by omega)).mono ?_
        rintro e w2 ⟨rfl, hb⟩
        have hb3 : Below w1.heap.size w1 w2 := hbw.trans (hb.mono hbw.size)
        clear hb hbw
        go_wp2
        go_roundw
        case rel => exact ⟨k + 1, by omega, by go_num, rfl, hb3⟩
        case measure => simp [intOf]; omega
      · obtain rfl : k = m := by omega
        have hlt' : ¬ (k : Int) < (k : Int) := by omega
        have hb4 := bjoin hb1 hbw
        clear hb1
        have hkey := Ph.repl_key HOK.out d3 HNE.out k
        by_cases e1 : k < 1
        · skip
          have e1' : (k : Int) < 1 := by omega
          have hv : (decide (1 ≤ k) && decide (k ≤ 40)) = false := by simp; omega
          rw [hv] at hkey
          have HKEY := Lib.hid hkey
          clear hkey hv
          go_wp2_with fail
          refine (key_l (Ph.repl r k) _ (by omega) (hT.keep hb4)).mono ?_
          rintro e w11 ⟨rfl, hb⟩
          have hb11 := bjoin hb4 hb
          clear hb hb4
          rw [HKEY.out]
          go_wp2_with fail
          refine (count_l (Ph.repl r k) _ (by omega)).mono ?_
          rintro e w12 ⟨rfl, hb⟩
          have hb12 := bjoin hb11 hb
          clear hb hb11
          rw [Ph.repl_count HOK.out]
          go_wp2
          go_ret
          exact ⟨rfl, hb12⟩
        by_cases e2 : 40 < k
        · skip
          have e1' : (1 : Int) ≤ (k : Int) := by omega
          have e2' : (40 : Int) < (k : Int) := by omega
          have e2'' : decide ((k : Int) ≤ 40) = false := decide_eq_false (by omega)
          have hv : (decide (1 ≤ k) && decide (k ≤ 40)) = false := by simp; omega
          rw [hv] at hkey
          have HKEY := Lib.hid hkey
          clear hkey hv
          go_wp2_with fail
          refine (key_l (Ph.repl r k) _ (by omega) (hT.keep hb4)).mono ?_
          rintro e w11 ⟨rfl, hb⟩
          have hb11 := bjoin hb4 hb
          clear hb hb4
          rw [HKEY.out]
          go_wp2_with fail
          refine (count_l (Ph.repl r k) _ (by omega)).mono ?_
          rintro e w12 ⟨rfl, hb⟩
          have hb12 := bjoin hb11 hb
          clear hb hb11
          rw [Ph.repl_count HOK.out]
          go_wp2
          go_ret
          exact ⟨rfl, hb12⟩
        by_cases e3 : True
        · skip
          have e1' : (1 : Int) ≤ (k : Int) := by omega
          have e2' : (k : Int) ≤ 40 := by omega
          clear e3
          have hv : (decide (1 ≤ k) && decide (k ≤ 40)) = true := by simp; omega
          rw [hv] at hkey
          have HKEY := Lib.hid hkey
          clear hkey hv
          go_wp2_with fail
          refine (key_l (Ph.repl r k) _ (by omega) (hT.keep hb4)).mono ?_
          rintro e w11 ⟨rfl, hb⟩
          have hb11 := bjoin hb4 hb
          clear hb hb4
          rw [HKEY.out]
          go_wp2_with fail
          refine (count_l (Ph.repl r k) _ (by omega)).mono ?_
          rintro e w12 ⟨rfl, hb⟩
          have hb12 := bjoin hb11 hb
          clear hb hb11
          rw [Ph.repl_count HOK.out]
          go_wp2
          go_ret
          exact ⟨rfl, hb12⟩
        exact absurd trivial e3
  · skip
    have d7 : 55296 ≤ r := by omega
    have d8 : 57344 ≤ r := by omega
    clear c6
    go_enter Tryd.func9, Tryd.ntmps9
    go_wp2_with fail
    refine (law1_begun _ hT).mono ?_
    rintro e w1 ⟨rfl, hb⟩
    have hb1 := hb
    clear hb
    go_wp2
    go_loopw [6, 7] (fun s i wr => ∃ k : Nat, k ≤ m ∧ i = .int .i64 k ∧ s = .string ⟨(Ph.repl r k).toArray⟩ ∧ Below w1.heap.size w1 wr) (fun _ i _ => m - (intOf i).toNat)
    case atStart => exact ⟨0, by omega, rfl, rfl, Below.refl _ _⟩
    case round =>
      obtain ⟨k, hk, rfl, rfl, hbw⟩ := hrel
      have hrl := Ph.repl_len r k
      by_cases hlt : k < m
      · have hlt' : (k : Int) < (m : Int) := by omega
        have hsum : (Ph.repl r k).length + (Lib.encodeRune r).length ≤ 9223372036854775807 := by omega
        have hcat : (ByteArray.mk (Ph.repl r k).toArray) ++ (ByteArray.mk (Lib.encodeRune r).toArray) = ⟨(Ph.repl r (k + 1)).toArray⟩ := bytes_app _ _
        go_wp2_with fail
        refine (runes_Encode r _ (by omega) (by omega)).mono ?_
        rintro e w2 ⟨rfl, hb⟩
        have hb3 : Below w1.heap.size w1 w2 := hbw.trans (hb.mono hbw.size)
        clear hb hbw
        go_wp2
        go_roundw
        case rel => exact ⟨k + 1, by omega, by go_num, rfl, hb3⟩
        case measure => simp [intOf]; omega
      · obtain rfl : k = m := by omega
        have hlt' : ¬ (k : Int) < (k : Int) := by omega
        have hb4 := bjoin hb1 hbw
        clear hb1
        have hkey := Ph.repl_key HOK.out d3 HNE.out k
        by_cases e1 : k < 1
        · skip
          have e1' : (k : Int) < 1 := by omega
          have hv : (decide (1 ≤ k) && decide (k ≤ 40)) = false := by simp; omega
          rw [hv] at hkey
          have HKEY := Lib.hid hkey
          clear hkey hv
          go_wp2_with fail
          refine (key_l (Ph.repl r k) _ (by omega) (hT.keep hb4)).mono ?_
          rintro e w11 ⟨rfl, hb⟩
          have hb11 := bjoin hb4 hb
          clear hb hb4
          rw [HKEY.out]
          go_wp2_with fail
          refine (count_l (Ph.repl r k) _ (by omega)).mono ?_
          rintro e w12 ⟨rfl, hb⟩
          have hb12 := bjoin hb11 hb
          clear hb hb11
          rw [Ph.repl_count HOK.out]
          go_wp2
          go_ret
          exact ⟨rfl, hb12⟩
        by_cases e2 : 40 < k
        · skip
          have e1' : (1 : Int) ≤ (k : Int) := by omega
          have e2' : (40 : Int) < (k : Int) := by omega
          have e2'' : decide ((k : Int) ≤ 40) = false := decide_eq_false (by omega)
          have hv : (decide (1 ≤ k) && decide (k ≤ 40)) = false := by simp; omega
          rw [hv] at hkey
          have HKEY := Lib.hid hkey
          clear hkey hv
          go_wp2_with fail
          refine (key_l (Ph.repl r k) _ (by omega) (hT.keep hb4)).mono ?_
          rintro e w11 ⟨rfl, hb⟩
          have hb11 := bjoin hb4 hb
          clear hb hb4
          rw [HKEY.out]
          go_wp2_with fail
          refine (count_l (Ph.repl r k) _ (by omega)).mono ?_
          rintro e w12 ⟨rfl, hb⟩
          have hb12 := bjoin hb11 hb
          clear hb hb11
          rw [Ph.repl_count HOK.out]
          go_wp2
          go_ret
          exact ⟨rfl, hb12⟩
        by_cases e3 : True
        · skip
          have e1' : (1 : Int) ≤ (k : Int) := by omega
          have e2' : (k : Int) ≤ 40 := by omega
          clear e3
          have hv : (decide (1 ≤ k) && decide (k ≤ 40)) = true := by simp; omega
          rw [hv] at hkey
          have HKEY := Lib.hid hkey
          clear hkey hv
          go_wp2_with fail
          refine (key_l (Ph.repl r k) _ (by omega) (hT.keep hb4)).mono ?_
          rintro e w11 ⟨rfl, hb⟩
          have hb11 := bjoin hb4 hb
          clear hb hb4
          rw [HKEY.out]
          go_wp2_with fail
          refine (count_l (Ph.repl r k) _ (by omega)).mono ?_
          rintro e w12 ⟨rfl, hb⟩
          have hb12 := bjoin hb11 hb
          clear hb hb11
          rw [Ph.repl_count HOK.out]
          go_wp2
          go_ret
          exact ⟨rfl, hb12⟩
        exact absurd trivial e3
end Go.Proofs.YtmppeellnpepfaaDoor
