/-
  Texts of the proof, one behind the other (part 8).
-/
import Derived.Test.YtalfmomnaghahaaDoorM7
import Derived.IntWalk
import Derived.Laws.Small
/-
  The walks of what reads numbers, texts and raw values, by Sx.
-/
set_option linter.unusedVariables false
-- pieces
namespace Go.Proofs.YtalfmomnaghahaaDoor.Sw
open Go.RowKit Go.Sx

theorem num_Get_empty (ad : Option Addr) (cap : Nat) (w : World) :
    Calls Tryd.prog 27 ⟨[.slice ad 0 cap]⟩ w fun e W' => e = .returned (.tuple #[.int .i64 (Ph.getI []).1, .int .i64 (Ph.getI []).2.1, .int .i64 (Ph.getI []).2.2]) ∧ w = W' := by
  cases ad with
  | none => exact num_Get_nil cap w
  | some a =>
    go_enter Tryd.func27, Tryd.ntmps27
    go_wp2
    go_loop [5, 11] (fun u i => u = .int .u64 0 ∧ i = .int .i64 0) (fun _ i => 0)
    case atStart => exact ⟨rfl, rfl⟩
    case round =>
      obtain ⟨rfl, rfl⟩ := hrel
      go_wp2
      go_ret3
      exact ⟨rfl, rfl⟩
theorem num_Get (W : World) (v : Value) (l : List UInt8) (r : RdB W v l) :
    Calls Tryd.prog 27 ⟨[v]⟩ W fun e W' => e = .returned (.tuple #[.int .i64 (Ph.getI l).1, .int .i64 (Ph.getI l).2.1, .int .i64 (Ph.getI l).2.2]) ∧ W = W' := by
  obtain ⟨ad, cap, rfl, h3, h4, rfl | ⟨b, o, rfl, hc⟩⟩ := r.cells
  · exact num_Get_empty ad cap W
  · exact num_Get_some b o cap l W h3 h4 hc
theorem bys_drop (l : List UInt8) (k : Nat) : (bys l).drop (k * 1) = bys (l.drop k) := by simp
theorem bys_cut (l : List UInt8) (k m : Nat) : ((bys l).drop (k * 1)).take (m * 1) = bys ((l.drop k).take m) := by simp
theorem i64s {x : Int} (h0 : -9223372036854775808 ≤ x) (h1 : x ≤ 9223372036854775807) : IntKind.i64.wrap x = x := IntWalk.i64_in _ (by omega)
set_option maxHeartbeats 4000000 in
theorem num_GetText (W : World) (v : Value) (l : List UInt8) (r : RdB W v l) :
    Calls Tryd.prog 28 ⟨[v]⟩ W fun e W' => e = .returned (.tuple #[.string ⟨(Ph.getT l).1.toArray⟩, .int .i64 (Ph.getT l).2.1, .int .i64 (Ph.getT l).2.2]) ∧ W = W' := by
  have hlen : l.length ≤ 9223372036854775807 := by have := r.len; exact this
  have hle := Ph.getI_le l
  have hG := num_Get W v l r
  obtain ⟨ad, cap, rfl, -⟩ := r.cells
  have hw := Has.start (G := 0) (w := W) (Nat.zero_le _)
  refine enter Tryd.func28 Tryd.ntmps28 rfl rfl fun a hs => ?_
  repeat (first | (refine sxv hs hw ?_; clear hs; intro a hs) | refine sxc hs ?_ | (refine sxa hs hw ?_; clear hs hw; intro a b W hw hs) | (refine sxs hs hw ?_; clear hs hw; intro W hs hw))
  refine st_call hs (hc := hG) (k := ?_); rintro e0 W1 ⟨rfl, rfl⟩; refine ⟨_, rfl, ?_⟩; clear hs hG; intro a hs
  generalize hg : Ph.getI l = g at *
  obtain ⟨n, k, e⟩ := g
  simp only at hle hs
  by_cases he : e = 0
  · subst he
    by_cases hn : n < 0
    · have e1 : decide (n < 0) = true := by simpa using hn
      have hT : Ph.getT l = ([], 0, 1) := by simp [Ph.getT, hg, hn]
      repeat (first | (refine sxv hs hw ?_; clear hs; intro a hs) | refine sxc hs ?_ | (refine sxa hs hw ?_; clear hs hw; intro a b W hw hs) | (refine sxs hs hw ?_; clear hs hw; intro W hs hw))
      rw [e1] at hs
      repeat (first | (refine sxv hs hw ?_; clear hs; intro a hs) | refine sxc hs ?_ | (refine sxa hs hw ?_; clear hs hw; intro a b W hw hs) | (refine sxs hs hw ?_; clear hs hw; intro W hs hw))
      exact rt3 hs rfl rfl rfl rfl ⟨by rw [hT]; rfl, rfl⟩
    · have e1 : decide (n < 0) = false := by simpa using hn
      repeat (first | (refine sxv hs hw ?_; clear hs; intro a hs) | refine sxc hs ?_ | (refine sxa hs hw ?_; clear hs hw; intro a b W hw hs) | (refine sxs hs hw ?_; clear hs hw; intro W hs hw))
      rw [e1] at hs
      repeat (first | (refine sxv hs hw ?_; clear hs; intro a hs) | refine sxc hs ?_ | (refine sxa hs hw ?_; clear hs hw; intro a b W hw hs) | (refine sxs hs hw ?_; clear hs hw; intro W hs hw))
      by_cases hb : n > 1048576
      · have e2 : decide (n > 1048576) = true := by simpa using hb
        have hT : Ph.getT l = ([], 0, 1) := by simp [Ph.getT, hg, hb]
        rw [e2] at hs
        repeat (first | (refine sxv hs hw ?_; clear hs; intro a hs) | refine sxc hs ?_ | (refine sxa hs hw ?_; clear hs hw; intro a b W hw hs) | (refine sxs hs hw ?_; clear hs hw; intro W hs hw))
        exact rt3 hs rfl rfl rfl rfl ⟨by rw [hT]; rfl, rfl⟩
      · have e2 : decide (n > 1048576) = false := by simpa using hb
        rw [e2] at hs
        repeat (first | (refine sxv hs hw ?_; clear hs; intro a hs) | refine sxc hs ?_ | (refine sxa hs hw ?_; clear hs hw; intro a b W hw hs) | (refine sxs hs hw ?_; clear hs hw; intro W hs hw))
        have e3 : IntKind.i64.wrap ((l.length : Int) - (k : Int)) = (l.length : Int) - k := i64s (by omega) (by omega)
        rw [e3] at hs
        by_cases hm : n > (l.length : Int) - k
        · have e4 : decide (n > (l.length : Int) - k) = true := by simpa using hm
          have hT : Ph.getT l = ([], 0, 2) := by
            simp only [Ph.getT, hg]
            rw [if_neg (by simp), if_neg (by omega), if_pos (by omega)]
          rw [e4] at hs
          repeat (first | (refine sxv hs hw ?_; clear hs; intro a hs) | refine sxc hs ?_ | (refine sxa hs hw ?_; clear hs hw; intro a b W hw hs) | (refine sxs hs hw ?_; clear hs hw; intro W hs hw))
          exact rt3 hs rfl rfl rfl rfl ⟨by rw [hT]; rfl, rfl⟩
        · have e4 : decide (n > (l.length : Int) - k) = false := by simpa using hm
          have hT : Ph.getT l = ((l.drop k).take n.toNat, k + n.toNat, 0) := by
            simp only [Ph.getT, hg]
            rw [if_neg (by simp), if_neg (by omega), if_neg (by omega)]
          rw [e4] at hs
          repeat (first | (refine sxv hs hw ?_; clear hs; intro a hs) | refine sxc hs ?_ | (refine sxa hs hw ?_; clear hs hw; intro a b W hw hs) | (refine sxs hs hw ?_; clear hs hw; intro W hs hw))
          have e5 : IntKind.i64.wrap ((k : Int) + n) = (k : Int) + n := i64s (by omega) (by omega)
          rw [e5] at hs
          refine st_slice_lh_b (hs := hs) (r := r) (h0 := by omega) (h1 := by omega) (h2 := by omega) (m := (l.drop k).take n.toNat) (hm := by rw [show ((k : Int) + n).toNat - (k : Int).toNat = n.toNat by omega, show (k : Int).toNat = k by omega]) (c := ?_)
          clear hs; intro a ad2 cap2 hr2 hs
          refine st_string_b hs (r := hr2) (k := ?_)
          clear hs; intro a hs
          repeat (first | (refine sxv hs hw ?_; clear hs; intro a hs) | refine sxc hs ?_ | (refine sxa hs hw ?_; clear hs hw; intro a b W hw hs) | (refine sxs hs hw ?_; clear hs hw; intro W hs hw))
          rw [e5] at hs
          repeat (first | (refine sxv hs hw ?_; clear hs; intro a hs) | refine sxc hs ?_ | (refine sxa hs hw ?_; clear hs hw; intro a b W hw hs) | (refine sxs hs hw ?_; clear hs hw; intro W hs hw))
          refine rt3 hs rfl rfl rfl rfl ⟨?_, rfl⟩
          rw [hT]
          simp only
          rw [show (((k + n.toNat : Nat) : Int)) = (k : Int) + n by omega]
  · have e1 : (e != 0) = true := by simpa using he
    have hT : Ph.getT l = ([], 0, e) := by simp [Ph.getT, hg, he]
    repeat (first | (refine sxv hs hw ?_; clear hs; intro a hs) | refine sxc hs ?_ | (refine sxa hs hw ?_; clear hs hw; intro a b W hw hs) | (refine sxs hs hw ?_; clear hs hw; intro W hs hw))
    rw [e1] at hs
    repeat (first | (refine sxv hs hw ?_; clear hs; intro a hs) | refine sxc hs ?_ | (refine sxa hs hw ?_; clear hs hw; intro a b W hw hs) | (refine sxs hs hw ?_; clear hs hw; intro W hs hw))
    exact rt3 hs rfl rfl rfl rfl ⟨by rw [hT]; rfl, rfl⟩

/-- What bytes begin with, as a raw value. -/
def getR (l : List UInt8) : (Int × Int × ByteArray) × Nat × Int :=
  let g := Ph.getI l
  if g.2.2 ≠ 0 then ((0, 0, ⟨#[]⟩), 0, g.2.2)
  else if g.1 = 0 then ((0, 0, ⟨#[]⟩), g.2.1, 0)
  else if g.1 = 1 then
    let h := Ph.getI (l.drop g.2.1)
    if h.2.2 ≠ 0 then ((0, 0, ⟨#[]⟩), 0, h.2.2) else ((1, h.1, ⟨#[]⟩), g.2.1 + h.2.1, 0)
  else if g.1 = 2 then
    let h := Ph.getT (l.drop g.2.1)
    if h.2.2 ≠ 0 then ((0, 0, ⟨#[]⟩), 0, h.2.2)
    else if (ofRaw 2 0 ⟨h.1.toArray⟩).2 ≠ 0 then ((0, 0, ⟨#[]⟩), 0, 1)
    else ((2, 0, ⟨h.1.toArray⟩), g.2.1 + h.2.1, 0)
  else ((0, 0, ⟨#[]⟩), 0, 1)
theorem ofRaw_err (k n : Int) (s : ByteArray) : (ofRaw k n s).2 = 0 ∨ (ofRaw k n s).2 = 1 := by
  unfold ofRaw
  split
  · exact .inl rfl
  · split
    · exact .inl rfl
    · split
      · exact .inl rfl
      · exact .inr rfl
theorem ofRaw_int (n : Int) : (ofRaw 1 n ⟨#[]⟩).2 = 0 := by
  unfold ofRaw
  rw [if_neg (fun h => by have := h.1; omega), if_pos ⟨rfl, rfl⟩]
theorem ofRaw_zero : (ofRaw 0 0 ⟨#[]⟩).2 = 0 := by
  unfold ofRaw
  rw [if_pos ⟨rfl, rfl, rfl⟩]
theorem ofRaw_other (k : Int) (h0 : k ≠ 0) (h1 : k ≠ 1) (h2 : k ≠ 2) : (ofRaw k 0 ⟨#[]⟩).2 = 1 := by
  unfold ofRaw
  rw [if_neg (fun h => h0 h.1), if_neg (fun h => h1 h.1), if_neg (fun h => h2 h.1)]
theorem getT_size (l : List UInt8) : (⟨(Ph.getT l).1.toArray⟩ : ByteArray).size ≤ l.length := by
  show (Ph.getT l).1.toArray.size ≤ _
  unfold Ph.getT
  simp only
  split
  · simp
  · split
    · simp
    · split
      · simp
      · simp; omega
theorem getT_le (l : List UInt8) : (Ph.getT l).2.1 ≤ l.length := by
  have := Ph.getI_le l
  unfold Ph.getT
  simp only
  split
  · simp
  · split
    · simp
    · split
      · simp
      · simp only; omega

set_option maxHeartbeats 8000000 in
theorem value_Get (w : World) (v : Value) (l : List UInt8) (r : RdB w v l) (hT : Tabs w) :
    Calls Tryd.prog 57 ⟨[v]⟩ w fun e W' => e = .returned (.tuple #[.agg #[.int .i64 (getR l).1.1, .int .i64 (getR l).1.2.1, .string (getR l).1.2.2], .int .i64 (getR l).2.1, .int .i64 (getR l).2.2]) ∧ Below w.heap.size w W' := by
  have hlen : l.length ≤ 9223372036854775807 := by have := r.len; exact this
  have hw := Has.start (G := 0) (w := w) (Nat.zero_le _)
  obtain ⟨ad, cap, rfl, -⟩ := r.cells
  have hle := Ph.getI_le l
  refine enter Tryd.func57 Tryd.ntmps57 rfl rfl fun a hs => ?_
  repeat (first | (refine sxv hs hw ?_; clear hs; intro a hs) | refine sxc hs ?_ | (refine sxa hs hw ?_; clear hs hw; intro a b W hw hs) | (refine sxs hs hw ?_; clear hs hw; intro W hs hw))
  have hG := num_Get _ _ l (hw.rd (by repeat (first | exact In.hd | apply In.tl)) hw.ext.size r)
  refine st_call hs (hc := hG) (k := ?_); rintro e0 W1 ⟨rfl, rfl⟩; refine ⟨_, rfl, ?_⟩; clear hs hG; intro a hs
  have gR := getR.eq_1 l
  generalize hg : Ph.getI l = g at *
  obtain ⟨k, m, e⟩ := g
  simp only at hle hs gR
  by_cases he : e = 0
  · subst he
    simp only [ne_eq, not_true_eq_false, if_false] at gR
    by_cases k1 : k = 1
    · subst k1
      simp only [if_neg (show ¬ ((1 : Int) = 0) by decide), if_true] at gR
      repeat (first | (refine sxv hs hw ?_; clear hs; intro a hs) | refine sxc hs ?_ | (refine sxa hs hw ?_; clear hs hw; intro a b W hw hs) | (refine sxs hs hw ?_; clear hs hw; intro W hs hw))
      refine st_slice_lo_b (hs := hs) (r := r) (h0 := by omega) (h1 := by omega) (c := ?_)
      clear hs; intro a ad2 cap2 hr hs
      have hr2 := hw.rd (by repeat (first | exact In.hd | apply In.tl)) hw.ext.size hr
      rw [show (m : Int).toNat = m by omega] at hr hs hr2
      have hle2 := Ph.getI_le (l.drop m)
      rw [List.length_drop] at hle2
      have hG := num_Get _ _ _ hr2
      refine st_call hs (hc := hG) (k := ?_); rintro e0 W1 ⟨rfl, rfl⟩; refine ⟨_, rfl, ?_⟩; clear hs hG hr hr2; intro a hs
      generalize Ph.getI (l.drop m) = g at *
      obtain ⟨n, m2, e2⟩ := g
      simp only at hle2 hs gR
      by_cases he2 : e2 = 0
      · subst he2
        simp only [not_true_eq_false, if_false] at gR
        repeat (first | (refine sxv hs hw ?_; clear hs; intro a hs) | refine sxc hs ?_ | (refine sxa hs hw ?_; clear hs hw; intro a b W hw hs) | (refine sxs hs hw ?_; clear hs hw; intro W hs hw))
        have hO := ofRaw_int n
        refine st_call hs (hc := value_Of 1 n ⟨#[]⟩ _ (by decide) (hT.keep (hw.end (by repeat (first | exact In.hd | apply In.tl))))) (k := ?_); rintro e0 W1 ⟨rfl, hb⟩; refine ⟨_, rfl, ?_⟩; clear hs; intro a hs; replace hw := hw.below hb; clear hb
        rw [hO] at hs
        repeat (first | (refine sxv hs hw ?_; clear hs; intro a hs) | refine sxc hs ?_ | (refine sxa hs hw ?_; clear hs hw; intro a b W hw hs) | (refine sxs hs hw ?_; clear hs hw; intro W hs hw))
        rw [i64s (x := (m : Int) + (m2 : Int)) (by omega) (by omega)] at hs
        repeat (first | (refine sxv hs hw ?_; clear hs; intro a hs) | refine sxc hs ?_ | (refine sxa hs hw ?_; clear hs hw; intro a b W hw hs) | (refine sxs hs hw ?_; clear hs hw; intro W hs hw))
        exact rc3 hs rfl rfl hw (by repeat (first | exact In.hd | apply In.tl)) rfl rfl rfl ⟨by rw [gR]; rfl, hw.end (by repeat (first | exact In.hd | apply In.tl))⟩
      · have e1 : (e2 != 0) = true := by simpa using he2
        rw [if_pos he2] at gR
        repeat (first | (refine sxv hs hw ?_; clear hs; intro a hs) | refine sxc hs ?_ | (refine sxa hs hw ?_; clear hs hw; intro a b W hw hs) | (refine sxs hs hw ?_; clear hs hw; intro W hs hw))
        rw [e1] at hs
        repeat (first | (refine sxv hs hw ?_; clear hs; intro a hs) | refine sxc hs ?_ | (refine sxa hs hw ?_; clear hs hw; intro a b W hw hs) | (refine sxs hs hw ?_; clear hs hw; intro W hs hw))
        exact rc3 hs rfl rfl hw (by repeat (first | exact In.hd | apply In.tl)) rfl rfl rfl ⟨by rw [gR]; rfl, hw.end (by repeat (first | exact In.hd | apply In.tl))⟩
    · by_cases k2 : k = 2
      · subst k2
        simp only [if_neg (show ¬ ((2 : Int) = 0) by decide), if_neg (show ¬ ((2 : Int) = 1) by decide), if_true] at gR
        repeat (first | (refine sxv hs hw ?_; clear hs; intro a hs) | refine sxc hs ?_ | (refine sxa hs hw ?_; clear hs hw; intro a b W hw hs) | (refine sxs hs hw ?_; clear hs hw; intro W hs hw))
        refine st_slice_lo_b (hs := hs) (r := r) (h0 := by omega) (h1 := by omega) (c := ?_)
        clear hs; intro a ad2 cap2 hr hs
        have hr2 := hw.rd (by repeat (first | exact In.hd | apply In.tl)) hw.ext.size hr
        rw [show (m : Int).toNat = m by omega] at hr hs hr2
        have hle2 := getT_le (l.drop m)
        have hsz := getT_size (l.drop m)
        rw [List.length_drop] at hle2 hsz
        have hG := num_GetText _ _ _ hr2
        refine st_call hs (hc := hG) (k := ?_); rintro e0 W1 ⟨rfl, rfl⟩; refine ⟨_, rfl, ?_⟩; clear hs hG hr hr2; intro a hs
        generalize Ph.getT (l.drop m) = g at *
        obtain ⟨s, m2, e2⟩ := g
        simp only at hle2 hsz hs gR
        generalize (⟨s.toArray⟩ : ByteArray) = s at *
        by_cases he2 : e2 = 0
        · subst he2
          simp only [not_true_eq_false, if_false] at gR
          repeat (first | (refine sxv hs hw ?_; clear hs; intro a hs) | refine sxc hs ?_ | (refine sxa hs hw ?_; clear hs hw; intro a b W hw hs) | (refine sxs hs hw ?_; clear hs hw; intro W hs hw))
          refine st_call hs (hc := value_Of 2 0 s _ (by omega) (hT.keep (hw.end (by repeat (first | exact In.hd | apply In.tl))))) (k := ?_); rintro e0 W1 ⟨rfl, hb⟩; refine ⟨_, rfl, ?_⟩; clear hs; intro a hs; replace hw := hw.below hb; clear hb
          rcases ofRaw_err 2 0 s with hO | hO
          · rw [hO] at hs gR
            repeat (first | (refine sxv hs hw ?_; clear hs; intro a hs) | refine sxc hs ?_ | (refine sxa hs hw ?_; clear hs hw; intro a b W hw hs) | (refine sxs hs hw ?_; clear hs hw; intro W hs hw))
            rw [i64s (x := (m : Int) + (m2 : Int)) (by omega) (by omega)] at hs
            repeat (first | (refine sxv hs hw ?_; clear hs; intro a hs) | refine sxc hs ?_ | (refine sxa hs hw ?_; clear hs hw; intro a b W hw hs) | (refine sxs hs hw ?_; clear hs hw; intro W hs hw))
            exact rc3 hs rfl rfl hw (by repeat (first | exact In.hd | apply In.tl)) rfl rfl rfl ⟨by rw [gR]; rfl, hw.end (by repeat (first | exact In.hd | apply In.tl))⟩
          · rw [hO] at hs gR
            repeat (first | (refine sxv hs hw ?_; clear hs; intro a hs) | refine sxc hs ?_ | (refine sxa hs hw ?_; clear hs hw; intro a b W hw hs) | (refine sxs hs hw ?_; clear hs hw; intro W hs hw))
            exact rc3 hs rfl rfl hw (by repeat (first | exact In.hd | apply In.tl)) rfl rfl rfl ⟨by rw [gR]; rfl, hw.end (by repeat (first | exact In.hd | apply In.tl))⟩
        · have e1 : (e2 != 0) = true := by simpa using he2
          rw [if_pos he2] at gR
          repeat (first | (refine sxv hs hw ?_; clear hs; intro a hs) | refine sxc hs ?_ | (refine sxa hs hw ?_; clear hs hw; intro a b W hw hs) | (refine sxs hs hw ?_; clear hs hw; intro W hs hw))
          rw [e1] at hs
          repeat (first | (refine sxv hs hw ?_; clear hs; intro a hs) | refine sxc hs ?_ | (refine sxa hs hw ?_; clear hs hw; intro a b W hw hs) | (refine sxs hs hw ?_; clear hs hw; intro W hs hw))
          exact rc3 hs rfl rfl hw (by repeat (first | exact In.hd | apply In.tl)) rfl rfl rfl ⟨by rw [gR]; rfl, hw.end (by repeat (first | exact In.hd | apply In.tl))⟩
      · have e1 : (k == 1) = false := by simpa using k1
        have e2 : (k == 2) = false := by simpa using k2
        repeat (first | (refine sxv hs hw ?_; clear hs; intro a hs) | refine sxc hs ?_ | (refine sxa hs hw ?_; clear hs hw; intro a b W hw hs) | (refine sxs hs hw ?_; clear hs hw; intro W hs hw))
        rw [e1] at hs
        repeat (first | (refine sxv hs hw ?_; clear hs; intro a hs) | refine sxc hs ?_ | (refine sxa hs hw ?_; clear hs hw; intro a b W hw hs) | (refine sxs hs hw ?_; clear hs hw; intro W hs hw))
        rw [e2] at hs
        repeat (first | (refine sxv hs hw ?_; clear hs; intro a hs) | refine sxc hs ?_ | (refine sxa hs hw ?_; clear hs hw; intro a b W hw hs) | (refine sxs hs hw ?_; clear hs hw; intro W hs hw))
        refine st_call hs (hc := value_Of k 0 ⟨#[]⟩ _ (by decide) (hT.keep (hw.end (by repeat (first | exact In.hd | apply In.tl))))) (k := ?_); rintro e0 W1 ⟨rfl, hb⟩; refine ⟨_, rfl, ?_⟩; clear hs; intro a hs; replace hw := hw.below hb; clear hb
        by_cases k0 : k = 0
        · subst k0
          have hO := ofRaw_zero
          rw [hO] at hs
          repeat (first | (refine sxv hs hw ?_; clear hs; intro a hs) | refine sxc hs ?_ | (refine sxa hs hw ?_; clear hs hw; intro a b W hw hs) | (refine sxs hs hw ?_; clear hs hw; intro W hs hw))
          rw [i64s (x := (m : Int) + 0) (by omega) (by omega), Int.add_zero] at hs
          repeat (first | (refine sxv hs hw ?_; clear hs; intro a hs) | refine sxc hs ?_ | (refine sxa hs hw ?_; clear hs hw; intro a b W hw hs) | (refine sxs hs hw ?_; clear hs hw; intro W hs hw))
          exact rc3 hs rfl rfl hw (by repeat (first | exact In.hd | apply In.tl)) rfl rfl rfl ⟨by rw [gR]; rfl, hw.end (by repeat (first | exact In.hd | apply In.tl))⟩
        · have hO := ofRaw_other k k0 k1 k2
          rw [if_neg k0, if_neg k1, if_neg k2] at gR
          rw [hO] at hs
          repeat (first | (refine sxv hs hw ?_; clear hs; intro a hs) | refine sxc hs ?_ | (refine sxa hs hw ?_; clear hs hw; intro a b W hw hs) | (refine sxs hs hw ?_; clear hs hw; intro W hs hw))
          exact rc3 hs rfl rfl hw (by repeat (first | exact In.hd | apply In.tl)) rfl rfl rfl ⟨by rw [gR]; rfl, hw.end (by repeat (first | exact In.hd | apply In.tl))⟩
  · have e1 : (e != 0) = true := by simpa using he
    rw [if_pos he] at gR
    repeat (first | (refine sxv hs hw ?_; clear hs; intro a hs) | refine sxc hs ?_ | (refine sxa hs hw ?_; clear hs hw; intro a b W hw hs) | (refine sxs hs hw ?_; clear hs hw; intro W hs hw))
    rw [e1] at hs
    repeat (first | (refine sxv hs hw ?_; clear hs; intro a hs) | refine sxc hs ?_ | (refine sxa hs hw ?_; clear hs hw; intro a b W hw hs) | (refine sxs hs hw ?_; clear hs hw; intro W hs hw))
    exact rc3 hs rfl rfl hw (by repeat (first | exact In.hd | apply In.tl)) rfl rfl rfl ⟨by rw [gR]; rfl, hw.end (by repeat (first | exact In.hd | apply In.tl))⟩

end Go.Proofs.YtalfmomnaghahaaDoor.Sw

/-
  The walks of op's reader: took, num, value.
-/
set_option linter.unusedVariables false
set_option maxRecDepth 10000
namespace Go.Proofs.YtalfmomnaghahaaDoor.Sw
open Go.RowKit Go.Sx

/-- The reader takes bytes off. -/
def tk (s : List UInt8 × Bool) (n : Nat) (err : Int) : List UInt8 × Bool := (if s.2 || err != 0 then s.1 else s.1.drop n, s.2 || err != 0)

set_option maxHeartbeats 4000000 in
theorem op_took (w0 W : World) (p : Nat) (sv : Value) (s : List UInt8 × Bool) (n : Nat) (err : Int) (R : List Res) (i : In (Old w0 0) R) (r : RdB w0 sv s.1) (hn : n ≤ s.1.length) (hw : Has 0 w0 W (Cells p [sv, .bool s.2] 80 :: R)) :
    Calls Tryd.prog 49 ⟨[.pointer (some ⟨p, 0, none⟩), .int .i64 (n : Int), .int .i64 err]⟩ W fun e W' => e = .returned (.tuple #[]) ∧ ∃ sv', RdB w0 sv' (tk s n err).1 ∧ Has 0 w0 W' (Cells p [sv', .bool (tk s n err).2] 80 :: R) := by
  obtain ⟨l, bad⟩ := s
  simp only at r hn hw
  obtain ⟨ad, cap, rfl, -⟩ := r.cells
  refine enter Tryd.func49 Tryd.ntmps49 rfl rfl fun a hs => ?_
  cases bad with
  | true =>
    repeat (first | (refine sxv hs hw ?_; clear hs; intro a hs) | refine sxc hs ?_ | (refine sxa hs hw ?_; clear hs hw; intro a b W hw hs) | (refine sxs hs hw ?_; clear hs hw; intro W hs hw))
    exact rt0n hs rfl ⟨rfl, _, r, hw⟩
  | false =>
    repeat (first | (refine sxv hs hw ?_; clear hs; intro a hs) | refine sxc hs ?_ | (refine sxa hs hw ?_; clear hs hw; intro a b W hw hs) | (refine sxs hs hw ?_; clear hs hw; intro W hs hw))
    cases he : (err != 0) with
    | true =>
      rw [he] at hs hw
      repeat (first | (refine sxv hs hw ?_; clear hs; intro a hs) | refine sxc hs ?_ | (refine sxa hs hw ?_; clear hs hw; intro a b W hw hs) | (refine sxs hs hw ?_; clear hs hw; intro W hs hw))
      exact rt0n hs rfl ⟨rfl, _, by simp only [tk, he]; exact r, by simp only [tk, he]; exact hw⟩
    | false =>
      rw [he] at hs hw
      repeat (first | (refine sxv hs hw ?_; clear hs; intro a hs) | refine sxc hs ?_ | (refine sxa hs hw ?_; clear hs hw; intro a b W hw hs) | (refine sxs hs hw ?_; clear hs hw; intro W hs hw))
      refine st_slice_lo_b (hs := hs) (r := r) (h0 := by omega) (h1 := by omega) (c := ?_); clear hs; intro a ad' cap' r' hs
      repeat (first | (refine sxv hs hw ?_; clear hs; intro a hs) | refine sxc hs ?_ | (refine sxa hs hw ?_; clear hs hw; intro a b W hw hs) | (refine sxs hs hw ?_; clear hs hw; intro W hs hw))
      rw [Int.toNat_natCast] at r' hw
      exact rt0n hs rfl ⟨rfl, _, by simp only [tk, he]; exact r', by simp only [tk, he]; exact hw⟩

theorem getR_le (l : List UInt8) : (getR l).2.1 ≤ l.length := by
  have h1 := Ph.getI_le l
  unfold getR
  simp only
  split
  · simp
  · split
    · exact h1
    · split
      · split
        · simp
        · have := Ph.getI_le (l.drop (Ph.getI l).2.1)
          rw [List.length_drop] at this
          simp only; omega
      · split
        · split
          · simp
          · have := getT_le (l.drop (Ph.getI l).2.1)
            rw [List.length_drop] at this
            split <;> simp only <;> omega
        · simp

set_option maxHeartbeats 4000000 in
theorem op_num (w0 W : World) (p : Nat) (sv : Value) (s : List UInt8 × Bool) (R : List Res) (i : In (Old w0 0) R) (r : RdB w0 sv s.1) (hw : Has 0 w0 W (Cells p [sv, .bool s.2] 80 :: R)) :
    Calls Tryd.prog 35 ⟨[.pointer (some ⟨p, 0, none⟩)]⟩ W fun e W' => e = .returned (.int .i64 (Ph.getI s.1).1) ∧ ∃ sv', RdB w0 sv' (tk s (Ph.getI s.1).2.1 (Ph.getI s.1).2.2).1 ∧ Has 0 w0 W' (Cells p [sv', .bool (tk s (Ph.getI s.1).2.1 (Ph.getI s.1).2.2).2] 80 :: R) := by
  refine enter Tryd.func35 Tryd.ntmps35 rfl rfl fun a hs => ?_
  repeat (first | (refine sxv hs hw ?_; clear hs; intro a hs) | refine sxc hs ?_ | (refine sxa hs hw ?_; clear hs hw; intro a b W hw hs) | (refine sxs hs hw ?_; clear hs hw; intro W hs hw))
  refine st_call hs (hc := num_Get _ sv s.1 (hw.rd (In.tl i) hw.ext.size r)) (k := ?_); rintro e0 W1 ⟨rfl, rfl⟩; refine ⟨_, rfl, ?_⟩; clear hs; intro a hs
  repeat (first | (refine sxv hs hw ?_; clear hs; intro a hs) | refine sxc hs ?_ | (refine sxa hs hw ?_; clear hs hw; intro a b W hw hs) | (refine sxs hs hw ?_; clear hs hw; intro W hs hw))
  refine st_call hs (hc := op_took w0 _ p sv s _ _ R i r (Ph.getI_le s.1) hw) (k := ?_); rintro e0 W1 ⟨rfl, sv', r', hw'⟩; refine ⟨_, rfl, ?_⟩; clear hs hw; intro a hs
  have hw := hw'; clear hw'
  repeat (first | (refine sxv hs hw ?_; clear hs; intro a hs) | refine sxc hs ?_ | (refine sxa hs hw ?_; clear hs hw; intro a b W hw hs) | (refine sxs hs hw ?_; clear hs hw; intro W hs hw))
  exact rt1 hs rfl rfl ⟨rfl, sv', r', hw⟩

theorem Has_rot3 {G : Nat} {w W : World} {x y q : Res} {R : List Res} (h : Has G w W (x :: y :: q :: R)) : Has G w W (q :: x :: y :: R) :=
  ⟨h.ext, h.glob, HasIn.swap (let ⟨F1, h1, h2, h3⟩ := h.has; ⟨F1, h1, h2, HasIn.swap h3⟩)⟩

set_option maxHeartbeats 4000000 in
theorem op_value (w0 W : World) (p : Nat) (sv : Value) (s : List UInt8 × Bool) (R : List Res) (i : In (Old w0 0) R) (r : RdB w0 sv s.1) (hT : Tabs w0) (hw : Has 0 w0 W (Cells p [sv, .bool s.2] 80 :: R)) :
    Calls Tryd.prog 50 ⟨[.pointer (some ⟨p, 0, none⟩)]⟩ W fun e W' => e = .returned (.agg ⟨[.int .i64 (getR s.1).1.1, .int .i64 (getR s.1).1.2.1, .string (getR s.1).1.2.2]⟩) ∧ ∃ sv', RdB w0 sv' (tk s (getR s.1).2.1 (getR s.1).2.2).1 ∧ Has 0 w0 W' (Cells p [sv', .bool (tk s (getR s.1).2.1 (getR s.1).2.2).2] 80 :: R) := by
  refine enter Tryd.func50 Tryd.ntmps50 rfl rfl fun a hs => ?_
  repeat (first | (refine sxv hs hw ?_; clear hs; intro a hs) | refine sxc hs ?_ | (refine sxa hs hw ?_; clear hs hw; intro a b W hw hs) | (refine sxs hs hw ?_; clear hs hw; intro W hs hw))
  refine st_call hs (hc := value_Get _ sv s.1 (hw.rd (In.tl (In.tl i)) hw.ext.size r) (hT.keep (hw.end (In.tl (In.tl i))))) (k := ?_); rintro e0 W1 ⟨rfl, hb⟩; refine ⟨_, rfl, ?_⟩; clear hs; intro a hs; replace hw := hw.below hb; clear hb
  repeat (first | (refine sxv hs hw ?_; clear hs; intro a hs) | refine sxc hs ?_ | (refine sxa hs hw ?_; clear hs hw; intro a b W hw hs) | (refine sxs hs hw ?_; clear hs hw; intro W hs hw))
  have hw := Has_rot3 hw
  refine st_call hs (hc := op_took w0 _ p sv s _ _ _ (In.tl (In.tl i)) r (getR_le s.1) hw) (k := ?_); rintro e0 W1 ⟨rfl, sv', r', hw'⟩; refine ⟨_, rfl, ?_⟩; clear hs hw; intro a hs
  have hw := hw'; clear hw'
  repeat (first | (refine sxv hs hw ?_; clear hs; intro a hs) | refine sxc hs ?_ | (refine sxa hs hw ?_; clear hs hw; intro a b W hw hs) | (refine sxs hs hw ?_; clear hs hw; intro W hs hw))
  have hw' := hw.sub (List.Sublist.cons_cons _ (List.Sublist.cons _ (List.Sublist.cons _ (List.Sublist.refl _))))
  refine rc1 hs rfl rfl hw (In.tl (In.tl In.hd)) rfl ?_
  exact ⟨rfl, sv', r', hw'⟩
end Go.Proofs.YtalfmomnaghahaaDoor.Sw

/-
  The walk of op's reader's op.
-/
set_option linter.unusedVariables false
set_option maxRecDepth 10000
namespace Go.Proofs.YtalfmomnaghahaaDoor.Sw
open Go.RowKit Go.Sx

def rdNum (s : List UInt8 × Bool) : List UInt8 × Bool := tk s (Ph.getI s.1).2.1 (Ph.getI s.1).2.2
def rdTxt (s : List UInt8 × Bool) : List UInt8 × Bool := tk s (Ph.getT s.1).2.1 (Ph.getT s.1).2.2
def rdVal (s : List UInt8 × Bool) : List UInt8 × Bool := tk s (getR s.1).2.1 (getR s.1).2.2
/-- An operation read. -/
def rdOp (s : List UInt8 × Bool) : OpD × (List UInt8 × Bool) :=
  let kind := (Ph.getI s.1).1
  let s1 := rdNum s
  let key : ByteArray := ⟨(Ph.getT s1.1).1.toArray⟩
  let s2 := rdTxt s1
  if kind = 3 then
    let s3 := rdVal s2
    (⟨kind, key, (getR s2.1).1.1, (getR s2.1).1.2.1, (getR s2.1).1.2.2, (getR s3.1).1.1, (getR s3.1).1.2.1, (getR s3.1).1.2.2, 0⟩, rdVal s3)
  else if kind = 1 then (⟨kind, key, (getR s2.1).1.1, (getR s2.1).1.2.1, (getR s2.1).1.2.2, 0, 0, ⟨#[]⟩, 0⟩, rdVal s2)
  else if kind = 4 then (⟨kind, key, 0, 0, ⟨#[]⟩, 0, 0, ⟨#[]⟩, (Ph.getI s2.1).1⟩, rdNum s2)
  else (⟨kind, key, 0, 0, ⟨#[]⟩, 0, 0, ⟨#[]⟩, 0⟩, s2)

set_option maxHeartbeats 8000000 in
theorem op_op (w0 W : World) (p : Nat) (sv : Value) (s : List UInt8 × Bool) (R : List Res) (i : In (Old w0 0) R) (r : RdB w0 sv s.1) (hT : Tabs w0) (hw : Has 0 w0 W (Cells p [sv, .bool s.2] 80 :: R)) :
    Calls Tryd.prog 36 ⟨[.pointer (some ⟨p, 0, none⟩)]⟩ W fun e W' => e = .returned (.agg ⟨opCells (rdOp s).1⟩) ∧ ∃ sv', RdB w0 sv' (rdOp s).2.1 ∧ Has 0 w0 W' (Cells p [sv', .bool (rdOp s).2.2] 80 :: R) := by
  refine enter Tryd.func36 Tryd.ntmps36 rfl rfl fun a hs => ?_
  repeat (first | (refine sxv hs hw ?_; clear hs; intro a hs) | refine sxc hs ?_ | (refine sxa hs hw ?_; clear hs hw; intro a b W hw hs) | (refine sxs hs hw ?_; clear hs hw; intro W hs hw))
  have hw := hw.swap2
  refine st_call hs (hc := op_num w0 _ p sv s _ (In.tl i) r hw) (k := ?_); rintro e0 W1 ⟨rfl, sv1, r1, hw'⟩; refine ⟨_, rfl, ?_⟩; clear hs hw; intro a hs
  have hw := hw'; clear hw'
  rw [show tk s (Ph.getI s.1).2.1 (Ph.getI s.1).2.2 = rdNum s from rfl] at hw r1
  repeat (first | (refine sxv hs hw ?_; clear hs; intro a hs) | refine sxc hs ?_ | (refine sxa hs hw ?_; clear hs hw; intro a b W hw hs) | (refine sxs hs hw ?_; clear hs hw; intro W hs hw))
  have hw := hw.swap2
  refine st_call hs (hc := num_GetText _ sv1 (rdNum s).1 (hw.rd (In.tl (In.tl (In.tl i))) hw.ext.size r1)) (k := ?_); rintro e0 W1 ⟨rfl, rfl⟩; refine ⟨_, rfl, ?_⟩; clear hs; intro a hs
  repeat (first | (refine sxv hs hw ?_; clear hs; intro a hs) | refine sxc hs ?_ | (refine sxa hs hw ?_; clear hs hw; intro a b W hw hs) | (refine sxs hs hw ?_; clear hs hw; intro W hs hw))
  refine st_call hs (hc := op_took w0 _ p sv1 (rdNum s) _ _ _ (In.tl (In.tl i)) r1 (getT_le (rdNum s).1) hw) (k := ?_); rintro e0 W1 ⟨rfl, sv2, r2, hw'⟩; refine ⟨_, rfl, ?_⟩; clear hs hw; intro a hs
  have hw := hw'; clear hw'
  rw [show tk (rdNum s) (Ph.getT (rdNum s).1).2.1 (Ph.getT (rdNum s).1).2.2 = rdTxt (rdNum s) from rfl] at hw r2
  obtain ⟨key, hkey⟩ : ∃ key : ByteArray, (⟨(Ph.getT (rdNum s).1).1.toArray⟩ : ByteArray) = key := ⟨_, rfl⟩
  rw [hkey] at hs
  obtain ⟨K, hK⟩ : ∃ K, (Ph.getI s.1).1 = K := ⟨_, rfl⟩
  have hD : rdOp s = (if K = 3 then (⟨K, key, (getR (rdTxt (rdNum s)).1).1.1, (getR (rdTxt (rdNum s)).1).1.2.1, (getR (rdTxt (rdNum s)).1).1.2.2, (getR (rdVal (rdTxt (rdNum s))).1).1.1, (getR (rdVal (rdTxt (rdNum s))).1).1.2.1, (getR (rdVal (rdTxt (rdNum s))).1).1.2.2, 0⟩, rdVal (rdVal (rdTxt (rdNum s))))
      else if K = 1 then (⟨K, key, (getR (rdTxt (rdNum s)).1).1.1, (getR (rdTxt (rdNum s)).1).1.2.1, (getR (rdTxt (rdNum s)).1).1.2.2, 0, 0, ⟨#[]⟩, 0⟩, rdVal (rdTxt (rdNum s)))
      else if K = 4 then (⟨K, key, 0, 0, ⟨#[]⟩, 0, 0, ⟨#[]⟩, (Ph.getI (rdTxt (rdNum s)).1).1⟩, rdNum (rdTxt (rdNum s)))
      else (⟨K, key, 0, 0, ⟨#[]⟩, 0, 0, ⟨#[]⟩, 0⟩, rdTxt (rdNum s))) := by unfold rdOp; simp only; rw [hkey, hK]
  rw [hK] at hs hw
  clear hkey hK
  generalize rdTxt (rdNum s) = s2 at *
  rw [hD]
  clear hD
  repeat (first | (refine sxv hs hw ?_; clear hs; intro a hs) | refine sxc hs ?_ | (refine sxa hs hw ?_; clear hs hw; intro a b W hw hs) | (refine sxs hs hw ?_; clear hs hw; intro W hs hw))
  by_cases k3 : K = 3
  · subst k3
    repeat (first | (refine sxv hs hw ?_; clear hs; intro a hs) | refine sxc hs ?_ | (refine sxa hs hw ?_; clear hs hw; intro a b W hw hs) | (refine sxs hs hw ?_; clear hs hw; intro W hs hw))
    refine st_call hs (hc := op_value w0 _ p sv2 s2 _ (In.tl (In.tl i)) r2 hT hw) (k := ?_); rintro e0 W1 ⟨rfl, sv3, r3, hw'⟩; refine ⟨_, rfl, ?_⟩; clear hs hw; intro a hs
    have hw := hw'; clear hw'
    rw [show tk (s2) (getR (s2).1).2.1 (getR (s2).1).2.2 = rdVal (s2) from rfl] at hw r3
    repeat (first | (refine sxv hs hw ?_; clear hs; intro a hs) | refine sxc hs ?_ | (refine sxa hs hw ?_; clear hs hw; intro a b W hw hs) | (refine sxs hs hw ?_; clear hs hw; intro W hs hw))
    refine st_call hs (hc := op_value w0 _ p sv3 (rdVal s2) _ (In.tl (In.tl i)) r3 hT hw) (k := ?_); rintro e0 W1 ⟨rfl, sv4, RR, hw'⟩; refine ⟨_, rfl, ?_⟩; clear hs hw; intro a hs
    have hw := hw'; clear hw'
    rw [show tk ((rdVal s2)) (getR ((rdVal s2)).1).2.1 (getR ((rdVal s2)).1).2.2 = rdVal ((rdVal s2)) from rfl] at hw RR
    repeat (first | (refine sxv hs hw ?_; clear hs; intro a hs) | refine sxc hs ?_ | (refine sxa hs hw ?_; clear hs hw; intro a b W hw hs) | (refine sxs hs hw ?_; clear hs hw; intro W hs hw))
    have hw' := hw.sub (List.Sublist.cons_cons _ (List.Sublist.cons _ (List.Sublist.cons _ (List.Sublist.refl _))))
    refine rc1 hs rfl rfl hw (In.tl (In.tl In.hd)) rfl ?_
    rw [if_pos rfl]
    exact ⟨rfl, _, RR, hw'⟩
  have e3 : (K == 3) = false := by simpa using k3
  rw [e3] at hs
  repeat (first | (refine sxv hs hw ?_; clear hs; intro a hs) | refine sxc hs ?_ | (refine sxa hs hw ?_; clear hs hw; intro a b W hw hs) | (refine sxs hs hw ?_; clear hs hw; intro W hs hw))
  by_cases k1 : K = 1
  · subst k1
    repeat (first | (refine sxv hs hw ?_; clear hs; intro a hs) | refine sxc hs ?_ | (refine sxa hs hw ?_; clear hs hw; intro a b W hw hs) | (refine sxs hs hw ?_; clear hs hw; intro W hs hw))
    refine st_call hs (hc := op_value w0 _ p sv2 s2 _ (In.tl (In.tl i)) r2 hT hw) (k := ?_); rintro e0 W1 ⟨rfl, sv3, RR, hw'⟩; refine ⟨_, rfl, ?_⟩; clear hs hw; intro a hs
    have hw := hw'; clear hw'
    rw [show tk (s2) (getR (s2).1).2.1 (getR (s2).1).2.2 = rdVal (s2) from rfl] at hw RR
    repeat (first | (refine sxv hs hw ?_; clear hs; intro a hs) | refine sxc hs ?_ | (refine sxa hs hw ?_; clear hs hw; intro a b W hw hs) | (refine sxs hs hw ?_; clear hs hw; intro W hs hw))
    have hw' := hw.sub (List.Sublist.cons_cons _ (List.Sublist.cons _ (List.Sublist.cons _ (List.Sublist.refl _))))
    refine rc1 hs rfl rfl hw (In.tl (In.tl In.hd)) rfl ?_
    rw [if_neg k3, if_pos rfl]
    exact ⟨rfl, _, RR, hw'⟩
  have e1 : (K == 1) = false := by simpa using k1
  rw [e1] at hs
  repeat (first | (refine sxv hs hw ?_; clear hs; intro a hs) | refine sxc hs ?_ | (refine sxa hs hw ?_; clear hs hw; intro a b W hw hs) | (refine sxs hs hw ?_; clear hs hw; intro W hs hw))
  by_cases k4 : K = 4
  · subst k4
    repeat (first | (refine sxv hs hw ?_; clear hs; intro a hs) | refine sxc hs ?_ | (refine sxa hs hw ?_; clear hs hw; intro a b W hw hs) | (refine sxs hs hw ?_; clear hs hw; intro W hs hw))
    refine st_call hs (hc := op_num w0 _ p sv2 s2 _ (In.tl (In.tl i)) r2 hw) (k := ?_); rintro e0 W1 ⟨rfl, sv3, RR, hw'⟩; refine ⟨_, rfl, ?_⟩; clear hs hw; intro a hs
    have hw := hw'; clear hw'
    rw [show tk s2 (Ph.getI s2.1).2.1 (Ph.getI s2.1).2.2 = rdNum s2 from rfl] at hw RR
    repeat (first | (refine sxv hs hw ?_; clear hs; intro a hs) | refine sxc hs ?_ | (refine sxa hs hw ?_; clear hs hw; intro a b W hw hs) | (refine sxs hs hw ?_; clear hs hw; intro W hs hw))
    have hw' := hw.sub (List.Sublist.cons_cons _ (List.Sublist.cons _ (List.Sublist.cons _ (List.Sublist.refl _))))
    refine rc1 hs rfl rfl hw (In.tl (In.tl In.hd)) rfl ?_
    rw [if_neg k3, if_neg k1, if_pos rfl]
    exact ⟨rfl, _, RR, hw'⟩
  have e4 : (K == 4) = false := by simpa using k4
  rw [e4] at hs
  have RR := r2
  repeat (first | (refine sxv hs hw ?_; clear hs; intro a hs) | refine sxc hs ?_ | (refine sxa hs hw ?_; clear hs hw; intro a b W hw hs) | (refine sxs hs hw ?_; clear hs hw; intro W hs hw))
  have hw' := hw.sub (List.Sublist.cons_cons _ (List.Sublist.cons _ (List.Sublist.cons _ (List.Sublist.refl _))))
  refine rc1 hs rfl rfl hw (In.tl (In.tl In.hd)) rfl ?_
  rw [if_neg k3, if_neg k1, if_neg k4]
  exact ⟨rfl, _, RR, hw'⟩
end Go.Proofs.YtalfmomnaghahaaDoor.Sw

/-
  The plain law of chapter 5: a batch's bytes, read again. No program in sight.
-/
set_option linter.unusedVariables false
set_option maxRecDepth 10000
namespace Go.Proofs.YtalfmomnaghahaaDoor.Sw
open Go.RowKit Go.Sx

/-- A RAW VALUE's BYTES, READ AGAIN. -/
theorem getR_putR {k n : Int} {s : ByteArray} (t : List UInt8) (h : (ofRaw k n s).2 = 0) (h0 : -9223372036854775808 ≤ n) (h1 : n ≤ 9223372036854775807) (hs : s.size ≤ 1000000) :
    getR (putR k n s ++ t) = ((k, n, s), (putR k n s).length, 0) := by
  have hd : s.data.toList.length = s.size := by rw [Array.length_toList]; rfl
  have hO := h
  unfold ofRaw at h
  have he : s.size = 0 → s = ⟨#[]⟩ := fun h => by
    apply ByteArray.ext
    exact Array.eq_empty_of_size_eq_zero h
  split at h
  · rename_i c
    obtain ⟨rfl, rfl, hz⟩ := c
    have g := Ph.getI_putI 0 t (by omega) (by omega)
    have e : putR 0 0 s = Ph.putI 0 := by simp [putR]
    rw [e, getR.eq_1, g, he hz]
    simp
  · split at h
    · rename_i c
      obtain ⟨rfl, hz⟩ := c
      have e : putR 1 n s = Ph.putI 1 ++ Ph.putI n := by simp [putR]
      have g := Ph.getI_putI 1 (Ph.putI n ++ t) (by omega) (by omega)
      have g2 := Ph.getI_putI n t h0 h1
      rw [e, List.append_assoc, getR.eq_1, g, he hz]
      simp only [List.drop_left, g2, List.length_append]
      simp
    · split at h
      · rename_i c
        obtain ⟨rfl, rfl, hz, hv⟩ := c
        have e : putR 2 0 s = Ph.putI 2 ++ Ph.putT s.data.toList := by simp [putR]
        have g := Ph.getI_putI 2 (Ph.putT s.data.toList ++ t) (by omega) (by omega)
        have g2 := Ph.getT_putT s.data.toList t (by omega)
        rw [e, List.append_assoc, getR.eq_1, g]
        simp only [List.drop_left, g2, List.length_append, ba_mk, hO]
        simp
      · cases h

def rdOps : Nat → Int → List OpD → (List UInt8 × Bool) → List OpD × (List UInt8 × Bool)
  | 0, _, l, s => (l, s)
  | f + 1, n, l, s => if 0 < n ∧ s.2 = false ∧ l.length ≤ 8 then rdOps f (n - 1) (l ++ [(rdOp s).1]) (rdOp s).2 else (l, s)
/-- What a text of bytes says. -/
def parse (b : List UInt8) : (Int × Int × List OpD) × (List UInt8 × Bool) :=
  let s1 := rdNum (b, false)
  let s2 := rdNum s1
  let r := rdOps 10 (Ph.getI s2.1).1 [] (rdNum s2)
  (((Ph.getI b).1, (Ph.getI s1.1).1, r.1), r.2)
/-- Whose batch the bytes are. -/
def decode (b : List UInt8) : Option (Int × Int × List OpD) :=
  let p := parse b
  if p.2.2 = false ∧ mayBatch p.1.1 p.1.2.1 p.1.2.2 = true ∧ textB p.1.1 p.1.2.1 p.1.2.2 = b then some p.1 else none

theorem rdNum_put (n : Int) (t : List UInt8) (h : i64 n) : rdNum (Ph.putI n ++ t, false) = (t, false) ∧ (Ph.getI (Ph.putI n ++ t)).1 = n := by
  unfold rdNum tk
  simp only
  rw [Ph.getI_putI n t h.1 h.2]
  simp
theorem rdTxt_put (s : ByteArray) (t : List UInt8) (h : s.size ≤ 1000000) : rdTxt (Ph.putT s.data.toList ++ t, false) = (t, false) ∧ (⟨(Ph.getT (Ph.putT s.data.toList ++ t)).1.toArray⟩ : ByteArray) = s := by
  have hd : s.data.toList.length = s.size := by rw [Array.length_toList]; rfl
  unfold rdTxt tk
  simp only
  rw [Ph.getT_putT s.data.toList t (by omega)]
  refine ⟨?_, ba_mk s⟩
  simp
theorem rdVal_put {k n : Int} {s : ByteArray} (t : List UInt8) (h : (ofRaw k n s).2 = 0) (hn : i64 n) (hs : s.size ≤ 1000000) : rdVal (putR k n s ++ t, false) = (t, false) ∧ (getR (putR k n s ++ t)).1 = (k, n, s) := by
  unfold rdVal tk
  simp only
  rw [getR_putR t h hn.1 hn.2 hs]
  simp

/-- AN OPERATION's BYTES, READ AGAIN. -/
theorem rdOp_put (o : OpD) (t : List UInt8) (hm : mayD o = true) (ho : OpOk o) : rdOp (opB o ++ t, false) = (o, (t, false)) := by
  obtain ⟨kind, key, vk, vn, vs, ok, on, os, n⟩ := o
  obtain ⟨hk, hvk, hvn, hok, hon, hn, hkey, hvs, hos⟩ := ho
  simp only at hk hvk hvn hok hon hn hkey hvs hos
  simp only [mayD, mayOp, Bool.and_eq_true, beq_iff_eq] at hm
  obtain ⟨⟨⟨-, hv⟩, hO⟩, hm⟩ := hm
  have key0 : ∀ x : List UInt8, rdNum (Ph.putI kind ++ (Ph.putT key.data.toList ++ x), false) = (Ph.putT key.data.toList ++ x, false) ∧ (Ph.getI (Ph.putI kind ++ (Ph.putT key.data.toList ++ x))).1 = kind := fun x => rdNum_put kind _ hk
  have key1 : ∀ x : List UInt8, rdTxt (Ph.putT key.data.toList ++ x, false) = (x, false) ∧ (⟨(Ph.getT (Ph.putT key.data.toList ++ x)).1.toArray⟩ : ByteArray) = key := fun x => rdTxt_put key x hkey
  have main : ∀ x : List UInt8, rdOp (Ph.putI kind ++ (Ph.putT key.data.toList ++ x), false) = (if kind = 3 then
      (⟨kind, key, (getR x).1.1, (getR x).1.2.1, (getR x).1.2.2, (getR (rdVal (x, false)).1).1.1, (getR (rdVal (x, false)).1).1.2.1, (getR (rdVal (x, false)).1).1.2.2, 0⟩, rdVal (rdVal (x, false)))
      else if kind = 1 then (⟨kind, key, (getR x).1.1, (getR x).1.2.1, (getR x).1.2.2, 0, 0, ⟨#[]⟩, 0⟩, rdVal (x, false))
      else if kind = 4 then (⟨kind, key, 0, 0, ⟨#[]⟩, 0, 0, ⟨#[]⟩, (Ph.getI x).1⟩, rdNum (x, false))
      else (⟨kind, key, 0, 0, ⟨#[]⟩, 0, 0, ⟨#[]⟩, 0⟩, (x, false))) := fun x => by
    unfold rdOp
    simp only
    rw [(key0 x).1, (key0 x).2]
    simp only
    rw [(key1 x).1, (key1 x).2]
  have hA : opB ⟨kind, key, vk, vn, vs, ok, on, os, n⟩ ++ t = Ph.putI kind ++ (Ph.putT key.data.toList ++ ((if kind = 3 then putR vk vn vs ++ putR ok on os else if kind = 1 then putR vk vn vs else if kind = 4 then Ph.putI n else []) ++ t)) := by
    unfold opB
    simp only [List.append_assoc]
  rw [hA, main]
  clear main hA key0 key1
  split at hm
  · rename_i k1
    subst k1
    simp only [Bool.and_eq_true, beq_iff_eq] at hm
    obtain ⟨⟨-, h2⟩, rfl⟩ := hm
    obtain ⟨rfl, rfl, rfl⟩ := rawEq_iff.1 h2
    obtain ⟨g1, g2⟩ := rdVal_put t hv hvn hvs
    rw [if_neg (by decide), if_pos rfl, if_neg (by decide), if_pos rfl, g1, g2]
  · rename_i k1
    split at hm
    · rename_i k2
      subst k2
      simp only [Bool.and_eq_true, beq_iff_eq] at hm
      obtain ⟨⟨h1, h2⟩, rfl⟩ := hm
      obtain ⟨rfl, rfl, rfl⟩ := rawEq_iff.1 h1
      obtain ⟨rfl, rfl, rfl⟩ := rawEq_iff.1 h2
      rw [if_neg (by decide), if_neg (by decide), if_neg (by decide), if_neg (by decide), if_neg (by decide), if_neg (by decide), List.nil_append]
    · split at hm
      · rename_i k3
        subst k3
        simp only [Bool.and_eq_true, beq_iff_eq] at hm
        obtain ⟨-, rfl⟩ := hm
        obtain ⟨g1, g2⟩ := rdVal_put (putR ok on os ++ t) hv hvn hvs
        obtain ⟨g3, g4⟩ := rdVal_put t hO hon hos
        rw [if_pos rfl, if_pos rfl, List.append_assoc, g1, g2]
        simp only
        rw [g3, g4]
      · split at hm
        · rename_i k4
          subst k4
          simp only [Bool.and_eq_true] at hm
          obtain ⟨⟨⟨h1, h2⟩, -⟩, -⟩ := hm
          obtain ⟨rfl, rfl, rfl⟩ := rawEq_iff.1 h1
          obtain ⟨rfl, rfl, rfl⟩ := rawEq_iff.1 h2
          obtain ⟨g1, g2⟩ := rdNum_put n t hn
          rw [if_neg (by decide), if_neg (by decide), if_pos rfl, if_neg (by decide), if_neg (by decide), if_pos rfl, g1, g2]
        · cases hm

theorem rdOps_zero (f : Nat) (acc : List OpD) (s : List UInt8 × Bool) : rdOps f 0 acc s = (acc, s) := by
  cases f with
  | zero => rfl
  | succ f => rw [rdOps, if_neg (by omega)]
theorem rdOps_put : ∀ (l : List OpD) (f : Nat) (acc : List OpD) (t : List UInt8), acc.length + l.length ≤ 8 → l.length ≤ f → l.all mayD = true → (∀ o ∈ l, OpOk o) → rdOps f (l.length : Int) acc (l.flatMap opB ++ t, false) = (acc ++ l, (t, false))
  | [], f, acc, t, _, _, _, _ => by
    rw [show (([] : List OpD).length : Int) = 0 from rfl, rdOps_zero]; simp
  | o :: l, 0, acc, t, _, hf, _, _ => by simp at hf
  | o :: l, f + 1, acc, t, h8, hf, hm, ho => by
    simp only [List.length_cons] at h8 hf
    rw [List.all_cons, Bool.and_eq_true] at hm
    rw [rdOps, if_pos ⟨by simp only [List.length_cons]; omega, rfl, by omega⟩, List.flatMap_cons, List.append_assoc, rdOp_put o _ hm.1 (ho o (by simp))]
    simp only
    have e : ((o :: l).length : Int) - 1 = (l.length : Int) := by simp only [List.length_cons]; omega
    rw [e, rdOps_put l f (acc ++ [o]) t (by simp; omega) (by omega) hm.2 fun x hx => ho x (by simp [hx])]
    simp

/-- A BATCH's BYTES, READ AGAIN; WHAT COMES BEHIND THEM IS LEFT. -/
theorem parse_text {c q : Int} {l : List OpD} (t : List UInt8) (h : mayBatch c q l = true) (ho : ∀ o ∈ l, OpOk o) : parse (textB c q l ++ t) = ((c, q, l), (t, false)) := by
  obtain ⟨hc, hq, hl, hm, -⟩ := mayBatch_parts h
  have e : textB c q l ++ t = Ph.putI c ++ (Ph.putI q ++ (Ph.putI l.length ++ (l.flatMap opB ++ t))) := by
    unfold textB headB; simp only [List.append_assoc]
  obtain ⟨g1, g2⟩ := rdNum_put c (Ph.putI q ++ (Ph.putI l.length ++ (l.flatMap opB ++ t))) ⟨by omega, by omega⟩
  obtain ⟨g3, g4⟩ := rdNum_put q (Ph.putI l.length ++ (l.flatMap opB ++ t)) ⟨by omega, by omega⟩
  obtain ⟨g5, g6⟩ := rdNum_put l.length (l.flatMap opB ++ t) ⟨by omega, by omega⟩
  unfold parse
  simp only
  rw [e, g1, g2]
  simp only
  rw [g3, g4]
  simp only
  rw [g5, g6, rdOps_put l 10 [] t (by simp; omega) (by omega) hm ho]
  rfl
theorem decode_text {c q : Int} {l : List OpD} (h : mayBatch c q l = true) (ho : ∀ o ∈ l, OpOk o) : decode (textB c q l) = some (c, q, l) := by
  have := parse_text [] h ho
  rw [List.append_nil] at this
  unfold decode
  simp only
  rw [this, if_pos ⟨rfl, h, rfl⟩]
theorem decode_some {b : List UInt8} {c q : Int} {l : List OpD} (h : decode b = some (c, q, l)) : mayBatch c q l = true ∧ textB c q l = b ∧ (parse b).1 = (c, q, l) := by
  unfold decode at h
  simp only at h
  split at h
  · rename_i hh
    have e := Option.some.inj h
    rw [e] at hh
    exact ⟨hh.2.1, hh.2.2, e⟩
  · cases h

/-! what is read is in range -/
theorem unzig_range (y : Nat) (h : y < 18446744073709551616) : i64 (Ph.unzig y) := by
  unfold Ph.unzig i64
  split <;> omega
theorem getN_range : ∀ (l : List UInt8) (i u : Nat), u < 128 ^ i → i ≤ 9 → i64 (Ph.getN i u l).1
  | [], i, u, _, _ => by rw [Ph.getN_end]; simp [i64]
  | c :: t, i, u, hu, hi => by
    have hc := c.toNat_lt
    rw [Ph.getN]
    split
    · simp [i64]
    · rename_i c1
      split
      · rename_i c2
        have h8 : i ≤ 8 := by omega
        exact getN_range t (i + 1) _ (Ph.sum_small u c.toNat i hu h8 (by omega)).2 (by omega)
      · rename_i c2
        split
        · simp [i64]
        · refine unzig_range _ ?_
          by_cases h8 : i ≤ 8
          · have h1 := (Ph.sum_small u c.toNat i hu h8 (by omega)).2
            have h2 : 128 ^ (i + 1) ≤ 128 ^ 9 := Nat.pow_le_pow_right (by omega) (by omega)
            have h3 : (128 : Nat) ^ 9 = 9223372036854775808 := by decide
            omega
          · obtain rfl : i = 9 := by omega
            have h3 : (128 : Nat) ^ 9 = 9223372036854775808 := by decide
            rw [h3] at hu
            have : c.toNat ≤ 1 := by omega
            have h4 : c.toNat % 128 * 128 ^ 9 ≤ 9223372036854775808 := by
              rw [h3, Nat.mod_eq_of_lt (by omega)]
              omega
            omega
theorem getI_range (l : List UInt8) : i64 (Ph.getI l).1 := getN_range l 0 0 (by simp) (by omega)
theorem getR_range (l : List UInt8) : i64 (getR l).1.1 ∧ i64 (getR l).1.2.1 ∧ (getR l).1.2.2.size ≤ l.length := by
  have h1 := getI_range (l.drop (Ph.getI l).2.1)
  have z : i64 0 := ⟨by omega, by omega⟩
  have e0 : (⟨#[]⟩ : ByteArray).size = 0 := rfl
  unfold getR
  simp only
  split
  · exact ⟨z, z, by simp [e0]⟩
  · split
    · exact ⟨z, z, by simp [e0]⟩
    · split
      · split
        · exact ⟨z, z, by simp [e0]⟩
        · exact ⟨⟨by simp, by simp⟩, h1, by simp [e0]⟩
      · split
        · split
          · exact ⟨z, z, by simp [e0]⟩
          · have := getT_size (l.drop (Ph.getI l).2.1)
            rw [List.length_drop] at this
            split
            · exact ⟨z, z, by simp [e0]⟩
            · exact ⟨⟨by simp, by simp⟩, z, by simp only; omega⟩
        · exact ⟨z, z, by simp [e0]⟩
theorem tk_le (s : List UInt8 × Bool) (n : Nat) (err : Int) : (tk s n err).1.length ≤ s.1.length := by
  unfold tk
  simp only
  split
  · exact Nat.le_refl _
  · rw [List.length_drop]; omega
theorem rdOp_ok (s : List UInt8 × Bool) (h : s.1.length ≤ 1000000) : OpOk (rdOp s).1 ∧ (rdOp s).2.1.length ≤ s.1.length := by
  have h1 : (rdNum s).1.length ≤ s.1.length := tk_le _ _ _
  have h2 : (rdTxt (rdNum s)).1.length ≤ (rdNum s).1.length := tk_le _ _ _
  have k0 := getI_range s.1
  have hkey := getT_size (rdNum s).1
  unfold rdOp
  simp only
  generalize rdTxt (rdNum s) = s2 at *
  have h3 : (rdVal s2).1.length ≤ s2.1.length := tk_le _ _ _
  have h4 : (rdVal (rdVal s2)).1.length ≤ (rdVal s2).1.length := tk_le _ _ _
  have h5 : (rdNum s2).1.length ≤ s2.1.length := tk_le _ _ _
  obtain ⟨a1, a2, a3⟩ := getR_range s2.1
  obtain ⟨b1, b2, b3⟩ := getR_range (rdVal s2).1
  have c1 := getI_range s2.1
  have z : i64 0 := ⟨by omega, by omega⟩
  have e0 : (⟨#[]⟩ : ByteArray).size ≤ 1000000 := by show 0 ≤ _; omega
  split
  · exact ⟨⟨k0, a1, a2, b1, b2, z, by simp only; omega, by simp only; omega, by simp only; omega⟩, by simp only; omega⟩
  · split
    · exact ⟨⟨k0, a1, a2, z, z, z, by simp only; omega, by simp only; omega, e0⟩, by simp only; omega⟩
    · split
      · exact ⟨⟨k0, z, z, z, z, c1, by simp only; omega, e0, e0⟩, by simp only; omega⟩
      · exact ⟨⟨k0, z, z, z, z, z, by simp only; omega, e0, e0⟩, by simp only; omega⟩
theorem rdOps_ok : ∀ (f : Nat) (n : Int) (l : List OpD) (s : List UInt8 × Bool), s.1.length ≤ 1000000 → l.length ≤ 9 → (∀ o ∈ l, OpOk o) → (rdOps f n l s).1.length ≤ 9 ∧ ∀ o ∈ (rdOps f n l s).1, OpOk o
  | 0, n, l, s, _, h9, ho => ⟨h9, ho⟩
  | f + 1, n, l, s, hs, h9, ho => by
    rw [rdOps]
    split
    · rename_i c
      obtain ⟨g1, g2⟩ := rdOp_ok s hs
      refine rdOps_ok f (n - 1) _ _ (by omega) (by simp; omega) fun o h => ?_
      rcases List.mem_append.1 h with h | h
      · exact ho o h
      · rw [List.mem_singleton] at h; rw [h]; exact g1
    · exact ⟨h9, ho⟩
theorem parse_ok (b : List UInt8) (h : b.length ≤ 1000000) : i64 (parse b).1.1 ∧ i64 (parse b).1.2.1 ∧ (parse b).1.2.2.length ≤ 9 ∧ ∀ o ∈ (parse b).1.2.2, OpOk o := by
  have h1 : (rdNum (b, false)).1.length ≤ b.length := tk_le _ _ _
  have h2 : (rdNum (rdNum (b, false))).1.length ≤ (rdNum (b, false)).1.length := tk_le _ _ _
  have h3 : (rdNum (rdNum (rdNum (b, false)))).1.length ≤ (rdNum (rdNum (b, false))).1.length := tk_le _ _ _
  have := rdOps_ok 10 (Ph.getI (rdNum (rdNum (b, false))).1).1 [] (rdNum (rdNum (rdNum (b, false)))) (by omega) (by simp) (by simp)
  exact ⟨getI_range _, getI_range _, this.1, this.2⟩
theorem decode_ok {b : List UInt8} {c q : Int} {l : List OpD} (hb : b.length ≤ 1000000) (h : decode b = some (c, q, l)) : i64 c ∧ i64 q ∧ l.length ≤ 9 ∧ ∀ o ∈ l, OpOk o := by
  have := parse_ok b hb
  rw [(decode_some h).2.2] at this
  exact this

/-- BYTES BEHIND A BATCH's: IF BOTH ARE BATCHES', THERE ARE NONE. -/
theorem no_more {c q : Int} {l : List OpD} {b t : List UInt8} (hb : b.length ≤ 1000000) (h : mayBatch c q l = true) (ho : ∀ o ∈ l, OpOk o) (he : textB c q l = b ++ t) (ht : t ≠ []) : decode b = none := by
  cases hd : decode b with
  | none => rfl
  | some p =>
    obtain ⟨c', q', l'⟩ := p
    obtain ⟨m, e, -⟩ := decode_some hd
    have p1 := parse_text [] h ho
    have p2 := parse_text t m (decode_ok hb hd).2.2.2
    rw [e, ← he] at p2
    rw [List.append_nil, p2] at p1
    exact absurd (congrArg (fun x => x.2.1) p1) ht
theorem none_more {c q : Int} {l : List OpD} {t : List UInt8} (h : mayBatch c q l = true) (ho : ∀ o ∈ l, OpOk o) (hb : (textB c q l ++ t).length ≤ 1000000) (ht : t ≠ []) : decode (textB c q l ++ t) = none := by
  cases hd : decode (textB c q l ++ t) with
  | none => rfl
  | some p =>
    obtain ⟨c', q', l'⟩ := p
    obtain ⟨m, e, -⟩ := decode_some hd
    have p1 := parse_text t h ho
    have p2 := parse_text [] m (decode_ok hb hd).2.2.2
    rw [List.append_nil, e, p1] at p2
    exact absurd (congrArg (fun x => x.2.1) p2) ht

/-! one batch, or two -/
theorem twins {c q : Int} {l : List OpD} {c' q' : Int} {l' : List OpD} (h : mayBatch c q l = true) (ho : ∀ o ∈ l, OpOk o) (h' : mayBatch c' q' l' = true) (ho' : ∀ o ∈ l', OpOk o) : (textB c q l == textB c' q' l') = eqBatch c q l c' q' l' := by
  cases he : eqBatch c q l c' q' l' with
  | true =>
    obtain ⟨rfl, rfl, rfl⟩ := eqBatch_iff.1 he
    exact beq_self_eq_true _
  | false =>
    rw [beq_eq_false_iff_ne]
    intro e
    have d := decode_text h ho
    rw [e, decode_text h' ho'] at d
    have d := Option.some.inj d
    simp only [Prod.mk.injEq] at d
    rw [eqBatch_iff.2 ⟨d.1.symm, d.2.1.symm, d.2.2.symm⟩] at he
    cases he
end Go.Proofs.YtalfmomnaghahaaDoor.Sw

/-
  Tables, plain: what an entry makes, a table's bytes, what bytes a table is read from.
-/
set_option linter.unusedVariables false
set_option maxRecDepth 10000
namespace Go.Proofs.YtalfmomnaghahaaDoor.Sw
open Go.RowKit Go.Sx

structure TabD where
  ix : Int
  f : FoldD
  rows : List RowD
structure EntD where
  ix : Int
  term : Int
  kind : Int
  data : ByteArray
def entCells (e : EntD) : List Value := [.int .i64 e.ix, .int .i64 e.term, .int .i64 e.kind, .string e.data]
/-- A batch is played. -/
def playT (ix : Int) (t : TabD) (b : BatchD) : TabD × RowD × Bool :=
  match (next t.f b).2.2 with
  | true => (⟨ix, (next t.f b).1, t.rows ++ [(next t.f b).2.1]⟩, (next t.f b).2.1, true)
  | false => (⟨ix, t.f, t.rows⟩, zeroRow, false)
/-- An entry is played. -/
def applyT (t : TabD) (e : EntD) : TabD × RowD × Bool :=
  if e.ix = IntKind.i64.wrap (t.ix + 1) then
    (match e.kind == 2, decode e.data.data.toList with
     | true, some p => playT (IntKind.i64.wrap (t.ix + 1)) t ⟨p.1, p.2.1, p.2.2⟩
     | _, _ => (⟨IntKind.i64.wrap (t.ix + 1), t.f, t.rows⟩, zeroRow, false))
  else (t, zeroRow, false)
def encB (b : BatchD) : List UInt8 := textB b.c b.q b.l
def rowB (r : RowD) : List UInt8 := Ph.putT (encB r.b)
def dataT (t : TabD) : List UInt8 := Ph.putI t.ix ++ (Ph.putI (t.rows.length : Int) ++ t.rows.flatMap rowB)
def batOf (p : Int × Int × List OpD) : BatchD := ⟨p.1, p.2.1, p.2.2⟩
def loadRows : Nat → FoldD → List RowD → List UInt8 → Option (FoldD × List RowD)
  | 0, f, rs, _ => some (f, rs)
  | n + 1, f, rs, s =>
    match (Ph.getT s).2.2 == 0, decode (Ph.getT s).1 with
    | true, some p =>
      (match (next f (batOf p)).2.2 with
       | true => loadRows n (next f (batOf p)).1 (rs ++ [(next f (batOf p)).2.1]) (s.drop (Ph.getT s).2.1)
       | false => none)
    | _, _ => none
def headT (s : List UInt8) : Option (Int × Nat × List UInt8) :=
  if (Ph.getI s).2.2 = 0 ∧ 0 ≤ (Ph.getI s).1 ∧ (Ph.getI s).1 ≤ 1099511627776 then
    (if (Ph.getI (s.drop (Ph.getI s).2.1)).2.2 = 0 ∧ 0 ≤ (Ph.getI (s.drop (Ph.getI s).2.1)).1 ∧ (Ph.getI (s.drop (Ph.getI s).2.1)).1 ≤ (Ph.getI s).1 ∧ (Ph.getI (s.drop (Ph.getI s).2.1)).1 ≤ s.length then
      some ((Ph.getI s).1, (Ph.getI (s.drop (Ph.getI s).2.1)).1.toNat, s.drop ((Ph.getI s).2.1 + (Ph.getI (s.drop (Ph.getI s).2.1)).2.1)) else none)
  else none
def loadT (s : List UInt8) : Option TabD :=
  match headT s with
  | none => none
  | some (ix, n, t) =>
    match loadRows n emptyF [] t with
    | none => none
    | some (f, rs) => if dataT ⟨ix, f, rs⟩ = s then some ⟨ix, f, rs⟩ else none
/-- A table that came of entries. -/
structure TabOk (t : TabD) : Prop where
  play : Play emptyF t.rows t.f
  ok : ∀ r ∈ t.rows, RowOk r
  ix : (t.rows.length : Int) ≤ t.ix ∧ t.ix ≤ 1099511627776
  len : t.rows.length ≤ 100000
theorem encB_len {f : FoldD} {rows : List RowD} (h : Play emptyF rows f) : ∀ r ∈ rows, (encB r.b).length ≤ 1200 ∧ 0 < (encB r.b).length := fun r hr =>
  ⟨(mayBatch_parts (play_mem h r hr)).2.2.2.2, textB_pos _ _ _⟩
theorem putT_len (s : List UInt8) : s.length < (Ph.putT s).length := by
  unfold Ph.putT
  rw [List.length_append]
  have : 0 < (Ph.putI (s.length : Int)).length := List.length_pos_iff.2 (Ph.putI_ne_nil _)
  omega
theorem nextB_may {f : FoldD} {b : BatchD} (h : nextB f b = true) : mayB b = true := by
  unfold nextB at h
  exact (Bool.and_eq_true_iff.1 h).1
theorem loadRows_put : ∀ (rows : List RowD) (f f' : FoldD) (rs : List RowD) (t : List UInt8), Play f rows f' → (∀ r ∈ rows, RowOk r) → loadRows rows.length f rs (rows.flatMap rowB ++ t) = some (f', rs ++ rows)
  | [], f, f', rs, t, h, _ => by
    have h : f = f' := h
    subst h
    simp [loadRows]
  | r :: rows, f, f', rs, t, ⟨h1, h2, h3⟩, hok => by
    have hm : mayB r.b = true := (nextB_may (next_ok h1).1)
    have hbo := hok r (by simp)
    have h12 : (encB r.b).length ≤ 1200 := (mayBatch_parts hm).2.2.2.2
    have hg := Ph.getT_putT (encB r.b) (rows.flatMap rowB ++ t) (by omega)
    have hd : decode (encB r.b) = some (r.b.c, r.b.q, r.b.l) := decode_text hm hbo.b.ops
    have e : (r :: rows).flatMap rowB ++ t = Ph.putT (encB r.b) ++ (rows.flatMap rowB ++ t) := by
      simp [rowB]
    rw [e]
    have hb : batOf (r.b.c, r.b.q, r.b.l) = r.b := rfl
    show (match (Ph.getT (Ph.putT (encB r.b) ++ (rows.flatMap rowB ++ t))).2.2 == 0, decode (Ph.getT (Ph.putT (encB r.b) ++ (rows.flatMap rowB ++ t))).1 with
      | true, some p => _
      | _, _ => _) = _
    rw [hg]
    simp only [hd, hb, beq_self_eq_true, h1, h2]
    rw [List.drop_left, loadRows_put rows _ f' _ t h3 fun q hq => hok q (by simp [hq])]
    simp
theorem headT_put (ix : Int) (n : Nat) (t : List UInt8) (h1 : (n : Int) ≤ ix) (h2 : ix ≤ 1099511627776) (h3 : n ≤ t.length) : headT (Ph.putI ix ++ (Ph.putI (n : Int) ++ t)) = some (ix, n, t) := by
  have g1 := Ph.getI_putI ix (Ph.putI (n : Int) ++ t) (by omega) (by omega)
  have g2 := Ph.getI_putI (n : Int) t (by omega) (by omega)
  unfold headT
  rw [g1]
  simp only [List.drop_left]
  rw [g2]
  simp only
  rw [if_pos ⟨by trivial, by omega, h2⟩, if_pos ⟨by trivial, by omega, h1, by simp only [List.length_append]; omega⟩, ← List.drop_drop, List.drop_left, List.drop_left]
  simp
theorem rowB_pos : ∀ rows : List RowD, rows.length ≤ (rows.flatMap rowB).length
  | [] => by simp
  | r :: rows => by
    have h := rowB_pos rows
    have h2 := putT_len (encB r.b)
    simp only [List.flatMap_cons, List.length_append, List.length_cons]
    unfold rowB
    unfold rowB at h
    omega
theorem load_data {t : TabD} (h : TabOk t) : loadT (dataT t) = some t := by
  unfold loadT dataT
  rw [headT_put _ _ _ h.ix.1 h.ix.2 (rowB_pos _)]
  have := loadRows_put t.rows emptyF t.f [] [] h.play h.ok
  rw [List.append_nil, List.nil_append] at this
  simp only [this]
  rw [if_pos (by trivial)]
theorem loadRows_some : ∀ (n : Nat) (f : FoldD) (rs : List RowD) (s : List UInt8) (f' : FoldD) (rs' : List RowD), loadRows n f rs s = some (f', rs') → s.length ≤ 1000000 → ∃ rows, rs' = rs ++ rows ∧ rows.length = n ∧ Play f rows f' ∧ ∀ r ∈ rows, BatOk r.b
  | 0, f, rs, s, f', rs', h, _ => by
    simp only [loadRows, Option.some.injEq, Prod.mk.injEq] at h
    exact ⟨[], by simp [h.2], rfl, h.1, by simp⟩
  | n + 1, f, rs, s, f', rs', h, hl => by
    simp only [loadRows] at h
    cases h0 : ((Ph.getT s).2.2 == 0) with
    | false => rw [h0] at h; cases h
    | true =>
      rw [h0] at h
      cases hd : decode (Ph.getT s).1 with
      | none => rw [hd] at h; cases h
      | some p =>
        rw [hd] at h
        simp only at h
        cases hn : (next f (batOf p)).2.2 with
        | false => rw [hn] at h; cases h
        | true =>
          rw [hn] at h
          simp only at h
          have hgs : (Ph.getT s).1.length ≤ 1000000 := by
            have := getT_size s
            simp [ByteArray.size] at this
            omega
          obtain ⟨c, q, l⟩ := p
          have hdo := decode_ok hgs hd
          obtain ⟨rows, h1, h2, h3, h4⟩ := loadRows_some n _ _ _ f' rs' h (by rw [List.length_drop]; omega)
          have hrb := next_row hn
          refine ⟨(next f (batOf (c, q, l))).2.1 :: rows, by rw [h1]; simp, by simp [h2], ⟨by rw [hrb]; exact hn, by rw [hrb], by rw [hrb]; exact h3⟩, fun r hr => ?_⟩
          rcases List.mem_cons.1 hr with rfl | hr
          · rw [hrb]; exact ⟨hdo.1, hdo.2.1, hdo.2.2.2⟩
          · exact h4 r hr
theorem load_some {s : List UInt8} {t : TabD} (hl : s.length ≤ 1000000) (h : loadT s = some t) : dataT t = s ∧ Play emptyF t.rows t.f ∧ (t.rows.length : Int) ≤ t.ix ∧ t.ix ≤ 1099511627776 ∧ t.rows.length ≤ s.length ∧ (∀ r ∈ t.rows, BatOk r.b) := by
  unfold loadT at h
  cases hh : headT s with
  | none => rw [hh] at h; cases h
  | some p =>
    obtain ⟨ix, n, u⟩ := p
    rw [hh] at h
    simp only at h
    cases hr : loadRows n emptyF [] u with
    | none => rw [hr] at h; cases h
    | some q =>
      obtain ⟨f, rs⟩ := q
      rw [hr] at h
      simp only at h
      split at h
      · rename_i hd
        injection h with h
        subst h
        have hu : u.length ≤ 1000000 ∧ (n : Int) ≤ ix ∧ ix ≤ 1099511627776 ∧ n ≤ s.length := by
          unfold headT at hh
          split at hh
          · rename_i h1
            split at hh
            · rename_i h2
              simp only [Option.some.injEq, Prod.mk.injEq] at hh
              obtain ⟨e1, e2, e3⟩ := hh
              subst e1 e2 e3
              rw [List.length_drop]
              omega
            · cases hh
          · cases hh
        obtain ⟨rows, e, h2, h3, h4⟩ := loadRows_some n emptyF [] u f rs hr hu.1
        rw [List.nil_append] at e
        subst e
        exact ⟨hd, h3, by show (rs.length : Int) ≤ ix; omega, hu.2.2.1, by show rs.length ≤ s.length; omega, h4⟩
      · cases h
end Go.Proofs.YtalfmomnaghahaaDoor.Sw

/-
  The walk of op.Decode.
-/
set_option linter.unusedVariables false
set_option maxRecDepth 10000
namespace Go.Proofs.YtalfmomnaghahaaDoor.Sw
open Go.RowKit Go.Sx

/-- What Decode tells. -/
def decR (b : List UInt8) : (Int × Int × List OpD) × Int := match decode b with | none => ((0, 0, []), 1) | some p => (p, 0)
theorem rdOps_go {n : Int} {l : List OpD} {s : List UInt8 × Bool} (h0 : 0 < n) (h1 : s.2 = false) (h2 : l.length ≤ 8) : rdOps (10 - l.length) n l s = rdOps (10 - (l.length + 1)) (n - 1) (l ++ [(rdOp s).1]) (rdOp s).2 := by
  rw [show 10 - l.length = (10 - (l.length + 1)) + 1 by omega, rdOps, if_pos ⟨h0, h1, h2⟩]
theorem rdOps_stop {n : Int} {l : List OpD} {s : List UInt8 × Bool} (h : (decide (n > 0) && !s.2 && decide ((l.length : Int) ≤ 8)) = false) (f : Nat) : rdOps f n l s = (l, s) := by
  cases f with
  | zero => rfl
  | succ f =>
    rw [rdOps, if_neg]
    rintro ⟨h0, h1, h2⟩
    rw [h1] at h
    simp at h
    omega

structure DecS where
  n : Int
  v : Value
  l : List OpD
  sv : Value
  s : List UInt8 × Bool

set_option maxRecDepth 10000 in
set_option maxHeartbeats 16000000 in
theorem op_Decode (b : List UInt8) (sv : Value) (w : World) (hb : b.length ≤ 1000000) (r : RdB w sv b) (hT : Tabs w) :
    Calls Tryd.prog 19 ⟨[sv]⟩ w fun e w' => ∃ ad cap, e = .returned (.tuple #[.agg ⟨[.int .i64 (decR b).1.1, .int .i64 (decR b).1.2.1, .slice ad (decR b).1.2.2.length cap]⟩, .int .i64 (decR b).2]) ∧ Has 0 w w' (Sx.Own 41 9 (.slice ad (decR b).1.2.2.length cap) (decR b).1.2.2.length ((decR b).1.2.2.flatMap opCells) :: Old w 0 :: []) := by
  have hw := Has.start (G := 0) (w := w) (Nat.zero_le _)
  have hok := parse_ok b hb
  obtain ⟨sad, scap, rfl⟩ : ∃ ad cap, sv = .slice ad b.length cap := by obtain ⟨_, ad, cap, e, _⟩ := r; exact ⟨ad, cap, e⟩
  refine enter Tryd.func19 Tryd.ntmps19 rfl rfl fun a hs => ?_
  repeat (first | (refine sxv hs hw ?_; clear hs; intro a hs) | refine sxc hs ?_ | (refine sxa hs hw ?_; clear hs hw; intro a b W hw hs) | (refine sxs hs hw ?_; clear hs hw; intro W hs hw))
  obtain ⟨bp, q1⟩ := nm1 hw; subst q1
  obtain ⟨b0, q2⟩ := nm2 hw; subst q2
  have hw : Has 0 w _ (Cells bp [.slice sad b.length scap, .bool (b, false).2] 80 :: Cells b0 [.int .i64 0, .int .i64 0, .slice none 0 0] 25 :: Old w 0 :: []) := hw
  refine st_call hs (hc := op_num w _ bp _ (b, false) _ (In.tl In.hd) r hw) (k := ?_); rintro e0 W1 ⟨rfl, sv1, r1, hw'⟩; refine ⟨_, rfl, ?_⟩; clear hs hw; intro a hs
  have hw := hw'; clear hw'
  rw [show tk (b, false) (Ph.getI (b, false).1).2.1 (Ph.getI (b, false).1).2.2 = rdNum (b, false) from rfl] at hw r1
  repeat (first | (refine sxv hs hw ?_; clear hs; intro a hs) | refine sxc hs ?_ | (refine sxa hs hw ?_; clear hs hw; intro a b W hw hs) | (refine sxs hs hw ?_; clear hs hw; intro W hs hw))
  obtain ⟨bx, q3⟩ := nm1 hw; subst q3
  have hw := hw.swap2
  refine st_call hs (hc := op_num w _ bp sv1 (rdNum (b, false)) _ (In.tl (In.tl In.hd)) r1 hw) (k := ?_); rintro e0 W1 ⟨rfl, sv2, r2, hw'⟩; refine ⟨_, rfl, ?_⟩; clear hs hw; intro a hs
  have hw := hw'; clear hw'
  rw [show tk (rdNum (b, false)) (Ph.getI (rdNum (b, false)).1).2.1 (Ph.getI (rdNum (b, false)).1).2.2 = rdNum (rdNum (b, false)) from rfl] at hw r2
  repeat (first | (refine sxv hs hw ?_; clear hs; intro a hs) | refine sxc hs ?_ | (refine sxa hs hw ?_; clear hs hw; intro a b W hw hs) | (refine sxs hs hw ?_; clear hs hw; intro W hs hw))
  refine st_call hs (hc := op_num w _ bp sv2 (rdNum (rdNum (b, false))) _ (In.tl (In.tl In.hd)) r2 hw) (k := ?_); rintro e0 W1 ⟨rfl, sv3, r3, hw'⟩; refine ⟨_, rfl, ?_⟩; clear hs hw; intro a hs
  have hw := hw'; clear hw'
  rw [show tk (rdNum (rdNum (b, false))) (Ph.getI (rdNum (rdNum (b, false))).1).2.1 (Ph.getI (rdNum (rdNum (b, false))).1).2.2 = rdNum (rdNum (rdNum (b, false))) from rfl] at hw r3
  repeat (first | (refine sxv hs hw ?_; clear hs; intro a hs) | refine sxc hs ?_ | (refine sxa hs hw ?_; clear hs hw; intro a b W hw hs) | (refine sxs hs hw ?_; clear hs hw; intro W hs hw))
  have hN := getI_range (rdNum (rdNum (b, false))).1
  have hdec : parse b = (((Ph.getI (b, false).1).1, (Ph.getI (rdNum (b, false)).1).1, (rdOps 10 (Ph.getI (rdNum (rdNum (b, false))).1).1 [] (rdNum (rdNum (rdNum (b, false))))).1), (rdOps 10 (Ph.getI (rdNum (rdNum (b, false))).1).1 [] (rdNum (rdNum (rdNum (b, false))))).2) := rfl
  clear r1 r2
  generalize (Ph.getI (rdNum (rdNum (b, false))).1).1 = N at *
  generalize rdNum (rdNum (rdNum (b, false))) = s3 at *
  generalize (Ph.getI (rdNum (b, false)).1).1 = q at *
  generalize (Ph.getI (b, false).1).1 = c at *
  replace hw := (hw.nilOwn 41 9).swap2
  have hw : Has 0 w W1 (Cells bp [sv3, .bool s3.2] 80 :: Sx.Own 41 9 (.slice none 0 0) ([] : List OpD).length (([] : List OpD).flatMap opCells) :: Cells bx [.int .i64 c, .int .i64 q, .slice none 0 0] 25 :: Cells b0 [.int .i64 0, .int .i64 0, .slice none 0 0] 25 :: Old w 0 :: []) := hw
  refine st_loop (σ := DecS) (fun t => [(0, .slice sad b.length scap), (2, .pointer (some ⟨b0, 0, none⟩)), (4, .pointer (some ⟨bp, 0, none⟩)), (5, .pointer (some ⟨bx, 0, none⟩)), (6, .int .i64 t.n)])
    (fun t => Cells bp [t.sv, .bool t.s.2] 80 :: Sx.Own 41 9 t.v t.l.length (t.l.flatMap opCells) :: Cells bx [.int .i64 c, .int .i64 q, t.v] 25 :: Cells b0 [.int .i64 0, .int .i64 0, .slice none 0 0] 25 :: Old w 0 :: [])
    (fun t => RdB w t.sv t.s.1 ∧ i64 t.n ∧ t.l.length ≤ 9 ∧ rdOps (10 - t.l.length) t.n t.l t.s = rdOps 10 N [] s3) (fun t => 10 - t.l.length) ⟨N, .slice none 0 0, [], sv3, s3⟩ ⟨r3, hN, by simp, rfl⟩ hs ⟨rfl, rfl, rfl, rfl, rfl, trivial⟩ hw ?_
  clear hs hw r3 hN
  rintro ⟨n, v, l, sv, s⟩ a W ⟨hr, hn, hl, hrd⟩ hs hw
  simp only at hr hn hl hrd hs hw
  obtain ⟨vad, vcap, rfl⟩ : ∃ ad cap, v = .slice ad l.length cap := by
    obtain ⟨_, ad, cap, e, _⟩ := hw.rd_own (In.tl In.hd); exact ⟨ad, cap, e⟩
  refine sq ?_
  refine sq ?_
  refine merge (M := fun a W => Slots a 61 [(0, .slice sad b.length scap), (2, .pointer (some ⟨b0, 0, none⟩)), (4, .pointer (some ⟨bp, 0, none⟩)), (5, .pointer (some ⟨bx, 0, none⟩)), (6, .int .i64 n), (33, .bool (decide (n > 0) && !s.2 && decide ((l.length : Int) ≤ 8)))] ∧ Has 0 w W (Cells bp [sv, .bool s.2] 80 :: Sx.Own 41 9 (.slice vad l.length vcap) l.length (l.flatMap opCells) :: Cells bx [.int .i64 c, .int .i64 q, .slice vad l.length vcap] 25 :: Cells b0 [.int .i64 0, .int .i64 0, .slice none 0 0] 25 :: Old w 0 :: [])) ?_ ?_
  · repeat (first | (refine sxv hs hw ?_; clear hs; intro a hs) | refine sxc hs ?_ | (refine sxa hs hw ?_; clear hs hw; intro a b W hw hs) | (refine sxs hs hw ?_; clear hs hw; intro W hs hw))
    cases k0 : decide (n > 0) with
    | false =>
      rw [k0] at hs
      repeat (first | (refine sxv hs hw ?_; clear hs; intro a hs) | refine sxc hs ?_ | (refine sxa hs hw ?_; clear hs hw; intro a b W hw hs) | (refine sxs hs hw ?_; clear hs hw; intro W hs hw))
      exact ⟨hs.of ⟨rfl, rfl, rfl, rfl, rfl, rfl, trivial⟩, hw⟩
    | true =>
    rw [k0] at hs
    repeat (first | (refine sxv hs hw ?_; clear hs; intro a hs) | refine sxc hs ?_ | (refine sxa hs hw ?_; clear hs hw; intro a b W hw hs) | (refine sxs hs hw ?_; clear hs hw; intro W hs hw))
    cases k1 : s.2 with
    | true =>
      rw [k1] at hs hw
      repeat (first | (refine sxv hs hw ?_; clear hs; intro a hs) | refine sxc hs ?_ | (refine sxa hs hw ?_; clear hs hw; intro a b W hw hs) | (refine sxs hs hw ?_; clear hs hw; intro W hs hw))
      exact ⟨hs.of ⟨rfl, rfl, rfl, rfl, rfl, rfl, trivial⟩, hw⟩
    | false =>
    rw [k1] at hs hw
    repeat (first | (refine sxv hs hw ?_; clear hs; intro a hs) | refine sxc hs ?_ | (refine sxa hs hw ?_; clear hs hw; intro a b W hw hs) | (refine sxs hs hw ?_; clear hs hw; intro W hs hw))
    exact ⟨hs.of ⟨rfl, rfl, rfl, rfl, rfl, bool_eq (by simp), trivial⟩, hw⟩
  clear hs hw
  rintro a W ⟨hs, hw⟩
  refine cd_split hs (kt := fun hcc => ?_) (kf := fun hcc => ?_)
  · obtain ⟨h0, h1, h2⟩ : 0 < n ∧ s.2 = false ∧ l.length ≤ 8 := by
      simp only [Bool.and_eq_true, decide_eq_true_eq, Bool.not_eq_true'] at hcc
      exact ⟨by omega, hcc.1.2, by omega⟩
    rw [rdOps_go h0 h1 h2] at hrd
    replace hs : Slots a 61 [(0, .slice sad b.length scap), (2, .pointer (some ⟨b0, 0, none⟩)), (4, .pointer (some ⟨bp, 0, none⟩)), (5, .pointer (some ⟨bx, 0, none⟩)), (6, .int .i64 n)] := hs.of ⟨rfl, rfl, rfl, rfl, rfl, trivial⟩
    repeat (first | (refine sxv hs hw ?_; clear hs; intro a hs) | refine sxc hs ?_ | (refine sxa hs hw ?_; clear hs hw; intro a b W hw hs) | (refine sxs hs hw ?_; clear hs hw; intro W hs hw))
    have hw : Has 0 w W (Cells bp [sv, .bool s.2] 80 :: Sx.Own 41 9 (.slice vad l.length vcap) l.length (l.flatMap opCells) :: Free :: Free :: Cells bx [.int .i64 c, .int .i64 q, .slice vad l.length vcap] 25 :: Cells b0 [.int .i64 0, .int .i64 0, .slice none 0 0] 25 :: Old w 0 :: []) := hw.free.free.perm (((List.Perm.cons _ (List.Perm.swap _ _ _)).trans (List.Perm.swap _ _ _)).trans (List.Perm.cons _ ((List.Perm.cons _ (List.Perm.swap _ _ _)).trans (List.Perm.swap _ _ _))))
    refine rg_drawU (σ := Value × Option Addr × Nat) (V := fun u => [.pointer (some ⟨bx, 0 + 2, none⟩), .slice vad l.length vcap, .pointer (some ⟨bp, 0, none⟩), .agg ⟨opCells (rdOp s).1⟩, .slice (some ⟨(u 4).2.2, 0, none⟩) 1 1, .slice (u 5).2.1 (l.length + 1) (u 5).2.2, .pointer (some ⟨bx, 0 + 2, none⟩), .bool true])
      (Rs := fun u D => (if D 3 then Cells bp [(u 3).1, .bool (rdOp s).2.2] 80 else Cells bp [sv, .bool s.2] 80) :: (if D 5 then Sx.Own 41 9 (.slice (u 5).2.1 (l.length + 1) (u 5).2.2) (l.length + 1) (l.flatMap opCells ++ opCells (rdOp s).1) else Sx.Own 41 9 (.slice vad l.length vcap) l.length (l.flatMap opCells)) :: (if D 4 then Cells (u 4).2.2 (opCells (rdOp s).1) 41 else Free) :: (if D 3 then Fact (RdB w (u 3).1 (rdOp s).2.1) else Free) :: (if D 7 then Cells bx [.int .i64 c, .int .i64 q, .slice (u 5).2.1 (l.length + 1) (u 5).2.2] 25 else Cells bx [.int .i64 c, .int .i64 q, .slice vad l.length vcap] 25) :: Cells b0 [.int .i64 0, .int .i64 0, .slice none 0 0] 25 :: Old w 0 :: []) (fun _ => (.bool true, none, 0)) hs hw (hVu := ?vu_c) (ho := ⟨?_, ?c1_c, ?_, ?c3_c, ?c4_c, ?c5_c, ?_, ?c7_c, trivial⟩) (k := ?k_c)
    case vu_c =>
      intro u u' j h
      rcases j with _ | _ | _ | _ | _ | _ | j
      all_goals first | rfl | simp [h]
    case c1_c =>
      intro u LD D a W hcl hi hp hs hw
      have h5 := Go.Sx.not_done hcl hi 5 (by kernel_rfl)
      have h7 := Go.Sx.not_done hcl h5 7 (by kernel_rfl)
      have hw0 := hw
      simp only [h7, Bool.false_eq_true, if_false] at hw
      repeat (first | (refine sxv hs hw ?_; clear hs; intro a hs) | refine sxc hs ?_ | (refine sxa hs hw ?_; clear hs hw; intro a b W hw hs) | (refine sxs hs hw ?_; clear hs hw; intro W hs hw))
      exact Or.inl ⟨hs, hw0⟩
    case c3_c =>
      intro u LD D a W hcl hi hp hs hw
      have h4 := Go.Sx.not_done hcl hi 4 (by kernel_rfl)
      have h5 := Go.Sx.not_done hcl h4 5 (by kernel_rfl)
      have h7 := Go.Sx.not_done hcl h5 7 (by kernel_rfl)
      simp only [hi, h4, h5, h7, Bool.false_eq_true, if_false] at hw
      refine st_call hs (hc := op_op w _ bp sv s _ (by repeat (first | exact In.hd | apply In.tl)) hr hT hw) (k := ?_); rintro e0 W1 ⟨rfl, sv2, r2, hw'⟩; refine ⟨_, rfl, ?_⟩; clear hs hw; intro a hs
      repeat (first | (refine sxv hs hw ?_; clear hs; intro a hs) | refine sxc hs ?_ | (refine sxa hs hw ?_; clear hs hw; intro a b W hw hs) | (refine sxs hs hw ?_; clear hs hw; intro W hs hw))
      refine Or.inr ⟨(sv2, none, 0), hs, ?_⟩
      show Has 0 w _ (_ :: (if (Nat.beq 5 3 || D 5) = true then _ else _) :: (if (Nat.beq 4 3 || D 4) = true then _ else _) :: _ :: (if (Nat.beq 7 3 || D 7) = true then _ else _) :: _)
      rw [h4, h5, h7]
      exact (hw'.fact r2).fill (Upd.tl (Upd.tl (Upd.tl Upd.hd)))
    case c4_c =>
      intro u LD D a W hcl hi hp hs hw
      have h3 := Go.Sx.done hp 3 (by kernel_rfl)
      have h5 := Go.Sx.not_done hcl hi 5 (by kernel_rfl)
      have h7 := Go.Sx.not_done hcl h5 7 (by kernel_rfl)
      simp only [hi, h3, h5, h7, Bool.false_eq_true, if_false, if_true] at hw
      repeat (first | (refine sxv hs hw ?_; clear hs; intro a hs) | refine sxc hs ?_ | (refine sxa hs hw ?_; clear hs hw; intro a b W hw hs) | (refine sxs hs hw ?_; clear hs hw; intro W hs hw))
      refine Or.inr ⟨(.bool true, none, _), hs, ?_⟩
      show Has 0 w _ ((if (Nat.beq 3 4 || D 3) = true then _ else _) :: (if (Nat.beq 5 4 || D 5) = true then _ else _) :: _ :: (if (Nat.beq 3 4 || D 3) = true then _ else _) :: (if (Nat.beq 7 4 || D 7) = true then _ else _) :: _)
      rw [h3, h5, h7]
      exact hw.fill (Upd.tl (Upd.tl Upd.hd))
    case c5_c =>
      intro u LD D a W hcl hi hp hs hw
      have h4 := Go.Sx.done hp 4 (by kernel_rfl)
      have h7 := Go.Sx.not_done hcl hi 7 (by kernel_rfl)
      simp only [hi, h4, h7, Bool.false_eq_true, if_false, if_true] at hw
      refine st_append_lit hs hw (k := l.length) (h63 := by omega) (hb := by omega) (c := ?_)
      clear hs hw; intro a ad cap W hs hw
      repeat (first | (refine sxv hs hw ?_; clear hs; intro a hs) | refine sxc hs ?_ | (refine sxa hs hw ?_; clear hs hw; intro a b W hw hs) | (refine sxs hs hw ?_; clear hs hw; intro W hs hw))
      refine Or.inr ⟨(.bool true, ad, cap), hs, ?_⟩
      show Has 0 w _ (_ :: _ :: (if (Nat.beq 4 5 || D 4) = true then _ else _) :: _ :: (if (Nat.beq 7 5 || D 7) = true then _ else _) :: _)
      rw [h4, h7]
      exact hw
    case c7_c =>
      intro u LD D a W hcl hi hp hs hw
      have h5 := Go.Sx.done hp 5 (by kernel_rfl)
      simp only [hi, h5, Bool.false_eq_true, if_false, if_true] at hw
      repeat (first | (refine sxv hs hw ?_; clear hs; intro a hs) | refine sxc hs ?_ | (refine sxa hs hw ?_; clear hs hw; intro a b W hw hs) | (refine sxs hs hw ?_; clear hs hw; intro W hs hw))
      refine Or.inl ⟨hs, ?_⟩
      show Has 0 w _ (_ :: (if (Nat.beq 5 7 || D 5) = true then _ else _) :: _ :: _ :: _ :: _)
      rw [h5]
      exact hw
    case k_c =>
      clear hs hw
      intro u a W hs hw
      replace hw : Has 0 w W (Cells bp [(u 3).1, .bool (rdOp s).2.2] 80 :: Sx.Own 41 9 (.slice (u 5).2.1 (l.length + 1) (u 5).2.2) (l.length + 1) (l.flatMap opCells ++ opCells (rdOp s).1) :: Cells (u 4).2.2 (opCells (rdOp s).1) 41 :: Fact (RdB w (u 3).1 (rdOp s).2.1) :: Cells bx [.int .i64 c, .int .i64 q, .slice (u 5).2.1 (l.length + 1) (u 5).2.2] 25 :: Cells b0 [.int .i64 0, .int .i64 0, .slice none 0 0] 25 :: Old w 0 :: []) := hw
      have hr' := hw.told (In.tl (In.tl (In.tl In.hd)))
      replace hw := hw.sub (L' := Cells bp [(u 3).1, .bool (rdOp s).2.2] 80 :: Sx.Own 41 9 (.slice (u 5).2.1 (l.length + 1) (u 5).2.2) (l.length + 1) (l.flatMap opCells ++ opCells (rdOp s).1) :: Cells bx [.int .i64 c, .int .i64 q, .slice (u 5).2.1 (l.length + 1) (u 5).2.2] 25 :: Cells b0 [.int .i64 0, .int .i64 0, .slice none 0 0] 25 :: Old w 0 :: []) (List.Sublist.cons_cons _ (List.Sublist.cons_cons _ (List.Sublist.cons _ (List.Sublist.cons _ (List.Sublist.refl _)))))
      replace hs : Slots a 61 [(0, .slice sad b.length scap), (2, .pointer (some ⟨b0, 0, none⟩)), (4, .pointer (some ⟨bp, 0, none⟩)), (5, .pointer (some ⟨bx, 0, none⟩)), (6, .int .i64 n)] := hs.of ⟨rfl, rfl, rfl, rfl, rfl, trivial⟩
      generalize (u 3).1 = sv2 at *
      generalize (u 5).2.1 = ad2 at *
      generalize (u 5).2.2 = cap2 at *
      clear u
      repeat (first | (refine sxv hs hw ?_; clear hs; intro a hs) | refine sxc hs ?_ | (refine sxa hs hw ?_; clear hs hw; intro a b W hw hs) | (refine sxs hs hw ?_; clear hs hw; intro W hs hw))
      have e1 : IntKind.i64.wrap (n - 1) = n - 1 := i64s (by have := hn.1; omega) (by have := hn.2; omega)
      rw [e1] at hs
      have e2 : l.length + 1 = (l ++ [(rdOp s).1]).length := by simp
      have e3 : l.flatMap opCells ++ opCells (rdOp s).1 = (l ++ [(rdOp s).1]).flatMap opCells := by simp
      rw [e2, e3] at hw
      rw [e2] at hrd
      exact st_again ⟨n - 1, _, l ++ [(rdOp s).1], sv2, (rdOp s).2⟩ hs hw ⟨hr', ⟨by have := hn.1; show _ ≤ n - 1; omega, by have := hn.2; show n - 1 ≤ _; omega⟩, by simp; omega, hrd⟩ (by simp only [List.length_append, List.length_singleton]; omega) ⟨rfl, rfl, rfl, rfl, rfl, trivial⟩
    all_goals
      intro u LD D a W hcl hi hp hs hw
      repeat (first | (refine sxv hs hw ?_; clear hs; intro a hs) | refine sxc hs ?_ | (refine sxa hs hw ?_; clear hs hw; intro a b W hw hs) | (refine sxs hs hw ?_; clear hs hw; intro W hs hw))
      exact Or.inl ⟨hs, hw⟩
  · rw [rdOps_stop hcc] at hrd
    rw [← hrd] at hdec
    clear hrd
    rw [hdec] at hok
    obtain ⟨hc, hq, -, ho⟩ := hok
    simp only at hc hq ho
    have hD : ∀ p : Prop, (s.2 = false ∧ mayBatch c q l = true ∧ textB c q l = b ↔ p) → ((p → decR b = ((c, q, l), 0)) ∧ (¬ p → decR b = ((0, 0, []), 1))) := fun p hp => by
      constructor
      · intro h
        have : decode b = some (c, q, l) := by unfold decode; simp only [hdec]; rw [if_pos (hp.2 h)]
        unfold decR; rw [this]
      · intro h
        have : decode b = none := by unfold decode; simp only [hdec]; rw [if_neg fun k => h (hp.1 k)]
        unfold decR; rw [this]
    have hZ := (hD _ Iff.rfl).2
    have hY := (hD _ Iff.rfl).1
    clear hD hdec
    repeat (first | (refine sxv hs hw ?_; clear hs; intro a hs) | refine sxc hs ?_ | (refine sxa hs hw ?_; clear hs hw; intro a b W hw hs) | (refine sxs hs hw ?_; clear hs hw; intro W hs hw))
    refine st_call hs (hc := op_Encode c q l _ _ hc hq ho (hw.rd_own (In.tl In.hd)) (hT.keep (hw.end (by repeat (first | exact In.hd | apply In.tl))))) (k := ?_); rintro e0 W1 ⟨ad, cap, rfl, hnil, hw1⟩; refine ⟨_, rfl, ?_⟩; clear hs; intro a hs; replace hw := hw.call hw1; clear hw1
    repeat (first | (refine sxv hs hw ?_; clear hs; intro a hs) | refine sxc hs ?_ | (refine sxa hs hw ?_; clear hs hw; intro a b W hw hs) | (refine sxs hs hw ?_; clear hs hw; intro W hs hw))
    cases k1 : s.2 with
    | true =>
      rw [k1] at hs hw
      repeat (first | (refine sxv hs hw ?_; clear hs; intro a hs) | refine sxc hs ?_ | (refine sxa hs hw ?_; clear hs hw; intro a b W hw hs) | (refine sxs hs hw ?_; clear hs hw; intro W hs hw))
      refine rc2 hs rfl rfl hw (In.tl (In.tl (In.tl (In.tl In.hd)))) rfl rfl ?_
      rw [hZ (by rw [k1]; simp)]
      exact ⟨none, 0, rfl, (hw.nilOwn 41 9).sub (List.Sublist.cons_cons _ (List.Sublist.cons _ (List.Sublist.cons _ (List.Sublist.cons _ (List.Sublist.cons _ (List.Sublist.cons _ (List.Sublist.refl _)))))))⟩
    | false =>
    rw [k1] at hs hw
    repeat (first | (refine sxv hs hw ?_; clear hs; intro a hs) | refine sxc hs ?_ | (refine sxa hs hw ?_; clear hs hw; intro a b W hw hs) | (refine sxs hs hw ?_; clear hs hw; intro W hs hw))
    cases hm : mayBatch c q l with
    | false =>
      obtain ⟨rfl, rfl⟩ := hnil hm
      refine st_eqnil hs (c := ?_); clear hs; intro a hs
      repeat (first | (refine sxv hs hw ?_; clear hs; intro a hs) | refine sxc hs ?_ | (refine sxa hs hw ?_; clear hs hw; intro a b W hw hs) | (refine sxs hs hw ?_; clear hs hw; intro W hs hw))
      refine rc2 hs rfl rfl hw (In.tl (In.tl (In.tl (In.tl In.hd)))) rfl rfl ?_
      rw [hZ (by rw [hm]; simp)]
      exact ⟨none, 0, rfl, (hw.nilOwn 41 9).sub (List.Sublist.cons_cons _ (List.Sublist.cons _ (List.Sublist.cons _ (List.Sublist.cons _ (List.Sublist.cons _ (List.Sublist.cons _ (List.Sublist.refl _)))))))⟩
    | true =>
    rw [hm] at hs hw
    simp only [if_true] at hs hw
    obtain ⟨A, rfl⟩ : ∃ A, ad = some A := by
      obtain ⟨_, ad', cap', e, _, _, h | ⟨g, o, h, _⟩⟩ := hw.rd_own In.hd
      · have := textB_pos c q l; omega
      · injection e with e1 _ _; exact ⟨_, e1.trans h⟩
    refine st_eqnil hs (c := ?_); clear hs; intro a hs
    rw [show (some A).isNone = false from rfl] at hs
    repeat (first | (refine sxv hs hw ?_; clear hs; intro a hs) | refine sxc hs ?_ | (refine sxa hs hw ?_; clear hs hw; intro a b W hw hs) | (refine sxs hs hw ?_; clear hs hw; intro W hs hw))
    refine st_call hs (hc := bytes_Equal (textB c q l) b _ _ _ (hw.rd_own In.hd) (hw.rd (by repeat (first | exact In.hd | apply In.tl)) hw.ext.size r)) (k := ?_); rintro e0 W1 ⟨rfl, hb⟩; refine ⟨_, rfl, ?_⟩; clear hs; intro a hs; replace hw := hw.below hb; clear hb
    cases he : (textB c q l == b) with
    | false =>
      rw [he] at hs
      repeat (first | (refine sxv hs hw ?_; clear hs; intro a hs) | refine sxc hs ?_ | (refine sxa hs hw ?_; clear hs hw; intro a b W hw hs) | (refine sxs hs hw ?_; clear hs hw; intro W hs hw))
      refine rc2 hs rfl rfl hw (In.tl (In.tl (In.tl (In.tl In.hd)))) rfl rfl ?_
      rw [hZ (by rw [beq_eq_false_iff_ne] at he; exact fun h => he h.2.2)]
      exact ⟨none, 0, rfl, (hw.nilOwn 41 9).sub (List.Sublist.cons_cons _ (List.Sublist.cons _ (List.Sublist.cons _ (List.Sublist.cons _ (List.Sublist.cons _ (List.Sublist.cons _ (List.Sublist.refl _)))))))⟩
    | true =>
      rw [he] at hs
      repeat (first | (refine sxv hs hw ?_; clear hs; intro a hs) | refine sxc hs ?_ | (refine sxa hs hw ?_; clear hs hw; intro a b W hw hs) | (refine sxs hs hw ?_; clear hs hw; intro W hs hw))
      refine rc2 hs rfl rfl hw (In.tl (In.tl (In.tl (In.tl In.hd)))) rfl rfl ?_
      rw [hY ⟨k1, hm, by simpa using he⟩]
      exact ⟨_, _, rfl, hw.sub (List.Sublist.cons _ (List.Sublist.cons _ (List.Sublist.cons_cons _ (List.Sublist.cons _ (List.Sublist.cons _ (List.Sublist.refl _))))))⟩
end Go.Proofs.YtalfmomnaghahaaDoor.Sw

/-
  Sx: a literal's block, read as a slice.
-/
set_option linter.unusedVariables false
set_option maxRecDepth 10000
namespace Go.Sx
theorem Has.rd_lit {G : Nat} {w W : World} {R : List Res} {E : TypeId} {b n size : Nat} {cs : List Value} (h : Has G w W R) (i : In (Cells b cs E) R) (hl : cs.length = n * size) (hn : n ≤ 9223372036854775807) : Rd W size (.slice (some ⟨b, 0, none⟩) n n) n cs := by
  have hb := (h.block i).1
  refine ⟨hl, _, _, rfl, Nat.le_refl _, hn, .inr ⟨b, 0, rfl, (h.block i).2.2, fun j x hx => ?_⟩⟩
  rw [cell_block hb]
  simpa using hx
end Go.Sx

/-
  The walk of packhorselaw5.begun.
-/
set_option linter.unusedVariables false
set_option maxRecDepth 10000
namespace Go.Proofs.YtalfmomnaghahaaDoor.Sw
open Go.RowKit Go.Sx

-- pieces

theorem op_DecodeR (b : List UInt8) (c q : Int) (l : List OpD) (err : Int) (h : decR b = ((c, q, l), err)) (sv : Value) (w : World) (hb : b.length ≤ 1000000) (r : RdB w sv b) (hT : Tabs w) :
    Calls Tryd.prog 19 ⟨[sv]⟩ w fun e w' => ∃ ad cap, e = .returned (.tuple #[.agg ⟨[.int .i64 c, .int .i64 q, .slice ad l.length cap]⟩, .int .i64 err]) ∧ Has 0 w w' (Sx.Own 41 9 (.slice ad l.length cap) l.length (l.flatMap opCells) :: Old w 0 :: []) := by
  have := op_Decode b sv w hb r hT
  rw [h] at this
  exact this

theorem decR_text {c q : Int} {l : List OpD} (h : mayBatch c q l = true) (ho : ∀ o ∈ l, OpOk o) : decR (textB c q l) = ((c, q, l), 0) := by unfold decR; rw [decode_text h ho]

theorem decR_none {b : List UInt8} (h : decode b = none) : decR b = ((0, 0, []), 1) := by unfold decR; rw [h]

abbrev kd : OpD := ⟨2, ⟨#[107]⟩, 0, 0, ⟨#[]⟩, 0, 0, ⟨#[]⟩, 0⟩

theorem kd_may : mayD kd = true := by kernel_rfl

theorem kd_batch : mayBatch 1 2 [kd] = true := by kernel_rfl

theorem kd_ok : ∀ o ∈ [kd], OpOk o := by
  intro o h
  rw [List.mem_singleton] at h
  subst h
  exact ⟨⟨by decide, by decide⟩, ⟨by decide, by decide⟩, ⟨by decide, by decide⟩, ⟨by decide, by decide⟩, ⟨by decide, by decide⟩, ⟨by decide, by decide⟩, by decide, by decide, by decide⟩

theorem no_may : mayOp 0 ⟨#[]⟩ 0 0 ⟨#[]⟩ 0 0 ⟨#[]⟩ 0 = false := by kernel_rfl

theorem bys_snoc (l : List UInt8) : bys l ++ [Value.int .u8 0] = bys (l ++ [0]) := by simp

end Go.Proofs.YtalfmomnaghahaaDoor.Sw

/-
  Sx: slices of what is frozen; min; a literal frozen.
-/
set_option linter.unusedVariables false
namespace Go.Sx
open Go.RowKit
section
variable {P : Program} {ops : Array Oper} {rest : List Oper} {Q : Exit → Act → World → Prop} {a : Act} {n G : Nat} {L : List (Nat × Value)} {w W W' : World} {R : List Res} {d : Nat} {T S E : TypeId} {p : String} {e : Array Edge} {x y lo hi : Operand} {v : Value} {xs cs : List Value} {k sz : Nat} {i j : Int} {q q' : IntKind} {z : List Value} {H : Fh}
theorem run_slice_rdH {agg : Bool} [sl : Sl P S E] [t : Ty P E agg z] (r : RdH H sz v k xs) (hz : z.length = sz) (l h : Option Value) {i' j' : Nat} (h0 : i' ≤ j') (h1 : j' ≤ k)
    (hl : l = none ∧ i' = 0 ∨ ∃ q, l = some (.int q i')) (hh : h = none ∧ j' = k ∨ ∃ q, h = some (.int q j')) :
    ∃ v', (Instr.sliceAt S v l h none).run P W = .ok v' W ∧ RdH H sz v' (j' - i') ((xs.drop (i' * sz)).take ((j' - i') * sz)) := by
  subst hz
  obtain ⟨hx, ad, cap, rfl, h3, h4, h5⟩ := r
  have hb : ∀ (u : Value) (m y : Nat) (c : BoundsCode) (q : IntKind), u = .int q m → m ≤ y → (Instr.sliceBound u y c).run P W = .ok m W := by
    rintro u m y c q rfl hm
    have : (0 : Int) ≤ (m : Int) ∧ (m : Int) ≤ (y : Int) := ⟨by omega, by omega⟩
    simp only [Instr.sliceBound, asIntOf, Sem.run_bind, Sem.run_pure, Result.andThen_ok]
    rw [if_pos this]
    simp
  have hbs : (Instr.sliceBounds true k cap l h none).run P W = .ok (i', j', cap) W := by
    unfold Instr.sliceBounds
    rcases hh with ⟨rfl, rfl⟩ | ⟨q2, rfl⟩ <;> rcases hl with ⟨rfl, rfl⟩ | ⟨q1, rfl⟩
    · simp
    · simp [hb _ i' j' .sliceB q1 rfl h0]
    · simp [hb _ j' cap .sliceAcap q2 rfl (by omega)]
    · simp [hb _ j' cap .sliceAcap q2 rfl (by omega), hb _ i' j' .sliceB q1 rfl h0]
  refine ⟨.slice (if cap = i' then ad else ad.map (·.add (i' * z.length))) (j' - i') (cap - i'), ?_, ?_, _, _, rfl, by omega, by omega, ?_⟩
  · simp only [Instr.sliceAt, Instr.slice, Sem.run_bind, run_underlying sl.out, Result.andThen_ok, hbs, t.sizeOf, Sem.run_pure]
  · rw [List.length_take, List.length_drop, hx]
    have : (j' - i') * z.length ≤ k * z.length - i' * z.length := by rw [← Nat.sub_mul]; exact Nat.mul_le_mul_right _ (by omega)
    omega
  · rcases h5 with rfl | ⟨b, o, cs, T, zz, rfl, hlt, hc⟩
    · exact .inl (by omega)
    · by_cases hci : cap = i'
      · exact .inl (by omega)
      · refine .inr ⟨b, o + i' * z.length, cs, T, zz, by rw [if_neg hci]; simp [addr_add], hlt, fun m u hu => ?_⟩
        rw [List.getElem?_take] at hu
        split at hu
        · rw [List.getElem?_drop] at hu
          rw [Nat.add_assoc]
          exact hc _ _ hu
        · cases hu
theorem st_sliceH_lo {agg : Bool} [sl : Sl P S E] [t : Ty P E agg z] (hs : Slots a n L) (r : RdH H sz v k xs) (h0 : 0 ≤ i) (h1 : i ≤ k) (hx : ev L x = some v := by with_unfolding_all exact rfl) (hl : ev L lo = some (.int q i) := by with_unfolding_all exact rfl) (hd : Nat.blt d n = true := by with_unfolding_all exact rfl) (hz : z.length = sz := by with_unfolding_all exact rfl)
    (c : ∀ a' v', RdH H sz v' (k - i.toNat) (xs.drop (i.toNat * sz)) → Slots a' n ((d, v') :: L) → wpList P ops Q rest a' W) : wpList P ops Q (⟨some d, .slice S x (some lo) none none, T, p, e, none⟩ :: rest) a W := by
  obtain ⟨m, rfl⟩ := Int.eq_ofNat_of_zero_le h0
  obtain ⟨v', h2, h3⟩ := run_slice_rdH (P := P) (S := S) (W := W) r hz (some (.int q m)) none (i' := m) (j' := k) (by omega) (Nat.le_refl _) (.inr ⟨q, rfl⟩) (.inl ⟨rfl, rfl⟩)
  refine st_value hs hd (v := v') (W' := W) ?_ fun a' hs' => c a' v' ?_ hs'
  · simp only [execOp, Option.map_some, Option.map_none, hs.ev hx, hs.ev hl]
    simp only [Sem.run_bind, h2, Result.andThen_ok]
    rfl
  · rw [List.take_of_length_le (by rw [List.length_drop, r.1, Nat.sub_mul]; omega)] at h3
    simpa using h3
theorem st_sliceH_hi {agg : Bool} [sl : Sl P S E] [t : Ty P E agg z] (hs : Slots a n L) (r : RdH H sz v k xs) (h0 : 0 ≤ i) (h1 : i ≤ k) (hx : ev L x = some v := by with_unfolding_all exact rfl) (hh : ev L hi = some (.int q i) := by with_unfolding_all exact rfl) (hd : Nat.blt d n = true := by with_unfolding_all exact rfl) (hz : z.length = sz := by with_unfolding_all exact rfl)
    (c : ∀ a' v', RdH H sz v' i.toNat (xs.take (i.toNat * sz)) → Slots a' n ((d, v') :: L) → wpList P ops Q rest a' W) : wpList P ops Q (⟨some d, .slice S x none (some hi) none, T, p, e, none⟩ :: rest) a W := by
  obtain ⟨m, rfl⟩ := Int.eq_ofNat_of_zero_le h0
  obtain ⟨v', h2, h3⟩ := run_slice_rdH (P := P) (S := S) (W := W) r hz none (some (.int q m)) (i' := 0) (j' := m) (by omega) (by omega) (.inl ⟨rfl, rfl⟩) (.inr ⟨q, rfl⟩)
  refine st_value hs hd (v := v') (W' := W) ?_ fun a' hs' => c a' v' ?_ hs'
  · simp only [execOp, Option.map_some, Option.map_none, hs.ev hx, hs.ev hh]
    simp only [Sem.run_bind, h2, Result.andThen_ok]
    rfl
  · simpa using h3
theorem st_sliceH_lh {agg : Bool} [sl : Sl P S E] [t : Ty P E agg z] (hs : Slots a n L) (r : RdH H sz v k xs) (h0 : 0 ≤ i) (h1 : i ≤ j) (h2 : j ≤ k) (hx : ev L x = some v := by with_unfolding_all exact rfl) (hl : ev L lo = some (.int q i) := by with_unfolding_all exact rfl) (hh : ev L hi = some (.int q' j) := by with_unfolding_all exact rfl) (hd : Nat.blt d n = true := by with_unfolding_all exact rfl) (hz : z.length = sz := by with_unfolding_all exact rfl)
    (c : ∀ a' v', RdH H sz v' (j.toNat - i.toNat) ((xs.drop (i.toNat * sz)).take ((j.toNat - i.toNat) * sz)) → Slots a' n ((d, v') :: L) → wpList P ops Q rest a' W) : wpList P ops Q (⟨some d, .slice S x (some lo) (some hi) none, T, p, e, none⟩ :: rest) a W := by
  obtain ⟨m, rfl⟩ := Int.eq_ofNat_of_zero_le h0
  obtain ⟨m', rfl⟩ := Int.eq_ofNat_of_zero_le (show 0 ≤ j by omega)
  obtain ⟨v', h4, h3⟩ := run_slice_rdH (P := P) (S := S) (W := W) r hz (some (.int q m)) (some (.int q' m')) (i' := m) (j' := m') (by omega) (by omega) (.inr ⟨q, rfl⟩) (.inr ⟨q', rfl⟩)
  refine st_value hs hd (v := v') (W' := W) ?_ fun a' hs' => c a' v' ?_ hs'
  · simp only [execOp, Option.map_some, Option.map_none, hs.ev hx, hs.ev hl, hs.ev hh]
    simp only [Sem.run_bind, h4, Result.andThen_ok]
    rfl
  · simpa using h3
theorem st_min {ts : Array TypeId} (hs : Slots a n L) (hx : ev L x = some (.int q i) := by with_unfolding_all exact rfl) (hy : ev L y = some (.int q' j) := by with_unfolding_all exact rfl) (hd : Nat.blt d n = true := by with_unfolding_all exact rfl)
    (k : ∀ a', Slots a' n ((d, .int q (if j < i then j else i)) :: L) → wpList P ops Q rest a' W) : wpList P ops Q (⟨some d, .call { callee := .builtin .min, args := #[x, y], argTypes := ts }, T, p, e, none⟩ :: rest) a W :=
  st_value hs hd (by simp only [execOp, resolve, invoke, builtin, List.map_toArray, List.map_cons, List.map_nil, hs.ev hx, hs.ev hy, Sem.run_bind, Sem.run_pure, Result.andThen_ok, run_min_int2]) k
/-- A literal is frozen. -/
theorem Has.freeze_lit {b m : Nat} (h : Has G w W (Cells b cs E :: Fz H :: R)) (hl : cs.length = m * sz) (hm : m ≤ 9223372036854775807) : ∃ H', H.le H' ∧ Has G w W (Fz H' :: R) ∧ RdH H' sz (.slice (some ⟨b, 0, none⟩) m m) m cs := by
  obtain ⟨H', h1, h2, F, ⟨hF, hb⟩, h4⟩ := h.freeze (R' := [])
  exact ⟨H', h1, h2, hl, some ⟨b, 0, none⟩, m, rfl, Nat.le_refl _, hm, .inr ⟨b, 0, ⟨cs⟩, E, (0, 0), rfl, h4 b _ hF hb, fun j x hx => by simpa using hx⟩⟩
end
end Go.Sx

/-
  Sx: bytes made of a text; a block that bears the mark of such bytes.
-/
set_option linter.unusedVariables false
set_option maxRecDepth 10000
namespace Go.Sx
open Go.RowKit
/-- A block of bytes that were made of a text. -/
def CellsM (b : Nat) (cs : List Value) (T : TypeId) : Res where
  ok F W := F b ∧ W.heap[b]? = some (.cells ⟨cs⟩ T (cs.length, cs.length + 1))
  loc F W W' h := fun ⟨h1, h2⟩ => ⟨h1, (h b h1).trans h2⟩
section
variable {P : Program} {ops : Array Oper} {rest : List Oper} {Q : Exit → Act → World → Prop} {a : Act} {n G : Nat} {L : List (Nat × Value)} {w W W' : World} {R R' : List Res} {d b : Nat} {T S S' E : TypeId} {p : String} {e : Array Edge} {x y : Operand} {v : Value} {cs cs' : List Value} {s : ByteArray} {l : List UInt8}
theorem Has.blockM {R0 : List Res} (h : Has G w W R0) (i : In (CellsM b cs E) R0) : W.heap[b]? = some (.cells ⟨cs⟩ E (cs.length, cs.length + 1)) ∧ G ≤ b ∧ b < W.heap.size := by
  obtain ⟨F, h1, h2⟩ := h.of_in i
  exact ⟨h2.2, h1 b h2.1⟩
theorem cell_m {fr : Nat × Nat} (h : W.heap[b]? = some (.cells ⟨cs⟩ E fr)) (j : Nat) : W.cell? ⟨b, j, none⟩ = cs[j]? := by
  unfold World.cell?
  rw [h]
  simp
/-- Bytes of a text, a new block. -/
theorem st_bytes [t : StrTy P S] [sl : Sl P S' E] [u : IntTy P E .u8] (hs : Slots a n L) (hw : Has G w W R) (hl : s.size ≤ 1000000000) (hx : ev L x = some (.string s) := by with_unfolding_all exact rfl) (hd : Nat.blt d n = true := by with_unfolding_all exact rfl)
    (c : ∀ a' b cap ext W', Has G w W' (CellsM b (bys s.data.toList ++ ext) E :: R) → RdB W' (.slice (some ⟨b, 0, none⟩) s.data.toList.length cap) s.data.toList → Slots a' n ((d, .slice (some ⟨b, 0, none⟩) s.data.toList.length cap) :: L) → wpList P ops Q rest a' W') : wpList P ops Q (⟨some d, .convert S S' x, T, p, e, none⟩ :: rest) a W := by
  have hr := run_bytes_of_string W S S' E s t.out sl.out u.out
  have hge : s.size ≤ grownCap W s.size 0 E := grownCap_ge W s.size 0 E
  have hcm : grownCap W s.size 0 E ≤ maxLen := grownCap_le_maxLen W s.size 0 E (by unfold maxLen; omega)
  generalize grownCap W s.size 0 E = cap at *
  have hsz : s.data.toList.length = s.size := by rw [Array.length_toList]; rfl
  have hrow : bytesRow s cap = ⟨bys s.data.toList ++ List.replicate (cap - s.size) (Value.int .u8 0)⟩ := by
    unfold bytesRow bys
    apply Array.toList_inj.1
    simp
  rw [hrow] at hr
  have hnew := heap_alloc_new W.drew (.cells ⟨bys s.data.toList ++ List.replicate (cap - s.size) (Value.int .u8 0)⟩ E ((bys s.data.toList ++ List.replicate (cap - s.size) (Value.int .u8 0)).length, (bys s.data.toList ++ List.replicate (cap - s.size) (Value.int .u8 0)).length + 1))
  refine st_value hs hd (v := .slice (some ⟨W.heap.size, 0, none⟩) s.data.toList.length cap) (W' := W.drew.alloc (.cells ⟨bys s.data.toList ++ List.replicate (cap - s.size) (Value.int .u8 0)⟩ E ((bys s.data.toList ++ List.replicate (cap - s.size) (Value.int .u8 0)).length, (bys s.data.toList ++ List.replicate (cap - s.size) (Value.int .u8 0)).length + 1))) ?_ fun a' hs' => c a' W.heap.size cap (List.replicate (cap - s.size) (Value.int .u8 0)) _ ((hw.below (Below.refl _ _).drew).newObj ⟨rfl, hnew⟩) ?_ hs'
  · simp only [execOp, hs.ev hx, Sem.run_bind, hr, Result.andThen_ok, hsz]
    rfl
  · refine ⟨by simp, some ⟨W.heap.size, 0, none⟩, cap, rfl, by omega, by unfold maxLen at hcm; omega, .inr ⟨W.heap.size, 0, rfl, lt_of_block hnew, fun j u hj => ?_⟩⟩
    have hnew' : (W.drew.alloc (.cells ⟨bys s.data.toList ++ List.replicate (cap - s.size) (Value.int .u8 0)⟩ E ((bys s.data.toList ++ List.replicate (cap - s.size) (Value.int .u8 0)).length, (bys s.data.toList ++ List.replicate (cap - s.size) (Value.int .u8 0)).length + 1))).heap[W.heap.size]? = _ := hnew
    rw [cell_m hnew', Nat.zero_add]
    have hj2 := (List.getElem?_eq_some_iff.1 hj).1
    rw [List.getElem?_append_left hj2]; exact hj
theorem Has.setM (h : Has G w W R) (u : Upd (CellsM b cs E) R (CellsM b cs' E) R') (hx : W'.heap.size = W.heap.size) (hos : W'.os = W.os) (ht : W'.tape = W.tape) (ho : W'.output = W.output)
    (hother : ∀ c, c ≠ b → W'.heap[c]? = W.heap[c]?) (hb : W'.heap[b]? = some (.cells ⟨cs'⟩ E (cs'.length, cs'.length + 1))) : Has G w W' R' := by
  obtain ⟨F1, h1, h2, h3⟩ := h.has.upd u
  have hbG := (h1 b h2.1).1
  refine ⟨h.ext.trans ⟨hos, ht, ho, by omega, fun c hc => hother c (by omega)⟩, h.glob, h3 W' _ (fun c => c = b) (fun c hc => ⟨hc.1, by omega⟩) ?_ ?_ ⟨rfl, hb⟩⟩
  · rintro c rfl
    exact ⟨⟨hbG, by have := (h1 c h2.1).2; omega⟩, fun _ => h2.1⟩
  · intro c hc hn
    refine hother c fun e => hn ?_
    rw [e]; exact h2.1
/-- One cell of such a block is stored. -/
theorem st_storeM {z : List Value} [t : Ty P S false z] {o : Nat} (hs : Slots a n L) (hw : Has G w W R) (hu : Upd (CellsM b cs E) R (CellsM b (cs.set o v) E) R') (ho : o < cs.length) (hx : ev L x = some (.pointer (some ⟨b, o, none⟩)) := by with_unfolding_all exact rfl) (hy : ev L y = some v := by with_unfolding_all exact rfl) (hv : v.cells = ⟨[v]⟩ := by with_unfolding_all exact rfl) (hz : z.length = 1 := by rfl) (h1 : v.oneCell' = true := by with_unfolding_all exact rfl)
    (k : ∀ W', Slots a n L → Has G w W' R' → wpList P ops Q rest a W') : wpList P ops Q (⟨none, .store S x y, T, p, e, none⟩ :: rest) a W := by
  obtain ⟨F, h2, h3, _⟩ := hw.has.upd hu
  have hb := h3.2
  have hlt := lt_of_block hb
  have hW : W.setCell ⟨b, o, none⟩ v = put W b (.cells ⟨cs.set o v⟩ E ((cs.set o v).length, (cs.set o v).length + 1)) := by
    unfold World.setCell put
    congr 1
    apply Array.ext_getElem?
    intro k
    rw [Array.getElem?_modify, Array.getElem?_setIfInBounds]
    by_cases hk : b = k
    · subst hk
      rw [if_pos rfl, if_pos rfl, hb, if_pos hlt]
      simp
    · rw [if_neg hk, if_neg hk]
  have hcell : W.cell? ⟨b, o, none⟩ = some cs[o] := by rw [cell_m hb, List.getElem?_eq_getElem ho]
  have hfz : W.frozen? ⟨b, o, none⟩ = false := by
    unfold World.frozen?
    rw [hb]
    simp; omega
  have hst : (store ⟨b, o, none⟩ v).run P W = .ok () (W.setCell ⟨b, o, none⟩ v) := by
    rw [run_store P W _ v .plain h1, hcell]
    simp only [hfz, Bool.false_eq_true, if_false]
  refine st_skip hs (W' := put W b (.cells ⟨cs.set o v⟩ E ((cs.set o v).length, (cs.set o v).length + 1))) ?_ fun hs' => k _ hs' (hw.setM hu (by simp [put]) rfl rfl rfl (fun c hc => put_other hc) (put_at hlt))
  rw [← hW]
  have hsc : (storeCells ⟨b, o, none⟩ [v]).run P W = .ok () (W.setCell ⟨b, o, none⟩ v) := by
    simp only [storeCells, Sem.run_bind, addr_add, Nat.add_zero, hst, Result.andThen_ok, Sem.run_pure]
  have hsv : (Instr.storeAt S (.pointer (some ⟨b, o, none⟩)) v).run P W = .ok () (W.setCell ⟨b, o, none⟩ v) := by
    simp only [Instr.storeAt, Instr.sureAddr, Sem.run_bind, Sem.run_pure, Result.andThen_ok, storeVar, t.sizeOf, hv]
    simp only [List.size_toArray, List.length_singleton, hz, ne_eq, not_true_eq_false, if_false]
    simpa using hsc
  simp only [execOp, hs.ev hx, hs.ev hy, Sem.run_bind, hsv, Result.andThen_ok]
  rfl
end
end Go.Sx
