/-
  The walks of num.Put and of the reference's Put.
-/
import Derived.Test.YtfnmfofipcnojaaDoorChecked
import Derived.Test.YtfnmfofipcnojaaDoorWords
import Derived.Test.YtfnmfofipcnojaaDoorNumBits
import Derived.WalkSpells
import Derived.Lib.Hide
set_option linter.unusedVariables false
namespace Go.Proofs.YtfnmfofipcnojaaDoor
open Go.RowKit

theorem info_byte : (Tryd.prog.info? 5).map (fun i => (i.zero, i.size, i.bytes)) = some (some (.int .u8 0), 1, 1) := by kernel_rfl
theorem ret_int3 {a a' b b' c c' : Int} (h1 : a = a') (h2 : b = b') (h3 : c = c') : Ending.returned (.tuple #[.int .i64 a, .int .i64 b, .int .i64 c]) = .returned (.tuple #[.int .i64 a', .int .i64 b', .int .i64 c']) := by rw [h1, h2, h3]

/-- Bytes that the call owns from block B on. -/
def OwnB (w : World) (B : Nat) (v : Value) (l : List UInt8) : Prop := w.ownsRow B 5 1 v l.length (Lib.byteCells l)
theorem u8w (x : Nat) (h : x < 128) : IntKind.u8.wrap (x : Int) = ((x.toUInt8).toNat : Int) := by
  rw [IntKind.wrap_u8, Ph.u8n x (by omega)]; omega
theorem u8p (x : Nat) (h : x < 128) : (x : Int) = ((x.toUInt8).toNat : Int) := by rw [Ph.u8n x (by omega)]
theorem u8o (x : Nat) : bits .or .u8 (IntKind.u8.wrap (x : Int)) 128 = (((x % 128 + 128).toUInt8).toNat : Int) := by
  have e : IntKind.u8.wrap (x : Int) = ((x % 256 : Nat) : Int) := by rw [IntKind.wrap_u8]; omega
  rw [e, Ph.or128_at _ (by omega), Ph.u8n _ (by omega)]; omega
theorem u8s (x : Nat) : IntKind.u8.wrap ((x : Int) % 128 + 128) = (((x % 128 + 128).toUInt8).toNat : Int) := by
  rw [IntKind.wrap_u8, Ph.u8n _ (by omega)]; omega


set_option maxRecDepth 100000 in
set_option maxHeartbeats 2000000 in
theorem num_Put_pos (B : Nat) (v : Value) (l : List UInt8) (n : Int) (w : World) (h0 : -9223372036854775808 ≤ n) (h1 : n ≤ 9223372036854775807) (hn : 0 ≤ n) (ho : OwnB w B v l) (hl : l.length ≤ 1000000000) (hB : B ≤ w.heap.size) :
    Calls Tryd.prog 41 #[v, .int .i64 n] w fun e w' => ∃ v', e = .returned v' ∧ OwnB w' B v' (l ++ Ph.putI n) ∧ Below B w w' ∧ B ≤ w'.heap.size := by
  obtain ⟨ib, hib, hbz, hbs, hbb⟩ := info_parts info_byte
  have HO : Hid (w.ownsRow B 5 1 v l.length (Lib.byteCells l)) := ho
  have HZ := Lib.hid (Ph.zig_small h0 h1).1
  clear ho
  go_enter Tryd.func41, Tryd.ntmps41
  go_wp2
  go_loopw [0, 5] (fun b u wr => ∃ (acc : List UInt8) (f x : Nat), u = .int .u64 x ∧ Hid (x < 128 ^ f) ∧ 1 ≤ f ∧ f ≤ 10 ∧ acc.length + f ≤ l.length + 10 ∧ Hid (wr.ownsRow B 5 1 b acc.length (Lib.byteCells acc)) ∧ Below B w wr ∧ B ≤ wr.heap.size ∧ Hid (acc ++ Ph.putN f x = l ++ Ph.putI n)) (fun _ u _ => (intOf u).toNat)
  case atStart => exact ⟨l, 10, Ph.zig n, by rw [Ph.zig_pos n hn], HZ.out, by omega, by omega, by omega, HO.out, Below.refl _ _, hB, rfl⟩
  case round =>
    obtain ⟨acc, f, x, rfl, HX, hf1, hf2, hal, HR, hbw, hBw, HE⟩ := hrel
    have hr := HR.out
    by_cases hx : x < 128
    · have hx' : (x : Int) ≤ 127 := by omega
      go_wp2_with (at_builtin; refine wpList_append_own _ rfl (.tmp 23) (.tmp 26) 34 rfl (B) 5 ib (.int .u8 0) 1 1 Tryd.underlying34 hib hbz hbs hbb rfl (by decide) _ acc.length _ rfl (hr.alloc _) ⟨wr.heap.size, 0, none⟩ 1 1 [?xv] rfl rfl ?c1 ?c2 ?c3 ?c4 ?c5 ?_)
      case c1 => exact (cell_one_new _ _ _)
      case c2 => simp [Value.oneCell']
      case c3 => unfold maxLen; omega
      case c4 => omega
      case c5 => simp; omega
      intro b1 w1 hr1 hg1 _
      have hb1 : Below (B) w w1 := (hbw.alloc hBw _).grown hg1 (by simp; omega) (fun g hg => (hr.lt g hg).1)
      have hB1 : B ≤ w1.heap.size := by have := hg1.size; simp at this; omega
      have hr2 := own_snoc (c := x.toUInt8) hr1 (u8p x hx)
      have HF : Hid (acc ++ [x.toUInt8] = l ++ Ph.putI n) := by
        show _ = _
        rw [← HE.out]
        obtain ⟨g, rfl⟩ : ∃ g, f = g + 1 := ⟨f - 1, by omega⟩
        rw [Ph.putN_last g x hx]
      clear hr hr1
      go_wp2
      go_ret
      refine ⟨_, rfl, ?_, hb1, hB1⟩
      unfold OwnB
      rw [← HF.out]
      exact hr2
    · have hx' : (127 : Int) < (x : Int) := by omega
      obtain ⟨g, hfg, hg1', hxg, hpn⟩ := Ph.putN_split f x hx HX.out
      have HPN := Lib.hid hpn
      have HXG := Lib.hid hxg
      clear hpn hxg
      go_wp2_with (at_builtin; refine wpList_append_own _ rfl (.tmp 15) (.tmp 19) 34 rfl (B) 5 ib (.int .u8 0) 1 1 Tryd.underlying34 hib hbz hbs hbb rfl (by decide) _ acc.length _ rfl (hr.alloc _) ⟨wr.heap.size, 0, none⟩ 1 1 [?yv] rfl rfl ?d1 ?d2 ?d3 ?d4 ?d5 ?_)
      case d1 => exact (cell_one_new _ _ _)
      case d2 => simp [Value.oneCell']
      case d3 => unfold maxLen; omega
      case d4 => omega
      case d5 => simp; omega
      intro b1 w1 hr1 hg1 _
      have hb1 : Below (B) w w1 := (hbw.alloc hBw _).grown hg1 (by simp; omega) (fun g hg => (hr.lt g hg).1)
      have hB1 : B ≤ w1.heap.size := by have := hg1.size; simp at this; omega
      have hr2 := own_snoc (c := (x % 128 + 128).toUInt8) hr1 (u8o x)
      have HF : Hid (acc ++ [(x % 128 + 128).toUInt8] ++ Ph.putN g (x / 128) = l ++ Ph.putI n) := by
        show _ = _
        rw [← HE.out, HPN.out]
        simp
      have HR2 := Lib.hid hr2
      clear hr hr1 hr2
      go_wp2
      go_roundw
      case rel => exact ⟨acc ++ [(x % 128 + 128).toUInt8], g, x / 128, by go_num, HXG.out, hg1', by omega, by simp; omega, HR2.out, hb1, hB1, HF.out⟩
      case measure => simp [intOf]; omega


set_option maxRecDepth 100000 in
set_option maxHeartbeats 2000000 in
theorem num_Put_neg (B : Nat) (v : Value) (l : List UInt8) (n : Int) (w : World) (h0 : -9223372036854775808 ≤ n) (h1 : n ≤ 9223372036854775807) (hn : n < 0) (ho : OwnB w B v l) (hl : l.length ≤ 1000000000) (hB : B ≤ w.heap.size) :
    Calls Tryd.prog 41 #[v, .int .i64 n] w fun e w' => ∃ v', e = .returned v' ∧ OwnB w' B v' (l ++ Ph.putI n) ∧ Below B w w' ∧ B ≤ w'.heap.size := by
  obtain ⟨ib, hib, hbz, hbs, hbb⟩ := info_parts info_byte
  have HO : Hid (w.ownsRow B 5 1 v l.length (Lib.byteCells l)) := ho
  have HZ := Lib.hid (Ph.zig_small h0 h1).1
  clear ho
  go_enter Tryd.func41, Tryd.ntmps41
  go_wp2
  go_loopw [0, 5] (fun b u wr => ∃ (acc : List UInt8) (f x : Nat), u = .int .u64 x ∧ Hid (x < 128 ^ f) ∧ 1 ≤ f ∧ f ≤ 10 ∧ acc.length + f ≤ l.length + 10 ∧ Hid (wr.ownsRow B 5 1 b acc.length (Lib.byteCells acc)) ∧ Below B w wr ∧ B ≤ wr.heap.size ∧ Hid (acc ++ Ph.putN f x = l ++ Ph.putI n)) (fun _ u _ => (intOf u).toNat)
  case atStart => exact ⟨l, 10, Ph.zig n, by rw [Ph.zig_neg n h0 hn], HZ.out, by omega, by omega, by omega, HO.out, Below.refl _ _, hB, rfl⟩
  case round =>
    obtain ⟨acc, f, x, rfl, HX, hf1, hf2, hal, HR, hbw, hBw, HE⟩ := hrel
    have hr := HR.out
    by_cases hx : x < 128
    · have hx' : (x : Int) ≤ 127 := by omega
      go_wp2_with (at_builtin; refine wpList_append_own _ rfl (.tmp 23) (.tmp 26) 34 rfl (B) 5 ib (.int .u8 0) 1 1 Tryd.underlying34 hib hbz hbs hbb rfl (by decide) _ acc.length _ rfl (hr.alloc _) ⟨wr.heap.size, 0, none⟩ 1 1 [?xv] rfl rfl ?c1 ?c2 ?c3 ?c4 ?c5 ?_)
      case c1 => exact (cell_one_new _ _ _)
      case c2 => simp [Value.oneCell']
      case c3 => unfold maxLen; omega
      case c4 => omega
      case c5 => simp; omega
      intro b1 w1 hr1 hg1 _
      have hb1 : Below (B) w w1 := (hbw.alloc hBw _).grown hg1 (by simp; omega) (fun g hg => (hr.lt g hg).1)
      have hB1 : B ≤ w1.heap.size := by have := hg1.size; simp at this; omega
      have hr2 := own_snoc (c := x.toUInt8) hr1 (u8p x hx)
      have HF : Hid (acc ++ [x.toUInt8] = l ++ Ph.putI n) := by
        show _ = _
        rw [← HE.out]
        obtain ⟨g, rfl⟩ : ∃ g, f = g + 1 := ⟨f - 1, by omega⟩
        rw [Ph.putN_last g x hx]
      clear hr hr1
      go_wp2
      go_ret
      refine ⟨_, rfl, ?_, hb1, hB1⟩
      unfold OwnB
      rw [← HF.out]
      exact hr2
    · have hx' : (127 : Int) < (x : Int) := by omega
      obtain ⟨g, hfg, hg1', hxg, hpn⟩ := Ph.putN_split f x hx HX.out
      have HPN := Lib.hid hpn
      have HXG := Lib.hid hxg
      clear hpn hxg
      go_wp2_with (at_builtin; refine wpList_append_own _ rfl (.tmp 15) (.tmp 19) 34 rfl (B) 5 ib (.int .u8 0) 1 1 Tryd.underlying34 hib hbz hbs hbb rfl (by decide) _ acc.length _ rfl (hr.alloc _) ⟨wr.heap.size, 0, none⟩ 1 1 [?yv] rfl rfl ?d1 ?d2 ?d3 ?d4 ?d5 ?_)
      case d1 => exact (cell_one_new _ _ _)
      case d2 => simp [Value.oneCell']
      case d3 => unfold maxLen; omega
      case d4 => omega
      case d5 => simp; omega
      intro b1 w1 hr1 hg1 _
      have hb1 : Below (B) w w1 := (hbw.alloc hBw _).grown hg1 (by simp; omega) (fun g hg => (hr.lt g hg).1)
      have hB1 : B ≤ w1.heap.size := by have := hg1.size; simp at this; omega
      have hr2 := own_snoc (c := (x % 128 + 128).toUInt8) hr1 (u8o x)
      have HF : Hid (acc ++ [(x % 128 + 128).toUInt8] ++ Ph.putN g (x / 128) = l ++ Ph.putI n) := by
        show _ = _
        rw [← HE.out, HPN.out]
        simp
      have HR2 := Lib.hid hr2
      clear hr hr1 hr2
      go_wp2
      go_roundw
      case rel => exact ⟨acc ++ [(x % 128 + 128).toUInt8], g, x / 128, by go_num, HXG.out, hg1', by omega, by simp; omega, HR2.out, hb1, hB1, HF.out⟩
      case measure => simp [intOf]; omega


theorem num_Put (B : Nat) (v : Value) (l : List UInt8) (n : Int) (w : World) (h0 : -9223372036854775808 ≤ n) (h1 : n ≤ 9223372036854775807) (ho : OwnB w B v l) (hl : l.length ≤ 1000000000) (hB : B ≤ w.heap.size) :
    Calls Tryd.prog 41 #[v, .int .i64 n] w fun e w' => ∃ v', e = .returned v' ∧ OwnB w' B v' (l ++ Ph.putI n) ∧ Below B w w' ∧ B ≤ w'.heap.size := by
  by_cases hn : n < 0
  · exact num_Put_neg B v l n w h0 h1 hn ho hl hB
  · exact num_Put_pos B v l n w h0 h1 (by omega) ho hl hB

end Go.Proofs.YtfnmfofipcnojaaDoor
