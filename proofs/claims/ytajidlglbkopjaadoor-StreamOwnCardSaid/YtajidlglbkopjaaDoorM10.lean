/-
  Texts of the proof, one behind the other (part 10).
-/
import Derived.Test.YtajidlglbkopjaaDoorM9
/-
  The walk of the reference's bytesOf: a batch's bytes.
-/
set_option linter.unusedVariables false
set_option maxRecDepth 10000
namespace Go.Proofs.YtajidlglbkopjaaDoor.Sw
open Go.RowKit Go.Sx

set_option maxHeartbeats 8000000 in
theorem ref_bytesOf (c q : Int) (l : List OpD) (sv : Value) (w : World) (hc : i64 c) (hq : i64 q) (hl : l.length ≤ 100) (ho : ∀ o ∈ l, OpOk o) (r : Rd w 9 sv l.length (l.flatMap opCells)) :
    Calls Tryd.prog 45 ⟨[.agg ⟨[.int .i64 c, .int .i64 q, sv]⟩]⟩ w fun e w' => ∃ ad cap, e = .returned (.slice ad (textB c q l).length cap) ∧ Has 0 w w' (OwnB 5 (.slice ad (textB c q l).length cap) (textB c q l) :: Old w 0 :: []) := by
  have hw := Has.start (G := 0) (w := w) (Nat.zero_le _)
  obtain ⟨sad, scap, rfl⟩ : ∃ ad cap, sv = .slice ad l.length cap := by obtain ⟨_, ad, cap, e, _⟩ := r; exact ⟨ad, cap, e⟩
  have hh := headB_le c q l.length
  unfold headB at hh
  simp only [List.length_append] at hh
  refine enter Tryd.func45 Tryd.ntmps45 rfl rfl fun a hs => ?_
  repeat (first | (refine sxv hs hw ?_; clear hs; intro a hs) | refine sxc hs ?_ | (refine sxa hs hw ?_; clear hs hw; intro a b W hw hs) | (refine sxs hs hw ?_; clear hs hw; intro W hs hw))
  obtain ⟨b1, q1⟩ := nm1 hw; subst q1
  have hw : Has 0 w _ (Cells b1 [.int .i64 c, .int .i64 q, .slice sad l.length scap] 26 :: Old w 0 :: []) := hw
  refine st_call hs (hc := ref_Put w _ c _ hc.1 hc.2 hw) (k := ?_); rintro e0 W1 ⟨ad, cap, rfl, hw1⟩; refine ⟨_, rfl, ?_⟩; clear hs hw; intro a hs; have hw := hw1; clear hw1
  repeat (first | (refine sxv hs hw ?_; clear hs; intro a hs) | refine sxc hs ?_ | (refine sxa hs hw ?_; clear hs hw; intro a b W hw hs) | (refine sxs hs hw ?_; clear hs hw; intro W hs hw))
  refine st_call hs (hc := ref_Put w _ q _ hq.1 hq.2 hw) (k := ?_); rintro e0 W1 ⟨ad, cap, rfl, hw1⟩; refine ⟨_, rfl, ?_⟩; clear hs hw; intro a hs; have hw := hw1; clear hw1
  repeat (first | (refine sxv hs hw ?_; clear hs; intro a hs) | refine sxc hs ?_ | (refine sxa hs hw ?_; clear hs hw; intro a b W hw hs) | (refine sxs hs hw ?_; clear hs hw; intro W hs hw))
  have hw := hw.swap2
  refine st_append_b hs hw (l := Ph.putI c) (m := Ph.putI q) (hr := src_rd (hw.rd_own (In.tl In.hd)) (bys_one _)) (hb := by first | omega | (simp only [List.length_append]; omega)) (c := ?_); clear hs hw; intro a ad2 cap2 W hs hw
  have hw := hw.drop2
  repeat (first | (refine sxv hs hw ?_; clear hs; intro a hs) | refine sxc hs ?_ | (refine sxa hs hw ?_; clear hs hw; intro a b W hw hs) | (refine sxs hs hw ?_; clear hs hw; intro W hs hw))
  refine st_call hs (hc := ref_Put w _ (l.length : Int) _ (by omega) (by omega) hw) (k := ?_); rintro e0 W1 ⟨ad, cap, rfl, hw1⟩; refine ⟨_, rfl, ?_⟩; clear hs hw; intro a hs; have hw := hw1; clear hw1
  repeat (first | (refine sxv hs hw ?_; clear hs; intro a hs) | refine sxc hs ?_ | (refine sxa hs hw ?_; clear hs hw; intro a b W hw hs) | (refine sxs hs hw ?_; clear hs hw; intro W hs hw))
  have hw := hw.swap2
  refine st_append_b hs hw (l := Ph.putI c ++ Ph.putI q) (m := Ph.putI l.length) (hr := src_rd (hw.rd_own (In.tl In.hd)) (bys_one _)) (hb := by first | omega | (simp only [List.length_append]; omega)) (c := ?_); clear hs hw; intro a ad2 cap2 W hs hw
  have hw := hw.drop2
  repeat (first | (refine sxv hs hw ?_; clear hs; intro a hs) | refine sxc hs ?_ | (refine sxa hs hw ?_; clear hs hw; intro a b W hw hs) | (refine sxs hs hw ?_; clear hs hw; intro W hs hw))
  refine st_loop (σ := Value × Nat) (fun s => [(1, .pointer (some ⟨b1, 0, none⟩)), (3, s.1), (4, .int .i64 (s.2 : Int))]) (fun s => Sx.OwnB 5 s.1 (headB c q l.length ++ (l.take s.2).flatMap opB) :: Cells b1 [.int .i64 c, .int .i64 q, .slice sad l.length scap] 26 :: Old w 0 :: []) (fun s => s.2 ≤ l.length) (fun s => l.length - s.2) (.slice ad2 (Ph.putI c ++ Ph.putI q ++ Ph.putI l.length).length cap2, 0) (Nat.zero_le _) hs ⟨rfl, rfl, rfl, trivial⟩ (by rw [show (headB c q l.length ++ (l.take 0).flatMap opB) = Ph.putI c ++ Ph.putI q ++ Ph.putI l.length from by simp [headB]]; exact hw) ?_
  clear hs hw hh
  rintro ⟨v, i⟩ a W hi hs hw
  simp only at hi hs hw
  repeat (first | (refine sxv hs hw ?_; clear hs; intro a hs) | refine sxc hs ?_ | (refine sxa hs hw ?_; clear hs hw; intro a b W hw hs) | (refine sxs hs hw ?_; clear hs hw; intro W hs hw))
  refine cd_split hs (kt := fun hcc => ?_) (kf := fun hcc => ?_)
  · have hi' : i < l.length := by simpa using hcc
    obtain ⟨o, hoi⟩ : ∃ o, l[i]? = some o := ⟨l[i], List.getElem?_eq_getElem hi'⟩
    have hok := ho o (List.mem_of_getElem? hoi)
    have hacc : (headB c q l.length ++ (l.take i).flatMap opB).length ≤ 320000030 := by
      have h1 := headB_le c q l.length
      have h2 := ops_le (l := l.take i) fun x hx => ho x (List.mem_of_mem_take hx)
      rw [List.length_take] at h2
      rw [List.length_append]; omega
    have hnext : headB c q l.length ++ (l.take (i + 1)).flatMap opB = headB c q l.length ++ (l.take i).flatMap opB ++ opB o := by
      rw [List.take_add_one, hoi, List.flatMap_append, List.append_assoc]; simp
    generalize headB c q l.length ++ (l.take i).flatMap opB = acc at *
    have hp1 := Ph.putI_length_le o.kind
    have hp2 := putT_le o.key
    have hp3 := putR_le o.vk o.vn o.vs
    have hp4 := putR_le o.ok o.on o.os
    have hp5 := Ph.putI_length_le o.n
    obtain ⟨hk, hvk, hvn, hok', hon, hn, hkey, hvs, hos⟩ := hok
    repeat (first | (refine sxv hs hw ?_; clear hs; intro a hs) | refine sxc hs ?_ | (refine sxa hs hw ?_; clear hs hw; intro a b W hw hs) | (refine sxs hs hw ?_; clear hs hw; intro W hs hw))
    refine st_index_op hs (r := hw.rd (by repeat (first | exact In.hd | apply In.tl)) hw.ext.size r) (ho := hoi) (c := ?_); clear hs; intro a p off hpc hs
    refine st_load_ats (z := opCells ⟨0, ⟨#[]⟩, 0, 0, ⟨#[]⟩, 0, 0, ⟨#[]⟩, 0⟩) hs (hc := hpc) (hl := rfl) (c := ?_); clear hs; intro a hs
    obtain ⟨kind, key, vk, vn, vs, ok, on, os, n⟩ := o
    simp only at hk hvk hvn hok' hon hn hkey hvs hos hp1 hp2 hp3 hp4 hp5
    simp only [opCells] at hs
    clear hpc
    repeat (first | (refine sxv hs hw ?_; clear hs; intro a hs) | refine sxc hs ?_ | (refine sxa hs hw ?_; clear hs hw; intro a b W hw hs) | (refine sxs hs hw ?_; clear hs hw; intro W hs hw))
    obtain ⟨b4, q4⟩ := nm1 hw; subst q4
    have hw : Has 0 w _ (Cells b4 [.int .i64 kind, .string key, .int .i64 vk, .int .i64 vn, .string vs, .int .i64 ok, .int .i64 on, .string os, .int .i64 n] 60 :: Sx.OwnB 5 v acc :: Cells b1 [.int .i64 c, .int .i64 q, .slice sad l.length scap] 26 :: Old w 0 :: []) := hw
    have hw := hw.swap2
    obtain ⟨vad, vcap, rfl⟩ := hw.own_slice
    refine st_call hs (hc := ref_Put w _ kind _ hk.1 hk.2 hw) (k := ?_); rintro e0 W1 ⟨ad, cap, rfl, hw1⟩; refine ⟨_, rfl, ?_⟩; clear hs hw; intro a hs; have hw := hw1; clear hw1
    repeat (first | (refine sxv hs hw ?_; clear hs; intro a hs) | refine sxc hs ?_ | (refine sxa hs hw ?_; clear hs hw; intro a b W hw hs) | (refine sxs hs hw ?_; clear hs hw; intro W hs hw))
    have hw := hw.swap2
    refine st_append_b hs hw (l := acc) (m := Ph.putI kind) (hr := src_rd (hw.rd_own (In.tl In.hd)) (bys_one _)) (hb := by first | omega | (simp only [List.length_append]; omega)) (c := ?_); clear hs hw; intro a ad2 cap2 W hs hw
    have hw := hw.drop2
    repeat (first | (refine sxv hs hw ?_; clear hs; intro a hs) | refine sxc hs ?_ | (refine sxa hs hw ?_; clear hs hw; intro a b W hw hs) | (refine sxs hs hw ?_; clear hs hw; intro W hs hw))
    refine st_call hs (hc := ref_PutText w _ key _ (by omega) hw) (k := ?_); rintro e0 W1 ⟨ad, cap, rfl, hw1⟩; refine ⟨_, rfl, ?_⟩; clear hs hw; intro a hs; have hw := hw1; clear hw1
    repeat (first | (refine sxv hs hw ?_; clear hs; intro a hs) | refine sxc hs ?_ | (refine sxa hs hw ?_; clear hs hw; intro a b W hw hs) | (refine sxs hs hw ?_; clear hs hw; intro W hs hw))
    have hw := hw.swap2
    refine st_append_b hs hw (l := acc ++ Ph.putI kind) (m := Ph.putT key.data.toList) (hr := src_rd (hw.rd_own (In.tl In.hd)) (bys_one _)) (hb := by first | omega | (simp only [List.length_append]; omega)) (c := ?_); clear hs hw; intro a ad2 cap2 W hs hw
    have hw := hw.drop2
    repeat (first | (refine sxv hs hw ?_; clear hs; intro a hs) | refine sxc hs ?_ | (refine sxa hs hw ?_; clear hs hw; intro a b W hw hs) | (refine sxs hs hw ?_; clear hs hw; intro W hs hw))
    have hlen2 : (acc ++ Ph.putI kind ++ Ph.putT key.data.toList).length ≤ 322000060 := by simp only [List.length_append]; omega
    generalize hA : acc ++ Ph.putI kind ++ Ph.putT key.data.toList = acc2 at *
    by_cases k1 : kind = 1
    · subst k1
      repeat (first | (refine sxv hs hw ?_; clear hs; intro a hs) | refine sxc hs ?_ | (refine sxa hs hw ?_; clear hs hw; intro a b W hw hs) | (refine sxs hs hw ?_; clear hs hw; intro W hs hw))
      refine st_call hs (hc := ref_PutRaw w _ vk vn vs _ hvk.1 hvk.2 hvn.1 hvn.2 (by omega) hw) (k := ?_); rintro e0 W1 ⟨ad, cap, rfl, hw1⟩; refine ⟨_, rfl, ?_⟩; clear hs hw; intro a hs; have hw := hw1; clear hw1
      repeat (first | (refine sxv hs hw ?_; clear hs; intro a hs) | refine sxc hs ?_ | (refine sxa hs hw ?_; clear hs hw; intro a b W hw hs) | (refine sxs hs hw ?_; clear hs hw; intro W hs hw))
      have hw := hw.swap2
      refine st_append_b hs hw (l := acc2) (m := putR vk vn vs) (hr := src_rd (hw.rd_own (In.tl In.hd)) (bys_one _)) (hb := by first | omega | (simp only [List.length_append]; omega)) (c := ?_); clear hs hw; intro a ad2 cap2 W hs hw
      have hw := hw.drop2
      repeat (first | (refine sxv hs hw ?_; clear hs; intro a hs) | refine sxc hs ?_ | (refine sxa hs hw ?_; clear hs hw; intro a b W hw hs) | (refine sxs hs hw ?_; clear hs hw; intro W hs hw))
      have hw := hw.drop2
      repeat (first | (refine sxv hs hw ?_; clear hs; intro a hs) | refine sxc hs ?_ | (refine sxa hs hw ?_; clear hs hw; intro a b W hw hs) | (refine sxs hs hw ?_; clear hs hw; intro W hs hw))
      rw [show acc2 ++ putR vk vn vs = acc ++ opB ⟨1, key, vk, vn, vs, ok, on, os, n⟩ from by rw [← hA]; simp [opB], ← hnext] at hs hw
      refine st_again (_, i + 1) hs hw (by show i + 1 ≤ l.length; omega) (by show l.length - (i + 1) < l.length - i; omega) ⟨rfl, rfl, int_eq (by show IntKind.i64.wrap ((i : Int) + 1) = ((i + 1 : Nat) : Int); rw [IntWalk.i64_in _ (by omega)]; omega), trivial⟩
    have e1 : (kind == 1) = false := by simpa using k1
    rw [e1] at hs
    repeat (first | (refine sxv hs hw ?_; clear hs; intro a hs) | refine sxc hs ?_ | (refine sxa hs hw ?_; clear hs hw; intro a b W hw hs) | (refine sxs hs hw ?_; clear hs hw; intro W hs hw))
    by_cases k3 : kind = 3
    · subst k3
      repeat (first | (refine sxv hs hw ?_; clear hs; intro a hs) | refine sxc hs ?_ | (refine sxa hs hw ?_; clear hs hw; intro a b W hw hs) | (refine sxs hs hw ?_; clear hs hw; intro W hs hw))
      have hw := hw.free.free
      have hw := hw.perm ((List.Perm.cons _ (List.Perm.swap _ _ _)).trans ((List.Perm.swap _ _ _)))
      refine rg_drawU (σ := Option Addr × Nat) (V := fun u => [(.slice ad2 acc2.length cap2), .pointer (some ⟨b4, 0 + 2, none⟩), .agg ⟨[.int .i64 vk, .int .i64 vn, .string vs]⟩, (.slice (u 3).1 (putR vk vn vs).length (u 3).2), (.slice (u 4).1 (acc2 ++ putR vk vn vs).length (u 4).2), .pointer (some ⟨b4, 0 + 5, none⟩), .agg ⟨[.int .i64 ok, .int .i64 on, .string os]⟩, (.slice (u 7).1 (putR ok on os).length (u 7).2), (.slice (u 8).1 (acc2 ++ putR vk vn vs ++ putR ok on os).length (u 8).2), (.slice (u 9).1 (acc2 ++ putR vk vn vs ++ putR ok on os).length (u 9).2)])
        (Rs := fun u D => (if D 9 then Sx.OwnB 5 (.slice (u 9).1 (acc2 ++ putR vk vn vs ++ putR ok on os).length (u 9).2) (acc2 ++ putR vk vn vs ++ putR ok on os) else if D 8 then Sx.OwnB 5 (.slice (u 8).1 (acc2 ++ putR vk vn vs ++ putR ok on os).length (u 8).2) (acc2 ++ putR vk vn vs ++ putR ok on os) else if D 4 then Sx.OwnB 5 (.slice (u 4).1 (acc2 ++ putR vk vn vs).length (u 4).2) (acc2 ++ putR vk vn vs) else Sx.OwnB 5 (.slice ad2 acc2.length cap2) (acc2)) :: (if D 3 then Sx.OwnB 5 (.slice (u 3).1 (putR vk vn vs).length (u 3).2) (putR vk vn vs) else Free) :: (if D 7 then Sx.OwnB 5 (.slice (u 7).1 (putR ok on os).length (u 7).2) (putR ok on os) else Free) :: Cells b4 [.int .i64 3, .string key, .int .i64 vk, .int .i64 vn, .string vs, .int .i64 ok, .int .i64 on, .string os, .int .i64 n] 60 :: Cells b1 [.int .i64 c, .int .i64 q, .slice sad l.length scap] 26 :: Old w 0 :: []) (fun _ => (none, 0)) hs hw (hVu := ?vu_c) (ho := ⟨?_, ?_, ?_, ?c3_c, ?c4_c, ?_, ?_, ?c7_c, ?c8_c, ?c9_c, trivial⟩) (k := ?k_c)
      case vu_c =>
        intro u u' j h
        rcases j with _ | _ | _ | _ | _ | _ | _ | _ | _ | _ | j
        · rfl
        · rfl
        · rfl
        · simp [h]
        · simp [h]
        · rfl
        · rfl
        · simp [h]
        · simp [h]
        · simp [h]
        · rfl
      case c3_c =>
        intro u LD D a W hcl hi hp hs hw
        have h4 := Go.Sx.not_done hcl hi 4 (by kernel_rfl)
        have h8 := Go.Sx.not_done hcl h4 8 (by kernel_rfl)
        have h9 := Go.Sx.not_done hcl h8 9 (by kernel_rfl)
        simp only [hi, h4, h8, h9, Bool.false_eq_true, if_false] at hw
        refine st_call hs (hc := ref_PutRaw w _ vk vn vs _ hvk.1 hvk.2 hvn.1 hvn.2 (by omega) hw) (k := ?_); rintro e0 W1 ⟨ad, cap, rfl, hw1⟩; refine ⟨_, rfl, ?_⟩; clear hs hw; intro a hs; have hw := hw1; clear hw1
        repeat (first | (refine sxv hs hw ?_; clear hs; intro a hs) | refine sxc hs ?_ | (refine sxa hs hw ?_; clear hs hw; intro a b W hw hs) | (refine sxs hs hw ?_; clear hs hw; intro W hs hw))
        refine Or.inr ⟨(ad, cap), hs, ?_⟩
        show Has 0 w _ ((if (Nat.beq 9 3 || D 9) = true then _ else if (Nat.beq 8 3 || D 8) = true then _ else if (Nat.beq 4 3 || D 4) = true then _ else _) :: _)
        rw [h9, h8, h4]
        exact hw.fill (Upd.tl Upd.hd)
      case c4_c =>
        intro u LD D a W hcl hi hp hs hw
        have h3 := Go.Sx.done hp 3 (by kernel_rfl)
        have h8 := Go.Sx.not_done hcl hi 8 (by kernel_rfl)
        have h9 := Go.Sx.not_done hcl h8 9 (by kernel_rfl)
        simp only [hi, h3, h8, h9, Bool.false_eq_true, if_false, if_true] at hw
        refine st_append_b hs hw (l := acc2) (m := putR vk vn vs) (hr := src_rd (hw.rd_own (In.tl In.hd)) (bys_one _)) (hb := by omega) (c := ?_); clear hs hw; intro a ad cap W hs hw
        repeat (first | (refine sxv hs hw ?_; clear hs; intro a hs) | refine sxc hs ?_ | (refine sxa hs hw ?_; clear hs hw; intro a b W hw hs) | (refine sxs hs hw ?_; clear hs hw; intro W hs hw))
        refine Or.inr ⟨(ad, cap), hs, ?_⟩
        show Has 0 w _ ((if (Nat.beq 9 4 || D 9) = true then _ else if (Nat.beq 8 4 || D 8) = true then _ else _) :: (if (Nat.beq 3 4 || D 3) = true then _ else _) :: _)
        rw [h9, h8, h3]
        exact hw
      case c7_c =>
        intro u LD D a W hcl hi hp hs hw
        have h8 := Go.Sx.not_done hcl hi 8 (by kernel_rfl)
        have h9 := Go.Sx.not_done hcl h8 9 (by kernel_rfl)
        simp only [hi, h8, h9, Bool.false_eq_true, if_false] at hw
        refine st_call hs (hc := ref_PutRaw w _ ok on os _ hok'.1 hok'.2 hon.1 hon.2 (by omega) hw) (k := ?_); rintro e0 W1 ⟨ad, cap, rfl, hw1⟩; refine ⟨_, rfl, ?_⟩; clear hs hw; intro a hs; have hw := hw1; clear hw1
        repeat (first | (refine sxv hs hw ?_; clear hs; intro a hs) | refine sxc hs ?_ | (refine sxa hs hw ?_; clear hs hw; intro a b W hw hs) | (refine sxs hs hw ?_; clear hs hw; intro W hs hw))
        refine Or.inr ⟨(ad, cap), hs, ?_⟩
        show Has 0 w _ ((if (Nat.beq 9 7 || D 9) = true then _ else if (Nat.beq 8 7 || D 8) = true then _ else _) :: _)
        rw [h9, h8]
        exact hw.fill (Upd.tl (Upd.tl Upd.hd))
      case c8_c =>
        intro u LD D a W hcl hi hp hs hw
        have h4 := Go.Sx.done hp 4 (by kernel_rfl)
        have h7 := Go.Sx.done hp 7 (by kernel_rfl)
        have h9 := Go.Sx.not_done hcl hi 9 (by kernel_rfl)
        simp only [hi, h4, h7, h9, Bool.false_eq_true, if_false, if_true] at hw
        refine st_append_b hs hw (l := acc2 ++ putR vk vn vs) (m := putR ok on os) (hr := src_rd (hw.rd_own (In.tl (In.tl In.hd))) (bys_one _)) (hb := by first | omega | (simp only [List.length_append]; omega)) (c := ?_); clear hs hw; intro a ad cap W hs hw
        repeat (first | (refine sxv hs hw ?_; clear hs; intro a hs) | refine sxc hs ?_ | (refine sxa hs hw ?_; clear hs hw; intro a b W hw hs) | (refine sxs hs hw ?_; clear hs hw; intro W hs hw))
        refine Or.inr ⟨(ad, cap), hs, ?_⟩
        show Has 0 w _ ((if (Nat.beq 9 8 || D 9) = true then _ else _) :: _ :: (if (Nat.beq 7 8 || D 7) = true then _ else _) :: _)
        rw [h9, h7]
        exact hw
      case c9_c =>
        intro u LD D a W hcl hi hp hs hw
        have h8 := Go.Sx.done hp 8 (by kernel_rfl)
        simp only [hi, h8, Bool.false_eq_true, if_false, if_true] at hw
        repeat (first | (refine sxv hs hw ?_; clear hs; intro a hs) | refine sxc hs ?_ | (refine sxa hs hw ?_; clear hs hw; intro a b W hw hs) | (refine sxs hs hw ?_; clear hs hw; intro W hs hw))
        exact Or.inr ⟨u 8, hs, hw⟩
      case k_c =>
        clear hs hw
        intro u a W hs hw
        replace hw : Has 0 w W (Sx.OwnB 5 (.slice (u 9).1 (acc2 ++ putR vk vn vs ++ putR ok on os).length (u 9).2) (acc2 ++ putR vk vn vs ++ putR ok on os) :: Sx.OwnB 5 (.slice (u 3).1 (putR vk vn vs).length (u 3).2) (putR vk vn vs) :: Sx.OwnB 5 (.slice (u 7).1 (putR ok on os).length (u 7).2) (putR ok on os) :: Cells b4 [.int .i64 3, .string key, .int .i64 vk, .int .i64 vn, .string vs, .int .i64 ok, .int .i64 on, .string os, .int .i64 n] 60 :: Cells b1 [.int .i64 c, .int .i64 q, .slice sad l.length scap] 26 :: Old w 0 :: []) := hw
        replace hw := hw.drop2.drop2
        replace hs : Slots a 70 [(1, .pointer (some ⟨b1, 0, none⟩)), (3, (.slice (u 9).1 (acc2 ++ putR vk vn vs ++ putR ok on os).length (u 9).2)), (4, .int .i64 (i : Int))] := hs.of ⟨rfl, rfl, rfl, trivial⟩
        generalize (u 9).1 = ad1 at *
        generalize (u 9).2 = cap1 at *
        clear u
        have hw := hw.drop2
        repeat (first | (refine sxv hs hw ?_; clear hs; intro a hs) | refine sxc hs ?_ | (refine sxa hs hw ?_; clear hs hw; intro a b W hw hs) | (refine sxs hs hw ?_; clear hs hw; intro W hs hw))
        rw [show acc2 ++ putR vk vn vs ++ putR ok on os = acc ++ opB ⟨3, key, vk, vn, vs, ok, on, os, n⟩ from by rw [← hA]; simp [opB], ← hnext] at hs hw
        refine st_again (_, i + 1) hs hw (by show i + 1 ≤ l.length; omega) (by show l.length - (i + 1) < l.length - i; omega) ⟨rfl, rfl, int_eq (by show IntKind.i64.wrap ((i : Int) + 1) = ((i + 1 : Nat) : Int); rw [IntWalk.i64_in _ (by omega)]; omega), trivial⟩
      all_goals
        intro u LD D a W hcl hi hp hs hw
        repeat (first | (refine sxv hs hw ?_; clear hs; intro a hs) | refine sxc hs ?_ | (refine sxa hs hw ?_; clear hs hw; intro a b W hw hs) | (refine sxs hs hw ?_; clear hs hw; intro W hs hw))
        exact Or.inl ⟨hs, hw⟩
    have e3 : (kind == 3) = false := by simpa using k3
    rw [e3] at hs
    repeat (first | (refine sxv hs hw ?_; clear hs; intro a hs) | refine sxc hs ?_ | (refine sxa hs hw ?_; clear hs hw; intro a b W hw hs) | (refine sxs hs hw ?_; clear hs hw; intro W hs hw))
    by_cases k4 : kind = 4
    · subst k4
      repeat (first | (refine sxv hs hw ?_; clear hs; intro a hs) | refine sxc hs ?_ | (refine sxa hs hw ?_; clear hs hw; intro a b W hw hs) | (refine sxs hs hw ?_; clear hs hw; intro W hs hw))
      refine st_call hs (hc := ref_Put w _ n _ hn.1 hn.2 hw) (k := ?_); rintro e0 W1 ⟨ad, cap, rfl, hw1⟩; refine ⟨_, rfl, ?_⟩; clear hs hw; intro a hs; have hw := hw1; clear hw1
      repeat (first | (refine sxv hs hw ?_; clear hs; intro a hs) | refine sxc hs ?_ | (refine sxa hs hw ?_; clear hs hw; intro a b W hw hs) | (refine sxs hs hw ?_; clear hs hw; intro W hs hw))
      have hw := hw.swap2
      refine st_append_b hs hw (l := acc2) (m := Ph.putI n) (hr := src_rd (hw.rd_own (In.tl In.hd)) (bys_one _)) (hb := by first | omega | (simp only [List.length_append]; omega)) (c := ?_); clear hs hw; intro a ad2 cap2 W hs hw
      have hw := hw.drop2
      repeat (first | (refine sxv hs hw ?_; clear hs; intro a hs) | refine sxc hs ?_ | (refine sxa hs hw ?_; clear hs hw; intro a b W hw hs) | (refine sxs hs hw ?_; clear hs hw; intro W hs hw))
      have hw := hw.drop2
      repeat (first | (refine sxv hs hw ?_; clear hs; intro a hs) | refine sxc hs ?_ | (refine sxa hs hw ?_; clear hs hw; intro a b W hw hs) | (refine sxs hs hw ?_; clear hs hw; intro W hs hw))
      rw [show acc2 ++ Ph.putI n = acc ++ opB ⟨4, key, vk, vn, vs, ok, on, os, n⟩ from by rw [← hA]; simp [opB], ← hnext] at hs hw
      refine st_again (_, i + 1) hs hw (by show i + 1 ≤ l.length; omega) (by show l.length - (i + 1) < l.length - i; omega) ⟨rfl, rfl, int_eq (by show IntKind.i64.wrap ((i : Int) + 1) = ((i + 1 : Nat) : Int); rw [IntWalk.i64_in _ (by omega)]; omega), trivial⟩
    have e4 : (kind == 4) = false := by simpa using k4
    rw [e4] at hs
    repeat (first | (refine sxv hs hw ?_; clear hs; intro a hs) | refine sxc hs ?_ | (refine sxa hs hw ?_; clear hs hw; intro a b W hw hs) | (refine sxs hs hw ?_; clear hs hw; intro W hs hw))
    have hw := hw.drop2
    repeat (first | (refine sxv hs hw ?_; clear hs; intro a hs) | refine sxc hs ?_ | (refine sxa hs hw ?_; clear hs hw; intro a b W hw hs) | (refine sxs hs hw ?_; clear hs hw; intro W hs hw))
    rw [show acc2 = acc ++ opB ⟨kind, key, vk, vn, vs, ok, on, os, n⟩ from by rw [← hA]; simp [opB, k3, k1, k4], ← hnext] at hs hw
    refine st_again (_, i + 1) hs hw (by show i + 1 ≤ l.length; omega) (by show l.length - (i + 1) < l.length - i; omega) ⟨rfl, rfl, int_eq (by show IntKind.i64.wrap ((i : Int) + 1) = ((i + 1 : Nat) : Int); rw [IntWalk.i64_in _ (by omega)]; omega), trivial⟩
  · have hi' : i = l.length := by have h9 := of_decide_eq_false hcc; omega
    subst hi'
    repeat (first | (refine sxv hs hw ?_; clear hs; intro a hs) | refine sxc hs ?_ | (refine sxa hs hw ?_; clear hs hw; intro a b W hw hs) | (refine sxs hs hw ?_; clear hs hw; intro W hs hw))
    rw [List.take_length] at hw
    have hw := hw.drop2
    obtain ⟨ad, cap, e⟩ : ∃ ad cap, v = .slice ad (textB c q l).length cap := hw.own_slice
    subst e
    exact rt1 hs rfl rfl ⟨ad, cap, rfl, hw⟩
end Go.Proofs.YtajidlglbkopjaaDoor.Sw

/-
  The walks of the reference's MayBatch and EncodeBatch.
-/
set_option linter.unusedVariables false
set_option maxRecDepth 10000
namespace Go.Proofs.YtajidlglbkopjaaDoor.Sw
open Go.RowKit Go.Sx
-- pieces

set_option maxHeartbeats 8000000 in
theorem ref_MayBatch (c q : Int) (l : List OpD) (sv : Value) (w : World) (hc : i64 c) (hq : i64 q) (ho : ∀ o ∈ l, OpOk o) (r : Rd w 9 sv l.length (l.flatMap opCells)) :
    Calls Tryd.prog 32 ⟨[.agg ⟨[.int .i64 c, .int .i64 q, sv]⟩]⟩ w fun e w' => e = .returned (.bool (mayBatch c q l)) ∧ Below w.heap.size w w' := by
  have hw := Has.start (G := 0) (w := w) (Nat.zero_le _)
  obtain ⟨sad, scap, rfl⟩ : ∃ ad cap, sv = .slice ad l.length cap := by obtain ⟨_, ad, cap, e, _⟩ := r; exact ⟨ad, cap, e⟩
  have hlen : l.length ≤ 9223372036854775807 := r.len
  refine enter Tryd.func32 Tryd.ntmps32 rfl rfl fun a hs => ?_
  repeat (first | (refine sxv hs hw ?_; clear hs; intro a hs) | refine sxc hs ?_ | (refine sxa hs hw ?_; clear hs hw; intro a b W hw hs) | (refine sxs hs hw ?_; clear hs hw; intro W hs hw))
  cases h0 : decide (c < 1) with
  | true =>
    rw [h0] at hs
    repeat (first | (refine sxv hs hw ?_; clear hs; intro a hs) | refine sxc hs ?_ | (refine sxa hs hw ?_; clear hs hw; intro a b W hw hs) | (refine sxs hs hw ?_; clear hs hw; intro W hs hw))
    exact rt1 hs rfl rfl ⟨by simp [mayBatch, h0], hw.end (by repeat (first | exact In.hd | apply In.tl))⟩
  | false =>
  rw [h0] at hs
  repeat (first | (refine sxv hs hw ?_; clear hs; intro a hs) | refine sxc hs ?_ | (refine sxa hs hw ?_; clear hs hw; intro a b W hw hs) | (refine sxs hs hw ?_; clear hs hw; intro W hs hw))
  cases h1 : decide (c > 5) with
  | true =>
    rw [h1] at hs
    repeat (first | (refine sxv hs hw ?_; clear hs; intro a hs) | refine sxc hs ?_ | (refine sxa hs hw ?_; clear hs hw; intro a b W hw hs) | (refine sxs hs hw ?_; clear hs hw; intro W hs hw))
    exact rt1 hs rfl rfl ⟨by simp [mayBatch, h0, h1], hw.end (by repeat (first | exact In.hd | apply In.tl))⟩
  | false =>
  rw [h1] at hs
  repeat (first | (refine sxv hs hw ?_; clear hs; intro a hs) | refine sxc hs ?_ | (refine sxa hs hw ?_; clear hs hw; intro a b W hw hs) | (refine sxs hs hw ?_; clear hs hw; intro W hs hw))
  cases h2 : decide (q < 1) with
  | true =>
    rw [h2] at hs
    repeat (first | (refine sxv hs hw ?_; clear hs; intro a hs) | refine sxc hs ?_ | (refine sxa hs hw ?_; clear hs hw; intro a b W hw hs) | (refine sxs hs hw ?_; clear hs hw; intro W hs hw))
    exact rt1 hs rfl rfl ⟨by simp [mayBatch, h0, h1, h2], hw.end (by repeat (first | exact In.hd | apply In.tl))⟩
  | false =>
  rw [h2] at hs
  repeat (first | (refine sxv hs hw ?_; clear hs; intro a hs) | refine sxc hs ?_ | (refine sxa hs hw ?_; clear hs hw; intro a b W hw hs) | (refine sxs hs hw ?_; clear hs hw; intro W hs hw))
  cases h3 : decide (q > 1099511627776) with
  | true =>
    rw [h3] at hs
    repeat (first | (refine sxv hs hw ?_; clear hs; intro a hs) | refine sxc hs ?_ | (refine sxa hs hw ?_; clear hs hw; intro a b W hw hs) | (refine sxs hs hw ?_; clear hs hw; intro W hs hw))
    exact rt1 hs rfl rfl ⟨by simp [mayBatch, h0, h1, h2, h3], hw.end (by repeat (first | exact In.hd | apply In.tl))⟩
  | false =>
  rw [h3] at hs
  repeat (first | (refine sxv hs hw ?_; clear hs; intro a hs) | refine sxc hs ?_ | (refine sxa hs hw ?_; clear hs hw; intro a b W hw hs) | (refine sxs hs hw ?_; clear hs hw; intro W hs hw))
  have hmb : mayBatch c q l = (mayAll l && decide (((textB c q l).length : Int) ≤ 1200)) := by unfold mayBatch mayAll; rw [h0, h1, h2, h3]; simp
  rw [hmb]
  clear hmb h0 h1 h2 h3
  refine st_call hs (hc := ref_mayOps l _ _ ho (hw.rd (by repeat (first | exact In.hd | apply In.tl)) hw.ext.size r)) (k := ?_); rintro e0 W1 ⟨rfl, hb⟩; refine ⟨_, rfl, ?_⟩; clear hs; intro a hs; replace hw := hw.below hb; clear hb
  cases hm : mayAll l with
  | false =>
    rw [hm] at hs
    repeat (first | (refine sxv hs hw ?_; clear hs; intro a hs) | refine sxc hs ?_ | (refine sxa hs hw ?_; clear hs hw; intro a b W hw hs) | (refine sxs hs hw ?_; clear hs hw; intro W hs hw))
    exact rt1 hs rfl rfl ⟨by simp, hw.end (by repeat (first | exact In.hd | apply In.tl))⟩
  | true =>
    rw [hm] at hs
    have h8 : l.length ≤ 8 := by
      unfold mayAll at hm
      simp only [Bool.and_eq_true, Bool.not_eq_true', decide_eq_false_iff_not] at hm
      omega
    repeat (first | (refine sxv hs hw ?_; clear hs; intro a hs) | refine sxc hs ?_ | (refine sxa hs hw ?_; clear hs hw; intro a b W hw hs) | (refine sxs hs hw ?_; clear hs hw; intro W hs hw))
    refine st_call hs (hc := ref_bytesOf c q l _ _ hc hq (by omega) ho (hw.rd (by repeat (first | exact In.hd | apply In.tl)) hw.ext.size r)) (k := ?_); rintro e0 W1 ⟨ad, cap, rfl, hw1⟩; refine ⟨_, rfl, ?_⟩; clear hs; intro a hs; replace hw := hw.call hw1; clear hw1
    repeat (first | (refine sxv hs hw ?_; clear hs; intro a hs) | refine sxc hs ?_ | (refine sxa hs hw ?_; clear hs hw; intro a b W hw hs) | (refine sxs hs hw ?_; clear hs hw; intro W hs hw))
    exact rt1 hs rfl rfl ⟨by simp, hw.end (by repeat (first | exact In.hd | apply In.tl))⟩

end Go.Proofs.YtajidlglbkopjaaDoor.Sw

/-
  The reference's fold: Next.
-/
set_option linter.unusedVariables false
set_option maxRecDepth 10000
namespace Go.Sx
theorem abs2 {G : Nat} {w W : World} {q : Res} {R : List Res} {b : Nat} {cs : List Value} {T : TypeId} (h : Has G w W (q :: Cells b cs T :: R)) : ∃ z : List Value, z.length = cs.length ∧ Has G w W (q :: Cells b z T :: R) := ⟨cs, rfl, h⟩
theorem ov_left (ls ts vs : List Value) (o : Nat) (h : o + vs.length ≤ ls.length) : ov (ls ++ ts) o vs = ov ls o vs ++ ts := by
  rw [ov_eq _ _ _ (by simp; omega), ov_eq _ _ _ h, List.take_append_of_le_length (by omega), List.drop_append_of_le_length h]
  simp
theorem ov_right (ls ts vs : List Value) (o : Nat) (h : o + vs.length ≤ ts.length) : ov (ls ++ ts) (ls.length + o) vs = ls ++ ov ts o vs := by
  rw [ov_eq _ _ _ (by simp; omega), ov_eq _ _ _ h]
  rw [List.take_append, List.take_of_length_le (by omega), List.drop_append, List.drop_of_length_le (by omega)]
  rw [show ls.length + o - ls.length = o by omega, show ls.length + o + vs.length - ls.length = o + vs.length by omega]
  simp
end Go.Sx
namespace Go.Proofs.YtajidlglbkopjaaDoor.Sw
open Go.RowKit Go.Sx

instance arL : Ar Tryd.prog 38 6 2 := ⟨by kernel_rfl⟩
instance arR : Ar Tryd.prog 39 6 29 := ⟨by kernel_rfl⟩
abbrev rfC (pl : Int) (dv : Value) (ls ts : List Value) : List Value := .int .i64 pl :: dv :: (ls ++ ts)
def NumIn (x : Int × RowD) (c : List Value) : Prop := c = [.int .i64 x.1]
def ToRow (H : Fh) (x : Int × RowD) (c : List Value) : Prop := RowIn H x.2 c
/-- The reference's fold, its cells. -/
def RfIn (H : Fh) (f : FoldD) (cs : List Value) : Prop := ∃ dv ls ts, cs = rfC f.place dv ls ts ∧ DocH H dv f.d ∧ f.told.length = 6 ∧ Ch NumIn f.told ls ∧ Ch (ToRow H) f.told ts
theorem NumIn.len : ∀ (x : Int × RowD) (c : List Value), NumIn x c → c.length = 1 := by rintro x c rfl; rfl
theorem ToRow.len {H : Fh} : ∀ (x : Int × RowD) (c : List Value), ToRow H x c → c.length = 5 := fun x c h => RowIn.len x.2 c h
theorem rf_len {H : Fh} {told : List (Int × RowD)} {ls ts : List Value} (h6 : told.length = 6) (hl : Ch NumIn told ls) (ht : Ch (ToRow H) told ts) : ls.length = 6 ∧ ts.length = 30 := by
  have h1 := hl.length NumIn.len
  have h2 := ht.length ToRow.len
  rw [h6] at h1 h2
  exact ⟨by omega, by omega⟩
theorem RfIn.len {H : Fh} {f : FoldD} {cs : List Value} (h : RfIn H f cs) : cs.length = 38 := by
  obtain ⟨dv, ls, ts, rfl, _, h6, hl, ht⟩ := h
  obtain ⟨h1, h2⟩ := rf_len h6 hl ht
  simp [h1, h2]
theorem RfIn.one {H : Fh} {f : FoldD} {cs : List Value} (h : RfIn H f cs) : cs.all (·.oneCell') = true := by
  obtain ⟨dv, ls, ts, rfl, hd, h6, hl, ht⟩ := h
  obtain ⟨dad, dcap, rfl⟩ := hd.slice
  rw [List.all_eq_true]
  intro v hv
  simp only [rfC, List.mem_cons, List.mem_append] at hv
  rcases hv with rfl | rfl | hv | hv
  · rfl
  · rfl
  · exact hl.ones (fun x c hc v hv => by cases hc; simp only [List.mem_singleton] at hv; subst hv; rfl) v hv
  · exact ht.ones (fun x c hc => RowIn.ones x.2 c hc) v hv
theorem RfIn.le {H H' : Fh} {f : FoldD} {cs : List Value} (hle : H.le H') (h : RfIn H f cs) : RfIn H' f cs := by
  obtain ⟨dv, ls, ts, rfl, hd, h6, hl, ht⟩ := h
  exact ⟨dv, ls, ts, rfl, RdH.le hd hle, h6, hl, ht.mono fun x c hc => RowIn.le hle x.2 c hc⟩
theorem lastOf_at {f : FoldD} {c : Int} (h1 : 1 ≤ c) (h5 : c ≤ 5) {x : Int × RowD} (hx : f.told[c.toNat]? = some x) : lastOf f c = x.1 := by
  unfold lastOf
  rw [if_pos ⟨h1, h5⟩, hx]; rfl

set_option maxHeartbeats 16000000 in
theorem ref7_Next (w0 W : World) (H : Fh) (f : FoldD) (bt : BatchD) (cs : List Value) (sv : Value) (R : List Res) (hf : RfIn H f cs) (hd : DocOk f.d) (hb : BatOk bt) (hr : OpsH H sv bt.l) (hw : Has 0 w0 W (Fz H :: R)) :
    Calls Tryd.prog 23 ⟨[.agg ⟨cs⟩, .agg ⟨batCells bt sv⟩]⟩ W fun e W' => ∃ cs' sv' H', e = .returned (.tuple ⟨[.agg ⟨cs'⟩, .agg ⟨rowCells (next f bt).2.1 sv'⟩, .bool (next f bt).2.2]⟩) ∧ H.le H' ∧ RfIn H' (next f bt).1 cs' ∧ OpsH H' sv' (next f bt).2.1.b.l ∧ Has 0 w0 W' (Fz H' :: R) := by
  obtain ⟨sad, scap, rfl⟩ := hr.slice
  have hlen0 := hf.len
  have hone0 := hf.one
  refine enter Tryd.func23 Tryd.ntmps23 rfl rfl fun a hs => ?_
  repeat (first | (refine sxv hs hw ?_; clear hs; intro a hs) | refine sxc hs ?_ | (refine sxa hs hw ?_; clear hs hw; intro a b W hw hs) | (refine sxs hs hw ?_; clear hs hw; intro W hs hw))
  obtain ⟨b5, q5⟩ := nm1 hw; subst q5
  obtain ⟨b4, q4⟩ := nm2 hw; subst q4
  obtain ⟨b3, q3⟩ := nm3 hw; subst q3
  obtain ⟨z4, hz4, hw⟩ := abs2 hw
  replace hz4 : z4.length = 38 := hz4
  obtain ⟨b2, q2⟩ : ∃ b2, Has 0 w0 W (Cells b5 zrc 29 :: Cells b4 z4 41 :: Cells b3 (batCells bt (.slice sad bt.l.length scap)) 26 :: Cells b2 cs 41 :: Fz H :: R) ∧ Slots a 58 [(2, .pointer (some ⟨b2, 0, none⟩)), (3, .pointer (some ⟨b3, 0, none⟩)), (4, .pointer (some ⟨b4, 0, none⟩)), (5, .pointer (some ⟨b5, 0, none⟩)), (6, .bool false)] := ⟨_, hw, hs.of ⟨rfl, rfl, rfl, rfl, rfl, trivial⟩⟩
  clear hs hw
  obtain ⟨hw, hs⟩ := q2
  have back : ∀ (a : Act) (W : World), Slots a 58 [(2, .pointer (some ⟨b2, 0, none⟩)), (4, .pointer (some ⟨b4, 0, none⟩)), (5, .pointer (some ⟨b5, 0, none⟩))] → True := fun _ _ _ => trivial
  clear back
  cases hm : mayB bt with
  | false =>
    have hN : next f bt = (f, zeroRow, false) := by unfold next nextB; rw [hm]; rfl
    rw [hN]
    refine rg_draw (V := [.agg ⟨batCells bt (.slice sad bt.l.length scap)⟩, .bool false, .bool true, .bool true, undef, undef, undef, undef, undef, undef, undef, undef, undef, .bool true])
      (Rs := fun D => Cells b5 zrc 29 :: Cells b4 z4 41 :: Cells b3 (batCells bt (.slice sad bt.l.length scap)) 26 :: Cells b2 cs 41 :: Fz H :: R) hs hw (ho := ⟨?_, ?c1_1, ?_, ?_, ?_, ?_, ?_, ?_, ?_, ?_, ?_, ?_, ?_, ?_, trivial⟩) (k := ?k_1)
    case c1_1 =>
      intro LD D a W hcl hi hp hs hw
      repeat (first | (refine sxv hs hw ?_; clear hs; intro a hs) | refine sxc hs ?_ | (refine sxa hs hw ?_; clear hs hw; intro a b W hw hs) | (refine sxs hs hw ?_; clear hs hw; intro W hs hw))
      refine st_call hs (hc := ref_MayBatch bt.c bt.q bt.l _ _ hb.c hb.q hb.ops (hw.rdH (by repeat (first | exact In.hd | apply In.tl)) hr)) (k := ?_); rintro e0 W1 ⟨rfl, hb⟩; refine ⟨_, rfl, ?_⟩; clear hs; intro a hs; replace hw := hw.below hb; clear hb
      rw [show mayBatch bt.c bt.q bt.l = mayB bt from rfl, hm] at hs
      repeat (first | (refine sxv hs hw ?_; clear hs; intro a hs) | refine sxc hs ?_ | (refine sxa hs hw ?_; clear hs hw; intro a b W hw hs) | (refine sxs hs hw ?_; clear hs hw; intro W hs hw))
      exact ⟨hs, hw⟩
    case k_1 =>
      clear hs hw
      intro a W hs hw
      repeat (first | (refine sxv hs hw ?_; clear hs; intro a hs) | refine sxc hs ?_ | (refine sxa hs hw ?_; clear hs hw; intro a b W hw hs) | (refine sxs hs hw ?_; clear hs hw; intro W hs hw))
      refine st_load_agg hs (hw := hw) (hi := In.tl (In.tl (In.tl In.hd))) (hl := by rw [hlen0]; rfl) (k := ?_); clear hs; intro a hs
      replace hs : Slots a 58 [(24, .agg ⟨cs⟩), (2, .pointer (some ⟨b2, 0, none⟩)), (4, .pointer (some ⟨b4, 0, none⟩)), (5, .pointer (some ⟨b5, 0, none⟩))] := hs.of ⟨congrArg (fun x => some (Value.agg ⟨x⟩)) (cut_all _ 38 hlen0), rfl, rfl, rfl, trivial⟩
      repeat (first | (refine sxv hs hw ?_; clear hs; intro a hs) | refine sxc hs ?_ | (refine sxa hs hw ?_; clear hs hw; intro a b W hw hs) | (refine sxs hs hw ?_; clear hs hw; intro W hs hw))
      refine st_store hs (vs := cs) (hw := hw) (hz := by rw [hlen0]; rfl) (h1 := hone0) (hl := by rw [hlen0, hz4]; rfl) (k := ?_); clear hs hw; intro W hs hw
      rw [ov_all _ _ (by rw [hlen0, hz4])] at hw
      repeat (first | (refine sxv hs hw ?_; clear hs; intro a hs) | refine sxc hs ?_ | (refine sxa hs hw ?_; clear hs hw; intro a b W hw hs) | (refine sxs hs hw ?_; clear hs hw; intro W hs hw))
      refine rk3 hs rfl rfl rfl hw (In.tl In.hd) In.hd (by rw [hlen0]; rfl) rfl rfl ?_
      exact ⟨cs, .slice none 0 0, H, by show Ending.returned (Value.tuple #[.agg ⟨cut cs 0 38⟩, _, .bool false]) = _; rw [cut_all _ _ hlen0]; rfl, Fh.le.refl _, hf, ops_nil H, hw.sub (List.Sublist.cons _ (List.Sublist.cons _ (List.Sublist.cons _ (List.Sublist.cons _ (List.Sublist.refl _)))))⟩
    all_goals
      intro LD D a W hcl hi hp hs hw
      repeat (first | (refine sxv hs hw ?_; clear hs; intro a hs) | refine sxc hs ?_ | (refine sxa hs hw ?_; clear hs hw; intro a b W hw hs) | (refine sxs hs hw ?_; clear hs hw; intro W hs hw))
      exact ⟨hs, hw⟩
  | true =>
  obtain ⟨⟨hc1, hc5⟩, ⟨hq1, hq2⟩, hl8⟩ := may_parts hm
  obtain ⟨dv, ls, ts, rfl, hdv, h6, hls, hts⟩ := hf
  obtain ⟨dad, dcap, rfl⟩ := hdv.slice
  obtain ⟨hll, htl⟩ := rf_len h6 hls hts
  obtain ⟨x, hx⟩ : ∃ x, f.told[bt.c.toNat]? = some x := ⟨f.told[bt.c.toNat]'(by rw [h6]; omega), List.getElem?_eq_getElem _⟩
  have hX := lastOf_at hc1 hc5 hx
  have hat : (rfC f.place (.slice dad f.d.length dcap) ls ts)[0 + 2 + bt.c.toNat * 1]? = some (.int .i64 (lastOf f bt.c)) := by
    obtain ⟨c, h1, h2, h3⟩ := hls.get NumIn.len hx
    rw [show 0 + 2 + bt.c.toNat * 1 = bt.c.toNat * 1 + 1 + 1 by omega]
    show (ls ++ ts)[bt.c.toNat * 1]? = _
    rw [List.getElem?_append_left (by omega)]
    have := congrArg (fun t => t[0]?) h3
    rw [show c = [Value.int .i64 x.1] from h1] at this
    simp only [cut_eq, List.getElem?_take, List.getElem?_drop, Nat.add_zero] at this
    rw [hX]
    simpa using this
  refine rg_draw (V := [.agg ⟨batCells bt (.slice sad bt.l.length scap)⟩, .bool true, .bool false, .bool false, .pointer (some ⟨b3, 0 + 1, none⟩), .int .i64 bt.q, .pointer (some ⟨b3, 0 + 0, none⟩), .int .i64 bt.c, .pointer (some ⟨b2, 0 + 2, none⟩), .pointer (some ⟨b2, 0 + 2 + bt.c.toNat * 1, none⟩), .int .i64 (lastOf f bt.c), .int .i64 (IntKind.i64.wrap (lastOf f bt.c + 1)), .bool (bt.q != IntKind.i64.wrap (lastOf f bt.c + 1)), .bool (bt.q != IntKind.i64.wrap (lastOf f bt.c + 1))])
    (Rs := fun D => Cells b5 zrc 29 :: Cells b4 z4 41 :: Cells b3 (batCells bt (.slice sad bt.l.length scap)) 26 :: Cells b2 (rfC f.place (.slice dad f.d.length dcap) ls ts) 41 :: Fz H :: R) hs hw (ho := ⟨?_, ?c1_2, ?_, ?_, ?_, ?_, ?_, ?_, ?_, ?c9_2, ?c10_2, ?_, ?_, ?_, trivial⟩) (k := ?k_2)
  case c1_2 =>
    intro LD D a W hcl hi hp hs hw
    repeat (first | (refine sxv hs hw ?_; clear hs; intro a hs) | refine sxc hs ?_ | (refine sxa hs hw ?_; clear hs hw; intro a b W hw hs) | (refine sxs hs hw ?_; clear hs hw; intro W hs hw))
    refine st_call hs (hc := ref_MayBatch bt.c bt.q bt.l _ _ hb.c hb.q hb.ops (hw.rdH (by repeat (first | exact In.hd | apply In.tl)) hr)) (k := ?_); rintro e0 W1 ⟨rfl, hb⟩; refine ⟨_, rfl, ?_⟩; clear hs; intro a hs; replace hw := hw.below hb; clear hb
    rw [show mayBatch bt.c bt.q bt.l = mayB bt from rfl, hm] at hs
    repeat (first | (refine sxv hs hw ?_; clear hs; intro a hs) | refine sxc hs ?_ | (refine sxa hs hw ?_; clear hs hw; intro a b W hw hs) | (refine sxs hs hw ?_; clear hs hw; intro W hs hw))
    exact ⟨hs, hw⟩
  case c9_2 =>
    intro LD D a W hcl hi hp hs hw
    repeat (first | (refine sxv hs hw ?_; clear hs; intro a hs) | refine sxc hs ?_ | (refine sxa hs hw ?_; clear hs hw; intro a b W hw hs) | (refine sxs hs hw ?_; clear hs hw; intro W hs hw))
    refine st_index_arr hs (h0 := by omega) (h1 := by omega) (c := ?_); clear hs; intro a hs
    repeat (first | (refine sxv hs hw ?_; clear hs; intro a hs) | refine sxc hs ?_ | (refine sxa hs hw ?_; clear hs hw; intro a b W hw hs) | (refine sxs hs hw ?_; clear hs hw; intro W hs hw))
    exact ⟨hs, hw⟩
  case c10_2 =>
    intro LD D a W hcl hi hp hs hw
    repeat (first | (refine sxv hs hw ?_; clear hs; intro a hs) | refine sxc hs ?_ | (refine sxa hs hw ?_; clear hs hw; intro a b W hw hs) | (refine sxs hs hw ?_; clear hs hw; intro W hs hw))
    refine st_load_one hs (hw := hw) (hi := In.tl (In.tl (In.tl In.hd))) (hv := hat) (k := ?_); clear hs; intro a hs
    repeat (first | (refine sxv hs hw ?_; clear hs; intro a hs) | refine sxc hs ?_ | (refine sxa hs hw ?_; clear hs hw; intro a b W hw hs) | (refine sxs hs hw ?_; clear hs hw; intro W hs hw))
    exact ⟨hs, hw⟩
  case k_2 =>
    clear hs hw
    intro a W hs hw
    replace hw : Has 0 w0 W (Cells b5 zrc 29 :: Cells b4 z4 41 :: Cells b3 (batCells bt (.slice sad bt.l.length scap)) 26 :: Cells b2 (rfC f.place (.slice dad f.d.length dcap) ls ts) 41 :: Fz H :: R) := hw
    replace hs : Slots a 58 [(23, .bool (bt.q != IntKind.i64.wrap (lastOf f bt.c + 1))), (2, .pointer (some ⟨b2, 0, none⟩)), (3, .pointer (some ⟨b3, 0, none⟩)), (4, .pointer (some ⟨b4, 0, none⟩)), (5, .pointer (some ⟨b5, 0, none⟩)), (6, .bool false)] := hs.of ⟨rfl, rfl, rfl, rfl, rfl, rfl, trivial⟩
    repeat (first | (refine sxv hs hw ?_; clear hs; intro a hs) | refine sxc hs ?_ | (refine sxa hs hw ?_; clear hs hw; intro a b W hw hs) | (refine sxs hs hw ?_; clear hs hw; intro W hs hw))
    cases hq : (bt.q != IntKind.i64.wrap (lastOf f bt.c + 1)) with
    | true =>
      have hN : next f bt = (f, zeroRow, false) := by
        unfold next nextB
        have : (bt.q == IntKind.i64.wrap (lastOf f bt.c + 1)) = false := by simpa using hq
        rw [hm, this]; rfl
      rw [hN]
      rw [hq] at hs
      repeat (first | (refine sxv hs hw ?_; clear hs; intro a hs) | refine sxc hs ?_ | (refine sxa hs hw ?_; clear hs hw; intro a b W hw hs) | (refine sxs hs hw ?_; clear hs hw; intro W hs hw))
      refine st_load_agg hs (hw := hw) (hi := In.tl (In.tl (In.tl In.hd))) (hl := by rw [hlen0]; rfl) (k := ?_); clear hs; intro a hs
      replace hs : Slots a 58 [(24, .agg ⟨rfC f.place (.slice dad f.d.length dcap) ls ts⟩), (2, .pointer (some ⟨b2, 0, none⟩)), (4, .pointer (some ⟨b4, 0, none⟩)), (5, .pointer (some ⟨b5, 0, none⟩))] := hs.of ⟨congrArg (fun x => some (Value.agg ⟨x⟩)) (cut_all _ 38 hlen0), rfl, rfl, rfl, trivial⟩
      repeat (first | (refine sxv hs hw ?_; clear hs; intro a hs) | refine sxc hs ?_ | (refine sxa hs hw ?_; clear hs hw; intro a b W hw hs) | (refine sxs hs hw ?_; clear hs hw; intro W hs hw))
      refine st_store hs (vs := rfC f.place (.slice dad f.d.length dcap) ls ts) (hw := hw) (hz := by rw [hlen0]; rfl) (h1 := hone0) (hl := by rw [hlen0, hz4]; rfl) (k := ?_); clear hs hw; intro W hs hw
      rw [ov_all _ _ (by rw [hlen0, hz4])] at hw
      repeat (first | (refine sxv hs hw ?_; clear hs; intro a hs) | refine sxc hs ?_ | (refine sxa hs hw ?_; clear hs hw; intro a b W hw hs) | (refine sxs hs hw ?_; clear hs hw; intro W hs hw))
      refine rk3 hs rfl rfl rfl hw (In.tl In.hd) In.hd (by rw [hlen0]; rfl) rfl rfl ?_
      exact ⟨rfC f.place (.slice dad f.d.length dcap) ls ts, .slice none 0 0, H, by show Ending.returned (Value.tuple #[.agg ⟨cut (rfC f.place (.slice dad f.d.length dcap) ls ts) 0 38⟩, _, .bool false]) = _; rw [cut_all _ _ hlen0]; rfl, Fh.le.refl _, ⟨_, ls, ts, rfl, hdv, h6, hls, hts⟩, ops_nil H, hw.sub (List.Sublist.cons _ (List.Sublist.cons _ (List.Sublist.cons _ (List.Sublist.cons _ (List.Sublist.refl _)))))⟩
    | false =>
    have hN : next f bt = (nextF f bt, nextR f bt, true) := by
      unfold next nextB
      have : (bt.q == IntKind.i64.wrap (lastOf f bt.c + 1)) = true := by simpa using hq
      rw [hm, this]; rfl
    rw [hN]
    rw [hq] at hs
    repeat (first | (refine sxv hs hw ?_; clear hs; intro a hs) | refine sxc hs ?_ | (refine sxa hs hw ?_; clear hs hw; intro a b W hw hs) | (refine sxs hs hw ?_; clear hs hw; intro W hs hw))
    have hw : Has 0 w0 W (Fz H :: Cells b5 zrc 29 :: Cells b4 z4 41 :: Cells b3 (batCells bt (.slice sad bt.l.length scap)) 26 :: Cells b2 (rfC f.place (.slice dad f.d.length dcap) ls ts) 41 :: R) := hw.perm (by repeat (first | exact List.Perm.refl _ | refine perm_pick (by repeat (first | exact Pick.hd | apply Pick.tl)) ?_))
    replace hs : Slots a 58 [(28, .agg ⟨[.slice dad f.d.length dcap]⟩), (30, .slice sad bt.l.length scap), (2, .pointer (some ⟨b2, 0, none⟩)), (3, .pointer (some ⟨b3, 0, none⟩)), (4, .pointer (some ⟨b4, 0, none⟩)), (5, .pointer (some ⟨b5, 0, none⟩)), (6, .bool false)] := hs.of ⟨congrArg (fun x => some (Value.agg ⟨x⟩)) (by rw [cut_eq]; rfl), rfl, rfl, rfl, rfl, rfl, rfl, trivial⟩
    refine st_call hs (hc := ref_Apply w0 _ H f.d _ bt.l _ _ hd hb.ops hdv hr hw) (k := ?_); rintro e0 W1 ⟨nv, H1, rfl, hle, hnv, hw1⟩; refine ⟨_, rfl, ?_⟩; clear hs hw; intro a hs; have hw := hw1; clear hw1
    obtain ⟨nad, ncap, rfl⟩ := hnv.slice
    repeat (first | (refine sxv hs hw ?_; clear hs; intro a hs) | refine sxc hs ?_ | (refine sxa hs hw ?_; clear hs hw; intro a b W hw hs) | (refine sxs hs hw ?_; clear hs hw; intro W hs hw))
    obtain ⟨b9, q9⟩ := nm1 hw; subst q9
    obtain ⟨b7, q7⟩ := nm2 hw; subst q7
    replace hw : Has 0 w0 _ (Cells b9 (rowCells (nextR f bt) (.slice sad bt.l.length scap)) 29 :: Cells b7 [.slice nad (applyL f.d bt.l).2.length ncap] 37 :: Fz H1 :: Cells b5 zrc 29 :: Cells b4 z4 41 :: Cells b3 (batCells bt (.slice sad bt.l.length scap)) 26 :: Cells b2 (ov (ov (rfC f.place (.slice dad f.d.length dcap) ls ts) (0 + 1) [.slice nad (applyL f.d bt.l).2.length ncap]) (0 + 0) [.int .i64 (IntKind.i64.wrap (f.place + 1))]) 41 :: R) := hw
    rw [ov_one, ov_one] at hw
    replace hw : Has 0 w0 _ (Cells b9 (rowCells (nextR f bt) (.slice sad bt.l.length scap)) 29 :: Cells b7 [.slice nad (applyL f.d bt.l).2.length ncap] 37 :: Fz H1 :: Cells b5 zrc 29 :: Cells b4 z4 41 :: Cells b3 (batCells bt (.slice sad bt.l.length scap)) 26 :: Cells b2 (rfC (IntKind.i64.wrap (f.place + 1)) (.slice nad (applyL f.d bt.l).2.length ncap) ls ts) 41 :: R) := hw
    refine st_index_arr hs (h0 := by omega) (h1 := by omega) (c := ?_); clear hs; intro a hs
    refine st_store hs (vs := [.int .i64 bt.q]) (hw := hw) (hl := by show Nat.ble (0 + 2 + bt.c.toNat * 1 + 1) ((ls ++ ts).length + 1 + 1) = true; rw [Nat.ble_eq, List.length_append]; omega) (k := ?_); clear hs hw; intro W hs hw
    have e1 : ov (rfC (IntKind.i64.wrap (f.place + 1)) (.slice nad (applyL f.d bt.l).2.length ncap) ls ts) (0 + 2 + bt.c.toNat * 1) [.int .i64 bt.q] = (rfC (IntKind.i64.wrap (f.place + 1)) (.slice nad (applyL f.d bt.l).2.length ncap) (ov ls (bt.c.toNat * 1) [.int .i64 bt.q]) ts) := by
      rw [show 0 + 2 + bt.c.toNat * 1 = bt.c.toNat * 1 + 1 + 1 by omega]
      exact congrArg (fun t => Value.int .i64 (IntKind.i64.wrap (f.place + 1)) :: (.slice nad (applyL f.d bt.l).2.length ncap) :: t) (ov_left ls ts [.int .i64 bt.q] (bt.c.toNat * 1) (by rw [hll]; show bt.c.toNat * 1 + 1 ≤ 6; omega))
    replace hw : Has 0 w0 W (Cells b9 (rowCells (nextR f bt) (.slice sad bt.l.length scap)) 29 :: Cells b7 [.slice nad (applyL f.d bt.l).2.length ncap] 37 :: Fz H1 :: Cells b5 zrc 29 :: Cells b4 z4 41 :: Cells b3 (batCells bt (.slice sad bt.l.length scap)) 26 :: Cells b2 (rfC (IntKind.i64.wrap (f.place + 1)) (.slice nad (applyL f.d bt.l).2.length ncap) (ov ls (bt.c.toNat * 1) [.int .i64 bt.q]) ts) 41 :: R) := e1 ▸ hw
    have hls2 : Ch NumIn (f.told.set bt.c.toNat (bt.q, nextR f bt)) (ov ls (bt.c.toNat * 1) [.int .i64 bt.q]) := hls.set NumIn.len (by rw [h6]; omega) rfl
    have hr1 := hr.le hle
    have hts2 : Ch (ToRow H1) (f.told.set bt.c.toNat (bt.q, nextR f bt)) (ov ts (bt.c.toNat * 5) (rowCells (nextR f bt) (.slice sad bt.l.length scap))) := (hts.mono fun x c hc => RowIn.le hle x.2 c hc).set ToRow.len (by rw [h6]; omega) ⟨_, rfl, hr1⟩
    have h62 : (f.told.set bt.c.toNat (bt.q, nextR f bt)).length = 6 := by rw [List.length_set]; exact h6
    obtain ⟨hll2, htl2⟩ := rf_len h62 hls2 hts2
    repeat (first | (refine sxv hs hw ?_; clear hs; intro a hs) | refine sxc hs ?_ | (refine sxa hs hw ?_; clear hs hw; intro a b W hw hs) | (refine sxs hs hw ?_; clear hs hw; intro W hs hw))
    refine st_index_arr hs (h0 := by omega) (h1 := by omega) (c := ?_); clear hs; intro a hs
    refine st_store hs (vs := (rowCells (nextR f bt) (.slice sad bt.l.length scap))) (hw := hw) (hl := by show Nat.ble (0 + 8 + bt.c.toNat * 5 + 5) (((ov ls (bt.c.toNat * 1) [.int .i64 bt.q]) ++ ts).length + 1 + 1) = true; rw [Nat.ble_eq, List.length_append]; omega) (k := ?_); clear hs hw; intro W hs hw
    have e2 : ov (rfC (IntKind.i64.wrap (f.place + 1)) (.slice nad (applyL f.d bt.l).2.length ncap) (ov ls (bt.c.toNat * 1) [.int .i64 bt.q]) ts) (0 + 8 + bt.c.toNat * 5) (rowCells (nextR f bt) (.slice sad bt.l.length scap)) = (rfC (IntKind.i64.wrap (f.place + 1)) (.slice nad (applyL f.d bt.l).2.length ncap) (ov ls (bt.c.toNat * 1) [.int .i64 bt.q]) (ov ts (bt.c.toNat * 5) (rowCells (nextR f bt) (.slice sad bt.l.length scap)))) := by
      rw [show 0 + 8 + bt.c.toNat * 5 = ((ov ls (bt.c.toNat * 1) [.int .i64 bt.q]).length + bt.c.toNat * 5) + 1 + 1 by omega]
      exact congrArg (fun t => Value.int .i64 (IntKind.i64.wrap (f.place + 1)) :: (.slice nad (applyL f.d bt.l).2.length ncap) :: t) (ov_right (ov ls (bt.c.toNat * 1) [.int .i64 bt.q]) ts (rowCells (nextR f bt) (.slice sad bt.l.length scap)) (bt.c.toNat * 5) (by rw [htl]; show bt.c.toNat * 5 + 5 ≤ 30; omega))
    replace hw : Has 0 w0 W (Cells b9 (rowCells (nextR f bt) (.slice sad bt.l.length scap)) 29 :: Cells b7 [.slice nad (applyL f.d bt.l).2.length ncap] 37 :: Fz H1 :: Cells b5 zrc 29 :: Cells b4 z4 41 :: Cells b3 (batCells bt (.slice sad bt.l.length scap)) 26 :: Cells b2 (rfC (IntKind.i64.wrap (f.place + 1)) (.slice nad (applyL f.d bt.l).2.length ncap) (ov ls (bt.c.toNat * 1) [.int .i64 bt.q]) (ov ts (bt.c.toNat * 5) (rowCells (nextR f bt) (.slice sad bt.l.length scap)))) 41 :: R) := e2 ▸ hw
    have hnew : RfIn H1 (nextF f bt) (rfC (IntKind.i64.wrap (f.place + 1)) (.slice nad (applyL f.d bt.l).2.length ncap) (ov ls (bt.c.toNat * 1) [.int .i64 bt.q]) (ov ts (bt.c.toNat * 5) (rowCells (nextR f bt) (.slice sad bt.l.length scap)))) := ⟨_, _, _, rfl, hnv, h62, hls2, hts2⟩
    have hlenN := hnew.len
    have honeN := hnew.one
    obtain ⟨cN, hcN⟩ : ∃ c, c = (rfC (IntKind.i64.wrap (f.place + 1)) (.slice nad (applyL f.d bt.l).2.length ncap) (ov ls (bt.c.toNat * 1) [.int .i64 bt.q]) (ov ts (bt.c.toNat * 5) (rowCells (nextR f bt) (.slice sad bt.l.length scap)))) := ⟨_, rfl⟩
    rw [← hcN] at hw hnew hlenN honeN
    replace hs : Slots a 58 [(2, .pointer (some ⟨b2, 0, none⟩)), (4, .pointer (some ⟨b4, 0, none⟩)), (5, .pointer (some ⟨b5, 0, none⟩)), (6, .bool false), (9, .pointer (some ⟨b9, 0, none⟩))] := hs.of ⟨rfl, rfl, rfl, rfl, rfl, trivial⟩
    repeat (first | (refine sxv hs hw ?_; clear hs; intro a hs) | refine sxc hs ?_ | (refine sxa hs hw ?_; clear hs hw; intro a b W hw hs) | (refine sxs hs hw ?_; clear hs hw; intro W hs hw))
    refine rg_draw (V := [.agg ⟨cN⟩, .agg ⟨(rowCells (nextR f bt) (.slice sad bt.l.length scap))⟩, .bool true, .bool true, .bool true])
      (Rs := fun D => Cells b9 (rowCells (nextR f bt) (.slice sad bt.l.length scap)) 29 :: Cells b7 [.slice nad (applyL f.d bt.l).2.length ncap] 37 :: Fz H1 :: Cells b5 (if D 3 then (rowCells (nextR f bt) (.slice sad bt.l.length scap)) else zrc) 29 :: Cells b4 (if D 2 then cN else z4) 41 :: Cells b3 (batCells bt (.slice sad bt.l.length scap)) 26 :: Cells b2 cN 41 :: R) hs hw (ho := ⟨?c0_3, ?_, ?c2_3, ?c3_3, ?_, trivial⟩) (k := ?k_3)
    case c0_3 =>
      intro LD D a W hcl hi hp hs hw
      refine st_load_agg hs (hw := hw) (hi := In.tl (In.tl (In.tl (In.tl (In.tl (In.tl In.hd)))))) (hl := by rw [hlenN]; rfl) (k := ?_); clear hs; intro a hs
      have hs2 : Slots a 58 ((56, .agg ⟨cut cN 0 38⟩) :: _) := hs
      rw [cut_all _ _ hlenN] at hs2
      repeat (first | (refine sxv hs hw ?_; clear hs; intro a hs) | refine sxc hs ?_ | (refine sxa hs hw ?_; clear hs hw; intro a b W hw hs) | (refine sxs hs hw ?_; clear hs hw; intro W hs hw))
      exact ⟨hs2, hw⟩
    case c2_3 =>
      intro LD D a W hcl hi hp hs hw
      simp only [hi, Bool.false_eq_true, if_false] at hw
      refine st_store hs (vs := cN) (hw := hw) (hz := by rw [hlenN]; rfl) (h1 := honeN) (hl := by rw [hlenN, hz4]; rfl) (k := ?_); clear hs hw; intro W hs hw
      rw [ov_all _ _ (by rw [hlenN, hz4])] at hw
      repeat (first | (refine sxv hs hw ?_; clear hs; intro a hs) | refine sxc hs ?_ | (refine sxa hs hw ?_; clear hs hw; intro a b W hw hs) | (refine sxs hs hw ?_; clear hs hw; intro W hs hw))
      exact ⟨hs, hw⟩
    case c3_3 =>
      intro LD D a W hcl hi hp hs hw
      simp only [hi, Bool.false_eq_true, if_false] at hw
      repeat (first | (refine sxv hs hw ?_; clear hs; intro a hs) | refine sxc hs ?_ | (refine sxa hs hw ?_; clear hs hw; intro a b W hw hs) | (refine sxs hs hw ?_; clear hs hw; intro W hs hw))
      exact ⟨hs, hw⟩
    case k_3 =>
      clear hs hw
      intro a W hs hw
      replace hw : Has 0 w0 W (Cells b9 (rowCells (nextR f bt) (.slice sad bt.l.length scap)) 29 :: Cells b7 [.slice nad (applyL f.d bt.l).2.length ncap] 37 :: Fz H1 :: Cells b5 (rowCells (nextR f bt) (.slice sad bt.l.length scap)) 29 :: Cells b4 cN 41 :: Cells b3 (batCells bt (.slice sad bt.l.length scap)) 26 :: Cells b2 cN 41 :: R) := hw
      repeat (first | (refine sxv hs hw ?_; clear hs; intro a hs) | refine sxc hs ?_ | (refine sxa hs hw ?_; clear hs hw; intro a b W hw hs) | (refine sxs hs hw ?_; clear hs hw; intro W hs hw))
      refine rk3 hs rfl rfl rfl hw (In.tl (In.tl (In.tl (In.tl In.hd)))) (In.tl (In.tl (In.tl In.hd))) (by rw [hlenN]; rfl) rfl rfl ?_
      refine ⟨cN, .slice sad bt.l.length scap, H1, ?_, hle, hnew, hr1, (hw.perm (B := Fz H1 :: Cells b9 (rowCells (nextR f bt) (.slice sad bt.l.length scap)) 29 :: Cells b7 [.slice nad (applyL f.d bt.l).2.length ncap] 37 :: Cells b5 (rowCells (nextR f bt) (.slice sad bt.l.length scap)) 29 :: Cells b4 cN 41 :: Cells b3 (batCells bt (.slice sad bt.l.length scap)) 26 :: Cells b2 cN 41 :: R) (by repeat (first | exact List.Perm.refl _ | refine perm_pick (by repeat (first | exact Pick.hd | apply Pick.tl)) ?_))).sub (List.Sublist.cons_cons _ (List.Sublist.cons _ (List.Sublist.cons _ (List.Sublist.cons _ (List.Sublist.cons _ (List.Sublist.cons _ (List.Sublist.cons _ (List.Sublist.refl _))))))))⟩
      show Ending.returned (Value.tuple #[.agg ⟨cut cN 0 38⟩, _, .bool true]) = _
      rw [cut_all _ _ hlenN]
      rfl
    all_goals
      intro LD D a W hcl hi hp hs hw
      repeat (first | (refine sxv hs hw ?_; clear hs; intro a hs) | refine sxc hs ?_ | (refine sxa hs hw ?_; clear hs hw; intro a b W hw hs) | (refine sxs hs hw ?_; clear hs hw; intro W hs hw))
      exact ⟨hs, hw⟩
  all_goals
    intro LD D a W hcl hi hp hs hw
    repeat (first | (refine sxv hs hw ?_; clear hs; intro a hs) | refine sxc hs ?_ | (refine sxa hs hw ?_; clear hs hw; intro a b W hw hs) | (refine sxs hs hw ?_; clear hs hw; intro W hs hw))
    exact ⟨hs, hw⟩
end Go.Proofs.YtajidlglbkopjaaDoor.Sw

/-
  The walk of packhorselaw5.CutBatch.
-/
set_option linter.unusedVariables false
set_option maxRecDepth 10000
namespace Go.Proofs.YtajidlglbkopjaaDoor.Sw
open Go.RowKit Go.Sx

set_option maxHeartbeats 4000000 in
theorem law5_CutBatch (c q : Int) (l : List OpD) (sv : Value) (w : World) (hz : ∀ o ∈ l, o.key.size ≤ 9223372036854775807 ∧ o.vs.size ≤ 9223372036854775807 ∧ o.os.size ≤ 9223372036854775807) (r : Rd w 9 sv l.length (l.flatMap opCells)) :
    Calls Tryd.prog 19 ⟨[.agg ⟨[.int .i64 c, .int .i64 q, sv]⟩]⟩ w fun e w' => ∃ ad cap, e = .returned (.agg ⟨[.int .i64 c, .int .i64 q, .slice ad (cutD l).length cap]⟩) ∧ Has 0 w w' (Sx.Own 60 9 (.slice ad (cutD l).length cap) (cutD l).length ((cutD l).flatMap opCells) :: Old w 0 :: []) := by
  have hw := Has.start (G := 0) (w := w) (Nat.zero_le _)
  obtain ⟨sad, scap, rfl⟩ : ∃ ad cap, sv = .slice ad l.length cap := by obtain ⟨_, ad, cap, e, _⟩ := r; exact ⟨ad, cap, e⟩
  refine enter Tryd.func19 Tryd.ntmps19 rfl rfl fun a hs => ?_
  repeat (first | (refine sxv hs hw ?_; clear hs; intro a hs) | refine sxc hs ?_ | (refine sxa hs hw ?_; clear hs hw; intro a b W hw hs) | (refine sxs hs hw ?_; clear hs hw; intro W hs hw))
  refine st_call hs (hc := law5_Cut l _ _ hz (hw.rd (by repeat (first | exact In.hd | apply In.tl)) hw.ext.size r)) (k := ?_); rintro e0 W1 ⟨ad, cap, rfl, hw1⟩; refine ⟨_, rfl, ?_⟩; clear hs; intro a hs; replace hw := hw.call hw1; clear hw1
  repeat (first | (refine sxv hs hw ?_; clear hs; intro a hs) | refine sxc hs ?_ | (refine sxa hs hw ?_; clear hs hw; intro a b W hw hs) | (refine sxs hs hw ?_; clear hs hw; intro W hs hw))
  refine rc1 hs rfl rfl hw (In.tl In.hd) rfl ?_
  exact ⟨ad, cap, rfl, hw.drop2.drop2⟩
end Go.Proofs.YtajidlglbkopjaaDoor.Sw

/-
  Batches cut; the reference's All; the rows of batches.
-/
set_option linter.unusedVariables false
set_option maxRecDepth 10000
namespace Go.Sx
theorem ch_atH {α : Type} {Rr : α → List Value → Prop} {H : Fh} {sad : Option Addr} {scap n k : Nat} {l : List α} {xs : List Value} {i : Nat} {o : α} (hk : ∀ a c, Rr a c → c.length = k) (r : RdH H k (.slice sad n scap) n xs) (hc : Ch Rr l xs) (hn : l.length = n) (h : l[i]? = some o) :
    ∃ g off c, sad = some ⟨g, off, none⟩ ∧ Rr o c ∧ ∀ {G : Nat} {w0 W : World} {L : List Res}, In (Fz H) L → Has G w0 W L → ∀ j u, c[j]? = some u → W.cell? ⟨g, off + i * k + j, none⟩ = some u := by
  have hi : i < l.length := (List.getElem?_eq_some_iff.1 h).1
  obtain ⟨c, h1, h2, h3⟩ := hc.get hk h
  obtain ⟨_, ad, cap, e, h4, h5, h6⟩ := r
  injection e with e1 e2 e3
  subst e1
  rcases h6 with h6 | ⟨b, off, cs, T, z, rfl, hb, hcell⟩
  · omega
  · refine ⟨b, off, c, rfl, h1, fun {G w0 W L} hin hw j u hu => ?_⟩
    obtain ⟨F, hF, hfz⟩ := hw.of_in hin
    have hbl := (hfz b _ hb).2
    unfold World.cell?
    rw [hbl]
    rw [← h3, cut_eq, List.getElem?_take] at hu
    split at hu
    · rw [List.getElem?_drop] at hu
      have := hcell _ _ hu
      rw [← Nat.add_assoc] at this
      simpa using this
    · cases hu
end Go.Sx
namespace Go.Proofs.YtajidlglbkopjaaDoor.Sw
open Go.RowKit Go.Sx

structure BatWf (b : BatchD) : Prop where
  c : (Lit.int .i64 b.c).wf = true
  q : (Lit.int .i64 b.q).wf = true
  ops : ∀ o ∈ b.l, OpWf o
def cutB (b : BatchD) : BatchD := ⟨b.c, b.q, cutD b.l⟩
def batsB (l : List BatchD) (n : Nat) : List BatchD := (l.take n).map cutB
theorem cutB_ok {b : BatchD} (h : BatWf b) : BatOk (cutB b) := ⟨wf_i64 h.c, wf_i64 h.q, cutD_ok h.ops⟩
theorem batsB_ok {l : List BatchD} (h : ∀ b ∈ l, BatWf b) (n : Nat) : ∀ b ∈ batsB l n, BatOk b := by
  intro b hb
  obtain ⟨x, hx, rfl⟩ := List.mem_map.1 hb
  exact cutB_ok (h x (List.mem_of_mem_take hx))
/-- A slice of batches that is frozen. -/
def BatsH (H : Fh) (v : Value) (l : List BatchD) : Prop := ∃ xs, RdH H 3 v l.length xs ∧ Ch (BatIn H) l xs
theorem BatsH.le {H H' : Fh} {v : Value} {l : List BatchD} (h : H.le H') (r : BatsH H v l) : BatsH H' v l := by
  obtain ⟨xs, h1, h2⟩ := r
  exact ⟨xs, h1.le h, h2.mono (BatIn.le h)⟩

set_option maxHeartbeats 8000000 in
theorem law7_Batches (w0 W : World) (H : Fh) (l : List BatchD) (v : Value) (n : Nat) (R : List Res) (hn : n ≤ 1000) (hb : ∀ b ∈ l, BatWf b) (hr : BatsH H v l) (hw : Has 0 w0 W (Fz H :: R)) :
    Calls Tryd.prog 9 ⟨[v, .int .i64 (n : Int)]⟩ W fun e W' => ∃ v' H', e = .returned v' ∧ H.le H' ∧ BatsH H' v' (batsB l n) ∧ Has 0 w0 W' (Fz H' :: R) := by
  obtain ⟨xs, hr, hch⟩ := hr
  obtain ⟨sad, scap, rfl⟩ := hr.slice
  have hlen := hr.len
  refine enter Tryd.func9 Tryd.ntmps9 rfl rfl fun a hs => ?_
  repeat (first | (refine sxv hs hw ?_; clear hs; intro a hs) | refine sxc hs ?_ | (refine sxa hs hw ?_; clear hs hw; intro a b W hw hs) | (refine sxs hs hw ?_; clear hs hw; intro W hs hw))
  have hw := hw.nilOwn 26 3
  refine st_loop (σ := Nat × Option Addr × Nat × List Value × Fh) (fun t => [(0, .slice sad l.length scap), (1, .int .i64 (n : Int)), (6, .int .i64 (t.1 : Int)), (5, .slice t.2.1 (batsB l t.1).length t.2.2.1)]) (fun t => Sx.Own 26 3 (.slice t.2.1 (batsB l t.1).length t.2.2.1) (batsB l t.1).length t.2.2.2.1 :: Fz t.2.2.2.2 :: R) (fun t => t.1 ≤ l.length ∧ t.1 ≤ n ∧ H.le t.2.2.2.2 ∧ Ch (BatIn t.2.2.2.2) (batsB l t.1) t.2.2.2.1) (fun t => l.length - t.1) (0, none, 0, [], H) ⟨Nat.zero_le _, Nat.zero_le _, Fh.le.refl _, rfl⟩ hs ⟨rfl, rfl, rfl, rfl, trivial⟩ hw ?_
  clear hs hw
  rintro ⟨j, oad, ocap, ys, H'⟩ a W ⟨hj, hjn, hH', hch2⟩ hs hw
  simp only at hj hjn hH' hch2 hs hw
  have fin : batsB l j = batsB l n → ∀ (a : Act) (W : World), Slots a 27 [(5, .slice oad (batsB l j).length ocap)] → Has 0 w0 W (Sx.Own 26 3 (.slice oad (batsB l j).length ocap) (batsB l j).length ys :: Fz H' :: R) → ∃ H2, H.le H2 ∧ BatsH H2 (.slice oad (batsB l j).length ocap) (batsB l n) ∧ Has 0 w0 W (Fz H2 :: R) := by
    intro he a W hs hw
    obtain ⟨H2, h1, h2, h3⟩ := hw.freeze_own
    refine ⟨H2, hH'.trans h1, ⟨ys, he ▸ h3, he ▸ (hch2.mono (BatIn.le h1))⟩, h2⟩
  repeat (first | (refine sxv hs hw ?_; clear hs; intro a hs) | refine sxc hs ?_ | (refine sxa hs hw ?_; clear hs hw; intro a b W hw hs) | (refine sxs hs hw ?_; clear hs hw; intro W hs hw))
  cases hc1 : decide ((j : Int) < (l.length : Int)) with
  | false =>
    rw [hc1] at hs
    have hj' : j = l.length := by have := of_decide_eq_false hc1; omega
    repeat (first | (refine sxv hs hw ?_; clear hs; intro a hs) | refine sxc hs ?_ | (refine sxa hs hw ?_; clear hs hw; intro a b W hw hs) | (refine sxs hs hw ?_; clear hs hw; intro W hs hw))
    obtain ⟨H2, h1, h2, h3⟩ := fin (by unfold batsB; rw [List.take_of_length_le (by omega), List.take_of_length_le (by omega)]) a W (hs.of ⟨rfl, trivial⟩) hw
    exact rt1 hs rfl rfl ⟨_, H2, rfl, h1, h2, h3⟩
  | true =>
  rw [hc1] at hs
  have hj' : j < l.length := by have := of_decide_eq_true hc1; omega
  repeat (first | (refine sxv hs hw ?_; clear hs; intro a hs) | refine sxc hs ?_ | (refine sxa hs hw ?_; clear hs hw; intro a b W hw hs) | (refine sxs hs hw ?_; clear hs hw; intro W hs hw))
  cases hc2 : decide ((j : Int) < (n : Int)) with
  | false =>
    rw [hc2] at hs
    have hjn' : j = n := by have := of_decide_eq_false hc2; omega
    repeat (first | (refine sxv hs hw ?_; clear hs; intro a hs) | refine sxc hs ?_ | (refine sxa hs hw ?_; clear hs hw; intro a b W hw hs) | (refine sxs hs hw ?_; clear hs hw; intro W hs hw))
    obtain ⟨H2, h1, h2, h3⟩ := fin (by rw [hjn']) a W (hs.of ⟨rfl, trivial⟩) hw
    exact rt1 hs rfl rfl ⟨_, H2, rfl, h1, h2, h3⟩
  | true =>
  rw [hc2] at hs
  have hjn' : j < n := by have := of_decide_eq_true hc2; omega
  clear fin
  obtain ⟨bt, hbi⟩ : ∃ o, l[j]? = some o := ⟨l[j], List.getElem?_eq_getElem hj'⟩
  have hok := hb bt (List.mem_of_getElem? hbi)
  have hnext : batsB l (j + 1) = batsB l j ++ [cutB bt] := by
    unfold batsB
    rw [take_of hbi, List.map_append]; rfl
  have htk : (batsB l j).length ≤ 1000 := by unfold batsB; rw [List.length_map, List.length_take]; omega
  repeat (first | (refine sxv hs hw ?_; clear hs; intro a hs) | refine sxc hs ?_ | (refine sxa hs hw ?_; clear hs hw; intro a b W hw hs) | (refine sxs hs hw ?_; clear hs hw; intro W hs hw))
  refine st_index_ch hs (r := hw.rdH (by repeat (first | exact In.hd | apply In.tl)) (hr.le hH')) (hk := BatIn.len) (ch := hch.mono (BatIn.le hH')) (ho := hbi) (hlen := rfl) (c := ?_); clear hs; intro a g off c hc hcl hpc hlt hs
  obtain ⟨bv, rfl, hbv⟩ := hc
  refine st_load_ats hs (cs := batCells bt bv) (hc := hpc) (hl := by rfl) (c := ?_); clear hs; intro a hs
  clear hpc
  refine st_call hs (hc := law5_CutBatch bt.c bt.q bt.l bv _ (wf_sizes hok.ops) (hw.rdH (by repeat (first | exact In.hd | apply In.tl)) hbv)) (k := ?_); rintro e0 W1 ⟨nad, ncap, rfl, hw1⟩; refine ⟨_, rfl, ?_⟩; clear hs; intro a hs; replace hw := hw.call hw1; clear hw1
  have hw : Has 0 w0 _ (Sx.Own 60 9 (.slice nad (cutD bt.l).length ncap) (cutD bt.l).length ((cutD bt.l).flatMap opCells) :: Fz H' :: Sx.Own 26 3 (.slice oad (batsB l j).length ocap) (batsB l j).length ys :: R) := hw.perm (by repeat (first | exact List.Perm.refl _ | refine perm_pick (by repeat (first | exact Pick.hd | apply Pick.tl)) ?_))
  obtain ⟨H2, hle, hw, hnv⟩ := hw.freeze_own
  repeat (first | (refine sxv hs hw ?_; clear hs; intro a hs) | refine sxc hs ?_ | (refine sxa hs hw ?_; clear hs hw; intro a b W hw hs) | (refine sxs hs hw ?_; clear hs hw; intro W hs hw))
  obtain ⟨bx, qx⟩ := nm1 hw; subst qx
  have hw : Has 0 w0 _ (Sx.Own 26 3 (.slice oad (batsB l j).length ocap) (batsB l j).length ys :: Cells bx (batCells (cutB bt) (.slice nad (cutD bt.l).length ncap)) 26 :: Fz H2 :: R) := hw.perm (by repeat (first | exact List.Perm.refl _ | refine perm_pick (by repeat (first | exact Pick.hd | apply Pick.tl)) ?_))
  refine st_append1 hs (hw := hw) (hi := In.hd) (ch := hch2.mono (BatIn.le hle)) (ha := (⟨_, rfl, hnv⟩ : BatIn H2 (cutB bt) (batCells (cutB bt) (.slice nad (cutD bt.l).length ncap)))) (hl := rfl) (h1 := rfl) (hb := by omega) (h63 := by omega) (k := ?_)
  clear hs hw; intro a ad2 cap2 W hs hw hc2
  rw [← hnext] at hs hw hc2
  repeat (first | (refine sxv hs hw ?_; clear hs; intro a hs) | refine sxc hs ?_ | (refine sxa hs hw ?_; clear hs hw; intro a b W hw hs) | (refine sxs hs hw ?_; clear hs hw; intro W hs hw))
  exact st_again (j + 1, ad2, cap2, ys ++ batCells (cutB bt) (.slice nad (cutD bt.l).length ncap), H2) hs hw.drop2 ⟨hj', hjn', hH'.trans hle, hc2⟩ (by show l.length - (j + 1) < l.length - j; omega) ⟨rfl, rfl, int_eq (by show IntKind.i64.wrap ((j : Int) + 1) = ((j + 1 : Nat) : Int); rw [IntWalk.i64_in _ (by omega)]; omega), rfl, trivial⟩

abbrev zrf : List Value := [.int .i64 0, .slice none 0 0, .int .i64 0, .int .i64 0, .int .i64 0, .int .i64 0, .int .i64 0, .int .i64 0, .int .i64 0, .int .i64 0, .int .i64 0, .slice none 0 0, .int .i64 0, .int .i64 0, .int .i64 0, .int .i64 0, .slice none 0 0, .int .i64 0, .int .i64 0, .int .i64 0, .int .i64 0, .slice none 0 0, .int .i64 0, .int .i64 0, .int .i64 0, .int .i64 0, .slice none 0 0, .int .i64 0, .int .i64 0, .int .i64 0, .int .i64 0, .slice none 0 0, .int .i64 0, .int .i64 0, .int .i64 0, .int .i64 0, .slice none 0 0, .int .i64 0]
theorem rf_empty (H : Fh) : RfIn H emptyF zrf := by
  have z : ToRow H (0, zeroRow) zrc := ⟨_, rfl, ops_nil H⟩
  have y : NumIn (0, zeroRow) [.int .i64 0] := rfl
  refine ⟨.slice none 0 0, List.replicate 6 (.int .i64 0), zrc ++ (zrc ++ (zrc ++ (zrc ++ (zrc ++ (zrc ++ []))))), by with_unfolding_all exact rfl, RdH.nil H 4 0 (by omega), rfl, ?_, ?_⟩
  · exact ⟨_, _, rfl, y, _, _, rfl, y, _, _, rfl, y, _, _, rfl, y, _, _, rfl, y, _, _, rfl, y, rfl⟩
  · exact ⟨_, _, rfl, z, _, _, rfl, z, _, _, rfl, z, _, _, rfl, z, _, _, rfl, z, _, _, rfl, z, rfl⟩
/-- The fold of batches, and the rows of those that came next. -/
def allF (f : FoldD) (rows : List RowD) : List BatchD → FoldD × List RowD
  | [] => (f, rows)
  | b :: l => match (next f b).2.2 with | true => allF (next f b).1 (rows ++ [(next f b).2.1]) l | false => allF f rows l
theorem next_doc {f : FoldD} {b : BatchD} (h : DocOk f.d) (hb : BatOk b) : DocOk (next f b).1.d := by
  unfold next
  cases nextB f b with
  | true => exact applyL_ok h hb.ops
  | false => exact h
theorem next_no {f : FoldD} {b : BatchD} (h : (next f b).2.2 = false) : (next f b).1 = f := by
  unfold next at *
  cases hb : nextB f b with
  | true => rw [hb] at h; cases h
  | false => rfl

set_option maxHeartbeats 16000000 in
theorem ref7_All (w0 W : World) (H : Fh) (l : List BatchD) (v : Value) (R : List Res) (hl : l.length ≤ 1000) (hb : ∀ b ∈ l, BatOk b) (hr : BatsH H v l) (hw : Has 0 w0 W (Fz H :: R)) :
    Calls Tryd.prog 25 ⟨[v]⟩ W fun e W' => ∃ cs ad cap ys H', e = .returned (.tuple ⟨[.agg ⟨cs⟩, .slice ad (allF emptyF [] l).2.length cap]⟩) ∧ H.le H' ∧ RfIn H' (allF emptyF [] l).1 cs ∧ Ch (RowIn H') (allF emptyF [] l).2 ys ∧ Has 0 w0 W' (Sx.Own 29 5 (.slice ad (allF emptyF [] l).2.length cap) (allF emptyF [] l).2.length ys :: Fz H' :: R) := by
  obtain ⟨xs, hr, hch⟩ := hr
  obtain ⟨sad, scap, rfl⟩ := hr.slice
  have hlen := hr.len
  refine enter Tryd.func25 Tryd.ntmps25 rfl rfl fun a hs => ?_
  repeat (first | (refine sxv hs hw ?_; clear hs; intro a hs) | refine sxc hs ?_ | (refine sxa hs hw ?_; clear hs hw; intro a b W hw hs) | (refine sxs hs hw ?_; clear hs hw; intro W hs hw))
  have hw := hw.nilOwn 29 5
  obtain ⟨b4, q4⟩ := nm2 hw; subst q4
  obtain ⟨b2, q2⟩ := nm3 hw; subst q2
  replace hw : Has 0 w0 W (Sx.Own 29 5 (.slice none 0 0) 0 [] :: Cells b4 zrf 41 :: Cells b2 zrf 41 :: Fz H :: R) := by with_unfolding_all exact hw
  refine st_loop (σ := Nat × FoldD × List Value × List RowD × Option Addr × Nat × List Value × Fh) (fun t => [(0, .slice sad l.length scap), (2, .pointer (some ⟨b2, 0, none⟩)), (4, .pointer (some ⟨b4, 0, none⟩)), (6, .int .i64 (t.1 : Int)), (5, .slice t.2.2.2.2.1 t.2.2.2.1.length t.2.2.2.2.2.1)]) (fun t => Sx.Own 29 5 (.slice t.2.2.2.2.1 t.2.2.2.1.length t.2.2.2.2.2.1) t.2.2.2.1.length t.2.2.2.2.2.2.1 :: Cells b4 t.2.2.1 41 :: Cells b2 zrf 41 :: Fz t.2.2.2.2.2.2.2 :: R) (fun t => t.1 ≤ l.length ∧ t.2.2.2.1.length ≤ t.1 ∧ DocOk t.2.1.d ∧ H.le t.2.2.2.2.2.2.2 ∧ RfIn t.2.2.2.2.2.2.2 t.2.1 t.2.2.1 ∧ Ch (RowIn t.2.2.2.2.2.2.2) t.2.2.2.1 t.2.2.2.2.2.2.1 ∧ allF t.2.1 t.2.2.2.1 (l.drop t.1) = allF emptyF [] l) (fun t => l.length - t.1) (0, emptyF, zrf, [], none, 0, [], H) ⟨Nat.zero_le _, Nat.zero_le _, DocOk.nil, Fh.le.refl _, rf_empty H, rfl, rfl⟩ hs ⟨rfl, rfl, rfl, rfl, rfl, trivial⟩ hw ?_
  clear hs hw
  rintro ⟨j, f, cs, rows, oad, ocap, ys, H'⟩ a W ⟨hj, hrl, hd, hH', hf, hch2, hgo⟩ hs hw
  simp only at hj hrl hd hH' hf hch2 hgo hs hw
  have hlen0 := hf.len
  have hone0 := hf.one
  repeat (first | (refine sxv hs hw ?_; clear hs; intro a hs) | refine sxc hs ?_ | (refine sxa hs hw ?_; clear hs hw; intro a b W hw hs) | (refine sxs hs hw ?_; clear hs hw; intro W hs hw))
  refine cd_split hs (kt := fun hcc => ?_) (kf := fun hcc => ?_)
  · have hj' : j < l.length := by simpa using hcc
    obtain ⟨bt, hbi⟩ : ∃ o, l[j]? = some o := ⟨l[j], List.getElem?_eq_getElem hj'⟩
    have hok := hb bt (List.mem_of_getElem? hbi)
    rw [drop_of hbi] at hgo
    simp only [allF] at hgo
    obtain ⟨g1, f1, c1, rfl, ⟨bv, rfl, hbv⟩, hrow⟩ := ch_atH BatIn.len (hr.le hH') (hch.mono (BatIn.le hH')) rfl hbi
    obtain ⟨N, hN⟩ : ∃ N, next f bt = N := ⟨_, rfl⟩
    have hdn := next_doc hd hok
    have hno := fun h => next_no (f := f) (b := bt) h
    rw [hN] at hgo hdn hno
    repeat (first | (refine sxv hs hw ?_; clear hs; intro a hs) | refine sxc hs ?_ | (refine sxa hs hw ?_; clear hs hw; intro a b W hw hs) | (refine sxs hs hw ?_; clear hs hw; intro W hs hw))
    have hw : Has 0 w0 W (Fz H' :: Cells b4 cs 41 :: Free :: Free :: Free :: Free :: Free :: Sx.Own 29 5 (.slice oad rows.length ocap) rows.length ys :: Cells b2 zrf 41 :: R) := (hw.free.free.free.free.free).perm (by repeat (first | exact List.Perm.refl _ | refine perm_pick (by repeat (first | exact Pick.hd | apply Pick.tl)) ?_))
    refine rg_drawU (σ := List Value × Value × Fh × Nat) (V := fun u => [.agg ⟨cs⟩, .slice (some ⟨g1, f1, none⟩) l.length scap, .int .i64 (j : Int), .pointer (some ⟨g1, f1 + j * 3, none⟩), .agg ⟨batCells bt bv⟩, .tuple ⟨[.agg ⟨(u 5).1⟩, .agg ⟨rowCells N.2.1 (u 5).2.1⟩, .bool N.2.2]⟩, .tuple ⟨[.agg ⟨(u 6).1⟩, .agg ⟨rowCells N.2.1 (u 6).2.1⟩, .bool N.2.2]⟩, .agg ⟨(u 7).1⟩, .agg ⟨rowCells N.2.1 (u 8).2.1⟩, .bool N.2.2, .pointer (some ⟨(u 10).2.2.2, 0, none⟩), .pointer (some ⟨(u 11).2.2.2, 0, none⟩), .bool true, .bool true, .bool N.2.2])
      (Rs := fun u D => (if D 5 then FzF (u 5).2.2.1 (H'.le (u 5).2.2.1 ∧ RfIn (u 5).2.2.1 N.1 (u 5).1 ∧ OpsH (u 5).2.2.1 (u 5).2.1 N.2.1.b.l) else Fz H') :: Cells b4 cs 41 :: (if D 10 then Cells (u 10).2.2.2 (if D 12 then (u 5).1 else zrf) 41 else Free) :: (if D 11 then Cells (u 11).2.2.2 (if D 13 then rowCells N.2.1 (u 5).2.1 else zrc) 29 else Free) :: (if D 6 then Fact (u 6 = u 5) else Free) :: (if D 7 then Fact (u 7 = u 6) else Free) :: (if D 8 then Fact (u 8 = u 6) else Free) :: Sx.Own 29 5 (.slice oad rows.length ocap) rows.length ys :: Cells b2 zrf 41 :: R) (fun _ => ([], .nilIface, H, 0)) hs hw (hVu := ?vu_6) (ho := ⟨?c0_6, ?_, ?_, ?c3_6, ?c4_6, ?c5_6, ?c6_6, ?c7_6, ?c8_6, ?_, ?c10_6, ?c11_6, ?c12_6, ?c13_6, ?_, trivial⟩) (k := ?k_6)
    case vu_6 =>
      intro u u' j h
      rcases j with _ | _ | _ | _ | _ | _ | _ | _ | _ | _ | _ | _ | _ | _ | _ | j
      all_goals first | rfl | simp [h] | skip
    case c0_6 =>
      intro u LD D a W hcl hi hp hs hw
      refine st_load_agg hs (hw := hw) (hi := In.tl In.hd) (hl := by rw [hlen0]; rfl) (k := ?_); clear hs; intro a hs
      have hs2 : Slots a 35 ((18, .agg ⟨cut cs 0 38⟩) :: _) := hs
      rw [cut_all _ _ hlen0] at hs2
      repeat (first | (refine sxv hs hw ?_; clear hs; intro a hs) | refine sxc hs ?_ | (refine sxa hs hw ?_; clear hs hw; intro a b W hw hs) | (refine sxs hs hw ?_; clear hs hw; intro W hs hw))
      exact Or.inl ⟨hs2, hw⟩
    case c3_6 =>
      intro u LD D a W hcl hi hp hs hw
      refine st_index_at hs (z := [.int .i64 0, .int .i64 0, .slice none 0 0]) (h0 := by omega) (h1 := by omega) (c := ?_); clear hs; intro a hs
      repeat (first | (refine sxv hs hw ?_; clear hs; intro a hs) | refine sxc hs ?_ | (refine sxa hs hw ?_; clear hs hw; intro a b W hw hs) | (refine sxs hs hw ?_; clear hs hw; intro W hs hw))
      exact Or.inl ⟨hs, hw⟩
    case c4_6 =>
      intro u LD D a W hcl hi hp hs hw
      have h5 := Go.Sx.not_done hcl hi 5 (by kernel_rfl)
      have hw0 := hw
      simp only [h5, Bool.false_eq_true, if_false] at hw
      refine st_load_ats hs (z := [.int .i64 0, .int .i64 0, .slice none 0 0]) (cs := batCells bt bv) (hc := fun j u h => hrow In.hd hw j u h) (hl := rfl) (c := ?_); clear hs; intro a hs
      repeat (first | (refine sxv hs hw ?_; clear hs; intro a hs) | refine sxc hs ?_ | (refine sxa hs hw ?_; clear hs hw; intro a b W hw hs) | (refine sxs hs hw ?_; clear hs hw; intro W hs hw))
      exact Or.inl ⟨hs, hw0⟩
    case c5_6 =>
      intro u LD D a W hcl hi hp hs hw
      have h12 := Go.Sx.not_done hcl (Go.Sx.not_done hcl (Go.Sx.not_done hcl hi 6 (by kernel_rfl)) 7 (by kernel_rfl)) 12 (by kernel_rfl)
      have h13 := Go.Sx.not_done hcl (Go.Sx.not_done hcl (Go.Sx.not_done hcl hi 6 (by kernel_rfl)) 8 (by kernel_rfl)) 13 (by kernel_rfl)
      have h6 := Go.Sx.not_done hcl hi 6 (by kernel_rfl)
      simp only [hi, h6, h12, h13, Bool.false_eq_true, if_false] at hw
      refine st_call hs (hc := ref7_Next w0 _ H' f bt cs bv _ hf hd hok hbv hw) (k := ?_); rw [hN]; rintro e0 W1 ⟨cs', sv', H2, rfl, hle, hf2, hsv, hw1⟩; refine ⟨_, rfl, ?_⟩; clear hs hw; intro a hs; have hw := hw1; clear hw1
      repeat (first | (refine sxv hs hw ?_; clear hs; intro a hs) | refine sxc hs ?_ | (refine sxa hs hw ?_; clear hs hw; intro a b W hw hs) | (refine sxs hs hw ?_; clear hs hw; intro W hs hw))
      refine Or.inr ⟨(cs', sv', H2, 0), hs, ?_⟩
      have hw := hw.fzf (q := H'.le H2 ∧ RfIn H2 N.1 cs' ∧ OpsH H2 sv' N.2.1.b.l) ⟨hle, hf2, hsv⟩
      show Has 0 w0 _ (_ :: _ :: (if D 10 then Cells (u 10).2.2.2 (if (Nat.beq 12 5 || D 12) = true then _ else _) _ else Free) :: (if D 11 then Cells (u 11).2.2.2 (if (Nat.beq 13 5 || D 13) = true then _ else _) _ else Free) :: (if (Nat.beq 6 5 || D 6) = true then _ else _) :: _)
      rw [h6, h12, h13]
      exact hw
    case c6_6 =>
      intro u LD D a W hcl hi hp hs hw
      have h7 := Go.Sx.not_done hcl hi 7 (by kernel_rfl)
      have h8 := Go.Sx.not_done hcl hi 8 (by kernel_rfl)
      simp only [hi, h7, h8, Bool.false_eq_true, if_false] at hw
      repeat (first | (refine sxv hs hw ?_; clear hs; intro a hs) | refine sxc hs ?_ | (refine sxa hs hw ?_; clear hs hw; intro a b W hw hs) | (refine sxs hs hw ?_; clear hs hw; intro W hs hw))
      refine Or.inr ⟨u 5, hs, ?_⟩
      show Has 0 w0 _ (_ :: _ :: _ :: _ :: Fact (u 5 = u 5) :: (if (Nat.beq 7 6 || D 7) = true then _ else _) :: (if (Nat.beq 8 6 || D 8) = true then _ else _) :: _)
      rw [h7, h8]
      exact (hw.fact rfl).fill (Upd.tl (Upd.tl (Upd.tl (Upd.tl Upd.hd))))
    case c7_6 =>
      intro u LD D a W hcl hi hp hs hw
      have h12 := Go.Sx.not_done hcl hi 12 (by kernel_rfl)
      simp only [hi, Bool.false_eq_true, if_false] at hw
      repeat (first | (refine sxv hs hw ?_; clear hs; intro a hs) | refine sxc hs ?_ | (refine sxa hs hw ?_; clear hs hw; intro a b W hw hs) | (refine sxs hs hw ?_; clear hs hw; intro W hs hw))
      refine Or.inr ⟨u 6, hs, ?_⟩
      show Has 0 w0 _ (_ :: _ :: _ :: _ :: _ :: Fact (u 6 = u 6) :: _)
      exact (hw.fact rfl).fill (Upd.tl (Upd.tl (Upd.tl (Upd.tl (Upd.tl Upd.hd)))))
    case c8_6 =>
      intro u LD D a W hcl hi hp hs hw
      simp only [hi, Bool.false_eq_true, if_false] at hw
      repeat (first | (refine sxv hs hw ?_; clear hs; intro a hs) | refine sxc hs ?_ | (refine sxa hs hw ?_; clear hs hw; intro a b W hw hs) | (refine sxs hs hw ?_; clear hs hw; intro W hs hw))
      refine Or.inr ⟨u 6, hs, ?_⟩
      show Has 0 w0 _ (_ :: _ :: _ :: _ :: _ :: _ :: Fact (u 6 = u 6) :: _)
      exact (hw.fact rfl).fill (Upd.tl (Upd.tl (Upd.tl (Upd.tl (Upd.tl (Upd.tl Upd.hd))))))
    case c10_6 =>
      intro u LD D a W hcl hi hp hs hw
      have h12 := Go.Sx.not_done hcl hi 12 (by kernel_rfl)
      simp only [hi, Bool.false_eq_true, if_false] at hw
      repeat (first | (refine sxv hs hw ?_; clear hs; intro a hs) | refine sxc hs ?_ | (refine sxa hs hw ?_; clear hs hw; intro a b W hw hs) | (refine sxs hs hw ?_; clear hs hw; intro W hs hw))
      refine Or.inr ⟨([], .nilIface, H, _), hs, ?_⟩
      show Has 0 w0 _ (_ :: _ :: Cells _ (if (Nat.beq 12 10 || D 12) = true then _ else _) _ :: _ :: _)
      rw [h12]
      exact hw.fill (Upd.tl (Upd.tl Upd.hd))
    case c11_6 =>
      intro u LD D a W hcl hi hp hs hw
      have h13 := Go.Sx.not_done hcl hi 13 (by kernel_rfl)
      simp only [hi, Bool.false_eq_true, if_false] at hw
      repeat (first | (refine sxv hs hw ?_; clear hs; intro a hs) | refine sxc hs ?_ | (refine sxa hs hw ?_; clear hs hw; intro a b W hw hs) | (refine sxs hs hw ?_; clear hs hw; intro W hs hw))
      refine Or.inr ⟨([], .nilIface, H, _), hs, ?_⟩
      show Has 0 w0 _ (_ :: _ :: _ :: Cells _ (if (Nat.beq 13 11 || D 13) = true then _ else _) _ :: _)
      rw [h13]
      exact hw.fill (Upd.tl (Upd.tl (Upd.tl Upd.hd)))
    case c12_6 =>
      intro u LD D a W hcl hi hp hs hw
      have h7 := Go.Sx.done hp 7 (by kernel_rfl)
      have h10 := Go.Sx.done hp 10 (by kernel_rfl)
      have h6 := Go.Sx.done (hcl 7 _ rfl h7) 6 (by kernel_rfl)
      have h5 := Go.Sx.done (hcl 6 _ rfl h6) 5 (by kernel_rfl)
      have e1 : (if D 7 = true then Fact (u 7 = u 6) else Free) = Fact (u 7 = u 6) := by rw [h7]; rfl
      have e2 : (if D 6 = true then Fact (u 6 = u 5) else Free) = Fact (u 6 = u 5) := by rw [h6]; rfl
      have g7 : u 7 = u 5 := by
        have hw2 := hw
        simp only [e1, e2] at hw2
        exact (hw2.told (In.tl (In.tl (In.tl (In.tl (In.tl In.hd)))))).trans (hw2.told (In.tl (In.tl (In.tl (In.tl In.hd)))))
      simp only [hi, h5, h10, Bool.false_eq_true, if_false, if_true] at hw
      obtain ⟨⟨_, hf2, _⟩, _⟩ := hw.unfzf
      rw [← g7] at hf2
      refine st_store hs (vs := (u 7).1) (hw := hw) (hz := by rw [hf2.len]; rfl) (h1 := hf2.one) (hl := by rw [hf2.len]; rfl) (k := ?_); clear hs hw; intro W hs hw
      rw [ov_all _ _ (by rw [hf2.len]; rfl)] at hw
      rw [show (u 7).1 = (u 5).1 from by rw [g7]] at hw
      repeat (first | (refine sxv hs hw ?_; clear hs; intro a hs) | refine sxc hs ?_ | (refine sxa hs hw ?_; clear hs hw; intro a b W hw hs) | (refine sxs hs hw ?_; clear hs hw; intro W hs hw))
      refine Or.inl ⟨hs, ?_⟩
      show Has 0 w0 _ ((if (Nat.beq 5 12 || D 5) = true then _ else _) :: _ :: (if (Nat.beq 10 12 || D 10) = true then _ else _) :: _ :: _)
      rw [h5, h10]
      exact hw
    case c13_6 =>
      intro u LD D a W hcl hi hp hs hw
      have h8 := Go.Sx.done hp 8 (by kernel_rfl)
      have h11 := Go.Sx.done hp 11 (by kernel_rfl)
      have h6 := Go.Sx.done (hcl 8 _ rfl h8) 6 (by kernel_rfl)
      have h5 := Go.Sx.done (hcl 6 _ rfl h6) 5 (by kernel_rfl)
      have e1 : (if D 8 = true then Fact (u 8 = u 6) else Free) = Fact (u 8 = u 6) := by rw [h8]; rfl
      have e2 : (if D 6 = true then Fact (u 6 = u 5) else Free) = Fact (u 6 = u 5) := by rw [h6]; rfl
      have g8 : u 8 = u 5 := by
        have hw2 := hw
        simp only [e1, e2] at hw2
        exact (hw2.told (In.tl (In.tl (In.tl (In.tl (In.tl (In.tl In.hd))))))).trans (hw2.told (In.tl (In.tl (In.tl (In.tl In.hd)))))
      simp only [hi, h5, h11, Bool.false_eq_true, if_false, if_true] at hw
      obtain ⟨⟨_, _, hsv⟩, _⟩ := hw.unfzf
      obtain ⟨tad, tcap, e13⟩ := hsv.slice
      refine st_store hs (hw := hw) (vs := rowCells N.2.1 (u 8).2.1) (h1 := by rw [g8, e13]; rfl) (k := ?_); clear hs hw; intro W hs hw
      rw [show (u 8).2.1 = (u 5).2.1 from by rw [g8]] at hw
      repeat (first | (refine sxv hs hw ?_; clear hs; intro a hs) | refine sxc hs ?_ | (refine sxa hs hw ?_; clear hs hw; intro a b W hw hs) | (refine sxs hs hw ?_; clear hs hw; intro W hs hw))
      refine Or.inl ⟨hs, ?_⟩
      show Has 0 w0 _ ((if (Nat.beq 5 13 || D 5) = true then _ else _) :: _ :: _ :: (if (Nat.beq 11 13 || D 11) = true then _ else _) :: _)
      rw [h5, h11]
      exact hw
    case k_6 =>
      clear hs hw
      intro u a W hs hw
      replace hw : Has 0 w0 W (FzF (u 5).2.2.1 (H'.le (u 5).2.2.1 ∧ RfIn (u 5).2.2.1 N.1 (u 5).1 ∧ OpsH (u 5).2.2.1 (u 5).2.1 N.2.1.b.l) :: Cells b4 cs 41 :: Cells (u 10).2.2.2 (u 5).1 41 :: Cells (u 11).2.2.2 (rowCells N.2.1 (u 5).2.1) 29 :: Fact (u 6 = u 5) :: Fact (u 7 = u 6) :: Fact (u 8 = u 6) :: Sx.Own 29 5 (.slice oad rows.length ocap) rows.length ys :: Cells b2 zrf 41 :: R) := hw
      replace hw := hw.sub (L' := FzF (u 5).2.2.1 (H'.le (u 5).2.2.1 ∧ RfIn (u 5).2.2.1 N.1 (u 5).1 ∧ OpsH (u 5).2.2.1 (u 5).2.1 N.2.1.b.l) :: Cells b4 cs 41 :: Cells (u 10).2.2.2 (u 5).1 41 :: Cells (u 11).2.2.2 (rowCells N.2.1 (u 5).2.1) 29 :: Sx.Own 29 5 (.slice oad rows.length ocap) rows.length ys :: Cells b2 zrf 41 :: R) (List.Sublist.cons_cons _ (List.Sublist.cons_cons _ (List.Sublist.cons_cons _ (List.Sublist.cons_cons _ (List.Sublist.cons _ (List.Sublist.cons _ (List.Sublist.cons _ (List.Sublist.refl _))))))))
      replace hs : Slots a 35 [(0, .slice (some ⟨g1, f1, none⟩) l.length scap), (2, .pointer (some ⟨b2, 0, none⟩)), (4, .pointer (some ⟨b4, 0, none⟩)), (6, .int .i64 (j : Int)), (5, .slice oad rows.length ocap), (7, .pointer (some ⟨(u 10).2.2.2, 0, none⟩)), (8, .pointer (some ⟨(u 11).2.2.2, 0, none⟩)), (9, .bool N.2.2)] := hs.of ⟨rfl, rfl, rfl, rfl, rfl, rfl, rfl, rfl, trivial⟩
      generalize (u 10).2.2.2 = b7 at *
      generalize (u 11).2.2.2 = b8 at *
      generalize (u 5).2.2.1 = H2 at *
      generalize (u 5).2.1 = sv2 at *
      generalize (u 5).1 = cs2 at *
      clear u
      obtain ⟨⟨hle, hf2, hsv⟩, hw⟩ := hw.unfzf
      have hlen2 := hf2.len
      have hone2 := hf2.one
      obtain ⟨uad, ucap, rfl⟩ := hsv.slice
      have hw : Has 0 w0 W (Sx.Own 29 5 (.slice oad rows.length ocap) rows.length ys :: Cells b4 cs 41 :: Cells b2 zrf 41 :: Fz H2 :: Cells b7 cs2 41 :: Cells b8 (rowCells N.2.1 (.slice uad N.2.1.b.l.length ucap)) 29 :: R) := hw.perm (by repeat (first | exact List.Perm.refl _ | refine perm_pick (by repeat (first | exact Pick.hd | apply Pick.tl)) ?_))
      repeat (first | (refine sxv hs hw ?_; clear hs; intro a hs) | refine sxc hs ?_ | (refine sxa hs hw ?_; clear hs hw; intro a b W hw hs) | (refine sxs hs hw ?_; clear hs hw; intro W hs hw))
      cases hok2 : N.2.2 with
      | false =>
        rw [hok2] at hs hgo
        have hNf := hno hok2
        rw [hNf] at hf2
        repeat (first | (refine sxv hs hw ?_; clear hs; intro a hs) | refine sxc hs ?_ | (refine sxa hs hw ?_; clear hs hw; intro a b W hw hs) | (refine sxs hs hw ?_; clear hs hw; intro W hs hw))
        have hw := hw.sub (L' := Sx.Own 29 5 (.slice oad rows.length ocap) rows.length ys :: Cells b4 cs 41 :: Cells b2 zrf 41 :: Fz H2 :: R) (List.Sublist.cons_cons _ (List.Sublist.cons_cons _ (List.Sublist.cons_cons _ (List.Sublist.cons_cons _ (List.Sublist.cons _ (List.Sublist.cons _ (List.Sublist.refl _)))))))
        exact st_again (j + 1, f, cs, rows, oad, ocap, ys, H2) hs hw ⟨hj', by show rows.length ≤ j + 1; omega, hd, hH'.trans hle, hf.le hle, hch2.mono (RowIn.le hle), hgo⟩ (by show l.length - (j + 1) < l.length - j; omega) ⟨rfl, rfl, rfl, int_eq (by show IntKind.i64.wrap ((j : Int) + 1) = ((j + 1 : Nat) : Int); rw [IntWalk.i64_in _ (by omega)]; omega), rfl, trivial⟩
      | true =>
        rw [hok2] at hs hgo
        repeat (first | (refine sxv hs hw ?_; clear hs; intro a hs) | refine sxc hs ?_ | (refine sxa hs hw ?_; clear hs hw; intro a b W hw hs) | (refine sxs hs hw ?_; clear hs hw; intro W hs hw))
        refine st_load_agg hs (hw := hw) (hi := In.tl (In.tl (In.tl (In.tl In.hd)))) (hl := by rw [hlen2]; rfl) (k := ?_); clear hs; intro a hs
        have hs2 : Slots a 35 ((28, .agg ⟨cut cs2 0 38⟩) :: _) := hs
        rw [cut_all _ _ hlen2] at hs2
        clear hs
        have hs := hs2
        clear hs2
        refine st_store hs (vs := cs2) (hw := hw) (hz := by rw [hlen2]; rfl) (h1 := hone2) (hl := by rw [hlen2, hlen0]; rfl) (k := ?_); clear hs hw; intro W hs hw
        rw [ov_all _ _ (by rw [hlen2, hlen0])] at hw
        repeat (first | (refine sxv hs hw ?_; clear hs; intro a hs) | refine sxc hs ?_ | (refine sxa hs hw ?_; clear hs hw; intro a b W hw hs) | (refine sxs hs hw ?_; clear hs hw; intro W hs hw))
        obtain ⟨bx, qx⟩ := nm1 hw; subst qx
        have hw : Has 0 w0 _ (Sx.Own 29 5 (.slice oad rows.length ocap) rows.length ys :: Cells bx (rowCells N.2.1 (.slice uad N.2.1.b.l.length ucap)) 29 :: Cells b4 cs2 41 :: Cells b2 zrf 41 :: Fz H2 :: Cells b7 cs2 41 :: Cells b8 (rowCells N.2.1 (.slice uad N.2.1.b.l.length ucap)) 29 :: R) := hw.perm (by repeat (first | exact List.Perm.refl _ | refine perm_pick (by repeat (first | exact Pick.hd | apply Pick.tl)) ?_))
        refine st_append1 hs (hw := hw) (hi := In.hd) (ch := hch2.mono (RowIn.le hle)) (ha := (⟨_, rfl, hsv⟩ : RowIn H2 N.2.1 (rowCells N.2.1 (.slice uad N.2.1.b.l.length ucap)))) (hl := rfl) (h1 := rfl) (hb := by omega) (h63 := by omega) (k := ?_)
        clear hs hw; intro a ad2 cap2 W hs hw hc2
        repeat (first | (refine sxv hs hw ?_; clear hs; intro a hs) | refine sxc hs ?_ | (refine sxa hs hw ?_; clear hs hw; intro a b W hw hs) | (refine sxs hs hw ?_; clear hs hw; intro W hs hw))
        have hw := hw.sub (L' := Sx.Own 29 5 (.slice ad2 (rows ++ [N.2.1]).length cap2) (rows ++ [N.2.1]).length (ys ++ rowCells N.2.1 (.slice uad N.2.1.b.l.length ucap)) :: Cells b4 cs2 41 :: Cells b2 zrf 41 :: Fz H2 :: R) (List.Sublist.cons_cons _ (List.Sublist.cons _ (List.Sublist.cons_cons _ (List.Sublist.cons_cons _ (List.Sublist.cons_cons _ (List.Sublist.cons _ (List.Sublist.cons _ (List.Sublist.refl _))))))))
        exact st_again (j + 1, N.1, cs2, rows ++ [N.2.1], ad2, cap2, ys ++ rowCells N.2.1 (.slice uad N.2.1.b.l.length ucap), H2) hs hw ⟨hj', by show (rows ++ [N.2.1]).length ≤ j + 1; rw [List.length_append]; show rows.length + 1 ≤ j + 1; omega, hdn, hH'.trans hle, hf2, hc2, hgo⟩ (by show l.length - (j + 1) < l.length - j; omega) ⟨rfl, rfl, rfl, int_eq (by show IntKind.i64.wrap ((j : Int) + 1) = ((j + 1 : Nat) : Int); rw [IntWalk.i64_in _ (by omega)]; omega), rfl, trivial⟩
    all_goals
      intro u LD D a W hcl hi hp hs hw
      repeat (first | (refine sxv hs hw ?_; clear hs; intro a hs) | refine sxc hs ?_ | (refine sxa hs hw ?_; clear hs hw; intro a b W hw hs) | (refine sxs hs hw ?_; clear hs hw; intro W hs hw))
      exact Or.inl ⟨hs, hw⟩
  · have hj' : j = l.length := by have : ¬ j < l.length := by simpa using hcc
                                  omega
    subst hj'
    rw [List.drop_length] at hgo
    simp only [allF] at hgo
    repeat (first | (refine sxv hs hw ?_; clear hs; intro a hs) | refine sxc hs ?_ | (refine sxa hs hw ?_; clear hs hw; intro a b W hw hs) | (refine sxs hs hw ?_; clear hs hw; intro W hs hw))
    refine st_load_agg hs (hw := hw) (hi := In.tl In.hd) (hl := by rw [hlen0]; rfl) (k := ?_); clear hs; intro a hs
    have hs2 : Slots a 35 ((33, .agg ⟨cut cs 0 38⟩) :: _) := hs
    rw [cut_all _ _ hlen0] at hs2
    clear hs
    have hs := hs2
    clear hs2
    repeat (first | (refine sxv hs hw ?_; clear hs; intro a hs) | refine sxc hs ?_ | (refine sxa hs hw ?_; clear hs hw; intro a b W hw hs) | (refine sxs hs hw ?_; clear hs hw; intro W hs hw))
    refine st_store hs (vs := cs) (hw := hw) (hz := by rw [hlen0]; rfl) (h1 := hone0) (hl := by rw [hlen0]; rfl) (k := ?_); clear hs hw; intro W hs hw
    rw [ov_all _ _ (by rw [hlen0]; rfl)] at hw
    repeat (first | (refine sxv hs hw ?_; clear hs; intro a hs) | refine sxc hs ?_ | (refine sxa hs hw ?_; clear hs hw; intro a b W hw hs) | (refine sxs hs hw ?_; clear hs hw; intro W hs hw))
    refine rc2 hs rfl rfl hw (In.tl (In.tl In.hd)) (by rw [hlen0]; rfl) rfl ?_
    rw [← hgo]
    refine ⟨cs, oad, ocap, ys, H', ?_, hH', hf, hch2, hw.sub (List.Sublist.cons_cons _ (List.Sublist.cons _ (List.Sublist.cons _ (List.Sublist.refl _))))⟩
    show Ending.returned (Value.tuple #[.agg ⟨cut cs 0 38⟩, _]) = _
    rw [cut_all _ _ hlen0]
end Go.Proofs.YtajidlglbkopjaaDoor.Sw

/-
  Batches, rows, whole numbers as they come in.
-/
set_option linter.unusedVariables false
namespace Go.Proofs.YtajidlglbkopjaaDoor.Sw
open Go.RowKit Go.Sx

def BatRd (W : World) (b : BatchD) (cs : List Value) : Prop := ∃ sv, cs = batCells b sv ∧ Rd W 9 sv b.l.length (b.l.flatMap opCells)
/-- Batches as they come in. -/
def BatsRd (W : World) (v : Value) (l : List BatchD) : Prop := ∃ xs, Rd W 3 v l.length xs ∧ Ch (BatRd W) l xs
theorem BatsRd.h {W : World} {v : Value} {l : List BatchD} (r : BatsRd W v l) : BatsH (fr W) v l := by
  obtain ⟨xs, h1, h2⟩ := r
  exact ⟨xs, RdH.of_rd h1 (Fh.le.refl _) (by decide), h2.mono fun b c ⟨sv, e, h⟩ => ⟨sv, e, RdH.of_rd h (Fh.le.refl _) (by decide)⟩⟩
structure RowWf (r : RowD) : Prop where
  place : (Lit.int .i64 r.place).wf = true
  err : (Lit.int .i64 r.err).wf = true
  b : BatWf r.b
/-- Rows as they come in. -/
def RowsRd (W : World) (v : Value) (l : List RowD) : Prop := ∃ xs, Rd W 5 v l.length xs ∧ Ch (RowRd W) l xs
theorem RowsRd.h {W : World} {v : Value} {l : List RowD} (r : RowsRd W v l) : RowsH (fr W) v l := by
  obtain ⟨xs, h1, h2⟩ := r
  exact ⟨xs, RdH.of_rd h1 (Fh.le.refl _) (by decide), h2.mono fun b c ⟨sv, e, h⟩ => ⟨sv, e, RdH.of_rd h (Fh.le.refl _) (by decide)⟩⟩
def IntIn (x : Int) (c : List Value) : Prop := c = [.int .i64 x]
theorem IntIn.len : ∀ (x : Int) (c : List Value), IntIn x c → c.length = 1 := by rintro x c rfl; rfl
/-- Whole numbers as they come in. -/
def IntsRd (W : World) (v : Value) (l : List Int) : Prop := ∃ xs, Rd W 1 v l.length xs ∧ Ch IntIn l xs
end Go.Proofs.YtajidlglbkopjaaDoor.Sw

/-
  Slices of batches, rows, whole numbers among the arguments: opened into what the walks read.
-/
set_option linter.unusedVariables false
set_option maxRecDepth 10000
namespace Go.Proofs.YtajidlglbkopjaaDoor
open Go.ChangeShapes Go.WideShapes Go.ChangeAt Go.RowKit Go.Lib Go.Sx Go.Proofs Go.Deep
open Sw Go.Joins

section
variable {H : Type} {enc : TypeId × Value → H} {w : World} {spare : Nat → Bool} {held : Bool}
theorem ch_map {α : Type} {Rr : α → List Value → Prop} (O : Nat → α) (C : Nat → List Value) : ∀ l : List Nat, (∀ i ∈ l, Rr (O i) (C i)) → Ch Rr (l.map O) (l.flatMap C)
  | [], _ => rfl
  | i :: l, h => ⟨C i, l.flatMap C, rfl, h i (by simp), ch_map O C l fun j hj => h j (by simp [hj])⟩
theorem flatMap_get {C : Nat → List Value} {k : Nat} : ∀ (n b : Nat) (j : Nat) (x : Value), (∀ i, b ≤ i → i < b + n → (C i).length = k) → ((List.range' b n).flatMap C)[j]? = some x → ∃ i kk, b ≤ i ∧ i < b + n ∧ (C i)[kk]? = some x ∧ j = (i - b) * k + kk ∧ kk < k
  | 0, b, j, x, _, h => by simp at h
  | n + 1, b, j, x, hk, h => by
    rw [List.range'_succ, List.flatMap_cons, List.getElem?_append] at h
    have hb := hk b (Nat.le_refl _) (by omega)
    split at h
    · rename_i hj
      exact ⟨b, j, Nat.le_refl _, by omega, h, by simp, by omega⟩
    · rename_i hj
      obtain ⟨i, kk, h1, h2, h3, h4, h5⟩ := flatMap_get n (b + 1) _ x (fun i h1 h2 => hk i (by omega) (by omega)) h
      refine ⟨i, kk, by omega, by omega, h3, ?_, h5⟩
      have e : (i - b) * k = (i - (b + 1)) * k + k := by
        rw [show i - b = (i - (b + 1)) + 1 by omega, Nat.add_mul, Nat.one_mul]
      omega
theorem flatMap_len {C : Nat → List Value} {k : Nat} : ∀ (n b : Nat), (∀ i, b ≤ i → i < b + n → (C i).length = k) → ((List.range' b n).flatMap C).length = n * k
  | 0, b, _ => by simp
  | n + 1, b, hk => by
    rw [List.range'_succ, List.flatMap_cons, List.length_append, hk b (Nat.le_refl _) (by omega), flatMap_len n (b + 1) fun i h1 h2 => hk i (by omega) (by omega), Nat.add_mul]
    omega
theorem open_list {α : Type} [Inhabited α] {t e : TypeId} {k : Nat} (ht : Tryd.prog.underlying t = some (.slice e)) (hc : Tryd.prog.cellsOf e = k) (hk0 : 0 < k) {Rr : α → List Value → Prop} {Wf : α → Prop}
    (op : ∀ {fuel : Nat} {cs : List Value} {x : DataW H × List MemPlace}, DataW.trod enc Tryd.prog w 0 spare held fuel e cs = some x → ∃ o, Rr o cs ∧ Wf o)
    {fuel : Nat} {cs : List Value} {x : DataW H × List MemPlace} (h : DataW.trod enc Tryd.prog w 0 spare held fuel t cs = some x) :
    ∃ (sv : Value) (l : List α), cs = [sv] ∧ (∀ o ∈ l, Wf o) ∧ ∃ xs, Rd w k sv l.length xs ∧ Ch Rr l xs := by
  have hlt := DataW.trod_lt _ _ _ _ h
  rcases open_slice ht h with ⟨rfl, -⟩ | ⟨a, len, cap, m, n, D, Pl, rfl, -, hl, hm, hmm, rfl, hx⟩
  · exact ⟨_, [], rfl, by simp, [], Rd.nil w k 0 (by omega), rfl⟩
  · have hlm : len ≤ m := by rw [hmm]; split <;> omega
    obtain ⟨O, hO⟩ := choose_lt (n := len) (α := α × List Value) (p := fun i o => Rr o.1 o.2 ∧ Wf o.1 ∧ o.2.length = k ∧ ∀ j u, o.2[j]? = some u → w.cell? ((a.add (i * k)).add j) = some u) fun i hi => by
      obtain ⟨cs', h1, h2⟩ := hx i (by omega)
      obtain ⟨o, ho1, ho2⟩ := op h2
      rw [hc] at h1
      obtain ⟨_, hlen, h3⟩ := World.cells?_some h1
      refine ⟨(o, cs'), ho1, ho2, by simpa using hlen, fun j u hj => ?_⟩
      have hjk : j < k := by
        have h9 : j < cs'.length := (List.getElem?_eq_some_iff.1 hj).1
        have e : cs'.length = k := by simpa using hlen
        omega
      rw [h3 j hjk]; exact hj
    have hcap : cap ≤ 9223372036854775807 := max63 hm
    have hL : ((List.range len).map fun i => (O i).1).length = len := by simp
    have hr : List.range len = List.range' 0 len := List.range_eq_range'
    have hks : ∀ i, 0 ≤ i → i < 0 + len → (O i).2.length = k := fun i _ hi => (hO i (by omega)).2.2.1
    refine ⟨_, (List.range len).map fun i => (O i).1, rfl, fun o ho => ?_, (List.range len).flatMap fun i => (O i).2, ?_, ch_map _ _ _ fun i hi => (hO i (List.mem_range.1 hi)).1⟩
    · obtain ⟨i, hi, rfl⟩ := List.mem_map.1 ho
      exact (hO i (List.mem_range.1 hi)).2.1
    · rw [hL]
      refine ⟨by rw [hr]; exact flatMap_len len 0 hks, some a, cap, rfl, hl, hcap, ?_⟩
      rcases Nat.eq_zero_or_pos len with h0 | h0
      · exact .inl h0
      · right
        obtain ⟨b, off, spot⟩ := a
        have h00 : ∃ u, (O 0).2[0]? = some u := ⟨_, List.getElem?_eq_getElem (by rw [hks 0 (Nat.zero_le _) (by omega)]; exact hk0)⟩
        obtain ⟨u0, hu0⟩ := h00
        have h00 := (hO 0 h0).2.2.2 0 u0 hu0
        have hspot : spot = none := by simpa [Addr.add] using World.cell?_spot h00
        subst hspot
        refine ⟨b, off, rfl, ?_, fun j x hj => ?_⟩
        · have hpos : 0 < m * k := Nat.mul_pos (by omega) hk0
          exact hlt (.cell b off) (List.mem_append_left _ (MemPlace.mem_row.2 ⟨0, by rw [hc]; exact hpos, rfl⟩))
        · rw [hr] at hj
          obtain ⟨i, kk, h1, h2, h3, rfl, h5⟩ := flatMap_get len 0 j x hks hj
          have := (hO i (by omega)).2.2.2 kk x h3
          rw [add_add, add_plain] at this
          exact this

theorem open_bat_cells {fuel : Nat} {cs : List Value} {x : DataW H × List MemPlace} (h : DataW.trod enc Tryd.prog w 0 spare held fuel 26 cs = some x) : ∃ b, BatRd w b cs ∧ BatWf b := by
  obtain ⟨xs, n, _, rfl, hl, hlen, hf⟩ := DataW.trod_struct Tryd.underlying26 h
  have c0 : Tryd.prog.cellsOf 26 = 3 := by kernel_rfl
  have c1 : Tryd.prog.cellsOf 3 = 1 := by kernel_rfl
  have c2 : Tryd.prog.cellsOf 2 = 1 := by kernel_rfl
  have c3 : Tryd.prog.cellsOf 24 = 1 := by kernel_rfl
  rw [c0] at hl
  match cs, hl, xs, hlen with
  | [v0, v1, v2], _, [y0, y1, y2], _ =>
    have h0 := hf 0 _ rfl
    have h1 := hf 1 _ rfl
    have h2 := hf 2 _ rfl
    change DataW.trod enc _ w 0 spare held n 3 (([v0, v1, v2].drop 0).take (Tryd.prog.cellsOf 3)) = some y0 at h0
    change DataW.trod enc _ w 0 spare held n 2 (([v0, v1, v2].drop 1).take (Tryd.prog.cellsOf 2)) = some y1 at h1
    change DataW.trod enc _ w 0 spare held n 24 (([v0, v1, v2].drop 2).take (Tryd.prog.cellsOf 24)) = some y2 at h2
    rw [c1] at h0
    rw [c2] at h1
    rw [c3] at h2
    obtain ⟨k, e0, _, w0⟩ := DataW.trod_int Tryd.underlying3 h0
    obtain ⟨m, e1, _, w1⟩ := DataW.trod_int Tryd.underlying2 h1
    obtain ⟨sv, l, e2, ho, hr⟩ := open_ops h2
    simp at e0 e1 e2
    subst e0 e1 e2
    exact ⟨⟨k, m, l⟩, ⟨v2, rfl, hr⟩, w0, w1, ho⟩
theorem open_row_cells {fuel : Nat} {cs : List Value} {x : DataW H × List MemPlace} (h : DataW.trod enc Tryd.prog w 0 spare held fuel 29 cs = some x) : ∃ r, RowRd w r cs ∧ RowWf r := by
  obtain ⟨xs, n, _, rfl, hl, hlen, hf⟩ := DataW.trod_struct Tryd.underlying29 h
  have c0 : Tryd.prog.cellsOf 29 = 5 := by kernel_rfl
  have c1 : Tryd.prog.cellsOf 27 = 1 := by kernel_rfl
  have c2 : Tryd.prog.cellsOf 2 = 1 := by kernel_rfl
  have c3 : Tryd.prog.cellsOf 26 = 3 := by kernel_rfl
  rw [c0] at hl
  match cs, hl, xs, hlen with
  | [v0, v1, v2, v3, v4], _, [y0, y1, y2], _ =>
    have h0 := hf 0 _ rfl
    have h1 := hf 1 _ rfl
    have h2 := hf 2 _ rfl
    change DataW.trod enc _ w 0 spare held n 2 (([v0, v1, v2, v3, v4].drop 0).take (Tryd.prog.cellsOf 2)) = some y0 at h0
    change DataW.trod enc _ w 0 spare held n 26 (([v0, v1, v2, v3, v4].drop 1).take (Tryd.prog.cellsOf 26)) = some y1 at h1
    change DataW.trod enc _ w 0 spare held n 27 (([v0, v1, v2, v3, v4].drop 4).take (Tryd.prog.cellsOf 27)) = some y2 at h2
    rw [c2] at h0
    rw [c3] at h1
    rw [c1] at h2
    obtain ⟨k, e0, _, w0⟩ := DataW.trod_int Tryd.underlying2 h0
    obtain ⟨b, ⟨sv, e1, hr⟩, hb⟩ := open_bat_cells h1
    obtain ⟨m, e2, _, w2⟩ := DataW.trod_int Tryd.underlying27 h2
    simp [batCells] at e0 e1 e2
    obtain ⟨e11, e12, e13⟩ := e1
    subst e0 e11 e12 e13 e2
    exact ⟨⟨k, b, m⟩, ⟨v3, rfl, hr⟩, w0, w2, hb⟩
theorem open_int_cells {fuel : Nat} {cs : List Value} {x : DataW H × List MemPlace} (h : DataW.trod enc Tryd.prog w 0 spare held fuel 3 cs = some x) : ∃ k, IntIn k cs ∧ (Lit.int .i64 k).wf = true := by
  obtain ⟨k, e0, _, w0⟩ := DataW.trod_int Tryd.underlying3 h
  exact ⟨k, (by simpa using e0 : cs = [.int .i64 k]), w0⟩
instance : Inhabited BatchD := ⟨⟨0, 0, []⟩⟩
instance : Inhabited RowD := ⟨zeroRow⟩
theorem open_bats {r : Reach} {b0 : Nat} {v : Value} {d : DataW H} {p : List MemPlace} (hv : Value.okWide Tryd.prog w r b0 30 v) (h : DataW.Trod enc Tryd.prog w 0 spare held 30 v d p) : ∃ l, (∀ b ∈ l, BatWf b) ∧ BatsRd w v l := by
  obtain ⟨b, len, cap, rfl⟩ := okWide_slice Tryd.underlying30 hv
  obtain ⟨fuel, hf⟩ := h
  obtain ⟨sv, l, e, h1, h2⟩ := open_list Tryd.underlying30 (by kernel_rfl : _ = 3) (by decide) open_bat_cells hf
  simp [Value.cells] at e
  subst e
  exact ⟨l, h1, h2⟩
theorem open_rows {r : Reach} {b0 : Nat} {v : Value} {d : DataW H} {p : List MemPlace} (hv : Value.okWide Tryd.prog w r b0 22 v) (h : DataW.Trod enc Tryd.prog w 0 spare held 22 v d p) : ∃ l, (∀ b ∈ l, RowWf b) ∧ RowsRd w v l := by
  obtain ⟨b, len, cap, rfl⟩ := okWide_slice Tryd.underlying22 hv
  obtain ⟨fuel, hf⟩ := h
  obtain ⟨sv, l, e, h1, h2⟩ := open_list Tryd.underlying22 (by kernel_rfl : _ = 5) (by decide) open_row_cells hf
  simp [Value.cells] at e
  subst e
  exact ⟨l, h1, h2⟩

-- pieces

theorem open_intl {r : Reach} {b0 : Nat} {v : Value} {d : DataW H} {p : List MemPlace} (hv : Value.okWide Tryd.prog w r b0 50 v) (h : DataW.Trod enc Tryd.prog w 0 spare held 50 v d p) : ∃ l, (∀ k ∈ l, (Lit.int .i64 k).wf = true) ∧ IntsRd w v l := by
  obtain ⟨b, len, cap, rfl⟩ := okWide_slice Tryd.underlying50 hv
  obtain ⟨fuel, hf⟩ := h
  obtain ⟨sv, l, e, h1, h2⟩ := open_list Tryd.underlying50 (by kernel_rfl : _ = 1) (by decide) open_int_cells hf
  simp [Value.cells] at e
  subst e
  exact ⟨l, h1, h2⟩

end
end Go.Proofs.YtajidlglbkopjaaDoor
