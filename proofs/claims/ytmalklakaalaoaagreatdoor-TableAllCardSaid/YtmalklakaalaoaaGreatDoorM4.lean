/-
  Texts of the proof, one behind the other (part 4).
-/
import Derived.Test.YtmalklakaalaoaaGreatDoorM3
import Derived.DataShut
import Derived.Deep.Slices
import Derived.Maps.RangeRun
import Derived.Deep.RegionHeld3
set_option linter.unusedVariables false
set_option maxRecDepth 10000
namespace Go.Sx
theorem Has.call {w0 W W' : World} {R : List Res} {r : Res} (h : Has 0 w0 W R) (k : Has 0 W W' (r :: Old W 0 :: [])) : Has 0 w0 W' (r :: R) := by
  have hb := k.end (In.tl In.hd)
  obtain ⟨F1, a1, a2, F2, b1, b2, _⟩ := k.has
  have h1 := h.below hb
  refine ⟨h1.ext, h1.glob, F1, a1, a2, ?_⟩
  exact (h.has.loc fun b hb' => hb.block b hb'.2).mono fun b hb' => ⟨⟨hb'.1, Nat.lt_of_lt_of_le hb'.2 hb.size⟩, fun hF => (b1 b ((b2 b (Nat.zero_le _) hb'.2).1)).2 hF⟩
theorem Has.swap2 {G : Nat} {w W : World} {r q : Res} {R : List Res} (h : Has G w W (r :: q :: R)) : Has G w W (q :: r :: R) := ⟨h.ext, h.glob, HasIn.swap h.has⟩
theorem Has.drop2 {G : Nat} {w W : World} {r q : Res} {R : List Res} (h : Has G w W (r :: q :: R)) : Has G w W (r :: R) := h.sub (List.Sublist.cons_cons _ (List.Sublist.cons _ (List.Sublist.refl _)))
theorem Has.own_slice {G : Nat} {w W : World} {E : TypeId} {size n : Nat} {v : Value} {xs : List Value} {R : List Res} (h : Has G w W (Own E size v n xs :: R)) : ∃ ad cap, v = .slice ad n cap := by
  obtain ⟨_, ad, cap, e, _⟩ := h.rd_own In.hd
  exact ⟨ad, cap, e⟩
end Go.Sx
namespace Go.Proofs.YtmalklakaalaoaaGreatDoor.Sw
open Go.RowKit Go.Sx
-- pieces
structure OpD where
  kind : Int
  key : ByteArray
  vk : Int
  vn : Int
  vs : ByteArray
  ok : Int
  on : Int
  os : ByteArray
  n : Int
def opCells (o : OpD) : List Value := [.int .i64 o.kind, .string o.key, .int .i64 o.vk, .int .i64 o.vn, .string o.vs, .int .i64 o.ok, .int .i64 o.on, .string o.os, .int .i64 o.n]
def opB (o : OpD) : List UInt8 := Ph.putI o.kind ++ Ph.putT o.key.data.toList ++ (if o.kind = 3 then putR o.vk o.vn o.vs ++ putR o.ok o.on o.os else if o.kind = 1 then putR o.vk o.vn o.vs else if o.kind = 4 then Ph.putI o.n else [])
def headB (c q n : Int) : List UInt8 := Ph.putI c ++ Ph.putI q ++ Ph.putI n
def textB (c q : Int) (l : List OpD) : List UInt8 := headB c q l.length ++ l.flatMap opB
def i64 (n : Int) : Prop := -9223372036854775808 ≤ n ∧ n ≤ 9223372036854775807
structure OpOk (o : OpD) : Prop where
  kind : i64 o.kind
  vk : i64 o.vk
  vn : i64 o.vn
  ok : i64 o.ok
  on : i64 o.on
  n : i64 o.n
  key : o.key.size ≤ 1000000
  vs : o.vs.size ≤ 1000000
  os : o.os.size ≤ 1000000
theorem putT_le (s : ByteArray) : (Ph.putT s.data.toList).length ≤ 10 + s.size := by
  have hd : s.data.toList.length = s.size := by rw [Array.length_toList]; rfl
  unfold Ph.putT
  have := Ph.putI_length_le s.data.toList.length
  rw [List.length_append, hd]
  rw [hd] at this
  omega
theorem putR_le (k n : Int) (s : ByteArray) : (putR k n s).length ≤ 30 + s.size := by
  unfold putR
  have h1 := Ph.putI_length_le k
  have h2 := Ph.putI_length_le n
  have h3 := putT_le s
  rw [List.length_append]
  split
  · omega
  · split
    · omega
    · simp; omega
theorem opB_le {o : OpD} (h : OpOk o) : (opB o).length ≤ 3200000 := by
  have h1 := Ph.putI_length_le o.kind
  have h2 := putT_le o.key
  have h3 := putR_le o.vk o.vn o.vs
  have h4 := putR_le o.ok o.on o.os
  have h5 := Ph.putI_length_le o.n
  have := h.key; have := h.vs; have := h.os
  unfold opB
  rw [List.length_append, List.length_append]
  split
  · rw [List.length_append]; omega
  · split
    · omega
    · split
      · omega
      · simp; omega
theorem headB_le (c q n : Int) : (headB c q n).length ≤ 30 := by
  have h1 := Ph.putI_length_le c
  have h2 := Ph.putI_length_le q
  have h3 := Ph.putI_length_le n
  unfold headB
  rw [List.length_append, List.length_append]; omega
theorem ops_le {l : List OpD} (h : ∀ o ∈ l, OpOk o) : (l.flatMap opB).length ≤ 3200000 * l.length := by
  induction l with
  | nil => simp
  | cons o l ih =>
    have h1 := opB_le (h o (by simp))
    have h2 := ih fun x hx => h x (by simp [hx])
    rw [List.flatMap_cons, List.length_append, List.length_cons]; omega
def headAt (c q n : Int) : Nat → List UInt8
  | 0 => []
  | 1 => Ph.putI c
  | 2 => Ph.putI c ++ Ph.putI q
  | _ => headB c q n
theorem headAt_le (c q n : Int) (i : Nat) : (headAt c q n i).length ≤ 30 := by
  have h1 := Ph.putI_length_le c
  have h2 := Ph.putI_length_le q
  unfold headAt
  split
  · simp
  · omega
  · rw [List.length_append]; omega
  · exact headB_le c q n
theorem cut_ops : ∀ (l : List OpD) (i : Nat) (o : OpD), l[i]? = some o → ((l.flatMap opCells).drop (i * 9)).take 9 = opCells o
  | [], i, o, h => by simp at h
  | x :: l, 0, o, h => by
    simp only [List.getElem?_cons_zero, Option.some.injEq] at h
    subst h
    rw [List.flatMap_cons, Nat.zero_mul, List.drop_zero]
    exact List.take_left' rfl
  | x :: l, i + 1, o, h => by
    rw [List.getElem?_cons_succ] at h
    rw [List.flatMap_cons, show (i + 1) * 9 = (opCells x).length + i * 9 from by rw [Nat.add_mul]; show _ = 9 + _; omega, List.drop_append]
    rw [List.drop_of_length_le (by omega), List.nil_append, show (opCells x).length + i * 9 - (opCells x).length = i * 9 from by omega]
    exact cut_ops l i o h
section
variable {ops : Array Oper} {rest : List Oper} {Q : Exit → Act → World → Prop} {a : Act} {n : Nat} {L : List (Nat × Value)} {W : World} {d : Nat} {T : TypeId} {p : String} {e : Array Edge} {x y : Operand} {v : Value} {q : IntKind}
theorem st_index_op {l : List OpD} {i : Nat} {o : OpD} (hs : Slots a n L) (r : Rd W 9 v l.length (l.flatMap opCells)) (ho : l[i]? = some o) (hx : ev L x = some v := by with_unfolding_all exact rfl) (hy : ev L y = some (.int q (i : Int)) := by with_unfolding_all exact rfl) (hd : Nat.blt d n = true := by with_unfolding_all exact rfl)
    (c : ∀ a' b off, (∀ j u, (opCells o)[j]? = some u → W.cell? ⟨b, off + j, none⟩ = some u) → Slots a' n ((d, .pointer (some ⟨b, off, none⟩)) :: L) → wpList Tryz.prog ops Q rest a' W) : wpList Tryz.prog ops Q (⟨some d, .indexAddr 34 x y, T, p, e, none⟩ :: rest) a W := by
  have hi : i < l.length := (List.getElem?_eq_some_iff.1 ho).1
  refine st_indexAddr (z := opCells ⟨0, ⟨#[]⟩, 0, 0, ⟨#[]⟩, 0, 0, ⟨#[]⟩, 0⟩) hs hx hy r (by omega) (by omega) hd fun a' b off h1 h2 h3 => c a' b off (fun j u hu => h1 j u ?_) h3
  rw [cut_eq, Int.toNat_natCast]
  exact (congrArg (fun t => t[j]?) (cut_ops l i o ho)).trans hu
end
set_option maxHeartbeats 4000000 in
theorem op_text (c q : Int) (l : List OpD) (sv : Value) (w : World) (hc : i64 c) (hq : i64 q) (hl : l.length ≤ 100) (ho : ∀ o ∈ l, OpOk o) (r : Rd w 9 sv l.length (l.flatMap opCells)) :
    Calls Tryz.prog 93 ⟨[.agg ⟨[.int .i64 c, .int .i64 q, sv]⟩]⟩ w fun e w' => ∃ ad cap, e = .returned (.slice ad (textB c q l).length cap) ∧ Has 0 w w' (OwnB 5 (.slice ad (textB c q l).length cap) (textB c q l) :: Old w 0 :: []) := by
  have hw := Has.start (G := 0) (w := w) (Nat.zero_le _)
  obtain ⟨sad, scap, rfl⟩ : ∃ ad cap, sv = .slice ad l.length cap := by obtain ⟨_, ad, cap, e, _⟩ := r; exact ⟨ad, cap, e⟩
  refine enter Tryz.func93 Tryz.ntmps93 rfl rfl fun a hs => ?_
  repeat (first | (refine sxv hs hw ?_; clear hs; intro a hs) | refine sxc hs ?_ | (refine sxa hs hw ?_; clear hs hw; intro a b W hw hs) | (refine sxs hs hw ?_; clear hs hw; intro W hs hw))
  obtain ⟨b2, q2⟩ := nm1 hw; subst q2
  obtain ⟨b1, q1⟩ := nm2 hw; subst q1
  have hw := hw.nilB 5
  have hw : Has 0 w _ (Sx.OwnB 5 (.slice none 0 0) [] :: [Cells b2 [.int .i64 c, .int .i64 q, .int .i64 (l.length : Int)] 2, Cells b1 [.int .i64 c, .int .i64 q, .slice sad l.length scap] 36, Old w 0]) := hw
  refine st_loop (σ := Value × Nat) (fun s => [(1, .pointer (some ⟨b1, 0, none⟩)), (3, s.1), (15, .slice (some ⟨b2, 0, none⟩) 3 3), (16, .int .i64 3), (17, .int .i64 s.2)]) (fun s => OwnB 5 s.1 (headAt c q l.length s.2) :: [Cells b2 [.int .i64 c, .int .i64 q, .int .i64 (l.length : Int)] 2, Cells b1 [.int .i64 c, .int .i64 q, .slice sad l.length scap] 36, Old w 0]) (fun s => s.2 ≤ 3) (fun s => 3 - s.2) (.slice none 0 0, 0) (by decide) hs ⟨rfl, rfl, rfl, rfl, rfl, trivial⟩ hw ?_
  clear hs hw
  rintro ⟨v, i⟩ a W hi hs hw
  simp only at hi hs hw
  repeat (first | (refine sxv hs hw ?_; clear hs; intro a hs) | refine sxc hs ?_ | (refine sxa hs hw ?_; clear hs hw; intro a b W hw hs) | (refine sxs hs hw ?_; clear hs hw; intro W hs hw))
  obtain rfl | rfl | rfl | rfl : i = 0 ∨ i = 1 ∨ i = 2 ∨ i = 3 := by omega
  · repeat (first | (refine sxv hs hw ?_; clear hs; intro a hs) | refine sxc hs ?_ | (refine sxa hs hw ?_; clear hs hw; intro a b W hw hs) | (refine sxs hs hw ?_; clear hs hw; intro W hs hw))
    refine st_index_at hs (h0 := by decide) (h1 := by decide) (c := ?_); clear hs; intro a hs
    repeat (first | (refine sxv hs hw ?_; clear hs; intro a hs) | refine sxc hs ?_ | (refine sxa hs hw ?_; clear hs hw; intro a b W hw hs) | (refine sxs hs hw ?_; clear hs hw; intro W hs hw))
    refine st_call hs (hc := num_Put w _ _ (headAt c q l.length 0) c _ hc.1 hc.2 (by have := headAt_le c q l.length 0; omega) hw) (k := ?_); rintro e0 W1 ⟨ad, cap, rfl, hw1⟩; refine ⟨_, rfl, ?_⟩; clear hs hw; intro a hs; have hw := hw1; clear hw1
    repeat (first | (refine sxv hs hw ?_; clear hs; intro a hs) | refine sxc hs ?_ | (refine sxa hs hw ?_; clear hs hw; intro a b W hw hs) | (refine sxs hs hw ?_; clear hs hw; intro W hs hw))
    refine st_again (_, 1) hs hw (by show 1 ≤ 3; decide) (by show 3 - 1 < 3 - 0; decide) ⟨rfl, rfl, rfl, rfl, rfl, trivial⟩
  · repeat (first | (refine sxv hs hw ?_; clear hs; intro a hs) | refine sxc hs ?_ | (refine sxa hs hw ?_; clear hs hw; intro a b W hw hs) | (refine sxs hs hw ?_; clear hs hw; intro W hs hw))
    refine st_index_at hs (h0 := by decide) (h1 := by decide) (c := ?_); clear hs; intro a hs
    repeat (first | (refine sxv hs hw ?_; clear hs; intro a hs) | refine sxc hs ?_ | (refine sxa hs hw ?_; clear hs hw; intro a b W hw hs) | (refine sxs hs hw ?_; clear hs hw; intro W hs hw))
    refine st_call hs (hc := num_Put w _ _ (headAt c q l.length 1) q _ hq.1 hq.2 (by have := headAt_le c q l.length 1; omega) hw) (k := ?_); rintro e0 W1 ⟨ad, cap, rfl, hw1⟩; refine ⟨_, rfl, ?_⟩; clear hs hw; intro a hs; have hw := hw1; clear hw1
    repeat (first | (refine sxv hs hw ?_; clear hs; intro a hs) | refine sxc hs ?_ | (refine sxa hs hw ?_; clear hs hw; intro a b W hw hs) | (refine sxs hs hw ?_; clear hs hw; intro W hs hw))
    refine st_again (_, 2) hs hw (by show 2 ≤ 3; decide) (by show 3 - 2 < 3 - 1; decide) ⟨rfl, rfl, rfl, rfl, rfl, trivial⟩
  · repeat (first | (refine sxv hs hw ?_; clear hs; intro a hs) | refine sxc hs ?_ | (refine sxa hs hw ?_; clear hs hw; intro a b W hw hs) | (refine sxs hs hw ?_; clear hs hw; intro W hs hw))
    refine st_index_at hs (h0 := by decide) (h1 := by decide) (c := ?_); clear hs; intro a hs
    repeat (first | (refine sxv hs hw ?_; clear hs; intro a hs) | refine sxc hs ?_ | (refine sxa hs hw ?_; clear hs hw; intro a b W hw hs) | (refine sxs hs hw ?_; clear hs hw; intro W hs hw))
    refine st_call hs (hc := num_Put w _ _ (headAt c q l.length 2) (l.length : Int) _ (by omega) (by omega) (by have := headAt_le c q l.length 2; omega) hw) (k := ?_); rintro e0 W1 ⟨ad, cap, rfl, hw1⟩; refine ⟨_, rfl, ?_⟩; clear hs hw; intro a hs; have hw := hw1; clear hw1
    repeat (first | (refine sxv hs hw ?_; clear hs; intro a hs) | refine sxc hs ?_ | (refine sxa hs hw ?_; clear hs hw; intro a b W hw hs) | (refine sxs hs hw ?_; clear hs hw; intro W hs hw))
    refine st_again (_, 3) hs hw (by show 3 ≤ 3; decide) (by show 3 - 3 < 3 - 2; decide) ⟨rfl, rfl, rfl, rfl, rfl, trivial⟩
  · -- BEHIND
    repeat (first | (refine sxv hs hw ?_; clear hs; intro a hs) | refine sxc hs ?_ | (refine sxa hs hw ?_; clear hs hw; intro a b W hw hs) | (refine sxs hs hw ?_; clear hs hw; intro W hs hw))
    refine st_loop (σ := Value × Nat) (fun s => [(3, s.1), (26, .slice sad l.length scap), (27, .int .i64 (l.length : Int)), (28, .int .i64 (s.2 : Int))]) (fun s => Sx.OwnB 5 s.1 (headB c q l.length ++ (l.take s.2).flatMap opB) :: Cells b2 [.int .i64 c, .int .i64 q, .int .i64 (l.length : Int)] 2 :: Cells b1 [.int .i64 c, .int .i64 q, .slice sad l.length scap] 36 :: Old w 0 :: []) (fun s => s.2 ≤ l.length) (fun s => l.length - s.2) (v, 0) (Nat.zero_le _) hs ⟨rfl, rfl, rfl, rfl, trivial⟩ (by rw [show (headB c q l.length ++ (l.take 0).flatMap opB) = headAt c q l.length 3 from by simp [headAt]]; exact hw) ?_
    clear hs hw hi
    rintro ⟨v, i⟩ a W hi hs hw
    simp only at hi hs hw
    repeat (first | (refine sxv hs hw ?_; clear hs; intro a hs) | refine sxc hs ?_ | (refine sxa hs hw ?_; clear hs hw; intro a b W hw hs) | (refine sxs hs hw ?_; clear hs hw; intro W hs hw))
    refine cd_split hs (kt := fun hc => ?_) (kf := fun hc => ?_)
    · have hi' : i < l.length := by simpa using hc
      obtain ⟨o, hoi⟩ : ∃ o, l[i]? = some o := ⟨l[i], List.getElem?_eq_getElem hi'⟩
      have hok := ho o (List.mem_of_getElem? hoi)
      have hacc : (headB c q l.length ++ (l.take i).flatMap opB).length ≤ 320000030 := by
        have h1 := headB_le c q l.length
        have h2 := ops_le (l := l.take i) fun x hx => ho x (List.mem_of_mem_take hx)
        rw [List.length_take] at h2
        rw [List.length_append]; omega
      have hnext : headB c q l.length ++ (l.take (i + 1)).flatMap opB = headB c q l.length ++ (l.take i).flatMap opB ++ opB o := by
        rw [List.take_add_one, hoi, List.flatMap_append, List.append_assoc]; simp
      generalize headB c q l.length ++ (l.take i).flatMap opB = acc at *
      have hp1 := Ph.putI_length_le o.kind
      have hp2 := putT_le o.key
      have hp3 := putR_le o.vk o.vn o.vs
      obtain ⟨hk, hvk, hvn, hok', hon, hn, hkey, hvs, hos⟩ := hok
      repeat (first | (refine sxv hs hw ?_; clear hs; intro a hs) | refine sxc hs ?_ | (refine sxa hs hw ?_; clear hs hw; intro a b W hw hs) | (refine sxs hs hw ?_; clear hs hw; intro W hs hw))
      refine st_index_op hs (r := hw.rd (by repeat (first | exact In.hd | apply In.tl)) hw.ext.size r) (ho := hoi) (c := ?_); clear hs; intro a p off hpc hs
      refine st_load_ats (z := opCells ⟨0, ⟨#[]⟩, 0, 0, ⟨#[]⟩, 0, 0, ⟨#[]⟩, 0⟩) hs (hc := hpc) (hl := rfl) (c := ?_); clear hs; intro a hs
      obtain ⟨kind, key, vk, vn, vs, ok, on, os, n⟩ := o
      simp only at hk hvk hvn hok' hon hn hkey hvs hos hp1 hp2 hp3
      simp only [opCells] at hs
      clear hpc
      repeat (first | (refine sxv hs hw ?_; clear hs; intro a hs) | refine sxc hs ?_ | (refine sxa hs hw ?_; clear hs hw; intro a b W hw hs) | (refine sxs hs hw ?_; clear hs hw; intro W hs hw))
      obtain ⟨b4, q4⟩ := nm1 hw; subst q4
      have hw : Has 0 w _ (Cells b4 [.int .i64 kind, .string key, .int .i64 vk, .int .i64 vn, .string vs, .int .i64 ok, .int .i64 on, .string os, .int .i64 n] 95 :: Sx.OwnB 5 v acc :: Cells b2 [.int .i64 c, .int .i64 q, .int .i64 (l.length : Int)] 2 :: Cells b1 [.int .i64 c, .int .i64 q, .slice sad l.length scap] 36 :: Old w 0 :: []) := hw
      have hw := hw.swap2
      refine rg_drawU (σ := Option Addr × Nat) (V := fun u => [v, .pointer (some ⟨b4, 0 + 0, none⟩), .int .i64 kind, (.slice (u 3).1 (acc ++ Ph.putI kind).length (u 3).2), .pointer (some ⟨b4, 0 + 1, none⟩), .string key, (.slice (u 6).1 (acc ++ Ph.putI kind ++ Ph.putT key.data.toList).length (u 6).2), (.slice (u 7).1 (acc ++ Ph.putI kind ++ Ph.putT key.data.toList).length (u 7).2)])
        (Rs := fun u D => (if D 7 then Sx.OwnB 5 (.slice (u 7).1 (acc ++ Ph.putI kind ++ Ph.putT key.data.toList).length (u 7).2) (acc ++ Ph.putI kind ++ Ph.putT key.data.toList) else if D 6 then Sx.OwnB 5 (.slice (u 6).1 (acc ++ Ph.putI kind ++ Ph.putT key.data.toList).length (u 6).2) (acc ++ Ph.putI kind ++ Ph.putT key.data.toList) else if D 3 then Sx.OwnB 5 (.slice (u 3).1 (acc ++ Ph.putI kind).length (u 3).2) (acc ++ Ph.putI kind) else Sx.OwnB 5 v acc) :: Cells b4 [.int .i64 kind, .string key, .int .i64 vk, .int .i64 vn, .string vs, .int .i64 ok, .int .i64 on, .string os, .int .i64 n] 95 :: Cells b2 [.int .i64 c, .int .i64 q, .int .i64 (l.length : Int)] 2 :: Cells b1 [.int .i64 c, .int .i64 q, .slice sad l.length scap] 36 :: Old w 0 :: []) (fun _ => (none, 0)) hs hw (hVu := ?vu_a) (ho := ⟨?_, ?_, ?_, ?c3_a, ?_, ?_, ?c6_a, ?c7_a, trivial⟩) (k := ?k_a)
      case vu_a =>
        intro u u' j h
        rcases j with _ | _ | _ | _ | _ | _ | _ | _ | j
        · rfl
        · rfl
        · rfl
        · simp [h]
        · rfl
        · rfl
        · simp [h]
        · simp [h]
        · rfl
      case c3_a =>
        intro u LD D a W hcl hi hp hs hw
        have h6 := Go.Sx.not_done hcl hi 6 (by kernel_rfl)
        have h7 := Go.Sx.not_done hcl h6 7 (by kernel_rfl)
        simp only [hi, h6, h7, Bool.false_eq_true, if_false] at hw
        refine st_call hs (hc := num_Put w _ _ acc kind _ hk.1 hk.2 (by omega) hw) (k := ?_); rintro e0 W1 ⟨ad, cap, rfl, hw1⟩; refine ⟨_, rfl, ?_⟩; clear hs hw; intro a hs; have hw := hw1; clear hw1
        repeat (first | (refine sxv hs hw ?_; clear hs; intro a hs) | refine sxc hs ?_ | (refine sxa hs hw ?_; clear hs hw; intro a b W hw hs) | (refine sxs hs hw ?_; clear hs hw; intro W hs hw))
        refine Or.inr ⟨(ad, cap), hs, ?_⟩
        show Has 0 w _ ((if (Nat.beq 7 3 || D 7) = true then _ else if (Nat.beq 6 3 || D 6) = true then _ else _) :: _)
        rw [h6, h7]
        exact hw
      case c6_a =>
        intro u LD D a W hcl hi hp hs hw
        have h7 := Go.Sx.not_done hcl hi 7 (by kernel_rfl)
        have h3 := Go.Sx.done hp 3 (by kernel_rfl)
        simp only [hi, h3, h7, Bool.false_eq_true, if_false, if_true] at hw
        refine st_call hs (hc := num_PutText w _ _ (acc ++ Ph.putI kind) key _ (by omega) (by rw [List.length_append]; omega) hw) (k := ?_); rintro e0 W1 ⟨ad, cap, rfl, hw1⟩; refine ⟨_, rfl, ?_⟩; clear hs hw; intro a hs; have hw := hw1; clear hw1
        repeat (first | (refine sxv hs hw ?_; clear hs; intro a hs) | refine sxc hs ?_ | (refine sxa hs hw ?_; clear hs hw; intro a b W hw hs) | (refine sxs hs hw ?_; clear hs hw; intro W hs hw))
        refine Or.inr ⟨(ad, cap), hs, ?_⟩
        show Has 0 w _ ((if (Nat.beq 7 6 || D 7) = true then _ else _) :: _)
        rw [h7]
        exact hw
      case c7_a =>
        intro u LD D a W hcl hi hp hs hw
        have h6 := Go.Sx.done hp 6 (by kernel_rfl)
        simp only [hi, h6, Bool.false_eq_true, if_false, if_true] at hw
        repeat (first | (refine sxv hs hw ?_; clear hs; intro a hs) | refine sxc hs ?_ | (refine sxa hs hw ?_; clear hs hw; intro a b W hw hs) | (refine sxs hs hw ?_; clear hs hw; intro W hs hw))
        exact Or.inr ⟨u 6, hs, hw⟩
      case k_a =>
        clear hs hw
        intro u a W hs hw
        replace hw : Has 0 w W (Sx.OwnB 5 (.slice (u 7).1 (acc ++ Ph.putI kind ++ Ph.putT key.data.toList).length (u 7).2) (acc ++ Ph.putI kind ++ Ph.putT key.data.toList) :: Cells b4 [.int .i64 kind, .string key, .int .i64 vk, .int .i64 vn, .string vs, .int .i64 ok, .int .i64 on, .string os, .int .i64 n] 95 :: Cells b2 [.int .i64 c, .int .i64 q, .int .i64 (l.length : Int)] 2 :: Cells b1 [.int .i64 c, .int .i64 q, .slice sad l.length scap] 36 :: Old w 0 :: []) := hw
        replace hs : Slots a 64 [(3, (.slice (u 7).1 (acc ++ Ph.putI kind ++ Ph.putT key.data.toList).length (u 7).2)), (7, .pointer (some ⟨b4, 0, none⟩)), (26, .slice sad l.length scap), (27, .int .i64 (l.length : Int)), (28, .int .i64 (i : Int))] := hs.of ⟨rfl, rfl, rfl, rfl, rfl, trivial⟩
        generalize (u 7).1 = ad1 at *
        generalize (u 7).2 = cap1 at *
        clear u
        have hlen2 : (acc ++ Ph.putI kind ++ Ph.putT key.data.toList).length ≤ 322000060 := by simp only [List.length_append]; omega
        generalize hA : acc ++ Ph.putI kind ++ Ph.putT key.data.toList = acc2 at *
        generalize Value.slice ad1 acc2.length cap1 = v at *
        repeat (first | (refine sxv hs hw ?_; clear hs; intro a hs) | refine sxc hs ?_ | (refine sxa hs hw ?_; clear hs hw; intro a b W hw hs) | (refine sxs hs hw ?_; clear hs hw; intro W hs hw))
        by_cases k3 : kind = 3
        · subst k3
          repeat (first | (refine sxv hs hw ?_; clear hs; intro a hs) | refine sxc hs ?_ | (refine sxa hs hw ?_; clear hs hw; intro a b W hw hs) | (refine sxs hs hw ?_; clear hs hw; intro W hs hw))
          refine rg_drawU (σ := Option Addr × Nat) (V := fun u => [v, .pointer (some ⟨b4, 0 + 2, none⟩), .agg ⟨[.int .i64 vk, .int .i64 vn, .string vs]⟩, (.slice (u 3).1 (acc2 ++ putR vk vn vs).length (u 3).2), .pointer (some ⟨b4, 0 + 5, none⟩), .agg ⟨[.int .i64 ok, .int .i64 on, .string os]⟩, (.slice (u 6).1 (acc2 ++ putR vk vn vs ++ putR ok on os).length (u 6).2), (.slice (u 7).1 (acc2 ++ putR vk vn vs ++ putR ok on os).length (u 7).2)])
            (Rs := fun u D => (if D 7 then Sx.OwnB 5 (.slice (u 7).1 (acc2 ++ putR vk vn vs ++ putR ok on os).length (u 7).2) (acc2 ++ putR vk vn vs ++ putR ok on os) else if D 6 then Sx.OwnB 5 (.slice (u 6).1 (acc2 ++ putR vk vn vs ++ putR ok on os).length (u 6).2) (acc2 ++ putR vk vn vs ++ putR ok on os) else if D 3 then Sx.OwnB 5 (.slice (u 3).1 (acc2 ++ putR vk vn vs).length (u 3).2) (acc2 ++ putR vk vn vs) else Sx.OwnB 5 v acc2) :: Cells b4 [.int .i64 3, .string key, .int .i64 vk, .int .i64 vn, .string vs, .int .i64 ok, .int .i64 on, .string os, .int .i64 n] 95 :: Cells b2 [.int .i64 c, .int .i64 q, .int .i64 (l.length : Int)] 2 :: Cells b1 [.int .i64 c, .int .i64 q, .slice sad l.length scap] 36 :: Old w 0 :: []) (fun _ => (none, 0)) hs hw (hVu := ?vu_b) (ho := ⟨?_, ?_, ?_, ?c3_b, ?_, ?_, ?c6_b, ?c7_b, trivial⟩) (k := ?k_b)
          case vu_b =>
            intro u u' j h
            rcases j with _ | _ | _ | _ | _ | _ | _ | _ | j
            · rfl
            · rfl
            · rfl
            · simp [h]
            · rfl
            · rfl
            · simp [h]
            · simp [h]
            · rfl
          case c3_b =>
            intro u LD D a W hcl hi hp hs hw
            have h6 := Go.Sx.not_done hcl hi 6 (by kernel_rfl)
            have h7 := Go.Sx.not_done hcl h6 7 (by kernel_rfl)
            simp only [hi, h6, h7, Bool.false_eq_true, if_false] at hw
            refine st_call hs (hc := value_Put w _ _ acc2 vk vn vs _ hvk.1 hvk.2 hvn.1 hvn.2 (by omega) (by omega) hw) (k := ?_); rintro e0 W1 ⟨ad, cap, rfl, hw1⟩; refine ⟨_, rfl, ?_⟩; clear hs hw; intro a hs; have hw := hw1; clear hw1
            repeat (first | (refine sxv hs hw ?_; clear hs; intro a hs) | refine sxc hs ?_ | (refine sxa hs hw ?_; clear hs hw; intro a b W hw hs) | (refine sxs hs hw ?_; clear hs hw; intro W hs hw))
            refine Or.inr ⟨(ad, cap), hs, ?_⟩
            show Has 0 w _ ((if (Nat.beq 7 3 || D 7) = true then _ else if (Nat.beq 6 3 || D 6) = true then _ else _) :: _)
            rw [h6, h7]
            exact hw
          case c6_b =>
            intro u LD D a W hcl hi hp hs hw
            have h7 := Go.Sx.not_done hcl hi 7 (by kernel_rfl)
            have h3 := Go.Sx.done hp 3 (by kernel_rfl)
            simp only [hi, h3, h7, Bool.false_eq_true, if_false, if_true] at hw
            refine st_call hs (hc := value_Put w _ _ (acc2 ++ putR vk vn vs) ok on os _ hok'.1 hok'.2 hon.1 hon.2 (by omega) (by rw [List.length_append]; omega) hw) (k := ?_); rintro e0 W1 ⟨ad, cap, rfl, hw1⟩; refine ⟨_, rfl, ?_⟩; clear hs hw; intro a hs; have hw := hw1; clear hw1
            repeat (first | (refine sxv hs hw ?_; clear hs; intro a hs) | refine sxc hs ?_ | (refine sxa hs hw ?_; clear hs hw; intro a b W hw hs) | (refine sxs hs hw ?_; clear hs hw; intro W hs hw))
            refine Or.inr ⟨(ad, cap), hs, ?_⟩
            show Has 0 w _ ((if (Nat.beq 7 6 || D 7) = true then _ else _) :: _)
            rw [h7]
            exact hw
          case c7_b =>
            intro u LD D a W hcl hi hp hs hw
            have h6 := Go.Sx.done hp 6 (by kernel_rfl)
            simp only [hi, h6, Bool.false_eq_true, if_false, if_true] at hw
            repeat (first | (refine sxv hs hw ?_; clear hs; intro a hs) | refine sxc hs ?_ | (refine sxa hs hw ?_; clear hs hw; intro a b W hw hs) | (refine sxs hs hw ?_; clear hs hw; intro W hs hw))
            exact Or.inr ⟨u 6, hs, hw⟩
          case k_b =>
            clear hs hw
            intro u a W hs hw
            replace hw : Has 0 w W (Sx.OwnB 5 (.slice (u 7).1 (acc2 ++ putR vk vn vs ++ putR ok on os).length (u 7).2) (acc2 ++ putR vk vn vs ++ putR ok on os) :: Cells b4 [.int .i64 3, .string key, .int .i64 vk, .int .i64 vn, .string vs, .int .i64 ok, .int .i64 on, .string os, .int .i64 n] 95 :: Cells b2 [.int .i64 c, .int .i64 q, .int .i64 (l.length : Int)] 2 :: Cells b1 [.int .i64 c, .int .i64 q, .slice sad l.length scap] 36 :: Old w 0 :: []) := hw
            replace hs : Slots a 64 [(3, (.slice (u 7).1 (acc2 ++ putR vk vn vs ++ putR ok on os).length (u 7).2)), (7, .pointer (some ⟨b4, 0, none⟩)), (26, .slice sad l.length scap), (27, .int .i64 (l.length : Int)), (28, .int .i64 (i : Int))] := hs.of ⟨rfl, rfl, rfl, rfl, rfl, trivial⟩
            generalize (u 7).1 = ad1 at *
            generalize (u 7).2 = cap1 at *
            clear u
            have hw := hw.drop2
            repeat (first | (refine sxv hs hw ?_; clear hs; intro a hs) | refine sxc hs ?_ | (refine sxa hs hw ?_; clear hs hw; intro a b W hw hs) | (refine sxs hs hw ?_; clear hs hw; intro W hs hw))
            rw [show acc2 ++ putR vk vn vs ++ putR ok on os = acc ++ opB ⟨3, key, vk, vn, vs, ok, on, os, n⟩ from by rw [← hA]; simp [opB], ← hnext] at hs hw
            refine st_again (_, i + 1) hs hw (by show i + 1 ≤ l.length; omega) (by show l.length - (i + 1) < l.length - i; omega) ⟨rfl, rfl, rfl, int_eq (by show IntKind.i64.wrap ((i : Int) + 1) = ((i + 1 : Nat) : Int); rw [IntWalk.i64_in _ (by omega)]; omega), trivial⟩
          all_goals
            intro u LD D a W hcl hi hp hs hw
            repeat (first | (refine sxv hs hw ?_; clear hs; intro a hs) | refine sxc hs ?_ | (refine sxa hs hw ?_; clear hs hw; intro a b W hw hs) | (refine sxs hs hw ?_; clear hs hw; intro W hs hw))
            exact Or.inl ⟨hs, hw⟩
        have e3 : (kind == 3) = false := by simpa using k3
        rw [e3] at hs
        repeat (first | (refine sxv hs hw ?_; clear hs; intro a hs) | refine sxc hs ?_ | (refine sxa hs hw ?_; clear hs hw; intro a b W hw hs) | (refine sxs hs hw ?_; clear hs hw; intro W hs hw))
        by_cases k1 : kind = 1
        · subst k1
          repeat (first | (refine sxv hs hw ?_; clear hs; intro a hs) | refine sxc hs ?_ | (refine sxa hs hw ?_; clear hs hw; intro a b W hw hs) | (refine sxs hs hw ?_; clear hs hw; intro W hs hw))
          refine st_call hs (hc := value_Put w _ _ (acc2) vk vn vs _ hvk.1 hvk.2 hvn.1 hvn.2 (by omega) (by omega) hw) (k := ?_); rintro e0 W1 ⟨ad, cap, rfl, hw1⟩; refine ⟨_, rfl, ?_⟩; clear hs hw; intro a hs; have hw := hw1; clear hw1
          repeat (first | (refine sxv hs hw ?_; clear hs; intro a hs) | refine sxc hs ?_ | (refine sxa hs hw ?_; clear hs hw; intro a b W hw hs) | (refine sxs hs hw ?_; clear hs hw; intro W hs hw))
          have hw := hw.drop2
          repeat (first | (refine sxv hs hw ?_; clear hs; intro a hs) | refine sxc hs ?_ | (refine sxa hs hw ?_; clear hs hw; intro a b W hw hs) | (refine sxs hs hw ?_; clear hs hw; intro W hs hw))
          rw [show acc2 ++ putR vk vn vs = acc ++ opB ⟨1, key, vk, vn, vs, ok, on, os, n⟩ from by rw [← hA]; simp [opB], ← hnext] at hs hw
          refine st_again (_, i + 1) hs hw (by show i + 1 ≤ l.length; omega) (by show l.length - (i + 1) < l.length - i; omega) ⟨rfl, rfl, rfl, int_eq (by show IntKind.i64.wrap ((i : Int) + 1) = ((i + 1 : Nat) : Int); rw [IntWalk.i64_in _ (by omega)]; omega), trivial⟩
        have e1 : (kind == 1) = false := by simpa using k1
        rw [e1] at hs
        repeat (first | (refine sxv hs hw ?_; clear hs; intro a hs) | refine sxc hs ?_ | (refine sxa hs hw ?_; clear hs hw; intro a b W hw hs) | (refine sxs hs hw ?_; clear hs hw; intro W hs hw))
        by_cases k4 : kind = 4
        · subst k4
          repeat (first | (refine sxv hs hw ?_; clear hs; intro a hs) | refine sxc hs ?_ | (refine sxa hs hw ?_; clear hs hw; intro a b W hw hs) | (refine sxs hs hw ?_; clear hs hw; intro W hs hw))
          refine st_call hs (hc := num_Put w _ _ (acc2) n _ hn.1 hn.2 (by omega) hw) (k := ?_); rintro e0 W1 ⟨ad, cap, rfl, hw1⟩; refine ⟨_, rfl, ?_⟩; clear hs hw; intro a hs; have hw := hw1; clear hw1
          repeat (first | (refine sxv hs hw ?_; clear hs; intro a hs) | refine sxc hs ?_ | (refine sxa hs hw ?_; clear hs hw; intro a b W hw hs) | (refine sxs hs hw ?_; clear hs hw; intro W hs hw))
          have hw := hw.drop2
          repeat (first | (refine sxv hs hw ?_; clear hs; intro a hs) | refine sxc hs ?_ | (refine sxa hs hw ?_; clear hs hw; intro a b W hw hs) | (refine sxs hs hw ?_; clear hs hw; intro W hs hw))
          rw [show acc2 ++ Ph.putI n = acc ++ opB ⟨4, key, vk, vn, vs, ok, on, os, n⟩ from by rw [← hA]; simp [opB], ← hnext] at hs hw
          refine st_again (_, i + 1) hs hw (by show i + 1 ≤ l.length; omega) (by show l.length - (i + 1) < l.length - i; omega) ⟨rfl, rfl, rfl, int_eq (by show IntKind.i64.wrap ((i : Int) + 1) = ((i + 1 : Nat) : Int); rw [IntWalk.i64_in _ (by omega)]; omega), trivial⟩
        have e4 : (kind == 4) = false := by simpa using k4
        rw [e4] at hs
        repeat (first | (refine sxv hs hw ?_; clear hs; intro a hs) | refine sxc hs ?_ | (refine sxa hs hw ?_; clear hs hw; intro a b W hw hs) | (refine sxs hs hw ?_; clear hs hw; intro W hs hw))
        have hw := hw.drop2
        repeat (first | (refine sxv hs hw ?_; clear hs; intro a hs) | refine sxc hs ?_ | (refine sxa hs hw ?_; clear hs hw; intro a b W hw hs) | (refine sxs hs hw ?_; clear hs hw; intro W hs hw))
        rw [show acc2 = acc ++ opB ⟨kind, key, vk, vn, vs, ok, on, os, n⟩ from by rw [← hA]; simp [opB, k3, k1, k4], ← hnext] at hw
        refine st_again (_, i + 1) hs hw (by show i + 1 ≤ l.length; omega) (by show l.length - (i + 1) < l.length - i; omega) ⟨rfl, rfl, rfl, int_eq (by show IntKind.i64.wrap ((i : Int) + 1) = ((i + 1 : Nat) : Int); rw [IntWalk.i64_in _ (by omega)]; omega), trivial⟩
      all_goals
        intro u LD D a W hcl hi hp hs hw
        repeat (first | (refine sxv hs hw ?_; clear hs; intro a hs) | refine sxc hs ?_ | (refine sxa hs hw ?_; clear hs hw; intro a b W hw hs) | (refine sxs hs hw ?_; clear hs hw; intro W hs hw))
        exact Or.inl ⟨hs, hw⟩
    · have hi' : i = l.length := by simp at hc; omega
      subst hi'
      repeat (first | (refine sxv hs hw ?_; clear hs; intro a hs) | refine sxc hs ?_ | (refine sxa hs hw ?_; clear hs hw; intro a b W hw hs) | (refine sxs hs hw ?_; clear hs hw; intro W hs hw))
      rw [List.take_length] at hw
      have hw := hw.sub (List.Sublist.cons_cons _ (List.Sublist.cons _ (List.Sublist.cons _ (List.Sublist.refl _))))
      obtain ⟨ad, cap, e⟩ : ∃ ad cap, v = .slice ad (textB c q l).length cap := hw.own_slice
      subst e
      exact rt1 hs rfl rfl ⟨ad, cap, rfl, hw⟩
end Go.Proofs.YtmalklakaalaoaaGreatDoor.Sw

set_option linter.unusedVariables false
namespace Go.Sx
theorem HasIn.under {W : World} {r : Res} {A B : List Res} (f : ∀ F, HasIn W A F → HasIn W B F) {F : Nat → Prop} : HasIn W (r :: A) F → HasIn W (r :: B) F :=
  fun ⟨F1, h1, h2, h3⟩ => ⟨F1, h1, h2, f _ h3⟩
theorem HasIn.perm {W : World} {A B : List Res} (p : A.Perm B) : ∀ {F : Nat → Prop}, HasIn W A F → HasIn W B F := by
  induction p with
  | nil => exact fun h => h
  | cons x _ ih => exact fun h => HasIn.under (fun F => ih) h
  | swap x y l => exact fun h => HasIn.swap h
  | trans _ _ ih1 ih2 => exact fun h => ih2 (ih1 h)
theorem Has.perm {G : Nat} {w W : World} {A B : List Res} (h : Has G w W A) (p : A.Perm B) : Has G w W B := ⟨h.ext, h.glob, h.has.perm p⟩
def Free : Res where
  ok _ _ := True
  loc _ _ _ _ h := h
theorem Has.free {G : Nat} {w W : World} {A : List Res} (h : Has G w W A) : Has G w W (Free :: A) :=
  ⟨h.ext, h.glob, fun _ => False, fun _ h => h.elim, trivial, h.has.mono fun b hb => ⟨hb, fun h => h⟩⟩
theorem HasIn.fill {W : World} {r q : Res} {L L' : List Res} (u : Upd q L r L') : ∀ {F : Nat → Prop}, HasIn W (r :: L) F → HasIn W L' F := by
  induction u with
  | hd =>
    rintro F ⟨F1, h1, h2, F2, h3, h4, h5⟩
    exact ⟨F1, h1, h2, h5.mono fun b hb => hb.1⟩
  | tl u ih => exact fun h => HasIn.under (fun F => ih) (HasIn.swap h)
theorem Has.fill {G : Nat} {w W : World} {r q : Res} {L L' : List Res} (h : Has G w W (r :: L)) (u : Upd q L r L') : Has G w W L' := ⟨h.ext, h.glob, h.has.fill u⟩
def Fact (p : Prop) : Res where
  ok _ _ := p
  loc _ _ _ _ h := h
theorem Has.fact {G : Nat} {w W : World} {A : List Res} {p : Prop} (h : Has G w W A) (hp : p) : Has G w W (Fact p :: A) :=
  ⟨h.ext, h.glob, fun _ => False, fun _ h => h.elim, hp, h.has.mono fun b hb => ⟨hb, fun h => h⟩⟩
theorem Has.told {G : Nat} {w W : World} {A : List Res} {p : Prop} (h : Has G w W A) (i : In (Fact p) A) : p := by
  obtain ⟨F, _, h2⟩ := h.of_in i
  exact h2
section
variable {P : Program} {ops : Array Oper} {rest : List Oper} {Q : Exit → Act → World → Prop} {a : Act} {n G : Nat} {L : List (Nat × Value)} {w W W' : World} {R : List Res} {d k cap : Nat} {T S S' E : TypeId} {p : String} {e : Array Edge} {x y : Operand} {ad : Option Addr}
theorem st_eqnil [sl : Sl P S E] (hs : Slots a n L) (hx : ev L x = some (.slice ad k cap) := by with_unfolding_all exact rfl) (hd : Nat.blt d n = true := by with_unfolding_all exact rfl)
    (c : ∀ a', Slots a' n ((d, .bool ad.isNone) :: L) → wpList P ops Q rest a' W) : wpList P ops Q (⟨some d, .binOp .eql S x (.const (.slice none 0 0)) S', T, p, e, none⟩ :: rest) a W := by
  refine st_value hs hd (W' := W) ?_ c
  have h1 : ∀ d, (Op.equalIn (d + 1) S (.slice ad k cap) (.slice none 0 0)).run P W = .ok ad.isNone W := fun d => by
    cases ad <;> simp [Op.equalIn, run_underlying sl.out]
  have h2 : (binOp .eql S (.slice ad k cap) (.slice none 0 0)).run P W = .ok (.bool ad.isNone) W := by
    simp only [binOp, Op.equal, Sem.run_bind]
    rw [show Op.maxDepth = 9999 + 1 from rfl, h1 9999]
    rfl
  have h3 : a.eval (.const (.slice none 0 0)) = .slice none 0 0 := rfl
  simp only [execOp, hs.ev hx, h3, Sem.run_bind]
  simp [eqGuard, h2]
end
end Go.Sx

set_option linter.unusedVariables false
set_option maxRecDepth 10000
namespace Go.Proofs.YtmalklakaalaoaaGreatDoor.Sw
open Go.RowKit Go.Sx
-- pieces
theorem law4_CutS (k n : Int) (s : ByteArray) (w : World) (hs0 : s.size ≤ 9223372036854775807) :
    Calls Tryz.prog 113 ⟨[.agg #[.int .i64 k, .int .i64 n, .string s]]⟩ w fun e w' => e = .returned (.agg ⟨[.int .i64 k, .int .i64 n, .string (cutS s 220)]⟩) ∧ Below w.heap.size w w' := by
  have hw := Has.start (G := 0) (w := w) (Nat.zero_le _)
  refine enter Tryz.func113 Tryz.ntmps113 rfl rfl fun a hs => ?_
  repeat (first | (refine sxv hs hw ?_; clear hs; intro a hs) | refine sxc hs ?_ | (refine sxa hs hw ?_; clear hs hw; intro a b W hw hs) | (refine sxs hs hw ?_; clear hs hw; intro W hs hw))
  refine st_call hs (hc := law1_Cut s 220 _ hs0 (by decide)) (k := ?_); rintro e0 W1 ⟨rfl, rfl⟩; refine ⟨_, rfl, ?_⟩; clear hs; intro a hs
  rw [show (220 : Int).toNat = 220 from rfl] at hs
  repeat (first | (refine sxv hs hw ?_; clear hs; intro a hs) | refine sxc hs ?_ | (refine sxa hs hw ?_; clear hs hw; intro a b W hw hs) | (refine sxs hs hw ?_; clear hs hw; intro W hs hw))
  refine rc1 hs rfl rfl hw (by repeat (first | exact In.hd | apply In.tl)) rfl ?_
  exact ⟨rfl, hw.end (by repeat (first | exact In.hd | apply In.tl))⟩
def cutO (o : OpD) : OpD := ⟨o.kind, cutS o.key 90, o.vk, o.vn, cutS o.vs 220, o.ok, o.on, cutS o.os 220, o.n⟩
def cutD (l : List OpD) : List OpD := (l.take 10).map cutO
set_option maxHeartbeats 8000000 in
theorem law5_Cut (l : List OpD) (sv : Value) (w : World) (hz : ∀ o ∈ l, o.key.size ≤ 9223372036854775807 ∧ o.vs.size ≤ 9223372036854775807 ∧ o.os.size ≤ 9223372036854775807) (r : Rd w 9 sv l.length (l.flatMap opCells)) :
    Calls Tryz.prog 85 ⟨[sv]⟩ w fun e w' => ∃ ad cap, e = .returned (.slice ad (cutD l).length cap) ∧ Has 0 w w' (Sx.Own 95 9 (.slice ad (cutD l).length cap) (cutD l).length ((cutD l).flatMap opCells) :: Old w 0 :: []) := by
  have hw := Has.start (G := 0) (w := w) (Nat.zero_le _)
  obtain ⟨sad, scap, rfl⟩ : ∃ ad cap, sv = .slice ad l.length cap := by obtain ⟨_, ad, cap, e, _⟩ := r; exact ⟨ad, cap, e⟩
  have hlen : l.length ≤ 9223372036854775807 := r.len
  refine enter Tryz.func85 Tryz.ntmps85 rfl rfl fun a hs => ?_
  repeat (first | (refine sxv hs hw ?_; clear hs; intro a hs) | refine sxc hs ?_ | (refine sxa hs hw ?_; clear hs hw; intro a b W hw hs) | (refine sxs hs hw ?_; clear hs hw; intro W hs hw))
  have hw : Has 0 w w (Sx.Own 95 9 (.slice none 0 0) (cutD (l.take 0)).length ((cutD (l.take 0)).flatMap opCells) :: Old w 0 :: []) := hw.nilOwn _ _
  refine st_loop (σ := Value × Nat) (fun s => [(0, .slice sad l.length scap), (3, s.1), (4, .int .i64 (s.2 : Int))]) (fun s => Sx.Own 95 9 s.1 (cutD (l.take s.2)).length ((cutD (l.take s.2)).flatMap opCells) :: Old w 0 :: []) (fun s => s.2 ≤ l.length ∧ s.2 ≤ 10) (fun s => l.length - s.2) (.slice none 0 0, 0) ⟨Nat.zero_le _, Nat.zero_le _⟩ hs ⟨rfl, rfl, rfl, trivial⟩ hw ?_
  clear hs hw
  rintro ⟨v, i⟩ a W ⟨hi, hi10⟩ hs hw
  simp only at hi hi10 hs hw
  repeat (first | (refine sxv hs hw ?_; clear hs; intro a hs) | refine sxc hs ?_ | (refine sxa hs hw ?_; clear hs hw; intro a b W hw hs) | (refine sxs hs hw ?_; clear hs hw; intro W hs hw))
  by_cases c1 : i < l.length
  · have e1 : decide ((i : Int) < (l.length : Int)) = true := by simp; omega
    rw [e1] at hs
    repeat (first | (refine sxv hs hw ?_; clear hs; intro a hs) | refine sxc hs ?_ | (refine sxa hs hw ?_; clear hs hw; intro a b W hw hs) | (refine sxs hs hw ?_; clear hs hw; intro W hs hw))
    by_cases c2 : i < 10
    · have e2 : decide ((i : Int) < 10) = true := by simp; omega
      rw [e2] at hs
      obtain ⟨o, hoi⟩ : ∃ o, l[i]? = some o := ⟨l[i], List.getElem?_eq_getElem c1⟩
      have hz' := hz o (List.mem_of_getElem? hoi)
      have hnext : cutD (l.take (i + 1)) = cutD (l.take i) ++ [cutO o] := by
        unfold cutD
        rw [List.take_take, List.take_take, Nat.min_eq_right (by omega : i + 1 ≤ 10), Nat.min_eq_right (by omega : i ≤ 10), List.take_add_one, hoi]
        simp
      repeat (first | (refine sxv hs hw ?_; clear hs; intro a hs) | refine sxc hs ?_ | (refine sxa hs hw ?_; clear hs hw; intro a b W hw hs) | (refine sxs hs hw ?_; clear hs hw; intro W hs hw))
      refine st_index_op hs (r := hw.rd (by repeat (first | exact In.hd | apply In.tl)) hw.ext.size r) (ho := hoi) (c := ?_); clear hs; intro a p off hpc hs
      refine st_load_ats (z := opCells ⟨0, ⟨#[]⟩, 0, 0, ⟨#[]⟩, 0, 0, ⟨#[]⟩, 0⟩) hs (hc := hpc) (hl := rfl) (c := ?_); clear hs; intro a hs
      obtain ⟨kind, key, vk, vn, vs, ok, on, os, n⟩ := o
      simp only at hz'
      simp only [opCells] at hs
      clear hpc
      repeat (first | (refine sxv hs hw ?_; clear hs; intro a hs) | refine sxc hs ?_ | (refine sxa hs hw ?_; clear hs hw; intro a b W hw hs) | (refine sxs hs hw ?_; clear hs hw; intro W hs hw))
      obtain ⟨b4, q4⟩ := nm1 hw; subst q4
      refine rg_draw (V := [.pointer (some ⟨b4, 0 + 1, none⟩), .string key, .string (cutS key 90), .pointer (some ⟨b4, 0 + 2, none⟩), .agg ⟨[.int .i64 vk, .int .i64 vn, .string vs]⟩, .agg ⟨[.int .i64 vk, .int .i64 vn, .string (cutS vs 220)]⟩, .pointer (some ⟨b4, 0 + 5, none⟩), .agg ⟨[.int .i64 ok, .int .i64 on, .string os]⟩, .agg ⟨[.int .i64 ok, .int .i64 on, .string (cutS os 220)]⟩, .pointer (some ⟨b4, 0 + 1, none⟩), .bool true, .pointer (some ⟨b4, 0 + 2, none⟩), .bool true, .pointer (some ⟨b4, 0 + 5, none⟩), .bool true])
        (Rs := fun D => Cells b4 [.int .i64 kind, .string (if D 10 then cutS key 90 else key), .int .i64 vk, .int .i64 vn, .string (if D 12 then cutS vs 220 else vs), .int .i64 ok, .int .i64 on, .string (if D 14 then cutS os 220 else os), .int .i64 n] 95 :: Sx.Own 95 9 v (cutD (l.take i)).length ((cutD (l.take i)).flatMap opCells) :: Old w 0 :: []) hs hw (ho := ⟨?_, ?c1_a, ?c2_a, ?_, ?c4_a, ?c5_a, ?_, ?c7_a, ?c8_a, ?_, ?_, ?_, ?_, ?_, ?_, trivial⟩) (k := ?k_a)
      case c1_a =>
        intro LD D a W hcl hi hp hs hw
        have h2 := Go.Sx.not_done hcl hi 2 (by kernel_rfl)
        have h10 := Go.Sx.not_done hcl h2 10 (by kernel_rfl)
        have hw0 := hw
        simp only [h10, Bool.false_eq_true, if_false] at hw
        repeat (first | (refine sxv hs hw ?_; clear hs; intro a hs) | refine sxc hs ?_ | (refine sxa hs hw ?_; clear hs hw; intro a b W hw hs) | (refine sxs hs hw ?_; clear hs hw; intro W hs hw))
        exact ⟨hs, hw0⟩
      case c4_a =>
        intro LD D a W hcl hi hp hs hw
        have h2 := Go.Sx.not_done hcl hi 5 (by kernel_rfl)
        have h10 := Go.Sx.not_done hcl h2 12 (by kernel_rfl)
        have hw0 := hw
        simp only [h10, Bool.false_eq_true, if_false] at hw
        repeat (first | (refine sxv hs hw ?_; clear hs; intro a hs) | refine sxc hs ?_ | (refine sxa hs hw ?_; clear hs hw; intro a b W hw hs) | (refine sxs hs hw ?_; clear hs hw; intro W hs hw))
        exact ⟨hs, hw0⟩
      case c7_a =>
        intro LD D a W hcl hi hp hs hw
        have h2 := Go.Sx.not_done hcl hi 8 (by kernel_rfl)
        have h10 := Go.Sx.not_done hcl h2 14 (by kernel_rfl)
        have hw0 := hw
        simp only [h10, Bool.false_eq_true, if_false] at hw
        repeat (first | (refine sxv hs hw ?_; clear hs; intro a hs) | refine sxc hs ?_ | (refine sxa hs hw ?_; clear hs hw; intro a b W hw hs) | (refine sxs hs hw ?_; clear hs hw; intro W hs hw))
        exact ⟨hs, hw0⟩
      case c2_a =>
        intro LD D a W hcl hi hp hs hw
        refine st_call hs (hc := law1_Cut key 90 _ hz'.1 (by decide)) (k := ?_); rintro e0 W1 ⟨rfl, rfl⟩; refine ⟨_, rfl, ?_⟩; clear hs; intro a hs
        rw [show (90 : Int).toNat = 90 from rfl] at hs
        repeat (first | (refine sxv hs hw ?_; clear hs; intro a hs) | refine sxc hs ?_ | (refine sxa hs hw ?_; clear hs hw; intro a b W hw hs) | (refine sxs hs hw ?_; clear hs hw; intro W hs hw))
        exact ⟨hs, hw⟩
      case c5_a =>
        intro LD D a W hcl hi hp hs hw
        refine st_call hs (hc := law4_CutS vk vn vs _ hz'.2.1) (k := ?_); rintro e0 W1 ⟨rfl, hb⟩; refine ⟨_, rfl, ?_⟩; clear hs; intro a hs; replace hw := hw.below hb; clear hb
        repeat (first | (refine sxv hs hw ?_; clear hs; intro a hs) | refine sxc hs ?_ | (refine sxa hs hw ?_; clear hs hw; intro a b W hw hs) | (refine sxs hs hw ?_; clear hs hw; intro W hs hw))
        exact ⟨hs, hw⟩
      case c8_a =>
        intro LD D a W hcl hi hp hs hw
        refine st_call hs (hc := law4_CutS ok on os _ hz'.2.2) (k := ?_); rintro e0 W1 ⟨rfl, hb⟩; refine ⟨_, rfl, ?_⟩; clear hs; intro a hs; replace hw := hw.below hb; clear hb
        repeat (first | (refine sxv hs hw ?_; clear hs; intro a hs) | refine sxc hs ?_ | (refine sxa hs hw ?_; clear hs hw; intro a b W hw hs) | (refine sxs hs hw ?_; clear hs hw; intro W hs hw))
        exact ⟨hs, hw⟩
      case k_a =>
        clear hs hw
        intro a W hs hw
        replace hw : Has 0 w W (Cells b4 (opCells (cutO ⟨kind, key, vk, vn, vs, ok, on, os, n⟩)) 95 :: Sx.Own 95 9 v (cutD (l.take i)).length ((cutD (l.take i)).flatMap opCells) :: Old w 0 :: []) := hw
        repeat (first | (refine sxv hs hw ?_; clear hs; intro a hs) | refine sxc hs ?_ | (refine sxa hs hw ?_; clear hs hw; intro a b W hw hs) | (refine sxs hs hw ?_; clear hs hw; intro W hs hw))
        have hk : (cutD (l.take i)).length ≤ 10 := by unfold cutD; simp; omega
        refine st_append_lit hs hw (k := (cutD (l.take i)).length) (h63 := by omega) (hb := by omega) (c := ?_)
        clear hs hw; intro a ad cap W hs hw
        repeat (first | (refine sxv hs hw ?_; clear hs; intro a hs) | refine sxc hs ?_ | (refine sxa hs hw ?_; clear hs hw; intro a b W hw hs) | (refine sxs hs hw ?_; clear hs hw; intro W hs hw))
        replace hw := hw.sub (List.Sublist.cons _ (List.Sublist.cons _ (List.Sublist.refl _)))
        have hL : (cutD (l.take i)).length + 1 = (cutD (l.take (i + 1))).length := by rw [hnext]; simp
        have hw' : Has 0 w W (Sx.Own 95 9 (.slice ad (cutD (l.take (i + 1))).length cap) (cutD (l.take (i + 1))).length ((cutD (l.take (i + 1))).flatMap opCells) :: Old w 0 :: []) := by
          rw [← hL, hnext, List.flatMap_append, List.flatMap_singleton]; exact hw
        rw [hL] at hs
        exact st_again (_, i + 1) hs hw' ⟨by show i + 1 ≤ l.length; omega, by show i + 1 ≤ 10; omega⟩ (by show l.length - (i + 1) < l.length - i; omega) ⟨rfl, rfl, int_eq (by show IntKind.i64.wrap ((i : Int) + 1) = ((i + 1 : Nat) : Int); rw [IntWalk.i64_in _ (by omega)]; omega), trivial⟩
      all_goals
        intro LD D a W hcl hi hp hs hw
        repeat (first | (refine sxv hs hw ?_; clear hs; intro a hs) | refine sxc hs ?_ | (refine sxa hs hw ?_; clear hs hw; intro a b W hw hs) | (refine sxs hs hw ?_; clear hs hw; intro W hs hw))
        exact ⟨hs, hw⟩
    · have e2 : decide ((i : Int) < 10) = false := by simp; omega
      rw [e2] at hs
      repeat (first | (refine sxv hs hw ?_; clear hs; intro a hs) | refine sxc hs ?_ | (refine sxa hs hw ?_; clear hs hw; intro a b W hw hs) | (refine sxs hs hw ?_; clear hs hw; intro W hs hw))
      obtain rfl : i = 10 := by omega
      have hD : cutD (l.take 10) = cutD l := by unfold cutD; rw [List.take_take]; rfl
      rw [hD] at hw
      obtain ⟨ad, cap, rfl⟩ := hw.own_slice
      exact rt1 hs rfl rfl ⟨ad, cap, rfl, hw⟩
  · have e1 : decide ((i : Int) < (l.length : Int)) = false := by simp; omega
    rw [e1] at hs
    repeat (first | (refine sxv hs hw ?_; clear hs; intro a hs) | refine sxc hs ?_ | (refine sxa hs hw ?_; clear hs hw; intro a b W hw hs) | (refine sxs hs hw ?_; clear hs hw; intro W hs hw))
    obtain rfl : i = l.length := by omega
    rw [List.take_length] at hw
    obtain ⟨ad, cap, rfl⟩ := hw.own_slice
    exact rt1 hs rfl rfl ⟨ad, cap, rfl, hw⟩
end Go.Proofs.YtmalklakaalaoaaGreatDoor.Sw

set_option linter.unusedVariables false
namespace Go.Proofs.YtmalklakaalaoaaGreatDoor.Sw
open Go.RowKit Go.Sx
structure OpWf (o : OpD) : Prop where
  kind : (Lit.int .i64 o.kind).wf = true
  vk : (Lit.int .i64 o.vk).wf = true
  vn : (Lit.int .i64 o.vn).wf = true
  ok : (Lit.int .i64 o.ok).wf = true
  on : (Lit.int .i64 o.on).wf = true
  n : (Lit.int .i64 o.n).wf = true
  key : o.key.size ≤ maxLen
  vs : o.vs.size ≤ maxLen
  os : o.os.size ≤ maxLen
theorem max63 {n : Nat} (h : n ≤ maxLen) : n ≤ 9223372036854775807 := by
  have : (maxLen : Nat) ≤ 9223372036854775807 := by decide
  omega
theorem wf_i64 {n : Int} (h : (Lit.int .i64 n).wf = true) : i64 n := by
  have := (Lit.wf_int_iff .i64 n).1 h
  show -9223372036854775808 ≤ n ∧ n ≤ 9223372036854775807
  simpa [IntKind.min, IntKind.max, IntKind.signed, IntKind.bits] using this
theorem cutO_ok {o : OpD} (h : OpWf o) : OpOk (cutO o) := by
  have h1 := cutS_size o.key 90
  have h2 := cutS_size o.vs 220
  have h3 := cutS_size o.os 220
  exact ⟨wf_i64 h.kind, wf_i64 h.vk, wf_i64 h.vn, wf_i64 h.ok, wf_i64 h.on, wf_i64 h.n, by show (cutS o.key 90).size ≤ _; omega, by show (cutS o.vs 220).size ≤ _; omega, by show (cutS o.os 220).size ≤ _; omega⟩
theorem cutD_ok {l : List OpD} (h : ∀ o ∈ l, OpWf o) : ∀ o ∈ cutD l, OpOk o := by
  intro o ho
  obtain ⟨x, hx, rfl⟩ := List.mem_map.1 ho
  exact cutO_ok (h x (List.mem_of_mem_take hx))
theorem wf_sizes {l : List OpD} (h : ∀ o ∈ l, OpWf o) : ∀ o ∈ l, o.key.size ≤ 9223372036854775807 ∧ o.vs.size ≤ 9223372036854775807 ∧ o.os.size ≤ 9223372036854775807 :=
  fun o ho => ⟨max63 (h o ho).key, max63 (h o ho).vs, max63 (h o ho).os⟩
end Go.Proofs.YtmalklakaalaoaaGreatDoor.Sw

set_option linter.unusedVariables false
set_option maxRecDepth 10000
namespace Go.Proofs.YtmalklakaalaoaaGreatDoor
open Go.ChangeShapes Go.WideShapes Go.ChangeAt Go.RowKit Go.Lib Go.Sx Go.Proofs Go.Deep
open Sw Go.Joins
theorem list9 {α : Type} {l : List α} (h : l.length = 9) : ∃ c0 c1 c2 c3 c4 c5 c6 c7 c8, l = [c0, c1, c2, c3, c4, c5, c6, c7, c8] := by
  match l, h with
  | [c0, c1, c2, c3, c4, c5, c6, c7, c8], _ => exact ⟨c0, c1, c2, c3, c4, c5, c6, c7, c8, rfl⟩
section
variable {H : Type} {enc : TypeId × Value → H} {w : World} {base : Nat} {spare : Nat → Bool} {held : Bool}
theorem open_raw_cells {fuel : Nat} {v0 v1 v2 : Value} {x : DataW H × List MemPlace} (h : DataW.trod enc Tryz.prog w base spare held fuel 93 [v0, v1, v2] = some x) :
    ∃ (k n : Int) (s : ByteArray), v0 = .int .i64 k ∧ v1 = .int .i64 n ∧ v2 = .string s ∧ (Lit.int .i64 k).wf = true ∧ (Lit.int .i64 n).wf = true ∧ s.size ≤ maxLen := by
  obtain ⟨xs, n, _, rfl, hl, hlen, hf⟩ := DataW.trod_struct Tryz.underlying93 h
  have c1 : Tryz.prog.cellsOf 3 = 1 := by kernel_rfl
  have c2 : Tryz.prog.cellsOf 2 = 1 := by kernel_rfl
  have c3 : Tryz.prog.cellsOf 9 = 1 := by kernel_rfl
  match xs, hlen with
  | [y0, y1, y2], _ =>
    have h0 := hf 0 _ rfl
    have h1 := hf 1 _ rfl
    have h2 := hf 2 _ rfl
    change DataW.trod enc _ w base spare held n 3 (([v0, v1, v2].drop 0).take (Tryz.prog.cellsOf 3)) = some y0 at h0
    change DataW.trod enc _ w base spare held n 2 (([v0, v1, v2].drop 1).take (Tryz.prog.cellsOf 2)) = some y1 at h1
    change DataW.trod enc _ w base spare held n 9 (([v0, v1, v2].drop 2).take (Tryz.prog.cellsOf 9)) = some y2 at h2
    rw [c1] at h0
    rw [c2] at h1
    rw [c3] at h2
    obtain ⟨k, e0, _, w0⟩ := DataW.trod_int Tryz.underlying3 h0
    obtain ⟨m, e1, _, w1⟩ := DataW.trod_int Tryz.underlying2 h1
    obtain ⟨s, e2, _, w2⟩ := DataW.trod_string Tryz.underlying9 h2
    simp at e0 e1 e2
    exact ⟨k, m, s, e0, e1, e2, w0, w1, w2⟩
theorem open_op_cells {fuel : Nat} {cs : List Value} {x : DataW H × List MemPlace} (h : DataW.trod enc Tryz.prog w base spare held fuel 95 cs = some x) :
    ∃ o : OpD, cs = opCells o ∧ OpWf o := by
  obtain ⟨xs, n, _, rfl, hl, hlen, hf⟩ := DataW.trod_struct Tryz.underlying95 h
  have c0 : Tryz.prog.cellsOf 95 = 9 := by kernel_rfl
  have c1 : Tryz.prog.cellsOf 3 = 1 := by kernel_rfl
  have c2 : Tryz.prog.cellsOf 2 = 1 := by kernel_rfl
  have c3 : Tryz.prog.cellsOf 9 = 1 := by kernel_rfl
  have c4 : Tryz.prog.cellsOf 93 = 3 := by kernel_rfl
  obtain ⟨v0, v1, v2, v3, v4, v5, v6, v7, v8, rfl⟩ := list9 (hl.trans c0)
  match xs, hlen with
  | [y0, y1, y2, y3, y4], _ =>
    have h0 := hf 0 _ rfl
    have h1 := hf 1 _ rfl
    have h2 := hf 2 _ rfl
    have h3 := hf 3 _ rfl
    have h4 := hf 4 _ rfl
    change DataW.trod enc _ w base spare held n 3 (([v0, v1, v2, v3, v4, v5, v6, v7, v8].drop 0).take (Tryz.prog.cellsOf 3)) = some y0 at h0
    change DataW.trod enc _ w base spare held n 9 (([v0, v1, v2, v3, v4, v5, v6, v7, v8].drop 1).take (Tryz.prog.cellsOf 9)) = some y1 at h1
    change DataW.trod enc _ w base spare held n 93 (([v0, v1, v2, v3, v4, v5, v6, v7, v8].drop 2).take (Tryz.prog.cellsOf 93)) = some y2 at h2
    change DataW.trod enc _ w base spare held n 93 (([v0, v1, v2, v3, v4, v5, v6, v7, v8].drop 5).take (Tryz.prog.cellsOf 93)) = some y3 at h3
    change DataW.trod enc _ w base spare held n 2 (([v0, v1, v2, v3, v4, v5, v6, v7, v8].drop 8).take (Tryz.prog.cellsOf 2)) = some y4 at h4
    rw [c1] at h0
    rw [c3] at h1
    rw [c4] at h2 h3
    rw [c2] at h4
    obtain ⟨k, e0, _, w0⟩ := DataW.trod_int Tryz.underlying3 h0
    obtain ⟨s, e1, _, w1⟩ := DataW.trod_string Tryz.underlying9 h1
    obtain ⟨vk, vn, vs, g0, g1, g2, u0, u1, u2⟩ := open_raw_cells (v0 := v2) (v1 := v3) (v2 := v4) h2
    obtain ⟨ok, on, os, g3, g4, g5, u3, u4, u5⟩ := open_raw_cells (v0 := v5) (v1 := v6) (v2 := v7) h3
    obtain ⟨m, e4, _, w4⟩ := DataW.trod_int Tryz.underlying2 h4
    simp at e0 e1 e4
    subst e0 e1 e4 g0 g1 g2 g3 g4 g5
    exact ⟨⟨k, s, vk, vn, vs, ok, on, os, m⟩, rfl, w0, u0, u1, u3, u4, w4, w1, u2, u5⟩
instance : Inhabited OpD := ⟨⟨0, ⟨#[]⟩, 0, 0, ⟨#[]⟩, 0, 0, ⟨#[]⟩, 0⟩⟩
theorem flat_get : ∀ (l : List OpD) (j : Nat) (x : Value), (l.flatMap opCells)[j]? = some x → ∃ i o k, l[i]? = some o ∧ (opCells o)[k]? = some x ∧ j = i * 9 + k ∧ k < 9
  | [], j, x, h => by simp at h
  | o :: l, j, x, h => by
    rw [List.flatMap_cons, List.getElem?_append] at h
    split at h
    · rename_i hj
      exact ⟨0, o, j, rfl, h, by omega, hj⟩
    · rename_i hj
      have hL : (opCells o).length = 9 := rfl
      obtain ⟨i, o', k, h1, h2, h3, h4⟩ := flat_get l _ x h
      exact ⟨i + 1, o', k, by simpa using h1, h2, by omega, h4⟩
theorem flat_len (l : List OpD) : (l.flatMap opCells).length = l.length * 9 := by
  induction l with
  | nil => rfl
  | cons o l ih => rw [List.flatMap_cons, List.length_append, ih, List.length_cons]; show 9 + _ = _; omega
theorem open_ops {fuel : Nat} {cs : List Value} {x : DataW H × List MemPlace} (h : DataW.trod enc Tryz.prog w 0 spare held fuel 34 cs = some x) :
    ∃ (sv : Value) (l : List OpD), cs = [sv] ∧ (∀ o ∈ l, OpWf o) ∧ Rd w 9 sv l.length (l.flatMap opCells) := by
  have hlt := DataW.trod_lt _ _ _ _ h
  have c0 : Tryz.prog.cellsOf 95 = 9 := by kernel_rfl
  rcases open_slice Tryz.underlying34 h with ⟨rfl, -⟩ | ⟨a, len, cap, m, n, D, Pl, rfl, -, hl, hm, hmm, rfl, hx⟩
  · exact ⟨_, [], rfl, by simp, Rd.nil w 9 0 (by omega)⟩
  · have hlm : len ≤ m := by rw [hmm]; split <;> omega
    obtain ⟨O, hO⟩ := choose_lt (n := len) (α := OpD) (p := fun i o => OpWf o ∧ ∀ k u, (opCells o)[k]? = some u → w.cell? ((a.add (i * 9)).add k) = some u) fun i hi => by
      obtain ⟨cs', h1, h2⟩ := hx i (by omega)
      obtain ⟨o, rfl, ho⟩ := open_op_cells h2
      rw [c0] at h1
      obtain ⟨_, _, h3⟩ := World.cells?_some h1
      refine ⟨o, ho, fun k u hk => ?_⟩
      have hk9 : k < 9 := (List.getElem?_eq_some_iff.1 hk).1
      rw [h3 k hk9]; exact hk
    have hcap : cap ≤ 9223372036854775807 := max63 hm
    have hL : ((List.range len).map O).length = len := by simp
    refine ⟨_, (List.range len).map O, rfl, fun o ho => ?_, ?_⟩
    · obtain ⟨i, hi, rfl⟩ := List.mem_map.1 ho
      exact (hO i (List.mem_range.1 hi)).1
    · rw [hL]
      refine ⟨by rw [flat_len, hL], some a, cap, rfl, hl, hcap, ?_⟩
      rcases Nat.eq_zero_or_pos len with h0 | h0
      · exact .inl h0
      · right
        obtain ⟨b, off, spot⟩ := a
        have h00 := (hO 0 h0).2 0 (.int .i64 (O 0).kind) rfl
        have hspot : spot = none := by simpa [Addr.add] using World.cell?_spot h00
        subst hspot
        refine ⟨b, off, rfl, ?_, fun j x hj => ?_⟩
        · exact hlt (.cell b off) (List.mem_append_left _ (MemPlace.mem_row.2 ⟨0, by rw [c0]; omega, rfl⟩))
        · obtain ⟨i, o, k, h1, h2, rfl, h4⟩ := flat_get _ _ _ hj
          have hi : i < len := by have := (List.getElem?_eq_some_iff.1 h1).1; omega
          rw [List.getElem?_map, List.getElem?_range hi, Option.map_some, Option.some.injEq] at h1
          subst h1
          have := (hO i hi).2 k x h2
          rw [add_add, add_plain] at this
          exact this
end
end Go.Proofs.YtmalklakaalaoaaGreatDoor

set_option linter.unusedVariables false
namespace Go.Sx
open Go.RowKit
abbrev KV := List (ByteArray × Value)
def ks (a b : ByteArray) : Bool := a == b
theorem ks_iff {a b : ByteArray} : ks a b = true ↔ a = b := by
  unfold ks
  constructor
  · intro h
    obtain ⟨a⟩ := a
    obtain ⟨b⟩ := b
    have : (a == b) = true := h
    rw [beq_iff_eq] at this
    rw [this]
  · rintro rfl
    obtain ⟨a⟩ := a
    show (a == a) = true
    exact beq_self_eq_true a
theorem ks_self (a : ByteArray) : ks a a = true := ks_iff.2 rfl
def dget : KV → ByteArray → Option Value
  | [], _ => none
  | p :: d, k => match ks k p.1 with | true => some p.2 | false => dget d k
def dset : KV → ByteArray → Value → KV
  | [], k, v => [(k, v)]
  | p :: d, k, v => match ks k p.1 with | true => (k, v) :: d | false => p :: dset d k v
def ddel : KV → ByteArray → KV
  | [], _ => []
  | p :: d, k => match ks k p.1 with | true => d | false => p :: ddel d k
structure Ent where
  k : ByteArray
  v : Value
  t : Nat
def Ent.raw (e : Ent) : MapEntry := ⟨.string e.k, e.v, e.t⟩
def Ent.kv (e : Ent) : ByteArray × Value := (e.k, e.v)
structure MapAt (W : World) (b : Nat) (es : List Ent) (c : Nat) : Prop where
  at_ : W.heap[b]? = some (.map ⟨es.map Ent.raw⟩ c)
  nodup : (es.map (·.t)).Nodup
  lt : ∀ e ∈ es, e.t < c
def MapOf (b : Nat) (d : KV) : Res where
  ok F W := F b ∧ ∃ es c, MapAt W b es c ∧ es.map Ent.kv = d
  loc F W W' h := fun ⟨h1, es, c, h2, h3⟩ => ⟨h1, es, c, ⟨(h b h1).trans h2.at_, h2.nodup, h2.lt⟩, h3⟩
def fidx : List Ent → ByteArray → Nat → Option (Nat × Value)
  | [], _, _ => none
  | e :: es, k, i => match ks k e.k with | true => some (i, e.v) | false => fidx es k (i + 1)
theorem findNow_s (k : ByteArray) : ∀ (es : List Ent) (i : Nat), Instr.findNow .string (.string k) (es.map Ent.raw) i = some (fidx es k i)
  | [], _ => rfl
  | e :: es, i => by
    simp only [List.map_cons, Instr.findNow, Ent.raw, Instr.sameNow, fidx]
    rw [show (k == e.k) = ks k e.k from rfl]
    cases ks k e.k with
    | true => rfl
    | false => exact findNow_s k es (i + 1)
theorem fidx_none {k : ByteArray} : ∀ {es : List Ent} {i : Nat}, fidx es k i = none → dget (es.map Ent.kv) k = none ∧ (∀ v, dset (es.map Ent.kv) k v = es.map Ent.kv ++ [(k, v)]) ∧ ddel (es.map Ent.kv) k = es.map Ent.kv
  | [], _, _ => ⟨rfl, fun _ => rfl, rfl⟩
  | e :: es, i, h => by
    simp only [fidx] at h
    cases hk : ks k e.k with
    | true => rw [hk] at h; cases h
    | false =>
      rw [hk] at h
      obtain ⟨h1, h2, h3⟩ := fidx_none (es := es) (i := i + 1) h
      simp only [List.map_cons, dget, dset, ddel, Ent.kv, hk]
      exact ⟨h1, fun v => by rw [h2 v]; rfl, by rw [h3]⟩
theorem fidx_some {k : ByteArray} : ∀ {es : List Ent} {i j : Nat} {v0 : Value}, fidx es k i = some (j, v0) → dget (es.map Ent.kv) k = some v0 ∧ ∃ m e, j = i + m ∧ es[m]? = some e ∧ e.k = k ∧
    (∀ v, dset (es.map Ent.kv) k v = (es.modify m fun e => ⟨k, v, e.t⟩).map Ent.kv) ∧ ddel (es.map Ent.kv) k = (es.eraseIdx m).map Ent.kv
  | [], _, _, _, h => by simp [fidx] at h
  | e :: es, i, j, v0, h => by
    simp only [fidx] at h
    cases hk : ks k e.k with
    | true =>
      rw [hk] at h
      injection h with h
      injection h with h1 h2
      subst h1 h2
      simp only [List.map_cons, dget, dset, ddel, Ent.kv, hk]
      exact ⟨trivial, 0, e, rfl, rfl, (ks_iff.1 hk).symm, fun v => by simp [Ent.kv], by simp⟩
    | false =>
      rw [hk] at h
      obtain ⟨h1, m, e', h2, h3, h4, h5, h6⟩ := fidx_some (es := es) (i := i + 1) h
      simp only [List.map_cons, dget, dset, ddel, Ent.kv, hk]
      refine ⟨h1, m + 1, e', by omega, h3, h4, fun v => ?_, ?_⟩
      · rw [h5 v]; simp [Ent.kv]
      · rw [h6]; simp [Ent.kv]
section
variable {P : Program} {W : World} {T K E : TypeId}
class Mp (P : Program) (T : TypeId) (K E : outParam TypeId) : Prop where
  out : P.underlying T = some (.map K E)
  key : P.underlying K = some .string
theorem run_checkKey_s (hK : P.underlying K = some .string) (em : Bool) (k : ByteArray) (W : World) : (Instr.checkKey em 10000 K (.string k)).run P W = .ok () W := by
  show (Instr.checkKey em (9999 + 1) K (.string k)).run P W = .ok () W
  unfold Instr.checkKey
  simp [run_underlying hK]
theorem run_findKey_s (hK : P.underlying K = some .string) (k : ByteArray) (es : List Ent) (W : World) : (Instr.findKey K (.string k) (es.map Ent.raw)).run P W = .ok (fidx es k 0) W := by
  unfold Instr.findKey
  simp only [Sem.run_bind, run_underlying hK, Result.andThen_ok, findNow_s]
  rfl
theorem MapAt.get {b : Nat} {es : List Ent} {c : Nat} (h : MapAt W b es c) : (getObj b).run P W = .ok (.map ⟨es.map Ent.raw⟩ c) W := MapKept.run_getObj_map h.at_
theorem run_lookup_s [m : Mp P T K E] {b : Nat} {es : List Ent} {c : Nat} {k : ByteArray} {zv : Value} (h : MapAt W b es c) (hz : (zeroValue E).run P W = .ok zv W) :
    (Instr.lookup T (.map (some b)) (.string k) false).run P W = .ok ((dget (es.map Ent.kv) k).getD zv) W := by
  unfold Instr.lookup
  simp only [Sem.run_bind, run_underlying m.out, Result.andThen_ok, h.get, run_checkKey_s m.key, run_findKey_s m.key, Sem.run_pure]
  cases hf : fidx es k 0 with
  | none =>
    simp only [(fidx_none hf).1, Sem.run_bind, hz, Result.andThen_ok, Sem.run_pure]
    rfl
  | some p =>
    obtain ⟨j, v⟩ := p
    simp only [(fidx_some hf).1, Sem.run_bind, Result.andThen_ok, Sem.run_pure]
    rfl
theorem run_setObj_s {b : Nat} {es : List Ent} {c : Nat} (h : MapAt W b es c) (o' : Obj) : (setObj b o').run P W = .ok () (ChangeMaps.setBlock W b o') := by
  simp [setObj, Sem.run, h.at_, ChangeMaps.setBlock]
theorem setBlock_at {b : Nat} {o : Obj} (h : b < W.heap.size) : (ChangeMaps.setBlock W b o).heap[b]? = some o := by
  simp [ChangeMaps.setBlock, h]
theorem setBlock_ne {b r : Nat} {o : Obj} (h : r ≠ b) : (ChangeMaps.setBlock W b o).heap[r]? = W.heap[r]? := by
  simp only [ChangeMaps.setBlock, Array.getElem?_setIfInBounds]
  rw [if_neg (Ne.symm h)]
theorem MapAt.size {b : Nat} {es : List Ent} {c : Nat} (h : MapAt W b es c) : b < W.heap.size := by
  have := h.at_
  exact (Array.getElem?_eq_some_iff.1 this).1
theorem raw_modify (es : List Ent) (m : Nat) (k : ByteArray) (v : Value) : (es.map Ent.raw).modify m (fun e => { e with key := .string k, val := v }) = (es.modify m fun e => ⟨k, v, e.t⟩).map Ent.raw := by
  induction es generalizing m with
  | nil => simp
  | cons e es ih =>
    cases m with
    | zero => simp [Ent.raw]
    | succ m => simp [ih]
theorem t_modify (es : List Ent) (m : Nat) (k : ByteArray) (v : Value) : (es.modify m fun e => ⟨k, v, e.t⟩).map (·.t) = es.map (·.t) := by
  induction es generalizing m with
  | nil => simp
  | cons e es ih =>
    cases m with
    | zero => simp
    | succ m => simp [ih]
theorem raw_erase (es : List Ent) (m : Nat) : (es.map Ent.raw).eraseIdx m = (es.eraseIdx m).map Ent.raw := by
  induction es generalizing m with
  | nil => simp
  | cons e es ih =>
    cases m with
    | zero => simp
    | succ m => simp [ih]
theorem run_update_s [m : Mp P T K E] {b : Nat} {es : List Ent} {c : Nat} {k : ByteArray} {v : Value} (h : MapAt W b es c) :
    ∃ W' es' c', (Instr.mapUpdate T (.map (some b)) (.string k) v).run P W = .ok () W' ∧ MapAt W' b es' c' ∧ es'.map Ent.kv = dset (es.map Ent.kv) k v ∧ ∃ o, W' = ChangeMaps.setBlock W b o := by
  unfold Instr.mapUpdate
  simp only [Sem.run_bind, run_underlying m.out, Result.andThen_ok, h.get, run_checkKey_s m.key, run_findKey_s m.key]
  cases hf : fidx es k 0 with
  | none =>
    obtain ⟨h1, h2, h3⟩ := fidx_none hf
    refine ⟨_, es ++ [⟨k, v, c⟩], c + 1, run_setObj_s h _, ⟨?_, ?_, ?_⟩, ?_, _, rfl⟩
    · rw [setBlock_at h.size]
      simp [Ent.raw]
    · rw [List.map_append, List.nodup_append]
      refine ⟨h.nodup, by simp, fun a ha b hb => ?_⟩
      obtain ⟨e, he, rfl⟩ := List.mem_map.1 ha
      simp only [List.map_cons, List.map_nil, List.mem_singleton] at hb
      have := h.lt e he
      omega
    · intro e he
      rcases List.mem_append.1 he with he | he
      · have := h.lt e he; omega
      · rw [List.mem_singleton] at he; subst he; exact Nat.lt_succ_self c
    · rw [h2 v]; simp [Ent.kv]
  | some p =>
    obtain ⟨j, v0⟩ := p
    obtain ⟨h1, i, e, h2, h3, h4, h5, h6⟩ := fidx_some hf
    rw [Nat.zero_add] at h2
    subst h2
    have hkey : (((⟨es.map Ent.raw⟩ : Array MapEntry)[j]?).map (·.key)).getD (.string k) = .string k := by
      simp [h3, Ent.raw, h4]
    have hstay : (Instr.keyThatStays (.string k) (.string k)).run P W = .ok (.string k) W := by
      unfold Instr.keyThatStays
      have : Instr.sameBits 10000 (.string k) (.string k) = true := by
        show Instr.sameBits (9999 + 1) (.string k) (.string k) = true
        unfold Instr.sameBits
        exact ks_self k
      simp [this]
    refine ⟨ChangeMaps.setBlock W b (.map (Array.modify ⟨es.map Ent.raw⟩ j fun e => { e with key := .string k, val := v }) c), es.modify j fun e => ⟨k, v, e.t⟩, c, ?_, ⟨?_, ?_, ?_⟩, (h5 v).symm, _, rfl⟩
    · simp only [Sem.run_bind, hkey, hstay, Result.andThen_ok]
      exact run_setObj_s h _
    · rw [setBlock_at h.size]
      congr 2
      apply Array.ext'
      rw [Array.toList_modify]
      exact raw_modify es j k v
    · rw [t_modify]; exact h.nodup
    · intro e' he'
      have : e'.t ∈ (es.modify j fun e => ⟨k, v, e.t⟩).map (·.t) := List.mem_map_of_mem he'
      rw [t_modify] at this
      obtain ⟨e2, he2, h7⟩ := List.mem_map.1 this
      rw [← h7]; exact h.lt e2 he2
theorem run_delete_s [m : Mp P T K E] {b : Nat} {es : List Ent} {c : Nat} {k : ByteArray} {ty : TypeId} (h : MapAt W b es c) :
    ∃ W' es' c', (Builtin.delete_ #[T, K] ty #[.map (some b), .string k]).run P W = .ok (.tuple #[]) W' ∧ MapAt W' b es' c' ∧ es'.map Ent.kv = ddel (es.map Ent.kv) k ∧ ∃ o, W' = ChangeMaps.setBlock W b o := by
  unfold Builtin.delete_
  simp only [List.getElem?_toArray, List.getElem?_cons_zero, List.getElem?_cons_succ, Sem.run_bind, run_underlying m.out, Result.andThen_ok, h.get, run_checkKey_s m.key, run_findKey_s m.key]
  cases hf : fidx es k 0 with
  | none =>
    obtain ⟨h1, h2, h3⟩ := fidx_none hf
    refine ⟨_, es, c, ?_, ⟨setBlock_at h.size, h.nodup, h.lt⟩, h3.symm, _, rfl⟩
    simp only [Sem.run_bind, run_setObj_s h, Result.andThen_ok]
    rfl
  | some p =>
    obtain ⟨j, v0⟩ := p
    obtain ⟨h1, i, e, h2, h3, h4, h5, h6⟩ := fidx_some hf
    rw [Nat.zero_add] at h2
    subst h2
    refine ⟨ChangeMaps.setBlock W b (.map (Array.eraseIdxIfInBounds ⟨es.map Ent.raw⟩ j) c), es.eraseIdx j, c, ?_, ⟨?_, ?_, ?_⟩, h6.symm, _, rfl⟩
    · simp only [Sem.run_bind, run_setObj_s h, Result.andThen_ok]
      rfl
    · rw [setBlock_at h.size]
      congr 2
      apply Array.ext'
      rw [Array.toList_eraseIdxIfInBounds]
      exact raw_erase es j
    · exact h.nodup.sublist ((List.eraseIdx_sublist _ _).map _)
    · exact fun e he => h.lt e (List.mem_of_mem_eraseIdx he)
end
section
variable {G : Nat} {w W W' : World} {L L' R R' : List Res} {b : Nat} {d d' : KV}
theorem Has.setMap (h : Has G w W L) (u : Upd (MapOf b d) L (MapOf b d') L') {o : Obj} (hW : W' = ChangeMaps.setBlock W b o) (hd : ∃ es c, MapAt W' b es c ∧ es.map Ent.kv = d') : Has G w W' L' := by
  obtain ⟨F1, h1, h2, h3⟩ := h.has.upd u
  have hbG := (h1 b h2.1).1
  have hbl := (h1 b h2.1).2
  subst hW
  have hx : (ChangeMaps.setBlock W b o).heap.size = W.heap.size := by simp [ChangeMaps.setBlock]
  refine ⟨h.ext.trans ⟨rfl, rfl, rfl, by omega, fun c hc => setBlock_ne (by omega)⟩, h.glob, h3 _ _ (fun c => c = b) (fun c hc => ⟨hc.1, by omega⟩) ?_ ?_ ⟨rfl, hd⟩⟩
  · rintro c rfl
    exact ⟨⟨hbG, by omega⟩, fun _ => h2.1⟩
  · intro c hc hn
    refine setBlock_ne fun e => hn ?_
    rw [e]; exact h2.1
theorem Has.map_at (h : Has G w W L) (i : In (MapOf b d) L) : ∃ es c, MapAt W b es c ∧ es.map Ent.kv = d := by
  obtain ⟨F, _, h2⟩ := h.of_in i
  exact h2.2
theorem Has.newObj (h : Has G w W L) {o : Obj} {r : Res} (hr : r.ok (fun b => b = W.heap.size) (W.alloc o)) : Has G w (W.alloc o) (r :: L) := by
  have hb : Below W.heap.size W (W.alloc o) := (Below.refl _ _).alloc (Nat.le_refl _) _
  have h1 := h.below hb
  refine ⟨h1.ext, h1.glob, fun b => b = W.heap.size, ?_, hr, ?_⟩
  · rintro b rfl
    exact ⟨h.globW, by simp⟩
  · refine (h.has.loc fun b hb' => hb.block b hb'.2).mono fun b hb' => ⟨⟨hb'.1, Nat.lt_of_lt_of_le hb'.2 hb.size⟩, by omega⟩
theorem Has.newMap (h : Has G w W L) : Has G w (W.alloc (.map #[] 0)) (MapOf W.heap.size [] :: L) :=
  h.newObj ⟨rfl, [], 0, ⟨heap_alloc_new _ _, by simp, by simp⟩, rfl⟩
end
section
variable {P : Program} {ops : Array Oper} {rest : List Oper} {Q : Exit → Act → World → Prop} {a : Act} {n G : Nat} {L : List (Nat × Value)} {w W : World} {R R' : List Res} {dst b : Nat} {T K E ty : TypeId} {p : String} {e : Array Edge} {x y z : Operand} {k : ByteArray} {v zv : Value} {d : KV}
theorem st_makeMap (hs : Slots a n L) (hw : Has G w W R) (hd : Nat.blt dst n = true := by with_unfolding_all exact rfl)
    (c : ∀ a' b W', Has G w W' (MapOf b [] :: R) → Slots a' n ((dst, .map (some b)) :: L) → wpList P ops Q rest a' W') : wpList P ops Q (⟨some dst, .makeMap T none, ty, p, e, none⟩ :: rest) a W := by
  refine st_value hs hd (v := .map (some W.heap.size)) (W' := W.alloc (.map #[] 0)) ?_ fun a' hs' => c a' W.heap.size _ hw.newMap hs'
  simp only [execOp, Option.map_none, Sem.run_bind, run_makeMap, Result.andThen_ok]
  rfl
theorem st_lookup [m : Mp P T K E] (hs : Slots a n L) (hx : ev L x = some (.map (some b)) := by with_unfolding_all exact rfl) (hy : ev L y = some (.string k) := by with_unfolding_all exact rfl) (hw : Has G w W R) (hi : In (MapOf b d) R := by repeat (first | exact In.hd | apply In.tl)) (hz : ∀ W, (zeroValue E).run P W = .ok zv W) (hd : Nat.blt dst n = true := by with_unfolding_all exact rfl)
    (c : ∀ a', Slots a' n ((dst, (dget d k).getD zv) :: L) → wpList P ops Q rest a' W) : wpList P ops Q (⟨some dst, .lookup T x y false, ty, p, e, none⟩ :: rest) a W := by
  obtain ⟨es, ck, h1, rfl⟩ := hw.map_at hi
  refine st_value hs hd (W' := W) ?_ c
  simp only [execOp, hs.ev hx, hs.ev hy, Sem.run_bind, run_lookup_s h1 (hz W), Result.andThen_ok]
  rfl
theorem st_update [m : Mp P T K E] (hs : Slots a n L) (hx : ev L x = some (.map (some b)) := by with_unfolding_all exact rfl) (hy : ev L y = some (.string k) := by with_unfolding_all exact rfl) (hz : ev L z = some v := by with_unfolding_all exact rfl) (hw : Has G w W R) (hu : Upd (MapOf b d) R (MapOf b (dset d k v)) R' := by repeat (first | exact Upd.hd | apply Upd.tl))
    (c : ∀ W', Slots a n L → Has G w W' R' → wpList P ops Q rest a W') : wpList P ops Q (⟨none, .mapUpdate T x y z, ty, p, e, none⟩ :: rest) a W := by
  obtain ⟨F1, -, h2, -⟩ := hw.has.upd hu
  obtain ⟨-, es, ck, h1, rfl⟩ := h2
  obtain ⟨W', es', c', g1, g2, g3, o, g4⟩ := run_update_s (P := P) (T := T) (k := k) (v := v) h1
  refine st_skip hs (W' := W') ?_ fun hs' => c W' hs' (hw.setMap hu g4 ⟨es', c', g2, g3⟩)
  simp only [execOp, hs.ev hx, hs.ev hy, hs.ev hz, Sem.run_bind, g1, Result.andThen_ok]
  rfl
theorem st_value0 {op : Op} {W' : World} (hs : Slots a n L) (he : (execOp a.eval ⟨none, op, ty, p, e, none⟩).run P W = .ok (.value v) W')
    (c : Slots a n L → wpList P ops Q rest a W') : wpList P ops Q (⟨none, op, ty, p, e, none⟩ :: rest) a W := by
  refine wpList_plain rfl fun K hK => ?_
  simp only [Oper.wp, he, Oper.upon_value]
  exact hK _ _ (c hs)
theorem st_delete [m : Mp P T K E] (hs : Slots a n L) (hx : ev L x = some (.map (some b)) := by with_unfolding_all exact rfl) (hy : ev L y = some (.string k) := by with_unfolding_all exact rfl) (hw : Has G w W R) (hu : Upd (MapOf b d) R (MapOf b (ddel d k)) R' := by repeat (first | exact Upd.hd | apply Upd.tl))
    (c : ∀ W', Slots a n L → Has G w W' R' → wpList P ops Q rest a W') : wpList P ops Q (⟨none, .call { callee := .builtin .delete, args := #[x, y], argTypes := #[T, K] }, ty, p, e, none⟩ :: rest) a W := by
  obtain ⟨F1, -, h2, -⟩ := hw.has.upd hu
  obtain ⟨-, es, ck, h1, rfl⟩ := h2
  obtain ⟨W', es', c', g1, g2, g3, o, g4⟩ := run_delete_s (P := P) (T := T) (k := k) (ty := ty) h1
  refine st_value0 hs (v := .tuple #[]) (W' := W') ?_ fun hs' => c W' hs' (hw.setMap hu g4 ⟨es', c', g2, g3⟩)
  simp only [execOp, resolve, invoke, builtin, Sem.run_bind, Sem.run_pure, Result.andThen_ok, List.map_toArray, List.map_cons, List.map_nil, hs.ev hx, hs.ev hy, g1]
theorem st_len_map [m : Mp P T K E] (hs : Slots a n L) (hx : ev L x = some (.map (some b)) := by with_unfolding_all exact rfl) (hw : Has G w W R) (hi : In (MapOf b d) R := by repeat (first | exact In.hd | apply In.tl)) (hd : Nat.blt dst n = true := by with_unfolding_all exact rfl)
    (c : ∀ a', Slots a' n ((dst, .int .i64 (d.length : Int)) :: L) → wpList P ops Q rest a' W) : wpList P ops Q (⟨some dst, .call { callee := .builtin .len, args := #[x], argTypes := #[T] }, ty, p, e, none⟩ :: rest) a W := by
  obtain ⟨es, ck, h1, rfl⟩ := hw.map_at hi
  refine st_value hs hd (W' := W) ?_ c
  simp only [execOp, resolve, invoke, builtin, Builtin.len_, List.map_toArray, List.map_cons, List.map_nil, hs.ev hx, Sem.run_bind, Sem.run_pure, Result.andThen_ok]
  simp [Sem.run_bind, run_underlying m.out, goInt, h1.get]
end
def Ranged (b it : Nat) (d left : KV) (cur : Option (ByteArray × Value)) : Res where
  ok F W := F b ∧ F it ∧ b ≠ it ∧ ∃ (es : List Ent) (c since : Nat) (seen : List Nat) (c0 : Nat), MapAt W b es c ∧ es.map Ent.kv = d ∧ W.heap[it]? = some (.mapIter (some b) since ⟨seen⟩ c0) ∧ (∀ e ∈ es, e.t < since) ∧ since ≤ c0 ∧ since ≤ c ∧ (es.filter fun e => !seen.contains e.t).map Ent.kv = left ∧ ∀ p, cur = some p → c0 = c ∧ ∃ (s : List Nat) (e : Ent), seen = s ++ [e.t] ∧ e ∈ es ∧ e.kv = p
  loc F W W' h := fun ⟨h1, h2, hn, es, c, since, seen, c0, h3, h4, h5, h6⟩ => ⟨h1, h2, hn, es, c, since, seen, c0, ⟨(h b h1).trans h3.at_, h3.nodup, h3.lt⟩, h4, (h it h2).trans h5, h6⟩
section
variable {G : Nat} {w W W' : World} {L L' R R' : List Res} {b it : Nat} {d left : KV} {cur : Option (ByteArray × Value)}
theorem Has.ranged (h : Has G w W (MapOf b d :: L)) : ∃ c, (∃ es, MapAt W b es c) ∧ Has G w (W.alloc (.mapIter (some b) c #[] c)) (Ranged b W.heap.size d d none :: L) := by
  obtain ⟨F1, h1, ⟨h2, es, c, h3, rfl⟩, h4⟩ := h.has
  have hb : Below W.heap.size W (W.alloc (.mapIter (some b) c #[] c)) := (Below.refl _ _).alloc (Nat.le_refl _) _
  have he := h.below hb
  refine ⟨c, ⟨es, h3⟩, he.ext, he.glob, fun x => F1 x ∨ x = W.heap.size, ?_, ⟨.inl h2, .inr rfl, ?_, es, c, c, [], c, ⟨?_, h3.nodup, h3.lt⟩, rfl, heap_alloc_new _ _, h3.lt, Nat.le_refl _, Nat.le_refl _, congrArg (List.map Ent.kv) (List.filter_eq_self.2 fun e _ => by simp), fun p h => by cases h⟩, ?_⟩
  · rintro x (hx | rfl)
    · exact ⟨(h1 x hx).1, Nat.lt_of_lt_of_le (h1 x hx).2 hb.size⟩
    · exact ⟨h.globW, by simp⟩
  · have := h3.size; omega
  · exact (heap_alloc_old W _ h3.size).trans h3.at_
  · refine (h4.loc fun x hx => hb.block x hx.1.2).mono fun x hx => ⟨⟨hx.1.1, Nat.lt_of_lt_of_le hx.1.2 hb.size⟩, ?_⟩
    rintro (h | h)
    · exact hx.2 h
    · have := hx.1.2; omega
theorem Has.unranged (h : Has G w W (Ranged b it d left cur :: L)) : Has G w W (MapOf b d :: L) := by
  obtain ⟨F1, h1, ⟨h2, h3, hn, es, c, since, seen, c0, h4, h5, h6⟩, h7⟩ := h.has
  exact ⟨h.ext, h.glob, F1, h1, ⟨h2, es, c, h4, h5⟩, h7⟩
theorem left_list (es : List Ent) (seen : List Nat) : (leftOf ⟨es.map Ent.raw⟩ ⟨seen⟩).toList = (es.filter fun e => !seen.contains e.t).map Ent.raw := by
  unfold leftOf
  simp only [Array.toList_filter, List.filter_map]
  congr 1
  apply List.filter_congr
  intro e _
  simp [Ent.raw]
  exact decide_eq_decide.2 Iff.rfl
theorem perm_take {es : List Ent} {seen : List Nat} {e : Ent} (hd : (es.map (·.t)).Nodup) (he : e ∈ es.filter fun e => !seen.contains e.t) :
    (es.filter fun e => !seen.contains e.t).Perm (e :: es.filter fun x => !(seen ++ [e.t]).contains x.t) := by
  have e1 : (es.filter fun x => !(seen ++ [e.t]).contains x.t) = (es.filter fun e => !seen.contains e.t).filter fun x => !(x.t == e.t) := by
    rw [List.filter_filter]
    apply List.filter_congr
    intro x _
    simp only [List.contains_eq_mem, List.mem_append, List.mem_singleton]
    by_cases h1 : x.t ∈ seen <;> by_cases h2 : x.t = e.t <;> simp [h1, h2]
  rw [e1]
  have hd' : ((es.filter fun e => !seen.contains e.t).map (·.t)).Nodup := hd.sublist (List.filter_sublist.map _)
  generalize (es.filter fun e => !seen.contains e.t) = l at *
  clear e1 hd
  induction l with
  | nil => simp at he
  | cons x l ih =>
    rw [List.map_cons, List.nodup_cons] at hd'
    rcases List.mem_cons.1 he with rfl | he
    · rw [List.filter_cons]
      simp only [beq_self_eq_true, Bool.not_true, Bool.false_eq_true, if_false]
      have : l.filter (fun x => !(x.t == e.t)) = l := by
        rw [List.filter_eq_self]
        intro y hy
        have : y.t ≠ e.t := fun h => hd'.1 (by rw [← h]; exact List.mem_map_of_mem hy)
        simpa using this
      rw [this]
    · have hne : x.t ≠ e.t := fun h => hd'.1 (by rw [h]; exact List.mem_map_of_mem he)
      rw [List.filter_cons]
      have : (x.t == e.t) = false := by simpa using hne
      simp only [this, Bool.not_false, if_true]
      exact ((ih he hd'.2).cons x).trans (List.Perm.swap _ _ _)
end
section
variable {P : Program} {ops : Array Oper} {rest : List Oper} {Q : Exit → Act → World → Prop} {a : Act} {n G : Nat} {L : List (Nat × Value)} {w W : World} {R R' : List Res} {dst b it : Nat} {T K E ty : TypeId} {p : String} {e : Array Edge} {x : Operand} {d left : KV} {cur : Option (ByteArray × Value)}
theorem st_range [m : Mp P T K E] (hs : Slots a n L) (hx : ev L x = some (.map (some b)) := by with_unfolding_all exact rfl) (hw : Has G w W (MapOf b d :: R)) (hd : Nat.blt dst n = true := by with_unfolding_all exact rfl)
    (c : ∀ a' it W', Has G w W' (Ranged b it d d none :: R) → Slots a' n ((dst, .pointer (some ⟨it, 0, none⟩)) :: L) → wpList P ops Q rest a' W') : wpList P ops Q (⟨some dst, .range T x, ty, p, e, none⟩ :: rest) a W := by
  obtain ⟨ck, ⟨es, h1⟩, hw'⟩ := hw.ranged
  refine st_value hs hd (v := .pointer (some ⟨W.heap.size, 0, none⟩)) (W' := W.alloc (.mapIter (some b) ck #[] ck)) ?_ fun a' hs' => c a' W.heap.size _ hw' hs'
  simp only [execOp, hs.ev hx, Sem.run_bind, run_range_map W T K E b _ _ m.out h1.at_, Result.andThen_ok]
  rfl
theorem st_next (hs : Slots a n L) (hx : ev L x = some (.pointer (some ⟨it, 0, none⟩)) := by with_unfolding_all exact rfl) (hw : Has G w W (Ranged b it d left cur :: R)) (hd : Nat.blt dst n = true := by with_unfolding_all exact rfl)
    (c1 : ∀ a', left = [] → Slots a' n ((dst, .tuple #[.bool false]) :: L) → wpList P ops Q rest a' W)
    (c2 : ∀ a' W' kv left', left.Perm (kv :: left') → Has G w W' (Ranged b it d left' (some kv) :: R) → Slots a' n ((dst, .tuple #[.bool true, .string kv.1, kv.2]) :: L) → wpList P ops Q rest a' W') : wpList P ops Q (⟨some dst, .next x false, ty, p, e, none⟩ :: rest) a W := by
  have hW := hw
  obtain ⟨F1, h1, ⟨h2, h3, hn, es, ck, since, seen, c0, h4, h5, h6, h7, h8, h9, h10, -⟩, h11⟩ := hw.has
  have hold : ∀ x ∈ (⟨es.map Ent.raw⟩ : Array MapEntry).toList, x.born < since := by
    intro x hx
    obtain ⟨e, he, rfl⟩ := List.mem_map.1 hx
    exact h7 e he
  rcases run_next_at (P := P) W ty it b since c0 ⟨seen⟩ ⟨es.map Ent.raw⟩ ck h6 h4.at_ hold h8 with ⟨g1, g2⟩ | ⟨en, g1, w1, g2, g3⟩
  · refine st_value hs hd (W' := W) ?_ fun a' hs' => c1 a' ?_ hs'
    · simp only [execOp, hs.ev hx, Sem.run_bind, g2, Result.andThen_ok]
      rfl
    · have : (leftOf ⟨es.map Ent.raw⟩ ⟨seen⟩).toList.length = 0 := by rw [Array.length_toList]; exact g1
      rw [left_list] at this
      rw [← h10]
      simpa using this
  · rw [left_list] at g1
    obtain ⟨e', he', rfl⟩ := List.mem_map.1 g1
    have hp := perm_take h4.nodup he'
    refine st_value hs hd (W' := ChangeMaps.setBlock w1 it (.mapIter (some b) since ((⟨seen⟩ : Array Nat).push e'.t) ck)) ?_ fun a' hs' => c2 a' _ e'.kv _ (by rw [← h10]; exact hp.map Ent.kv) ?_ hs'
    · simp only [execOp, hs.ev hx, Sem.run_bind, Ent.raw, g3, Result.andThen_ok]
      rfl
    · have hbl := (h1 it h3)
      have hw1 : w1.heap = W.heap ∧ w1.os = W.os ∧ w1.tape = W.tape ∧ w1.output = W.output := by rcases g2 with rfl | rfl <;> exact ⟨rfl, rfl, rfl, rfl⟩
      have hsz : w1.heap.size = W.heap.size := by rw [hw1.1]
      have hoth : ∀ r, r ≠ it → (ChangeMaps.setBlock w1 it (.mapIter (some b) since ((⟨seen⟩ : Array Nat).push e'.t) ck)).heap[r]? = W.heap[r]? := fun r hr => by
        rw [setBlock_ne hr, hw1.1]
      have hx2 : (ChangeMaps.setBlock w1 it (.mapIter (some b) since ((⟨seen⟩ : Array Nat).push e'.t) ck)).heap.size = W.heap.size := by simp [ChangeMaps.setBlock, hsz]
      refine ⟨hW.ext.trans ⟨hw1.2.1, hw1.2.2.1, hw1.2.2.2, by omega, fun r hr => hoth r (by omega)⟩, hW.glob, F1, ?_, ⟨h2, h3, hn, es, ck, since, seen ++ [e'.t], ck, ⟨(hoth b hn).trans h4.at_, h4.nodup, h4.lt⟩, h5, ?_, h7, h9, h9, rfl, fun p hp => ⟨rfl, seen, e', rfl, (List.mem_filter.1 he').1, Option.some.inj hp⟩⟩, ?_⟩
      · intro r hr
        rw [hx2]; exact h1 r hr
      · rw [setBlock_at (by omega)]
        simp
      · refine (h11.loc fun r hr => hoth r fun h => hr.2 (h ▸ h3)).mono fun r hr => ?_
        rw [hx2]; exact hr
theorem st_entry {kv : ByteArray × Value} (hs : Slots a n L) (hx : ev L x = some (.pointer (some ⟨it, 0, none⟩)) := by with_unfolding_all exact rfl) (hw : Has G w W R) (hi : In (Ranged b it d left (some kv)) R := by repeat (first | exact In.hd | apply In.tl)) (hd : Nat.blt dst n = true := by with_unfolding_all exact rfl)
    (c : ∀ a', Slots a' n ((dst, .tuple #[.string kv.1, kv.2]) :: L) → wpList P ops Q rest a' W) : wpList P ops Q (⟨some dst, .entry x, ty, p, e, none⟩ :: rest) a W := by
  obtain ⟨F, -, h2, h3, hn, es, ck, since, seen, c0, h4, h5, h6, h7, h8, h9, h10, h11⟩ := hw.of_in hi
  obtain ⟨rfl, s, e', rfl, he, rfl⟩ := h11 kv rfl
  refine st_value hs hd (W' := W) ?_ c
  have hr : W.heap[it]? = some (.mapIter (some b) since ((⟨s⟩ : Array Nat).push e'.raw.born) c0) := by rw [h6]; simp [Ent.raw]
  have := run_entry_at (P := P) W it b since ⟨s⟩ ⟨es.map Ent.raw⟩ c0 e'.raw hr h4.at_ (List.mem_map_of_mem he) (by simpa [Ent.raw, Function.comp_def] using h4.nodup)
  simp only [execOp, hs.ev hx, Sem.run_bind, this, Result.andThen_ok]
  rfl
end
theorem dset_new : ∀ {d : KV} {k : ByteArray} (v : Value), k ∉ d.map (·.1) → dset d k v = d ++ [(k, v)]
  | [], _, _, _ => rfl
  | p :: d, k, v, h => by
    rw [List.map_cons, List.mem_cons, not_or] at h
    have : ks k p.1 = false := by
      cases hk : ks k p.1 with
      | false => rfl
      | true => exact absurd (ks_iff.1 hk) h.1
    simp only [dset, this]
    rw [dset_new v h.2]; rfl
end Go.Sx

set_option linter.unusedVariables false
namespace Go.Sx
open Go.RowKit
theorem perm_pick {r : Res} {L L' K : List Res} (p : Pick r L L') (h : L'.Perm K) : L.Perm (r :: K) := by
  induction p generalizing K with
  | hd => exact h.cons r
  | tl p ih => exact ((ih (List.Perm.refl _)).cons _).trans ((List.Perm.swap _ _ _).trans (h.cons r))
abbrev Fh := Nat → Option Obj
def Fz (H : Fh) : Res where
  ok F W := ∀ b o, H b = some o → F b ∧ W.heap[b]? = some o
  loc F W W' h k := fun b o hb => ⟨(k b o hb).1, (h b (k b o hb).1).trans (k b o hb).2⟩
def Fh.le (H H' : Fh) : Prop := ∀ b o, H b = some o → H' b = some o
theorem Fh.le.refl (H : Fh) : H.le H := fun _ _ h => h
theorem Fh.le.trans {H H' H'' : Fh} (h : H.le H') (k : H'.le H'') : H.le H'' := fun b o e => k b o (h b o e)
def fr (w : World) : Fh := fun b => w.heap[b]?
section
variable {G : Nat} {w W W' : World} {L L' R : List Res} {H H' : Fh}
theorem Has.startF (w : World) : Has 0 w w [Fz (fr w)] :=
  ⟨Ext.refl _ _, Nat.zero_le _, fun b => 0 ≤ b ∧ b < w.heap.size, fun _ h => h, fun b o hb => ⟨⟨Nat.zero_le _, (Array.getElem?_eq_some_iff.1 hb).1⟩, hb⟩, trivial⟩
theorem Has.endF (h : Has 0 w W L) (i : In (Fz H) L) (hH : (fr w).le H) : Below w.heap.size w W := by
  obtain ⟨F, _, h2⟩ := h.of_in i
  refine ⟨h.ext.os, h.ext.tape, h.ext.output, h.ext.size, fun b hb => ?_⟩
  obtain ⟨o, ho⟩ : ∃ o, w.heap[b]? = some o := ⟨w.heap[b], Array.getElem?_eq_getElem hb⟩
  rw [ho]
  exact (h2 b o (hH b o ho)).2
def RdH (H : Fh) (size : Nat) (v : Value) (n : Nat) (xs : List Value) : Prop :=
  xs.length = n * size ∧ ∃ ad cap, v = .slice ad n cap ∧ n ≤ cap ∧ cap ≤ 9223372036854775807 ∧ (n = 0 ∨ ∃ b o cs T z, ad = some ⟨b, o, none⟩ ∧ H b = some (.cells cs T z) ∧ ∀ j x, xs[j]? = some x → cs[o + j]? = some x)
theorem RdH.le {size n : Nat} {v : Value} {xs : List Value} (r : RdH H size v n xs) (h : H.le H') : RdH H' size v n xs := by
  obtain ⟨h1, ad, cap, h2, h3, h4, h5⟩ := r
  refine ⟨h1, ad, cap, h2, h3, h4, h5.imp id ?_⟩
  rintro ⟨b, o, cs, T, z, e, hb, hc⟩
  exact ⟨b, o, cs, T, z, e, h _ _ hb, hc⟩
theorem RdH.len {size n : Nat} {v : Value} {xs : List Value} (r : RdH H size v n xs) : n ≤ 9223372036854775807 := by
  obtain ⟨_, _, cap, _, h3, h4, _⟩ := r; omega
theorem RdH.slice {size n : Nat} {v : Value} {xs : List Value} (r : RdH H size v n xs) : ∃ ad cap, v = .slice ad n cap := by
  obtain ⟨_, ad, cap, e, _⟩ := r; exact ⟨ad, cap, e⟩
theorem RdH.nil (H : Fh) (size c : Nat) (hc : c ≤ 9223372036854775807) : RdH H size (.slice none 0 c) 0 [] := ⟨by simp, none, c, rfl, by omega, hc, .inl rfl⟩
theorem RdH.of_rd {size n : Nat} {v : Value} {xs : List Value} (r : Rd W size v n xs) (hH : (fr W).le H) (h0 : 0 < size) : RdH H size v n xs := by
  obtain ⟨h1, ad, cap, h2, h3, h4, h5⟩ := r
  refine ⟨h1, ad, cap, h2, h3, h4, ?_⟩
  rcases h5 with h5 | ⟨b, o, e, hlt, hc⟩
  · exact .inl h5
  · rcases Nat.eq_zero_or_pos n with hn | hn
    · exact .inl hn
    · right
      have hx : 0 < xs.length := by rw [h1]; exact Nat.mul_pos hn h0
      have hc0 := hc 0 xs[0] (by simp [hx])
      unfold World.cell? at hc0
      cases hb : W.heap[b]? with
      | none => simp [hb] at hc0
      | some ob =>
        cases ob with
        | cells cs T z =>
          refine ⟨b, o, cs, T, z, e, hH b _ hb, fun j x hj => ?_⟩
          have := hc j x hj
          unfold World.cell? at this
          simpa [hb] using this
        | _ => simp [hb] at hc0
theorem Has.rdH {w0 : World} {size n : Nat} {v : Value} {xs : List Value} (h : Has G w0 W L) (i : In (Fz H) L) (r : RdH H size v n xs) : Rd W size v n xs := by
  obtain ⟨F, hF, h2⟩ := h.of_in i
  obtain ⟨h1, ad, cap, e2, h3, h4, h5⟩ := r
  refine ⟨h1, ad, cap, e2, h3, h4, h5.imp id ?_⟩
  rintro ⟨b, o, cs, T, z, e, hb, hc⟩
  have hw := h2 b _ hb
  refine ⟨b, o, e, (hF b hw.1).2, fun j x hx => ?_⟩
  unfold World.cell?
  rw [hw.2]
  simpa using hc j x hx
theorem Has.freeze {r : Res} {R' : List Res} (h : Has G w W (r :: Fz H :: R)) : ∃ H', H.le H' ∧ Has G w W (Fz H' :: R) ∧ ∃ F, r.ok F W ∧ ∀ b o, F b → W.heap[b]? = some o → H' b = some o := by
  classical
  obtain ⟨F1, h1, h2, F2, h3, h4, h5⟩ := h.has
  refine ⟨fun b => if F1 b then W.heap[b]? else H b, fun b o hb => ?_, ⟨h.ext, h.glob, fun b => F1 b ∨ F2 b, ?_, fun b o hb => ?_, ?_⟩, F1, h2, fun b o hb ho => ?_⟩
  · have := (h3 b (h4 b o hb).1).2
    simp only [if_neg this]
    exact hb
  · rintro b (hb | hb)
    · exact h1 b hb
    · exact (h3 b hb).1
  · by_cases hf : F1 b
    · simp only [if_pos hf] at hb
      exact ⟨.inl hf, hb⟩
    · simp only [if_neg hf] at hb
      exact ⟨.inr (h4 b o hb).1, (h4 b o hb).2⟩
  · refine h5.mono fun b hb => ⟨hb.1.1, ?_⟩
    rintro (h | h)
    · exact hb.1.2 h
    · exact hb.2 h
  · simp only [if_pos hb]; exact ho
theorem Has.freeze_own {E : TypeId} {size n : Nat} {v : Value} {xs : List Value} (h : Has G w W (Own E size v n xs :: Fz H :: R)) : ∃ H', H.le H' ∧ Has G w W (Fz H' :: R) ∧ RdH H' size v n xs := by
  obtain ⟨H', h1, h2, F, h3, h4⟩ := h.freeze (R' := [])
  refine ⟨H', h1, h2, ?_⟩
  obtain ⟨hl, ⟨rfl, rfl⟩ | ⟨g, cap, cur, rfl, hF, hg, hnc, hcm, hcs, ht⟩⟩ := h3
  · exact ⟨hl, none, 0, rfl, by omega, by omega, .inl rfl⟩
  · refine ⟨hl, some ⟨g, 0, none⟩, cap, rfl, hnc, by unfold maxLen at hcm; omega, .inr ⟨g, 0, ⟨cur⟩, E, (0, 0), rfl, h4 g _ hF hg, fun j x hx => ?_⟩⟩
    rw [← ht, List.getElem?_take] at hx
    split at hx
    · simpa using hx
    · cases hx
end
def Ex {α : Type} (Ls : α → List Res) : Res where
  ok F W := ∃ x, HasIn W (Ls x) F
  loc F W W' h := fun ⟨x, k⟩ => ⟨x, k.loc h⟩
theorem HasIn.append {W : World} : ∀ {A B : List Res} {F F1 : Nat → Prop}, HasIn W A F1 → (∀ b, F1 b → F b) → HasIn W B (fun b => F b ∧ ¬ F1 b) → HasIn W (A ++ B) F
  | [], B, F, F1, _, _, h => h.mono fun b hb => hb.1
  | r :: A, B, F, F1, ⟨F2, h1, h2, h3⟩, hF, h => by
    refine ⟨F2, fun b hb => hF b (h1 b hb), h2, HasIn.append (F1 := fun b => F1 b ∧ ¬ F2 b) h3 (fun b hb => ⟨hF b hb.1, hb.2⟩) ?_⟩
    exact h.mono fun b hb => ⟨⟨hb.1, fun h2 => hb.2 (h1 b h2)⟩, fun h2 => hb.2 h2.1⟩
theorem HasIn.unappend {W : World} : ∀ {A B : List Res} {F : Nat → Prop}, HasIn W (A ++ B) F → ∃ F1, (∀ b, F1 b → F b) ∧ HasIn W A F1 ∧ HasIn W B (fun b => F b ∧ ¬ F1 b)
  | [], B, F, h => ⟨fun _ => False, fun _ h => h.elim, trivial, h.mono fun b hb => ⟨hb, fun h => h⟩⟩
  | r :: A, B, F, ⟨F2, h1, h2, h3⟩ => by
    obtain ⟨F1, g1, g2, g3⟩ := HasIn.unappend h3
    refine ⟨fun b => F2 b ∨ F1 b, ?_, ⟨F2, fun b hb => .inl hb, h2, g2.mono fun b hb => ⟨.inr hb, (g1 b hb).2⟩⟩, g3.mono fun b hb => ⟨hb.1.1, ?_⟩⟩
    · rintro b (hb | hb)
      · exact h1 b hb
      · exact (g1 b hb).1
    · rintro (h | h)
      · exact hb.1.2 h
      · exact hb.2 h
section
variable {α : Type} {Ls : α → List Res} {G : Nat} {w W : World} {R : List Res}
theorem Has.shut (x : α) (h : Has G w W (Ls x ++ R)) : Has G w W (Ex Ls :: R) := by
  obtain ⟨F1, h1, h2, h3⟩ := HasIn.unappend h.has
  exact ⟨h.ext, h.glob, F1, h1, ⟨x, h2⟩, h3⟩
theorem Has.open (h : Has G w W (Ex Ls :: R)) : ∃ x, Has G w W (Ls x ++ R) := by
  obtain ⟨F1, h1, ⟨x, h2⟩, h3⟩ := h.has
  exact ⟨x, h.ext, h.glob, HasIn.append h2 h1 h3⟩
end
section
variable {P : Program} {ops : Array Oper} {rest : List Oper} {Q : Exit → Act → World → Prop} {a : Act} {n G : Nat} {L : List (Nat × Value)} {w W W' : World} {R : List Res} {d : Nat} {T S S' E : TypeId} {p : String} {e : Array Edge} {x : Operand} {ad : Addr}
theorem st_ptrSome (hs : Slots a n L) (hx : ev L x = some (.pointer (some ad)) := by with_unfolding_all exact rfl) (ht : P.underlying S = some (.pointer (P.pointee S)) := by kernel_rfl) (hd : Nat.blt d n = true := by with_unfolding_all exact rfl)
    (k : ∀ a', Slots a' n ((d, .bool false) :: L) → wpList P ops Q rest a' W) : wpList P ops Q (⟨some d, .binOp .eql S x (.const (.pointer none)) S', T, p, e, none⟩ :: rest) a W := by
  refine st_value hs hd (W' := W) ?_ k
  have h2 : (binOp .eql S (.pointer (some ad)) (.pointer none)).run P W = .ok (.bool false) W := by
    have := run_eql_pointer_nil (P := P) W S (some ad) ht
    simpa using this
  have h3 : a.eval (.const (.pointer none)) = .pointer none := rfl
  simp only [execOp, hs.ev hx, h3, Sem.run_bind]
  simp [eqGuard, h2]
theorem st_ptrNone (hs : Slots a n L) (hx : ev L x = some (.pointer none) := by with_unfolding_all exact rfl) (ht : P.underlying S = some (.pointer (P.pointee S)) := by kernel_rfl) (hd : Nat.blt d n = true := by with_unfolding_all exact rfl)
    (k : ∀ a', Slots a' n ((d, .bool true) :: L) → wpList P ops Q rest a' W) : wpList P ops Q (⟨some d, .binOp .eql S x (.const (.pointer none)) S', T, p, e, none⟩ :: rest) a W := by
  refine st_value hs hd (W' := W) ?_ k
  have h2 : (binOp .eql S (.pointer none) (.pointer none)).run P W = .ok (.bool true) W := by
    have := run_eql_pointer_nil (P := P) W S none ht
    simpa using this
  have h3 : a.eval (.const (.pointer none)) = .pointer none := rfl
  simp only [execOp, hs.ev hx, h3, Sem.run_bind]
  simp [eqGuard, h2]
end
class Ar (P : Program) (S : TypeId) (len : outParam Nat) (E : outParam TypeId) : Prop where
  out : P.underlying S = some (.array len E)
section
variable {P : Program} {ops : Array Oper} {rest : List Oper} {Q : Exit → Act → World → Prop} {a : Act} {n G : Nat} {L : List (Nat × Value)} {w W W' : World} {R : List Res} {d k b o len : Nat} {T S S' E : TypeId} {p : String} {e : Array Edge} {x y : Operand} {z : List Value} {q : IntKind} {j : Int}
theorem st_buildSlice0 {agg : Bool} [sl : Sl P S E] [t : Ty P E agg z] (hs : Slots a n L) (hw : Has G w W R) (hd : Nat.blt d n = true := by with_unfolding_all exact rfl)
    (c : ∀ a' ad W', Has G w W' (Own E z.length (.slice ad 0 0) 0 [] :: R) → Slots a' n ((d, .slice ad 0 0) :: L) → wpList P ops Q rest a' W') : wpList P ops Q (⟨some d, .buildSlice S 0 #[], T, p, e, none⟩ :: rest) a W := by
  have hr : (Instr.buildSlice S 0 #[]).run P W = .ok (.slice (some ⟨W.heap.size, 0, none⟩) 0 0) (W.alloc (.cells ⟨[]⟩ E)) := by
    have hf : ∀ (f : Nat → Option (Nat × Nat)) (cs : Array Value), Instr.fill f cs [] = some cs := fun f cs => rfl
    have h0 : ∀ g : Nat → Value, (Array.range 0).map g = ⟨[]⟩ := fun g => by simp
    simp only [Instr.buildSlice, Sem.run_bind, run_underlying sl.out, Result.andThen_ok, t.sizeOf, Nat.zero_mul, if_true, hf, h0, newRow]
    rfl
  refine st_value hs hd (v := .slice (some ⟨W.heap.size, 0, none⟩) 0 0) (W' := W.alloc (.cells ⟨[]⟩ E)) ?_ fun a' hs' => c a' _ _ ?_ hs'
  · simp only [execOp, Sem.run_bind, List.map_toArray, List.map_nil]
    rw [hr]
    rfl
  · obtain ⟨F1, h1, ⟨h2, h3⟩, h4⟩ := (hw.new [] E).has
    exact ⟨(hw.new [] E).ext, hw.glob, F1, h1, ⟨by simp, .inr ⟨W.heap.size, 0, [], rfl, h2, h3, Nat.le_refl _, Nat.zero_le _, by simp, by simp⟩⟩, h4⟩
theorem st_index_arr {agg : Bool} [ar : Ar P S len E] [t : Ty P E agg z] (hs : Slots a n L) (hx : ev L x = some (.pointer (some ⟨b, o, none⟩)) := by with_unfolding_all exact rfl) (hy : ev L y = some (.int q j) := by with_unfolding_all exact rfl) (h0 : 0 ≤ j) (h1 : j < len) (hd : Nat.blt d n = true := by with_unfolding_all exact rfl)
    (c : ∀ a', Slots a' n ((d, .pointer (some ⟨b, o + j.toNat * z.length, none⟩)) :: L) → wpList P ops Q rest a' W) : wpList P ops Q (⟨some d, .indexAddr S x y, T, p, e, none⟩ :: rest) a W := by
  refine st_value hs hd (W' := W) ?_ c
  simp only [execOp, hs.ev hx, hs.ev hy, Instr.indexAt, asIntOf, Sem.run_bind, Sem.run_pure, Result.andThen_ok, run_underlying ar.out, Instr.sureAddr]
  rw [if_pos ⟨h0, h1⟩]
  simp only [Sem.run_bind, t.sizeOf, Result.andThen_ok, Sem.run_pure, addr_add]
end
end Go.Sx

set_option linter.unusedVariables false
namespace Go.Proofs.YtmalklakaalaoaaGreatDoor
open Go.RowKit
def kindOf : Option (Int ⊕ ByteArray) → Int
  | none => 0
  | some (.inl _) => 1
  | some (.inr _) => 2
def intIn : Option (Int ⊕ ByteArray) → Int
  | some (.inl n) => n
  | _ => 0
def isInt : Option (Int ⊕ ByteArray) → Bool
  | some (.inl _) => true
  | _ => false
def textIn : Option (Int ⊕ ByteArray) → ByteArray
  | some (.inr s) => s
  | _ => ⟨#[]⟩
theorem ta1 (w : World) : (Instr.typeAssert .nilIface 163 191 true).run Tryz.prog w = .ok (.tuple #[.int .i64 0, .bool false]) w := by kernel_rfl
theorem ta2 (n : Int) (w : World) : (Instr.typeAssert (.iface 191 (.int .i64 n)) 163 191 true).run Tryz.prog w = .ok (.tuple #[.int .i64 n, .bool true]) w := by kernel_rfl
theorem ta3 (s : ByteArray) (w : World) : (Instr.typeAssert (.iface 192 (.string s)) 163 191 true).run Tryz.prog w = .ok (.tuple #[.int .i64 0, .bool false]) w := by kernel_rfl
theorem tb1 (w : World) : (Instr.typeAssert .nilIface 163 192 true).run Tryz.prog w = .ok (.tuple #[.string ⟨#[]⟩, .bool false]) w := by kernel_rfl
theorem tb2 (n : Int) (w : World) : (Instr.typeAssert (.iface 191 (.int .i64 n)) 163 192 true).run Tryz.prog w = .ok (.tuple #[.string ⟨#[]⟩, .bool false]) w := by kernel_rfl
theorem tb3 (s : ByteArray) (w : World) : (Instr.typeAssert (.iface 192 (.string s)) 163 192 true).run Tryz.prog w = .ok (.tuple #[.string s, .bool true]) w := by kernel_rfl
theorem me1 (n : Int) (w : World) : (method 339 191 (.int .i64 n) "packhorse/value.kind").run Tryz.prog w = .ok (163, .int .i64 n) w := by kernel_rfl
theorem me2 (s : ByteArray) (w : World) : (method 339 192 (.string s) "packhorse/value.kind").run Tryz.prog w = .ok (164, .string s) w := by kernel_rfl
theorem kind_number (n : Int) (w : World) : Calls Tryz.prog 163 #[.int .i64 n] w fun e w' => e = .returned (.int .i64 1) ∧ w = w' := by
  go_enter Tryz.func163, Tryz.ntmps163
  go_wp2
  go_ret
  exact ⟨rfl, rfl⟩
theorem kind_text (s : ByteArray) (w : World) : Calls Tryz.prog 164 #[.string s] w fun e w' => e = .returned (.int .i64 2) ∧ w = w' := by
  go_enter Tryz.func164, Tryz.ntmps164
  go_wp2
  go_ret
  exact ⟨rfl, rfl⟩
set_option maxHeartbeats 1000000 in
theorem Kind_none (w : World) :
    Calls Tryz.prog 103 #[.agg #[.nilIface]] w fun e w' => e = .returned (.int .i64 0) ∧ Below w.heap.size w w' := by
  have t1 := ta1
  have t2 := tb1
  go_enter Tryz.func103, Tryz.ntmps103
  go_wp2_with fail
  go_ret
  exact ⟨rfl, (Below.refl _ _).alloc (Nat.le_refl _) _⟩
set_option maxHeartbeats 1000000 in
theorem AsInt_none (w : World) :
    Calls Tryz.prog 108 #[.agg #[.nilIface]] w fun e w' => e = .returned (.tuple #[.int .i64 0, .bool false]) ∧ Below w.heap.size w w' := by
  have t1 := ta1
  have t2 := tb1
  go_enter Tryz.func108, Tryz.ntmps108
  go_wp2
  go_ret2
  exact ⟨rfl, (Below.refl _ _).alloc (Nat.le_refl _) _⟩
set_option maxHeartbeats 1000000 in
theorem Raw_none (w : World) :
    Calls Tryz.prog 99 #[.agg #[.nilIface]] w fun e w' => e = .returned (.agg #[.int .i64 0, .int .i64 0, .string ⟨#[]⟩]) ∧ Below w.heap.size w w' := by
  have t1 := ta1
  have t2 := tb1
  go_enter Tryz.func99, Tryz.ntmps99
  go_wp2
  refine bodyPost_ret (v := .agg #[.int .i64 0, .int .i64 0, .string ⟨#[]⟩]) (by simp [results, Tryz.results99, go_sem]) rfl ⟨rfl, ?_⟩
  exact ((Below.refl _ _).alloc (Nat.le_refl _) _).alloc (by simp) _
set_option maxHeartbeats 1000000 in
theorem Kind_int (n : Int) (w : World) :
    Calls Tryz.prog 103 #[.agg #[.iface 191 (.int .i64 n)]] w fun e w' => e = .returned (.int .i64 1) ∧ Below w.heap.size w w' := by
  have t1 := ta2 n
  have t2 := tb2 n
  have t3 := me1 n
  go_enter Tryz.func103, Tryz.ntmps103
  go_wp2_with (go_at_call 163; refine (kind_number _ _).mono ?_; rintro e w' ⟨rfl, rfl⟩)
  go_ret
  exact ⟨rfl, (Below.refl _ _).alloc (Nat.le_refl _) _⟩
set_option maxHeartbeats 1000000 in
theorem AsInt_int (n : Int) (w : World) :
    Calls Tryz.prog 108 #[.agg #[.iface 191 (.int .i64 n)]] w fun e w' => e = .returned (.tuple #[.int .i64 n, .bool true]) ∧ Below w.heap.size w w' := by
  have t1 := ta2 n
  have t2 := tb2 n
  have t3 := me1 n
  go_enter Tryz.func108, Tryz.ntmps108
  go_wp2
  go_ret2
  exact ⟨rfl, (Below.refl _ _).alloc (Nat.le_refl _) _⟩
set_option maxHeartbeats 1000000 in
theorem Raw_int (n : Int) (w : World) :
    Calls Tryz.prog 99 #[.agg #[.iface 191 (.int .i64 n)]] w fun e w' => e = .returned (.agg #[.int .i64 1, .int .i64 n, .string ⟨#[]⟩]) ∧ Below w.heap.size w w' := by
  have t1 := ta2 n
  have t2 := tb2 n
  have t3 := me1 n
  go_enter Tryz.func99, Tryz.ntmps99
  go_wp2
  refine bodyPost_ret (v := .agg #[.int .i64 1, .int .i64 n, .string ⟨#[]⟩]) (by simp [results, Tryz.results99, go_sem]) rfl ⟨rfl, ?_⟩
  exact ((Below.refl _ _).alloc (Nat.le_refl _) _).alloc (by simp) _
set_option maxHeartbeats 1000000 in
theorem Kind_text (s : ByteArray) (w : World) :
    Calls Tryz.prog 103 #[.agg #[.iface 192 (.string s)]] w fun e w' => e = .returned (.int .i64 2) ∧ Below w.heap.size w w' := by
  have t1 := ta3 s
  have t2 := tb3 s
  have t3 := me2 s
  go_enter Tryz.func103, Tryz.ntmps103
  go_wp2_with (go_at_call 164; refine (kind_text _ _).mono ?_; rintro e w' ⟨rfl, rfl⟩)
  go_ret
  exact ⟨rfl, (Below.refl _ _).alloc (Nat.le_refl _) _⟩
set_option maxHeartbeats 1000000 in
theorem AsInt_text (s : ByteArray) (w : World) :
    Calls Tryz.prog 108 #[.agg #[.iface 192 (.string s)]] w fun e w' => e = .returned (.tuple #[.int .i64 0, .bool false]) ∧ Below w.heap.size w w' := by
  have t1 := ta3 s
  have t2 := tb3 s
  have t3 := me2 s
  go_enter Tryz.func108, Tryz.ntmps108
  go_wp2
  go_ret2
  exact ⟨rfl, (Below.refl _ _).alloc (Nat.le_refl _) _⟩
set_option maxHeartbeats 1000000 in
theorem Raw_text (s : ByteArray) (w : World) :
    Calls Tryz.prog 99 #[.agg #[.iface 192 (.string s)]] w fun e w' => e = .returned (.agg #[.int .i64 2, .int .i64 0, .string s]) ∧ Below w.heap.size w w' := by
  have t1 := ta3 s
  have t2 := tb3 s
  have t3 := me2 s
  go_enter Tryz.func99, Tryz.ntmps99
  go_wp2
  refine bodyPost_ret (v := .agg #[.int .i64 2, .int .i64 0, .string s]) (by simp [results, Tryz.results99, go_sem]) rfl ⟨rfl, ?_⟩
  exact ((Below.refl _ _).alloc (Nat.le_refl _) _).alloc (by simp) _
end Go.Proofs.YtmalklakaalaoaaGreatDoor

set_option linter.unusedVariables false
namespace Go.Proofs.YtmalklakaalaoaaGreatDoor
open Go.RowKit
theorem eq_raw (k n : Int) (s : ByteArray) (k' n' : Int) (s' : ByteArray) (w : World) :
    (binOp .eql 93 (.agg #[.int .i64 k, .int .i64 n, .string s]) (.agg #[.int .i64 k', .int .i64 n', .string s'])).run Tryz.prog w
      = .ok (.bool ((k == k') && (n == n') && (s.toList == s'.toList))) w := by
  have f1 : Tryz.prog.stoodInHeld 93 = false := by kernel_rfl
  have f2 : Tryz.prog.underlying 93 = some (.struct (Tryz.prog.fieldsOf 93)) := by kernel_rfl
  rw [run_eql_struct, run_equalIn_struct _ _ _ _ _ f2 f1]
  simp only [Program.fieldsOf]
  cases hk : k == k' <;> cases hn : n == n' <;> cases hs : s.toList == s'.toList <;> simp [go_sem, Op.eqFields, part, hk, hn, hs]
theorem Raw_any (x : Option (Int ⊕ ByteArray)) (w : World) :
    Calls Tryz.prog 99 #[.agg #[vCell x]] w fun e w' => e = .returned (.agg #[.int .i64 (kindOf x), .int .i64 (intIn x), .string (textIn x)]) ∧ Below w.heap.size w w' := by
  rcases x with _ | n | s
  · exact Raw_none w
  · exact Raw_int n w
  · exact Raw_text s w
theorem Kind_any (x : Option (Int ⊕ ByteArray)) (w : World) :
    Calls Tryz.prog 103 #[.agg #[vCell x]] w fun e w' => e = .returned (.int .i64 (kindOf x)) ∧ Below w.heap.size w w' := by
  rcases x with _ | n | s
  · exact Kind_none w
  · exact Kind_int n w
  · exact Kind_text s w
theorem AsInt_any (x : Option (Int ⊕ ByteArray)) (w : World) :
    Calls Tryz.prog 108 #[.agg #[vCell x]] w fun e w' => e = .returned (.tuple #[.int .i64 (intIn x), .bool (isInt x)]) ∧ Below w.heap.size w w' := by
  rcases x with _ | n | s
  · exact AsInt_none w
  · exact AsInt_int n w
  · exact AsInt_text s w
def eqV (x y : Option (Int ⊕ ByteArray)) : Bool := (kindOf x == kindOf y) && (intIn x == intIn y) && ((textIn x).toList == (textIn y).toList)
set_option maxRecDepth 100000 in
set_option maxHeartbeats 4000000 in
theorem value_Eq (x y : Option (Int ⊕ ByteArray)) (w : World) :
    Calls Tryz.prog 107 #[.agg #[vCell x], .agg #[vCell y]] w fun e w' => e = .returned (.bool (eqV x y)) ∧ Below w.heap.size w w' := by
  have hv := fun (x : Option (Int ⊕ ByteArray)) (W : World) => Raw_any x W
  have he := eq_raw (kindOf x) (intIn x) (textIn x) (kindOf y) (intIn y) (textIn y)
  unfold eqV
  generalize kindOf = KK at *
  generalize intIn = NN at *
  generalize textIn = SS at *
  generalize vCell = V at *
  have HV := Lib.hid hv
  clear hv
  go_enter Tryz.func107, Tryz.ntmps107
  go_wp2_with fail
  have hb0 : Below w.heap.size w ((w.alloc (Obj.cells #[V x] 165)).alloc (Obj.cells #[V y] 165)) := ((Below.refl _ _).alloc (Nat.le_refl _) _).alloc (by simp) _
  have hc1 : ((w.alloc (Obj.cells #[V x] 165)).alloc (Obj.cells #[V y] 165)).cell? ⟨w.heap.size, 0, none⟩ = some (V x) := by simp [go_sem]
  have hc2 : ((w.alloc (Obj.cells #[V x] 165)).alloc (Obj.cells #[V y] 165)).cell? ⟨w.heap.size + 1, 0, none⟩ = some (V y) := by simp [go_sem]
  have hsz : w.heap.size + 1 < ((w.alloc (Obj.cells #[V x] 165)).alloc (Obj.cells #[V y] 165)).heap.size := by simp
  generalize (w.alloc (Obj.cells #[V x] 165)).alloc (Obj.cells #[V y] 165) = w1 at *
  have keepB : ∀ (W W' : World), (W.cell? ⟨w.heap.size, 0, none⟩ = some (V x) ∧ W.cell? ⟨w.heap.size + 1, 0, none⟩ = some (V y) ∧ w.heap.size + 1 < W.heap.size ∧ Below w.heap.size w W) → Below W.heap.size W W' → (W'.cell? ⟨w.heap.size, 0, none⟩ = some (V x) ∧ W'.cell? ⟨w.heap.size + 1, 0, none⟩ = some (V y) ∧ w.heap.size + 1 < W'.heap.size ∧ Below w.heap.size w W') := by
    rintro W W' ⟨a, b, c, d⟩ h
    have := h.size
    exact ⟨(h.cell (by simp; omega)).trans a, (h.cell (by simp; omega)).trans b, by omega, bjoin d h⟩
  have HK := Lib.hid keepB
  clear keepB
  go_region_held3 (fun W => W.cell? ⟨w.heap.size, 0, none⟩ = some (V x) ∧ W.cell? ⟨w.heap.size + 1, 0, none⟩ = some (V y) ∧ w.heap.size + 1 < W.heap.size ∧ Below w.heap.size w W)
    (first | (refine HK.out _ _ ?_ hb9; assumption) | assumption | exact ⟨by assumption, by assumption, by assumption, by assumption⟩ | exact ⟨by assumption, by assumption, by assumption, Below.drew (by assumption)⟩)
    (first | (go_at_call 99; refine (HV.out _ _).mono ?_; rintro e w9 ⟨rfl, hb9⟩))
  rename_i hHeld
  go_wp2
  go_ret
  exact ⟨rfl, hHeld.2.2.2⟩
end Go.Proofs.YtmalklakaalaoaaGreatDoor

set_option linter.unusedVariables false
set_option maxRecDepth 10000
namespace Go.Proofs.YtmalklakaalaoaaGreatDoor.Sw
open Go.RowKit Go.Sx
instance mpDoc : Mp Tryz.prog 139 9 165 := ⟨by kernel_rfl, by kernel_rfl⟩
theorem zeroVal (W : World) : (zeroValue 165).run Tryz.prog W = .ok (.agg ⟨[vCell none]⟩) W := by kernel_rfl
abbrev DV := Int ⊕ ByteArray
abbrev Dm := List (ByteArray × DV)
def vOf (x : DV) : Value := .agg ⟨[vCell (some x)]⟩
def kvOf (d : Dm) : KV := d.map fun p => (p.1, vOf p.2)
def dKeys (d : Dm) : Prop := (d.map (·.1)).Nodup
def getK : Dm → ByteArray → Option DV
  | [], _ => none
  | p :: d, k => match ks k p.1 with | true => some p.2 | false => getK d k
def delD (d : Dm) (k : ByteArray) : Dm := d.filter fun p => !ks k p.1
def setD (d : Dm) (k : ByteArray) (v : DV) : Dm := (k, v) :: delD d k
theorem dget_kv : ∀ (d : Dm) (k : ByteArray), (dget (kvOf d) k).getD (.agg ⟨[vCell none]⟩) = .agg ⟨[vCell (getK d k)]⟩
  | [], _ => rfl
  | p :: d, k => by
    simp only [kvOf, List.map_cons, dget, getK]
    cases ks k p.1 with
    | true => rfl
    | false => exact dget_kv d k
theorem getK_none : ∀ {d : Dm} {k : ByteArray}, getK d k = none ↔ k ∉ d.map (·.1)
  | [], _ => by simp [getK]
  | p :: d, k => by
    simp only [getK, List.map_cons, List.mem_cons, not_or]
    cases hk : ks k p.1 with
    | true => simp [ks_iff.1 hk]
    | false =>
      have : k ≠ p.1 := fun h => by rw [ks_iff.2 h] at hk; cases hk
      simp only [this, not_false_eq_true, true_and]
      exact getK_none
theorem getK_mem : ∀ {d : Dm} {k : ByteArray} {v : DV}, dKeys d → (getK d k = some v ↔ (k, v) ∈ d)
  | [], _, _, _ => by simp [getK]
  | p :: d, k, v, h => by
    unfold dKeys at h
    rw [List.map_cons, List.nodup_cons] at h
    simp only [getK, List.mem_cons]
    cases hk : ks k p.1 with
    | true =>
      have e := ks_iff.1 hk
      constructor
      · intro h'
        injection h' with h'
        exact .inl (by rw [e, ← h'])
      · rintro (h' | h')
        · rw [← h']
        · exact absurd (List.mem_map_of_mem (f := (·.1)) h') (by rw [e]; exact h.1)
    | false =>
      have : k ≠ p.1 := fun h => by rw [ks_iff.2 h] at hk; cases hk
      simp only
      rw [getK_mem h.2]
      constructor
      · exact .inr
      · rintro (h' | h')
        · exact absurd (by rw [← h']) this
        · exact h'
theorem dKeys_perm {d d' : Dm} (p : d.Perm d') : dKeys d ↔ dKeys d' := (p.map _).nodup_iff
theorem getK_perm {d d' : Dm} (p : d.Perm d') (h : dKeys d) (k : ByteArray) : getK d k = getK d' k := by
  have h' : dKeys d' := (dKeys_perm p).1 h
  cases hd : getK d k with
  | some v => exact ((getK_mem h').2 (p.mem_iff.1 ((getK_mem h).1 hd))).symm
  | none =>
    rw [getK_none] at hd
    exact (getK_none.2 fun hm => hd ((p.map _).mem_iff.2 hm)).symm
theorem delD_keys {d : Dm} (h : dKeys d) (k : ByteArray) : dKeys (delD d k) := h.sublist (List.filter_sublist.map _)
theorem delD_not {d : Dm} {k : ByteArray} : k ∉ (delD d k).map (·.1) := by
  intro h
  obtain ⟨p, hp, rfl⟩ := List.mem_map.1 h
  have := (List.mem_filter.1 hp).2
  rw [ks_self] at this
  cases this
theorem setD_keys {d : Dm} (h : dKeys d) (k : ByteArray) (v : DV) : dKeys (setD d k v) := by
  unfold dKeys setD
  rw [List.map_cons, List.nodup_cons]
  exact ⟨delD_not, delD_keys h k⟩
theorem delD_perm {d d' : Dm} (p : d.Perm d') (k : ByteArray) : (delD d k).Perm (delD d' k) := p.filter _
theorem setD_perm {d d' : Dm} (p : d.Perm d') (k : ByteArray) (v : DV) : (setD d k v).Perm (setD d' k v) := (delD_perm p k).cons _
theorem filter_all {d : Dm} {k : ByteArray} (h : k ∉ d.map (·.1)) : (d.filter fun p => !ks k p.1) = d := by
  rw [List.filter_eq_self]
  intro p hp
  cases hk : ks k p.1 with
  | false => rfl
  | true => exact absurd (List.mem_map_of_mem (f := (·.1)) hp) (by rw [← ks_iff.1 hk]; exact h)
theorem ddel_kv : ∀ {d : Dm} (k : ByteArray), dKeys d → ddel (kvOf d) k = kvOf (delD d k)
  | [], _, _ => rfl
  | p :: d, k, h => by
    unfold dKeys at h
    rw [List.map_cons, List.nodup_cons] at h
    simp only [kvOf, List.map_cons, ddel, delD, List.filter_cons]
    cases hk : ks k p.1 with
    | true =>
      simp only [Bool.not_true, Bool.false_eq_true, if_false]
      rw [filter_all (by rw [ks_iff.1 hk]; exact h.1)]
    | false =>
      simp only [Bool.not_false, if_true, List.map_cons]
      have := ddel_kv (d := d) k h.2
      unfold kvOf delD at this
      rw [this]
theorem dset_kv : ∀ {d : Dm} (k : ByteArray) (v : DV), dKeys d → ∃ d', dset (kvOf d) k (vOf v) = kvOf d' ∧ d'.Perm (setD d k v)
  | [], k, v, _ => ⟨[(k, v)], rfl, List.Perm.refl _⟩
  | p :: d, k, v, h => by
    unfold dKeys at h
    rw [List.map_cons, List.nodup_cons] at h
    simp only [kvOf, List.map_cons, dset, setD, delD, List.filter_cons]
    cases hk : ks k p.1 with
    | true =>
      refine ⟨(k, v) :: d, rfl, ?_⟩
      simp only [Bool.not_true, Bool.false_eq_true, if_false]
      rw [filter_all (by rw [ks_iff.1 hk]; exact h.1)]
    | false =>
      obtain ⟨d', h1, h2⟩ := dset_kv (d := d) k v h.2
      refine ⟨p :: d', ?_, ?_⟩
      · show (p.1, vOf p.2) :: dset (kvOf d) k (vOf v) = _
        rw [h1]; rfl
      · simp only [Bool.not_false, if_true]
        exact (h2.cons p).trans (List.Perm.swap _ _ _)
def DocAt (p : Nat) (d : Dm) : Res := Ex fun x : Nat × Dm => Cells p [.map (some x.1)] 141 :: MapOf x.1 (kvOf x.2) :: Fact (x.2.Perm d ∧ dKeys d) :: []
section
variable {G p m : Nat} {w W : World} {R : List Res} {d d' : Dm}
theorem docShut (h : Has G w W (Cells p [.map (some m)] 141 :: MapOf m (kvOf d') :: R)) (hp : d'.Perm d) (hk : dKeys d) : Has G w W (DocAt p d :: R) :=
  Has.shut (m, d') ((h.fact (p := d'.Perm d ∧ dKeys d) ⟨hp, hk⟩).perm ((List.Perm.swap _ _ _).trans (List.Perm.cons _ (List.Perm.swap _ _ _))))
theorem docOpen (h : Has G w W (DocAt p d :: R)) : ∃ m d', d'.Perm d ∧ dKeys d ∧ Has G w W (Cells p [.map (some m)] 141 :: MapOf m (kvOf d') :: R) := by
  obtain ⟨⟨m, d'⟩, h⟩ := Has.open h
  have h : Has G w W (Cells p [.map (some m)] 141 :: MapOf m (kvOf d') :: Fact (d'.Perm d ∧ dKeys d) :: R) := h
  obtain ⟨h1, h2⟩ := h.told (In.tl (In.tl In.hd))
  exact ⟨m, d', h1, h2, h.sub (List.Sublist.cons_cons _ (List.Sublist.cons_cons _ (List.Sublist.cons _ (List.Sublist.refl _))))⟩
end
set_option maxHeartbeats 4000000 in
theorem doc_New (w0 W : World) (R : List Res) (hw : Has 0 w0 W R) :
    Calls Tryz.prog 65 ⟨[]⟩ W fun e W' => ∃ p, e = .returned (.pointer (some ⟨p, 0, none⟩)) ∧ Has 0 w0 W' (DocAt p [] :: R) := by
  refine enter Tryz.func65 Tryz.ntmps65 rfl rfl fun a hs => ?_
  repeat (first | (refine sxv hs hw ?_; clear hs; intro a hs) | refine sxc hs ?_ | (refine sxa hs hw ?_; clear hs hw; intro a b W hw hs) | (refine sxs hs hw ?_; clear hs hw; intro W hs hw))
  refine st_makeMap hs hw (c := ?_); clear hs hw; intro a b W hw hs
  repeat (first | (refine sxv hs hw ?_; clear hs; intro a hs) | refine sxc hs ?_ | (refine sxa hs hw ?_; clear hs hw; intro a b W hw hs) | (refine sxs hs hw ?_; clear hs hw; intro W hs hw))
  refine rt1 hs rfl rfl ⟨_, rfl, ?_⟩
  exact docShut (d' := []) hw (List.Perm.refl _) (by unfold dKeys; simp)
theorem kind_some (x : Option DV) : (kindOf x != 0) = x.isSome := by rcases x with _ | n | s <;> rfl
set_option maxHeartbeats 4000000 in
theorem doc_has (w0 W : World) (p : Nat) (d : Dm) (k : ByteArray) (R : List Res) (hw : Has 0 w0 W (DocAt p d :: R)) :
    Calls Tryz.prog 112 ⟨[.pointer (some ⟨p, 0, none⟩), .string k]⟩ W fun e W' => e = .returned (.bool (getK d k).isSome) ∧ Has 0 w0 W' (DocAt p d :: R) := by
  obtain ⟨m, d', hp, hk, hw⟩ := docOpen hw
  refine enter Tryz.func112 Tryz.ntmps112 rfl rfl fun a hs => ?_
  repeat (first | (refine sxv hs hw ?_; clear hs; intro a hs) | refine sxc hs ?_ | (refine sxa hs hw ?_; clear hs hw; intro a b W hw hs) | (refine sxs hs hw ?_; clear hs hw; intro W hs hw))
  refine st_lookup hs (hw := hw) (hz := zeroVal) (c := ?_); clear hs; intro a hs
  rw [dget_kv, getK_perm hp ((dKeys_perm hp).2 hk)] at hs
  repeat (first | (refine sxv hs hw ?_; clear hs; intro a hs) | refine sxc hs ?_ | (refine sxa hs hw ?_; clear hs hw; intro a b W hw hs) | (refine sxs hs hw ?_; clear hs hw; intro W hs hw))
  refine st_call hs (hc := Kind_any (getK d k) _) (k := ?_); rintro e0 W1 ⟨rfl, hb⟩; refine ⟨_, rfl, ?_⟩; clear hs; intro a hs; replace hw := hw.below hb; clear hb
  repeat (first | (refine sxv hs hw ?_; clear hs; intro a hs) | refine sxc hs ?_ | (refine sxa hs hw ?_; clear hs hw; intro a b W hw hs) | (refine sxs hs hw ?_; clear hs hw; intro W hs hw))
  rw [kind_some] at hs
  exact rt1 hs rfl rfl ⟨rfl, docShut hw hp hk⟩
def setR (d : Dm) (k : ByteArray) (x : Option DV) : Int × Dm :=
  match x with
  | none => (0, delD d k)
  | some v => if (getK d k).isSome = false ∧ 50 ≤ d.length then (6, d) else (0, setD d k v)
set_option maxHeartbeats 8000000 in
theorem doc_set (w0 W : World) (p : Nat) (d : Dm) (k : ByteArray) (x : Option DV) (R : List Res) (hw : Has 0 w0 W (DocAt p d :: R)) :
    Calls Tryz.prog 110 ⟨[.pointer (some ⟨p, 0, none⟩), .string k, .agg ⟨[vCell x]⟩]⟩ W fun e W' => e = .returned (.int .i64 (setR d k x).1) ∧ Has 0 w0 W' (DocAt p (setR d k x).2 :: R) := by
  refine enter Tryz.func110 Tryz.ntmps110 rfl rfl fun a hs => ?_
  repeat (first | (refine sxv hs hw ?_; clear hs; intro a hs) | refine sxc hs ?_ | (refine sxa hs hw ?_; clear hs hw; intro a b W hw hs) | (refine sxs hs hw ?_; clear hs hw; intro W hs hw))
  refine st_call hs (hc := Kind_any x _) (k := ?_); rintro e0 W1 ⟨rfl, hb⟩; refine ⟨_, rfl, ?_⟩; clear hs; intro a hs; replace hw := hw.below hb; clear hb
  repeat (first | (refine sxv hs hw ?_; clear hs; intro a hs) | refine sxc hs ?_ | (refine sxa hs hw ?_; clear hs hw; intro a b W hw hs) | (refine sxs hs hw ?_; clear hs hw; intro W hs hw))
  cases x with
  | none =>
    repeat (first | (refine sxv hs hw ?_; clear hs; intro a hs) | refine sxc hs ?_ | (refine sxa hs hw ?_; clear hs hw; intro a b W hw hs) | (refine sxs hs hw ?_; clear hs hw; intro W hs hw))
    have hw := hw.sub (List.Sublist.cons _ (List.Sublist.refl _))
    obtain ⟨m, d', hp, hk, hw⟩ := docOpen hw
    repeat (first | (refine sxv hs hw ?_; clear hs; intro a hs) | refine sxc hs ?_ | (refine sxa hs hw ?_; clear hs hw; intro a b W hw hs) | (refine sxs hs hw ?_; clear hs hw; intro W hs hw))
    refine st_delete hs (hw := hw) (c := ?_); clear hs hw; intro W hs hw
    rw [ddel_kv k ((dKeys_perm hp).2 hk)] at hw
    repeat (first | (refine sxv hs hw ?_; clear hs; intro a hs) | refine sxc hs ?_ | (refine sxa hs hw ?_; clear hs hw; intro a b W hw hs) | (refine sxs hs hw ?_; clear hs hw; intro W hs hw))
    exact rt1 hs rfl rfl ⟨rfl, docShut hw (delD_perm hp k) (delD_keys hk k)⟩
  | some v =>
    rw [show (kindOf (some v) == 0) = false from by rcases v with n | s <;> rfl] at hs
    obtain ⟨b5, q5⟩ := nm1 hw; subst q5
    have hw : Has 0 w0 _ (DocAt p d :: Cells b5 [vCell (some v)] 165 :: R) := hw.swap2
    obtain ⟨m, d2, hp, hk, hw⟩ := docOpen hw
    have hlen : d2.length = d.length := hp.length_eq
    have hlen' : (kvOf d2).length = d2.length := by simp [kvOf]
    obtain ⟨d3, h3, h4⟩ := dset_kv k v ((dKeys_perm hp).2 hk)
    refine cd_false hs (k := ?_)
    refine sq ?_
    refine merge (M := fun a W => ∃ m d2, d2.Perm d ∧ Slots a 35 [(0, .pointer (some ⟨p, 0, none⟩)), (1, .string k), (5, .pointer (some ⟨b5, 0, none⟩)), (22, .bool (!(getK d k).isSome && decide ((d.length : Int) ≥ 50)))] ∧ Has 0 w0 W (Cells p [.map (some m)] 141 :: MapOf m (kvOf d2) :: Cells b5 [vCell (some v)] 165 :: R)) ?_ ?_
    · clear h3 h4
      repeat (first | (refine sxv hs hw ?_; clear hs; intro a hs) | refine sxc hs ?_ | (refine sxa hs hw ?_; clear hs hw; intro a b W hw hs) | (refine sxs hs hw ?_; clear hs hw; intro W hs hw))
      refine st_call hs (hc := doc_has w0 _ p d k _ (docShut hw hp hk)) (k := ?_); rintro e0 W1 ⟨rfl, hw1⟩; refine ⟨_, rfl, ?_⟩; clear hs hw; intro a hs; have hw := hw1; clear hw1
      obtain ⟨m, d2, hp, hk, hw⟩ := docOpen hw
      have hlen : d2.length = d.length := hp.length_eq
      have hlen' : (kvOf d2).length = d2.length := by simp [kvOf]
      repeat (first | (refine sxv hs hw ?_; clear hs; intro a hs) | refine sxc hs ?_ | (refine sxa hs hw ?_; clear hs hw; intro a b W hw hs) | (refine sxs hs hw ?_; clear hs hw; intro W hs hw))
      cases hg : (getK d k).isSome with
      | true =>
        rw [hg] at hs
        repeat (first | (refine sxv hs hw ?_; clear hs; intro a hs) | refine sxc hs ?_ | (refine sxa hs hw ?_; clear hs hw; intro a b W hw hs) | (refine sxs hs hw ?_; clear hs hw; intro W hs hw))
        exact ⟨m, d2, hp, hs.of ⟨rfl, rfl, rfl, rfl, trivial⟩, hw⟩
      | false =>
        rw [hg] at hs
        repeat (first | (refine sxv hs hw ?_; clear hs; intro a hs) | refine sxc hs ?_ | (refine sxa hs hw ?_; clear hs hw; intro a b W hw hs) | (refine sxs hs hw ?_; clear hs hw; intro W hs hw))
        refine st_len_map hs (hw := hw) (c := ?_); clear hs; intro a hs
        rw [hlen', hlen] at hs
        repeat (first | (refine sxv hs hw ?_; clear hs; intro a hs) | refine sxc hs ?_ | (refine sxa hs hw ?_; clear hs hw; intro a b W hw hs) | (refine sxs hs hw ?_; clear hs hw; intro W hs hw))
        exact ⟨m, d2, hp, hs.of ⟨rfl, rfl, rfl, bool_eq (by simp), trivial⟩, hw⟩
    clear hs hw hp hlen hlen' h3 h4
    rintro a W ⟨m, d2, hp, hs, hw⟩
    obtain ⟨d3, h3, h4⟩ := dset_kv k v ((dKeys_perm hp).2 hk)
    cases hc : (!(getK d k).isSome && decide ((d.length : Int) ≥ 50)) with
    | true =>
      rw [hc] at hs
      have hR : setR d k (some v) = (6, d) := by
        simp only [Bool.and_eq_true, Bool.not_eq_true', decide_eq_true_eq] at hc
        unfold setR
        simp only
        rw [if_pos ⟨hc.1, by omega⟩]
      repeat (first | (refine sxv hs hw ?_; clear hs; intro a hs) | refine sxc hs ?_ | (refine sxa hs hw ?_; clear hs hw; intro a b W hw hs) | (refine sxs hs hw ?_; clear hs hw; intro W hs hw))
      have hw := docShut (hw.sub (List.Sublist.cons_cons _ (List.Sublist.cons_cons _ (List.Sublist.cons _ (List.Sublist.refl _))))) hp hk
      exact rt1 hs rfl rfl ⟨by rw [hR], by rw [hR]; exact hw⟩
    | false =>
    rw [hc] at hs
    have hR : setR d k (some v) = (0, setD d k v) := by
      unfold setR
      simp only
      rw [if_neg]
      rintro ⟨h1, h2⟩
      rw [h1] at hc
      simp at hc
      omega
    repeat (first | (refine sxv hs hw ?_; clear hs; intro a hs) | refine sxc hs ?_ | (refine sxa hs hw ?_; clear hs hw; intro a b W hw hs) | (refine sxs hs hw ?_; clear hs hw; intro W hs hw))
    refine rg_draw (V := [.pointer (some ⟨p, 0, none⟩), .pointer (some ⟨p, 0, none⟩), .pointer (some ⟨p, 0 + 0, none⟩), .map (some m), .string k, .agg ⟨[vCell (some v)]⟩, .bool true])
      (Rs := fun D => Cells p [.map (some m)] 141 :: (if D 6 then MapOf m (kvOf d3) else MapOf m (kvOf d2)) :: Cells b5 [vCell (some v)] 165 :: R) hs hw (ho := ⟨?_, ?_, ?_, ?_, ?_, ?_, ?c6_1, trivial⟩) (k := ?k_1)
    case c6_1 =>
      intro LD D a W hcl hi hp hs hw
      simp only [hi, Bool.false_eq_true, if_false] at hw
      refine st_update hs (hw := hw) (v := vOf v) (c := ?_); clear hs hw; intro W hs hw
      rw [h3] at hw
      repeat (first | (refine sxv hs hw ?_; clear hs; intro a hs) | refine sxc hs ?_ | (refine sxa hs hw ?_; clear hs hw; intro a b W hw hs) | (refine sxs hs hw ?_; clear hs hw; intro W hs hw))
      exact ⟨hs, hw⟩
    case k_1 =>
      clear hs hw
      intro a W hs hw
      replace hw : Has 0 w0 W (Cells p [.map (some m)] 141 :: MapOf m (kvOf d3) :: Cells b5 [vCell (some v)] 165 :: R) := hw
      repeat (first | (refine sxv hs hw ?_; clear hs; intro a hs) | refine sxc hs ?_ | (refine sxa hs hw ?_; clear hs hw; intro a b W hw hs) | (refine sxs hs hw ?_; clear hs hw; intro W hs hw))
      have hw := docShut (hw.sub (List.Sublist.cons_cons _ (List.Sublist.cons_cons _ (List.Sublist.cons _ (List.Sublist.refl _))))) (h4.trans (setD_perm hp k v)) (setD_keys hk k v)
      exact rt1 hs rfl rfl ⟨by rw [hR], by rw [hR]; exact hw⟩
    all_goals
      intro LD D a W hcl hi hp hs hw
      repeat (first | (refine sxv hs hw ?_; clear hs; intro a hs) | refine sxc hs ?_ | (refine sxa hs hw ?_; clear hs hw; intro a b W hw hs) | (refine sxs hs hw ?_; clear hs hw; intro W hs hw))
      exact ⟨hs, hw⟩
end Go.Proofs.YtmalklakaalaoaaGreatDoor.Sw

set_option linter.unusedVariables false
set_option maxRecDepth 10000
namespace Go.Proofs.YtmalklakaalaoaaGreatDoor.Sw
open Go.RowKit Go.Sx
def inB (n : Int) : Bool := decide (n ≥ -4611686018427387904) && decide (n ≤ 4611686018427387904)
set_option maxHeartbeats 4000000 in
theorem doc_in (n : Int) (W : World) : Calls Tryz.prog 109 ⟨[.int .i64 n]⟩ W fun e W' => e = .returned (.bool (inB n)) ∧ Below W.heap.size W W' := by
  have hw := Has.start (G := 0) (w := W) (Nat.zero_le _)
  refine enter Tryz.func109 Tryz.ntmps109 rfl rfl fun a hs => ?_
  repeat (first | (refine sxv hs hw ?_; clear hs; intro a hs) | refine sxc hs ?_ | (refine sxa hs hw ?_; clear hs hw; intro a b W hw hs) | (refine sxs hs hw ?_; clear hs hw; intro W hs hw))
  cases h : decide (n ≥ -4611686018427387904) with
  | true =>
    rw [h] at hs
    repeat (first | (refine sxv hs hw ?_; clear hs; intro a hs) | refine sxc hs ?_ | (refine sxa hs hw ?_; clear hs hw; intro a b W hw hs) | (refine sxs hs hw ?_; clear hs hw; intro W hs hw))
    exact rt1 hs rfl rfl ⟨by simp only [inB, h]; rfl, hw.end (by repeat (first | exact In.hd | apply In.tl))⟩
  | false =>
    rw [h] at hs
    repeat (first | (refine sxv hs hw ?_; clear hs; intro a hs) | refine sxc hs ?_ | (refine sxa hs hw ?_; clear hs hw; intro a b W hw hs) | (refine sxs hs hw ?_; clear hs hw; intro W hs hw))
    exact rt1 hs rfl rfl ⟨by simp only [inB, h]; rfl, hw.end (by repeat (first | exact In.hd | apply In.tl))⟩
def doOp (d : Dm) (o : OpD) : Int × Dm :=
  if o.kind = 3 then (if eqV (getK d o.key) (ofRaw o.ok o.on o.os).1 then setR d o.key (ofRaw o.vk o.vn o.vs).1 else (8, d))
  else if o.kind = 4 then
    if (kindOf (getK d o.key) != 0 && !isInt (getK d o.key)) = true then (7, d)
    else if (!inB (intIn (getK d o.key)) || !inB (IntKind.i64.wrap (intIn (getK d o.key) + o.n))) = true then (4, d)
    else setR d o.key (some (.inl (IntKind.i64.wrap (intIn (getK d o.key) + o.n))))
  else setR d o.key (ofRaw o.vk o.vn o.vs).1
set_option maxHeartbeats 16000000 in
theorem doc_do (w0 W : World) (H : Fh) (p : Nat) (d : Dm) (o : OpD) (R : List Res) (ho : OpOk o) (i : In (Fz H) R) (hH : (fr w0).le H) (hT : Tabs w0) (hw : Has 0 w0 W (DocAt p d :: R)) :
    Calls Tryz.prog 79 ⟨[.pointer (some ⟨p, 0, none⟩), .agg ⟨opCells o⟩]⟩ W fun e W' => e = .returned (.int .i64 (doOp d o).1) ∧ Has 0 w0 W' (DocAt p (doOp d o).2 :: R) := by
  obtain ⟨kind, key, vk, vn, vs, ok, on, os, n⟩ := o
  have hvs := ho.vs
  have hos := ho.os
  simp only at hvs hos
  refine enter Tryz.func79 Tryz.ntmps79 rfl rfl fun a hs => ?_
  repeat (first | (refine sxv hs hw ?_; clear hs; intro a hs) | refine sxc hs ?_ | (refine sxa hs hw ?_; clear hs hw; intro a b W hw hs) | (refine sxs hs hw ?_; clear hs hw; intro W hs hw))
  refine st_call hs (hc := value_Of vk vn vs _ (by omega) (hT.keep (hw.endF (by repeat (first | exact i | apply In.tl)) hH))) (k := ?_); rintro e0 W1 ⟨rfl, hb⟩; refine ⟨_, rfl, ?_⟩; clear hs; intro a hs; replace hw := hw.below hb; clear hb
  repeat (first | (refine sxv hs hw ?_; clear hs; intro a hs) | refine sxc hs ?_ | (refine sxa hs hw ?_; clear hs hw; intro a b W hw hs) | (refine sxs hs hw ?_; clear hs hw; intro W hs hw))
  refine st_store hs (hw := hw) (h1 := one_cellX (ofRaw vk vn vs).1) (k := ?_); clear hs hw; intro W hs hw
  repeat (first | (refine sxv hs hw ?_; clear hs; intro a hs) | refine sxc hs ?_ | (refine sxa hs hw ?_; clear hs hw; intro a b W hw hs) | (refine sxs hs hw ?_; clear hs hw; intro W hs hw))
  obtain ⟨bv, q1⟩ := nm1 hw; subst q1
  obtain ⟨bo, q2⟩ := nm2 hw; subst q2
  obtain ⟨m, d2, hp, hk, hw⟩ := docOpen (hw.perm ((List.Perm.cons _ (List.Perm.swap _ _ _)).trans (List.Perm.swap _ _ _)))
  have hw : Has 0 w0 _ (Free :: Cells p [.map (some m)] 141 :: MapOf m (kvOf d2) :: Cells bv [vCell (ofRaw vk vn vs).1] 165 :: Cells bo [.int .i64 kind, .string key, .int .i64 vk, .int .i64 vn, .string vs, .int .i64 ok, .int .i64 on, .string os, .int .i64 n] 95 :: R) := hw.free
  have hlk := dget_kv d2 key
  rw [getK_perm hp ((dKeys_perm hp).2 hk)] at hlk
  obtain ⟨now, hnow⟩ : ∃ now, getK d key = now := ⟨_, rfl⟩
  rw [hnow] at hlk
  have hX : doOp d ⟨kind, key, vk, vn, vs, ok, on, os, n⟩ = (if kind = 3 then (if eqV now (ofRaw ok on os).1 then setR d key (ofRaw vk vn vs).1 else (8, d))
      else if kind = 4 then
        if (kindOf now != 0 && !isInt now) = true then (7, d)
        else if (!inB (intIn now) || !inB (IntKind.i64.wrap (intIn now + n))) = true then (4, d)
        else setR d key (some (.inl (IntKind.i64.wrap (intIn now + n))))
      else setR d key (ofRaw vk vn vs).1) := by unfold doOp; simp only; rw [hnow]
  rw [hX]
  clear hX
  obtain ⟨X, hXX⟩ : ∃ X, (ofRaw vk vn vs).1 = X := ⟨_, rfl⟩
  rw [hXX] at hs hw ⊢
  refine rg_drawU (σ := Nat) (V := fun u => [.pointer (some ⟨p, 0, none⟩), .pointer (some ⟨p, 0, none⟩), .pointer (some ⟨p, 0 + 0, none⟩), .map (some m), .pointer (some ⟨bo, 0 + 1, none⟩), .string key, .agg ⟨[vCell now]⟩, .pointer (some ⟨u 7, 0, none⟩), .bool true])
    (Rs := fun u D => (if D 7 then Cells (u 7) (if D 8 then [vCell now] else [.nilIface]) 165 else Free) :: Cells p [.map (some m)] 141 :: MapOf m (kvOf d2) :: Cells bv [vCell X] 165 :: Cells bo [.int .i64 kind, .string key, .int .i64 vk, .int .i64 vn, .string vs, .int .i64 ok, .int .i64 on, .string os, .int .i64 n] 95 :: R) (fun _ => 0) hs hw (hVu := ?vu_1) (ho := ⟨?_, ?_, ?_, ?_, ?_, ?_, ?c6_1, ?c7_1, ?c8_1, trivial⟩) (k := ?k_1)
  case vu_1 =>
    intro u u' j h
    rcases j with _ | _ | _ | _ | _ | _ | _ | _ | _ | j
    all_goals first | rfl | simp [h]
  case c6_1 =>
    intro u LD D a W hcl hi hp hs hw
    refine st_lookup hs (hw := hw) (hz := zeroVal) (c := ?_); clear hs; intro a hs
    rw [hlk] at hs
    repeat (first | (refine sxv hs hw ?_; clear hs; intro a hs) | refine sxc hs ?_ | (refine sxa hs hw ?_; clear hs hw; intro a b W hw hs) | (refine sxs hs hw ?_; clear hs hw; intro W hs hw))
    exact Or.inl ⟨hs, hw⟩
  case c7_1 =>
    intro u LD D a W hcl hi hp hs hw
    have h8 := Go.Sx.not_done hcl hi 8 (by kernel_rfl)
    simp only [hi, Bool.false_eq_true, if_false] at hw
    repeat (first | (refine sxv hs hw ?_; clear hs; intro a hs) | refine sxc hs ?_ | (refine sxa hs hw ?_; clear hs hw; intro a b W hw hs) | (refine sxs hs hw ?_; clear hs hw; intro W hs hw))
    refine Or.inr ⟨_, hs, ?_⟩
    show Has 0 w0 _ (Cells _ (if (Nat.beq 8 7 || D 8) = true then _ else _) _ :: _)
    rw [h8]
    exact hw.fill Upd.hd
  case c8_1 =>
    intro u LD D a W hcl hi hp hs hw
    have h7 := Go.Sx.done hp 7 (by kernel_rfl)
    simp only [hi, h7, Bool.false_eq_true, if_false, if_true] at hw
    refine st_store hs (hw := hw) (h1 := one_cellX now) (k := ?_); clear hs hw; intro W hs hw
    repeat (first | (refine sxv hs hw ?_; clear hs; intro a hs) | refine sxc hs ?_ | (refine sxa hs hw ?_; clear hs hw; intro a b W hw hs) | (refine sxs hs hw ?_; clear hs hw; intro W hs hw))
    refine Or.inl ⟨hs, ?_⟩
    show Has 0 w0 _ ((if (Nat.beq 7 8 || D 7) = true then _ else _) :: _)
    rw [h7]
    exact hw
  case k_1 =>
    clear hs hw
    intro u a W hs hw
    replace hw : Has 0 w0 W (Cells (u 7) [vCell now] 165 :: Cells p [.map (some m)] 141 :: MapOf m (kvOf d2) :: Cells bv [vCell X] 165 :: Cells bo [.int .i64 kind, .string key, .int .i64 vk, .int .i64 vn, .string vs, .int .i64 ok, .int .i64 on, .string os, .int .i64 n] 95 :: R) := hw
    replace hs : Slots a 80 [(0, .pointer (some ⟨p, 0, none⟩)), (3, .pointer (some ⟨bo, 0, none⟩)), (5, .pointer (some ⟨bv, 0, none⟩)), (7, .pointer (some ⟨u 7, 0, none⟩))] := hs.of ⟨rfl, rfl, rfl, rfl, trivial⟩
    generalize u 7 = b7 at *
    clear u
    replace hw := docShut (hw.perm ((List.Perm.swap _ _ _).trans (List.Perm.cons _ (List.Perm.swap _ _ _)))) hp hk
    clear hp hlk
    repeat (first | (refine sxv hs hw ?_; clear hs; intro a hs) | refine sxc hs ?_ | (refine sxa hs hw ?_; clear hs hw; intro a b W hw hs) | (refine sxs hs hw ?_; clear hs hw; intro W hs hw))
    by_cases k3 : kind = 3
    · subst k3
      rw [if_pos rfl]
      repeat (first | (refine sxv hs hw ?_; clear hs; intro a hs) | refine sxc hs ?_ | (refine sxa hs hw ?_; clear hs hw; intro a b W hw hs) | (refine sxs hs hw ?_; clear hs hw; intro W hs hw))
      refine st_call hs (hc := value_Of ok on os _ (by omega) (hT.keep (hw.endF (by repeat (first | exact i | apply In.tl)) hH))) (k := ?_); rintro e0 W1 ⟨rfl, hb⟩; refine ⟨_, rfl, ?_⟩; clear hs; intro a hs; replace hw := hw.below hb; clear hb
      repeat (first | (refine sxv hs hw ?_; clear hs; intro a hs) | refine sxc hs ?_ | (refine sxa hs hw ?_; clear hs hw; intro a b W hw hs) | (refine sxs hs hw ?_; clear hs hw; intro W hs hw))
      refine st_store hs (hw := hw) (h1 := one_cellX (ofRaw ok on os).1) (k := ?_); clear hs hw; intro W hs hw
      repeat (first | (refine sxv hs hw ?_; clear hs; intro a hs) | refine sxc hs ?_ | (refine sxa hs hw ?_; clear hs hw; intro a b W hw hs) | (refine sxs hs hw ?_; clear hs hw; intro W hs hw))
      refine st_call hs (hc := value_Eq now (ofRaw ok on os).1 _) (k := ?_); rintro e0 W1 ⟨rfl, hb⟩; refine ⟨_, rfl, ?_⟩; clear hs; intro a hs; replace hw := hw.below hb; clear hb
      repeat (first | (refine sxv hs hw ?_; clear hs; intro a hs) | refine sxc hs ?_ | (refine sxa hs hw ?_; clear hs hw; intro a b W hw hs) | (refine sxs hs hw ?_; clear hs hw; intro W hs hw))
      cases he : eqV now (ofRaw ok on os).1 with
      | false =>
        rw [he] at hs
        repeat (first | (refine sxv hs hw ?_; clear hs; intro a hs) | refine sxc hs ?_ | (refine sxa hs hw ?_; clear hs hw; intro a b W hw hs) | (refine sxs hs hw ?_; clear hs hw; intro W hs hw))
        refine rt1 hs rfl rfl ⟨rfl, ?_⟩
        exact hw.sub (L' := DocAt p d :: R) (List.Sublist.cons _ (List.Sublist.cons_cons _ (List.Sublist.cons _ (List.Sublist.cons _ (List.Sublist.cons _ (List.Sublist.refl _))))))
      | true =>
        rw [he] at hs
        repeat (first | (refine sxv hs hw ?_; clear hs; intro a hs) | refine sxc hs ?_ | (refine sxa hs hw ?_; clear hs hw; intro a b W hw hs) | (refine sxs hs hw ?_; clear hs hw; intro W hs hw))
        refine st_call hs (hc := doc_set w0 _ p d key X _ hw.swap2) (k := ?_); rintro e0 W1 ⟨rfl, hw1⟩; refine ⟨_, rfl, ?_⟩; clear hs hw; intro a hs; have hw := hw1; clear hw1
        repeat (first | (refine sxv hs hw ?_; clear hs; intro a hs) | refine sxc hs ?_ | (refine sxa hs hw ?_; clear hs hw; intro a b W hw hs) | (refine sxs hs hw ?_; clear hs hw; intro W hs hw))
        refine rt1 hs rfl rfl ⟨rfl, ?_⟩
        exact hw.sub (List.Sublist.cons_cons _ (List.Sublist.cons _ (List.Sublist.cons _ (List.Sublist.cons _ (List.Sublist.cons _ (List.Sublist.refl _))))))
    have e3 : (kind == 3) = false := by simpa using k3
    rw [e3] at hs
    rw [if_neg k3]
    repeat (first | (refine sxv hs hw ?_; clear hs; intro a hs) | refine sxc hs ?_ | (refine sxa hs hw ?_; clear hs hw; intro a b W hw hs) | (refine sxs hs hw ?_; clear hs hw; intro W hs hw))
    by_cases k4 : kind = 4
    · subst k4
      rw [if_pos rfl]
      rcases now with _ | g | s
      · have hK := fun W => Kind_any (none : Option DV) W
        have hA := fun W => AsInt_any (none : Option DV) W
        rw [show kindOf (none : Option DV) = 0 from rfl] at hK ⊢
        rw [show intIn (none : Option DV) = 0 from rfl] at hA ⊢
        rw [show isInt (none : Option DV) = false from rfl] at hA ⊢
        rw [if_neg (by decide)]
        repeat (first | (refine sxv hs hw ?_; clear hs; intro a hs) | refine sxc hs ?_ | (refine sxa hs hw ?_; clear hs hw; intro a b W hw hs) | (refine sxs hs hw ?_; clear hs hw; intro W hs hw))
        refine st_call hs (hc := hA _) (k := ?_); rintro e0 W1 ⟨rfl, hb⟩; refine ⟨_, rfl, ?_⟩; clear hs; intro a hs; replace hw := hw.below hb; clear hb
        repeat (first | (refine sxv hs hw ?_; clear hs; intro a hs) | refine sxc hs ?_ | (refine sxa hs hw ?_; clear hs hw; intro a b W hw hs) | (refine sxs hs hw ?_; clear hs hw; intro W hs hw))
        refine st_call hs (hc := hK _) (k := ?_); rintro e0 W1 ⟨rfl, hb⟩; refine ⟨_, rfl, ?_⟩; clear hs; intro a hs; replace hw := hw.below hb; clear hb
        repeat (first | (refine sxv hs hw ?_; clear hs; intro a hs) | refine sxc hs ?_ | (refine sxa hs hw ?_; clear hs hw; intro a b W hw hs) | (refine sxs hs hw ?_; clear hs hw; intro W hs hw))
        refine st_call hs (hc := doc_in 0 _) (k := ?_); rintro e0 W1 ⟨rfl, hb⟩; refine ⟨_, rfl, ?_⟩; clear hs; intro a hs; replace hw := hw.below hb; clear hb
        repeat (first | (refine sxv hs hw ?_; clear hs; intro a hs) | refine sxc hs ?_ | (refine sxa hs hw ?_; clear hs hw; intro a b W hw hs) | (refine sxs hs hw ?_; clear hs hw; intro W hs hw))
        rw [show inB 0 = true from rfl] at hs ⊢
        refine st_call hs (hc := doc_in (IntKind.i64.wrap (0 + n)) _) (k := ?_); rintro e0 W1 ⟨rfl, hb⟩; refine ⟨_, rfl, ?_⟩; clear hs; intro a hs; replace hw := hw.below hb; clear hb
        repeat (first | (refine sxv hs hw ?_; clear hs; intro a hs) | refine sxc hs ?_ | (refine sxa hs hw ?_; clear hs hw; intro a b W hw hs) | (refine sxs hs hw ?_; clear hs hw; intro W hs hw))
        cases g2 : inB (IntKind.i64.wrap (0 + n)) with
        | false =>
          rw [g2] at hs
          repeat (first | (refine sxv hs hw ?_; clear hs; intro a hs) | refine sxc hs ?_ | (refine sxa hs hw ?_; clear hs hw; intro a b W hw hs) | (refine sxs hs hw ?_; clear hs hw; intro W hs hw))
          rw [if_pos (by rfl)]
          exact rt1 hs rfl rfl ⟨rfl, hw.sub (List.Sublist.cons_cons _ (List.Sublist.cons _ (List.Sublist.cons _ (List.Sublist.cons _ (List.Sublist.refl _)))))⟩
        | true =>
        rw [g2] at hs
        repeat (first | (refine sxv hs hw ?_; clear hs; intro a hs) | refine sxc hs ?_ | (refine sxa hs hw ?_; clear hs hw; intro a b W hw hs) | (refine sxs hs hw ?_; clear hs hw; intro W hs hw))
        rw [if_neg (by decide)]
        have hV := fun W hT => value_Of 1 (IntKind.i64.wrap (0 + n)) ⟨#[]⟩ W (by decide) hT
        rw [show ofRaw 1 (IntKind.i64.wrap (0 + n)) ⟨#[]⟩ = (some (.inl (IntKind.i64.wrap (0 + n))), 0) from rfl] at hV
        refine st_call hs (hc := hV _ (hT.keep (hw.endF (by repeat (first | exact i | apply In.tl)) hH))) (k := ?_); rintro e0 W1 ⟨rfl, hb⟩; refine ⟨_, rfl, ?_⟩; clear hs; intro a hs; replace hw := hw.below hb; clear hb
        repeat (first | (refine sxv hs hw ?_; clear hs; intro a hs) | refine sxc hs ?_ | (refine sxa hs hw ?_; clear hs hw; intro a b W hw hs) | (refine sxs hs hw ?_; clear hs hw; intro W hs hw))
        refine st_call hs (hc := doc_set w0 _ p d key (some (.inl (IntKind.i64.wrap (0 + n)))) _ hw) (k := ?_); rintro e0 W1 ⟨rfl, hw1⟩; refine ⟨_, rfl, ?_⟩; clear hs hw; intro a hs; have hw := hw1; clear hw1
        repeat (first | (refine sxv hs hw ?_; clear hs; intro a hs) | refine sxc hs ?_ | (refine sxa hs hw ?_; clear hs hw; intro a b W hw hs) | (refine sxs hs hw ?_; clear hs hw; intro W hs hw))
        refine rt1 hs rfl rfl ⟨rfl, ?_⟩
        exact hw.sub (List.Sublist.cons_cons _ (List.Sublist.cons _ (List.Sublist.cons _ (List.Sublist.cons _ (List.Sublist.refl _)))))
      · have hK := fun W => Kind_any (some (Sum.inl g) : Option DV) W
        have hA := fun W => AsInt_any (some (Sum.inl g) : Option DV) W
        rw [show kindOf (some (Sum.inl g) : Option DV) = 1 from rfl] at hK ⊢
        rw [show intIn (some (Sum.inl g) : Option DV) = g from rfl] at hA ⊢
        rw [show isInt (some (Sum.inl g) : Option DV) = true from rfl] at hA ⊢
        rw [if_neg (by decide)]
        repeat (first | (refine sxv hs hw ?_; clear hs; intro a hs) | refine sxc hs ?_ | (refine sxa hs hw ?_; clear hs hw; intro a b W hw hs) | (refine sxs hs hw ?_; clear hs hw; intro W hs hw))
        refine st_call hs (hc := hA _) (k := ?_); rintro e0 W1 ⟨rfl, hb⟩; refine ⟨_, rfl, ?_⟩; clear hs; intro a hs; replace hw := hw.below hb; clear hb
        repeat (first | (refine sxv hs hw ?_; clear hs; intro a hs) | refine sxc hs ?_ | (refine sxa hs hw ?_; clear hs hw; intro a b W hw hs) | (refine sxs hs hw ?_; clear hs hw; intro W hs hw))
        refine st_call hs (hc := hK _) (k := ?_); rintro e0 W1 ⟨rfl, hb⟩; refine ⟨_, rfl, ?_⟩; clear hs; intro a hs; replace hw := hw.below hb; clear hb
        repeat (first | (refine sxv hs hw ?_; clear hs; intro a hs) | refine sxc hs ?_ | (refine sxa hs hw ?_; clear hs hw; intro a b W hw hs) | (refine sxs hs hw ?_; clear hs hw; intro W hs hw))
        refine st_call hs (hc := doc_in g _) (k := ?_); rintro e0 W1 ⟨rfl, hb⟩; refine ⟨_, rfl, ?_⟩; clear hs; intro a hs; replace hw := hw.below hb; clear hb
        repeat (first | (refine sxv hs hw ?_; clear hs; intro a hs) | refine sxc hs ?_ | (refine sxa hs hw ?_; clear hs hw; intro a b W hw hs) | (refine sxs hs hw ?_; clear hs hw; intro W hs hw))
        cases g1 : inB g with
        | false =>
          rw [g1] at hs
          repeat (first | (refine sxv hs hw ?_; clear hs; intro a hs) | refine sxc hs ?_ | (refine sxa hs hw ?_; clear hs hw; intro a b W hw hs) | (refine sxs hs hw ?_; clear hs hw; intro W hs hw))
          rw [if_pos (by rfl)]
          exact rt1 hs rfl rfl ⟨rfl, hw.sub (List.Sublist.cons_cons _ (List.Sublist.cons _ (List.Sublist.cons _ (List.Sublist.cons _ (List.Sublist.refl _)))))⟩
        | true =>
        rw [g1] at hs
        repeat (first | (refine sxv hs hw ?_; clear hs; intro a hs) | refine sxc hs ?_ | (refine sxa hs hw ?_; clear hs hw; intro a b W hw hs) | (refine sxs hs hw ?_; clear hs hw; intro W hs hw))
        refine st_call hs (hc := doc_in (IntKind.i64.wrap (g + n)) _) (k := ?_); rintro e0 W1 ⟨rfl, hb⟩; refine ⟨_, rfl, ?_⟩; clear hs; intro a hs; replace hw := hw.below hb; clear hb
        repeat (first | (refine sxv hs hw ?_; clear hs; intro a hs) | refine sxc hs ?_ | (refine sxa hs hw ?_; clear hs hw; intro a b W hw hs) | (refine sxs hs hw ?_; clear hs hw; intro W hs hw))
        cases g2 : inB (IntKind.i64.wrap (g + n)) with
        | false =>
          rw [g2] at hs
          repeat (first | (refine sxv hs hw ?_; clear hs; intro a hs) | refine sxc hs ?_ | (refine sxa hs hw ?_; clear hs hw; intro a b W hw hs) | (refine sxs hs hw ?_; clear hs hw; intro W hs hw))
          rw [if_pos (by rfl)]
          exact rt1 hs rfl rfl ⟨rfl, hw.sub (List.Sublist.cons_cons _ (List.Sublist.cons _ (List.Sublist.cons _ (List.Sublist.cons _ (List.Sublist.refl _)))))⟩
        | true =>
        rw [g2] at hs
        repeat (first | (refine sxv hs hw ?_; clear hs; intro a hs) | refine sxc hs ?_ | (refine sxa hs hw ?_; clear hs hw; intro a b W hw hs) | (refine sxs hs hw ?_; clear hs hw; intro W hs hw))
        rw [if_neg (by decide)]
        have hV := fun W hT => value_Of 1 (IntKind.i64.wrap (g + n)) ⟨#[]⟩ W (by decide) hT
        rw [show ofRaw 1 (IntKind.i64.wrap (g + n)) ⟨#[]⟩ = (some (.inl (IntKind.i64.wrap (g + n))), 0) from rfl] at hV
        refine st_call hs (hc := hV _ (hT.keep (hw.endF (by repeat (first | exact i | apply In.tl)) hH))) (k := ?_); rintro e0 W1 ⟨rfl, hb⟩; refine ⟨_, rfl, ?_⟩; clear hs; intro a hs; replace hw := hw.below hb; clear hb
        repeat (first | (refine sxv hs hw ?_; clear hs; intro a hs) | refine sxc hs ?_ | (refine sxa hs hw ?_; clear hs hw; intro a b W hw hs) | (refine sxs hs hw ?_; clear hs hw; intro W hs hw))
        refine st_call hs (hc := doc_set w0 _ p d key (some (.inl (IntKind.i64.wrap (g + n)))) _ hw) (k := ?_); rintro e0 W1 ⟨rfl, hw1⟩; refine ⟨_, rfl, ?_⟩; clear hs hw; intro a hs; have hw := hw1; clear hw1
        repeat (first | (refine sxv hs hw ?_; clear hs; intro a hs) | refine sxc hs ?_ | (refine sxa hs hw ?_; clear hs hw; intro a b W hw hs) | (refine sxs hs hw ?_; clear hs hw; intro W hs hw))
        refine rt1 hs rfl rfl ⟨rfl, ?_⟩
        exact hw.sub (List.Sublist.cons_cons _ (List.Sublist.cons _ (List.Sublist.cons _ (List.Sublist.cons _ (List.Sublist.refl _)))))
      · have hK := fun W => Kind_any (some (Sum.inr s) : Option DV) W
        have hA := fun W => AsInt_any (some (Sum.inr s) : Option DV) W
        rw [show kindOf (some (Sum.inr s) : Option DV) = 2 from rfl] at hK ⊢
        rw [show isInt (some (Sum.inr s) : Option DV) = false from rfl] at hA ⊢
        rw [if_pos (by decide)]
        repeat (first | (refine sxv hs hw ?_; clear hs; intro a hs) | refine sxc hs ?_ | (refine sxa hs hw ?_; clear hs hw; intro a b W hw hs) | (refine sxs hs hw ?_; clear hs hw; intro W hs hw))
        refine st_call hs (hc := hA _) (k := ?_); rintro e0 W1 ⟨rfl, hb⟩; refine ⟨_, rfl, ?_⟩; clear hs; intro a hs; replace hw := hw.below hb; clear hb
        repeat (first | (refine sxv hs hw ?_; clear hs; intro a hs) | refine sxc hs ?_ | (refine sxa hs hw ?_; clear hs hw; intro a b W hw hs) | (refine sxs hs hw ?_; clear hs hw; intro W hs hw))
        refine st_call hs (hc := hK _) (k := ?_); rintro e0 W1 ⟨rfl, hb⟩; refine ⟨_, rfl, ?_⟩; clear hs; intro a hs; replace hw := hw.below hb; clear hb
        repeat (first | (refine sxv hs hw ?_; clear hs; intro a hs) | refine sxc hs ?_ | (refine sxa hs hw ?_; clear hs hw; intro a b W hw hs) | (refine sxs hs hw ?_; clear hs hw; intro W hs hw))
        exact rt1 hs rfl rfl ⟨rfl, hw.sub (List.Sublist.cons_cons _ (List.Sublist.cons _ (List.Sublist.cons _ (List.Sublist.cons _ (List.Sublist.refl _)))))⟩
    have e4 : (kind == 4) = false := by simpa using k4
    rw [e4] at hs
    rw [if_neg k4]
    repeat (first | (refine sxv hs hw ?_; clear hs; intro a hs) | refine sxc hs ?_ | (refine sxa hs hw ?_; clear hs hw; intro a b W hw hs) | (refine sxs hs hw ?_; clear hs hw; intro W hs hw))
    refine st_call hs (hc := doc_set w0 _ p d key X _ hw) (k := ?_); rintro e0 W1 ⟨rfl, hw1⟩; refine ⟨_, rfl, ?_⟩; clear hs hw; intro a hs; have hw := hw1; clear hw1
    repeat (first | (refine sxv hs hw ?_; clear hs; intro a hs) | refine sxc hs ?_ | (refine sxa hs hw ?_; clear hs hw; intro a b W hw hs) | (refine sxs hs hw ?_; clear hs hw; intro W hs hw))
    refine rt1 hs rfl rfl ⟨rfl, ?_⟩
    exact hw.sub (List.Sublist.cons_cons _ (List.Sublist.cons _ (List.Sublist.cons _ (List.Sublist.cons _ (List.Sublist.refl _)))))
  all_goals
    intro u LD D a W hcl hi hp hs hw
    repeat (first | (refine sxv hs hw ?_; clear hs; intro a hs) | refine sxc hs ?_ | (refine sxa hs hw ?_; clear hs hw; intro a b W hw hs) | (refine sxs hs hw ?_; clear hs hw; intro W hs hw))
    exact Or.inl ⟨hs, hw⟩
end Go.Proofs.YtmalklakaalaoaaGreatDoor.Sw
