/-
  Texts of the proof, one behind the other (part 4).
-/
import Derived.Test.YtmalklakaalaoaaDoorM3
set_option linter.unusedVariables false
set_option maxRecDepth 10000
namespace Go.Sx
theorem Has.call {w0 W W' : World} {R : List Res} {r : Res} (h : Has 0 w0 W R) (k : Has 0 W W' (r :: Old W 0 :: [])) : Has 0 w0 W' (r :: R) := by
  have hb := k.end (In.tl In.hd)
  obtain ⟨F1, a1, a2, F2, b1, b2, _⟩ := k.has
  have h1 := h.below hb
  refine ⟨h1.ext, h1.glob, F1, a1, a2, ?_⟩
  exact (h.has.loc fun b hb' => hb.block b hb'.2).mono fun b hb' => ⟨⟨hb'.1, Nat.lt_of_lt_of_le hb'.2 hb.size⟩, fun hF => (b1 b ((b2 b (Nat.zero_le _) hb'.2).1)).2 hF⟩
theorem Has.swap2 {G : Nat} {w W : World} {r q : Res} {R : List Res} (h : Has G w W (r :: q :: R)) : Has G w W (q :: r :: R) := ⟨h.ext, h.glob, HasIn.swap h.has⟩
theorem Has.drop2 {G : Nat} {w W : World} {r q : Res} {R : List Res} (h : Has G w W (r :: q :: R)) : Has G w W (r :: R) := h.sub (List.Sublist.cons_cons _ (List.Sublist.cons _ (List.Sublist.refl _)))
theorem Has.own_slice {G : Nat} {w W : World} {E : TypeId} {size n : Nat} {v : Value} {xs : List Value} {R : List Res} (h : Has G w W (Own E size v n xs :: R)) : ∃ ad cap, v = .slice ad n cap := by
  obtain ⟨_, ad, cap, e, _⟩ := h.rd_own In.hd
  exact ⟨ad, cap, e⟩
end Go.Sx
namespace Go.Proofs.YtmalklakaalaoaaDoor.Sw
open Go.RowKit Go.Sx
-- pieces
structure OpD where
  kind : Int
  key : ByteArray
  vk : Int
  vn : Int
  vs : ByteArray
  ok : Int
  on : Int
  os : ByteArray
  n : Int
def opCells (o : OpD) : List Value := [.int .i64 o.kind, .string o.key, .int .i64 o.vk, .int .i64 o.vn, .string o.vs, .int .i64 o.ok, .int .i64 o.on, .string o.os, .int .i64 o.n]
def opB (o : OpD) : List UInt8 := Ph.putI o.kind ++ Ph.putT o.key.data.toList ++ (if o.kind = 3 then putR o.vk o.vn o.vs ++ putR o.ok o.on o.os else if o.kind = 1 then putR o.vk o.vn o.vs else if o.kind = 4 then Ph.putI o.n else [])
def headB (c q n : Int) : List UInt8 := Ph.putI c ++ Ph.putI q ++ Ph.putI n
def textB (c q : Int) (l : List OpD) : List UInt8 := headB c q l.length ++ l.flatMap opB
def i64 (n : Int) : Prop := -9223372036854775808 ≤ n ∧ n ≤ 9223372036854775807
structure OpOk (o : OpD) : Prop where
  kind : i64 o.kind
  vk : i64 o.vk
  vn : i64 o.vn
  ok : i64 o.ok
  on : i64 o.on
  n : i64 o.n
  key : o.key.size ≤ 1000000
  vs : o.vs.size ≤ 1000000
  os : o.os.size ≤ 1000000
theorem putT_le (s : ByteArray) : (Ph.putT s.data.toList).length ≤ 10 + s.size := by
  have hd : s.data.toList.length = s.size := by rw [Array.length_toList]; rfl
  unfold Ph.putT
  have := Ph.putI_length_le s.data.toList.length
  rw [List.length_append, hd]
  rw [hd] at this
  omega
theorem putR_le (k n : Int) (s : ByteArray) : (putR k n s).length ≤ 30 + s.size := by
  unfold putR
  have h1 := Ph.putI_length_le k
  have h2 := Ph.putI_length_le n
  have h3 := putT_le s
  rw [List.length_append]
  split
  · omega
  · split
    · omega
    · simp; omega
theorem opB_le {o : OpD} (h : OpOk o) : (opB o).length ≤ 3200000 := by
  have h1 := Ph.putI_length_le o.kind
  have h2 := putT_le o.key
  have h3 := putR_le o.vk o.vn o.vs
  have h4 := putR_le o.ok o.on o.os
  have h5 := Ph.putI_length_le o.n
  have := h.key; have := h.vs; have := h.os
  unfold opB
  rw [List.length_append, List.length_append]
  split
  · rw [List.length_append]; omega
  · split
    · omega
    · split
      · omega
      · simp; omega
theorem headB_le (c q n : Int) : (headB c q n).length ≤ 30 := by
  have h1 := Ph.putI_length_le c
  have h2 := Ph.putI_length_le q
  have h3 := Ph.putI_length_le n
  unfold headB
  rw [List.length_append, List.length_append]; omega
theorem ops_le {l : List OpD} (h : ∀ o ∈ l, OpOk o) : (l.flatMap opB).length ≤ 3200000 * l.length := by
  induction l with
  | nil => simp
  | cons o l ih =>
    have h1 := opB_le (h o (by simp))
    have h2 := ih fun x hx => h x (by simp [hx])
    rw [List.flatMap_cons, List.length_append, List.length_cons]; omega
def headAt (c q n : Int) : Nat → List UInt8
  | 0 => []
  | 1 => Ph.putI c
  | 2 => Ph.putI c ++ Ph.putI q
  | _ => headB c q n
theorem headAt_le (c q n : Int) (i : Nat) : (headAt c q n i).length ≤ 30 := by
  have h1 := Ph.putI_length_le c
  have h2 := Ph.putI_length_le q
  unfold headAt
  split
  · simp
  · omega
  · rw [List.length_append]; omega
  · exact headB_le c q n
theorem cut_ops : ∀ (l : List OpD) (i : Nat) (o : OpD), l[i]? = some o → ((l.flatMap opCells).drop (i * 9)).take 9 = opCells o
  | [], i, o, h => by simp at h
  | x :: l, 0, o, h => by
    simp only [List.getElem?_cons_zero, Option.some.injEq] at h
    subst h
    rw [List.flatMap_cons, Nat.zero_mul, List.drop_zero]
    exact List.take_left' rfl
  | x :: l, i + 1, o, h => by
    rw [List.getElem?_cons_succ] at h
    rw [List.flatMap_cons, show (i + 1) * 9 = (opCells x).length + i * 9 from by rw [Nat.add_mul]; show _ = 9 + _; omega, List.drop_append]
    rw [List.drop_of_length_le (by omega), List.nil_append, show (opCells x).length + i * 9 - (opCells x).length = i * 9 from by omega]
    exact cut_ops l i o h
section
variable {ops : Array Oper} {rest : List Oper} {Q : Exit → Act → World → Prop} {a : Act} {n : Nat} {L : List (Nat × Value)} {W : World} {d : Nat} {T : TypeId} {p : String} {e : Array Edge} {x y : Operand} {v : Value} {q : IntKind}
theorem st_index_op {l : List OpD} {i : Nat} {o : OpD} (hs : Slots a n L) (r : Rd W 9 v l.length (l.flatMap opCells)) (ho : l[i]? = some o) (hx : ev L x = some v := by with_unfolding_all exact rfl) (hy : ev L y = some (.int q (i : Int)) := by with_unfolding_all exact rfl) (hd : Nat.blt d n = true := by with_unfolding_all exact rfl)
    (c : ∀ a' b off, (∀ j u, (opCells o)[j]? = some u → W.cell? ⟨b, off + j, none⟩ = some u) → Slots a' n ((d, .pointer (some ⟨b, off, none⟩)) :: L) → wpList Tryd.prog ops Q rest a' W) : wpList Tryd.prog ops Q (⟨some d, .indexAddr 27 x y, T, p, e, none⟩ :: rest) a W := by
  have hi : i < l.length := (List.getElem?_eq_some_iff.1 ho).1
  refine st_indexAddr (z := opCells ⟨0, ⟨#[]⟩, 0, 0, ⟨#[]⟩, 0, 0, ⟨#[]⟩, 0⟩) hs hx hy r (by omega) (by omega) hd fun a' b off h1 h2 h3 => c a' b off (fun j u hu => h1 j u ?_) h3
  rw [cut_eq, Int.toNat_natCast]
  exact (congrArg (fun t => t[j]?) (cut_ops l i o ho)).trans hu
end
set_option maxHeartbeats 4000000 in
theorem op_text (c q : Int) (l : List OpD) (sv : Value) (w : World) (hc : i64 c) (hq : i64 q) (hl : l.length ≤ 100) (ho : ∀ o ∈ l, OpOk o) (r : Rd w 9 sv l.length (l.flatMap opCells)) :
    Calls Tryd.prog 44 ⟨[.agg ⟨[.int .i64 c, .int .i64 q, sv]⟩]⟩ w fun e w' => ∃ ad cap, e = .returned (.slice ad (textB c q l).length cap) ∧ Has 0 w w' (OwnB 5 (.slice ad (textB c q l).length cap) (textB c q l) :: Old w 0 :: []) := by
  have hw := Has.start (G := 0) (w := w) (Nat.zero_le _)
  obtain ⟨sad, scap, rfl⟩ : ∃ ad cap, sv = .slice ad l.length cap := by obtain ⟨_, ad, cap, e, _⟩ := r; exact ⟨ad, cap, e⟩
  refine enter Tryd.func44 Tryd.ntmps44 rfl rfl fun a hs => ?_
  repeat (first | (refine sxv hs hw ?_; clear hs; intro a hs) | refine sxc hs ?_ | (refine sxa hs hw ?_; clear hs hw; intro a b W hw hs) | (refine sxs hs hw ?_; clear hs hw; intro W hs hw))
  obtain ⟨b2, q2⟩ := nm1 hw; subst q2
  obtain ⟨b1, q1⟩ := nm2 hw; subst q1
  have hw := hw.nilB 5
  have hw : Has 0 w _ (Sx.OwnB 5 (.slice none 0 0) [] :: [Cells b2 [.int .i64 c, .int .i64 q, .int .i64 (l.length : Int)] 2, Cells b1 [.int .i64 c, .int .i64 q, .slice sad l.length scap] 29, Old w 0]) := hw
  refine st_loop (σ := Value × Nat) (fun s => [(1, .pointer (some ⟨b1, 0, none⟩)), (3, s.1), (15, .slice (some ⟨b2, 0, none⟩) 3 3), (16, .int .i64 3), (17, .int .i64 s.2)]) (fun s => OwnB 5 s.1 (headAt c q l.length s.2) :: [Cells b2 [.int .i64 c, .int .i64 q, .int .i64 (l.length : Int)] 2, Cells b1 [.int .i64 c, .int .i64 q, .slice sad l.length scap] 29, Old w 0]) (fun s => s.2 ≤ 3) (fun s => 3 - s.2) (.slice none 0 0, 0) (by decide) hs ⟨rfl, rfl, rfl, rfl, rfl, trivial⟩ hw ?_
  clear hs hw
  rintro ⟨v, i⟩ a W hi hs hw
  simp only at hi hs hw
  repeat (first | (refine sxv hs hw ?_; clear hs; intro a hs) | refine sxc hs ?_ | (refine sxa hs hw ?_; clear hs hw; intro a b W hw hs) | (refine sxs hs hw ?_; clear hs hw; intro W hs hw))
  obtain rfl | rfl | rfl | rfl : i = 0 ∨ i = 1 ∨ i = 2 ∨ i = 3 := by omega
  · repeat (first | (refine sxv hs hw ?_; clear hs; intro a hs) | refine sxc hs ?_ | (refine sxa hs hw ?_; clear hs hw; intro a b W hw hs) | (refine sxs hs hw ?_; clear hs hw; intro W hs hw))
    refine st_index_at hs (h0 := by decide) (h1 := by decide) (c := ?_); clear hs; intro a hs
    repeat (first | (refine sxv hs hw ?_; clear hs; intro a hs) | refine sxc hs ?_ | (refine sxa hs hw ?_; clear hs hw; intro a b W hw hs) | (refine sxs hs hw ?_; clear hs hw; intro W hs hw))
    refine st_call hs (hc := num_Put w _ _ (headAt c q l.length 0) c _ hc.1 hc.2 (by have := headAt_le c q l.length 0; omega) hw) (k := ?_); rintro e0 W1 ⟨ad, cap, rfl, hw1⟩; refine ⟨_, rfl, ?_⟩; clear hs hw; intro a hs; have hw := hw1; clear hw1
    repeat (first | (refine sxv hs hw ?_; clear hs; intro a hs) | refine sxc hs ?_ | (refine sxa hs hw ?_; clear hs hw; intro a b W hw hs) | (refine sxs hs hw ?_; clear hs hw; intro W hs hw))
    refine st_again (_, 1) hs hw (by show 1 ≤ 3; decide) (by show 3 - 1 < 3 - 0; decide) ⟨rfl, rfl, rfl, rfl, rfl, trivial⟩
  · repeat (first | (refine sxv hs hw ?_; clear hs; intro a hs) | refine sxc hs ?_ | (refine sxa hs hw ?_; clear hs hw; intro a b W hw hs) | (refine sxs hs hw ?_; clear hs hw; intro W hs hw))
    refine st_index_at hs (h0 := by decide) (h1 := by decide) (c := ?_); clear hs; intro a hs
    repeat (first | (refine sxv hs hw ?_; clear hs; intro a hs) | refine sxc hs ?_ | (refine sxa hs hw ?_; clear hs hw; intro a b W hw hs) | (refine sxs hs hw ?_; clear hs hw; intro W hs hw))
    refine st_call hs (hc := num_Put w _ _ (headAt c q l.length 1) q _ hq.1 hq.2 (by have := headAt_le c q l.length 1; omega) hw) (k := ?_); rintro e0 W1 ⟨ad, cap, rfl, hw1⟩; refine ⟨_, rfl, ?_⟩; clear hs hw; intro a hs; have hw := hw1; clear hw1
    repeat (first | (refine sxv hs hw ?_; clear hs; intro a hs) | refine sxc hs ?_ | (refine sxa hs hw ?_; clear hs hw; intro a b W hw hs) | (refine sxs hs hw ?_; clear hs hw; intro W hs hw))
    refine st_again (_, 2) hs hw (by show 2 ≤ 3; decide) (by show 3 - 2 < 3 - 1; decide) ⟨rfl, rfl, rfl, rfl, rfl, trivial⟩
  · repeat (first | (refine sxv hs hw ?_; clear hs; intro a hs) | refine sxc hs ?_ | (refine sxa hs hw ?_; clear hs hw; intro a b W hw hs) | (refine sxs hs hw ?_; clear hs hw; intro W hs hw))
    refine st_index_at hs (h0 := by decide) (h1 := by decide) (c := ?_); clear hs; intro a hs
    repeat (first | (refine sxv hs hw ?_; clear hs; intro a hs) | refine sxc hs ?_ | (refine sxa hs hw ?_; clear hs hw; intro a b W hw hs) | (refine sxs hs hw ?_; clear hs hw; intro W hs hw))
    refine st_call hs (hc := num_Put w _ _ (headAt c q l.length 2) (l.length : Int) _ (by omega) (by omega) (by have := headAt_le c q l.length 2; omega) hw) (k := ?_); rintro e0 W1 ⟨ad, cap, rfl, hw1⟩; refine ⟨_, rfl, ?_⟩; clear hs hw; intro a hs; have hw := hw1; clear hw1
    repeat (first | (refine sxv hs hw ?_; clear hs; intro a hs) | refine sxc hs ?_ | (refine sxa hs hw ?_; clear hs hw; intro a b W hw hs) | (refine sxs hs hw ?_; clear hs hw; intro W hs hw))
    refine st_again (_, 3) hs hw (by show 3 ≤ 3; decide) (by show 3 - 3 < 3 - 2; decide) ⟨rfl, rfl, rfl, rfl, rfl, trivial⟩
  · -- BEHIND
    repeat (first | (refine sxv hs hw ?_; clear hs; intro a hs) | refine sxc hs ?_ | (refine sxa hs hw ?_; clear hs hw; intro a b W hw hs) | (refine sxs hs hw ?_; clear hs hw; intro W hs hw))
    refine st_loop (σ := Value × Nat) (fun s => [(3, s.1), (26, .slice sad l.length scap), (27, .int .i64 (l.length : Int)), (28, .int .i64 (s.2 : Int))]) (fun s => Sx.OwnB 5 s.1 (headB c q l.length ++ (l.take s.2).flatMap opB) :: Cells b2 [.int .i64 c, .int .i64 q, .int .i64 (l.length : Int)] 2 :: Cells b1 [.int .i64 c, .int .i64 q, .slice sad l.length scap] 29 :: Old w 0 :: []) (fun s => s.2 ≤ l.length) (fun s => l.length - s.2) (v, 0) (Nat.zero_le _) hs ⟨rfl, rfl, rfl, rfl, trivial⟩ (by rw [show (headB c q l.length ++ (l.take 0).flatMap opB) = headAt c q l.length 3 from by simp [headAt]]; exact hw) ?_
    clear hs hw hi
    rintro ⟨v, i⟩ a W hi hs hw
    simp only at hi hs hw
    repeat (first | (refine sxv hs hw ?_; clear hs; intro a hs) | refine sxc hs ?_ | (refine sxa hs hw ?_; clear hs hw; intro a b W hw hs) | (refine sxs hs hw ?_; clear hs hw; intro W hs hw))
    refine cd_split hs (kt := fun hc => ?_) (kf := fun hc => ?_)
    · have hi' : i < l.length := by simpa using hc
      obtain ⟨o, hoi⟩ : ∃ o, l[i]? = some o := ⟨l[i], List.getElem?_eq_getElem hi'⟩
      have hok := ho o (List.mem_of_getElem? hoi)
      have hacc : (headB c q l.length ++ (l.take i).flatMap opB).length ≤ 320000030 := by
        have h1 := headB_le c q l.length
        have h2 := ops_le (l := l.take i) fun x hx => ho x (List.mem_of_mem_take hx)
        rw [List.length_take] at h2
        rw [List.length_append]; omega
      have hnext : headB c q l.length ++ (l.take (i + 1)).flatMap opB = headB c q l.length ++ (l.take i).flatMap opB ++ opB o := by
        rw [List.take_add_one, hoi, List.flatMap_append, List.append_assoc]; simp
      generalize headB c q l.length ++ (l.take i).flatMap opB = acc at *
      have hp1 := Ph.putI_length_le o.kind
      have hp2 := putT_le o.key
      have hp3 := putR_le o.vk o.vn o.vs
      obtain ⟨hk, hvk, hvn, hok', hon, hn, hkey, hvs, hos⟩ := hok
      repeat (first | (refine sxv hs hw ?_; clear hs; intro a hs) | refine sxc hs ?_ | (refine sxa hs hw ?_; clear hs hw; intro a b W hw hs) | (refine sxs hs hw ?_; clear hs hw; intro W hs hw))
      refine st_index_op hs (r := hw.rd (by repeat (first | exact In.hd | apply In.tl)) hw.ext.size r) (ho := hoi) (c := ?_); clear hs; intro a p off hpc hs
      refine st_load_ats (z := opCells ⟨0, ⟨#[]⟩, 0, 0, ⟨#[]⟩, 0, 0, ⟨#[]⟩, 0⟩) hs (hc := hpc) (hl := rfl) (c := ?_); clear hs; intro a hs
      obtain ⟨kind, key, vk, vn, vs, ok, on, os, n⟩ := o
      simp only at hk hvk hvn hok' hon hn hkey hvs hos hp1 hp2 hp3
      simp only [opCells] at hs
      clear hpc
      repeat (first | (refine sxv hs hw ?_; clear hs; intro a hs) | refine sxc hs ?_ | (refine sxa hs hw ?_; clear hs hw; intro a b W hw hs) | (refine sxs hs hw ?_; clear hs hw; intro W hs hw))
      obtain ⟨b4, q4⟩ := nm1 hw; subst q4
      have hw : Has 0 w _ (Cells b4 [.int .i64 kind, .string key, .int .i64 vk, .int .i64 vn, .string vs, .int .i64 ok, .int .i64 on, .string os, .int .i64 n] 38 :: Sx.OwnB 5 v acc :: Cells b2 [.int .i64 c, .int .i64 q, .int .i64 (l.length : Int)] 2 :: Cells b1 [.int .i64 c, .int .i64 q, .slice sad l.length scap] 29 :: Old w 0 :: []) := hw
      have hw := hw.swap2
      refine rg_drawU (σ := Option Addr × Nat) (V := fun u => [v, .pointer (some ⟨b4, 0 + 0, none⟩), .int .i64 kind, (.slice (u 3).1 (acc ++ Ph.putI kind).length (u 3).2), .pointer (some ⟨b4, 0 + 1, none⟩), .string key, (.slice (u 6).1 (acc ++ Ph.putI kind ++ Ph.putT key.data.toList).length (u 6).2), (.slice (u 7).1 (acc ++ Ph.putI kind ++ Ph.putT key.data.toList).length (u 7).2)])
        (Rs := fun u D => (if D 7 then Sx.OwnB 5 (.slice (u 7).1 (acc ++ Ph.putI kind ++ Ph.putT key.data.toList).length (u 7).2) (acc ++ Ph.putI kind ++ Ph.putT key.data.toList) else if D 6 then Sx.OwnB 5 (.slice (u 6).1 (acc ++ Ph.putI kind ++ Ph.putT key.data.toList).length (u 6).2) (acc ++ Ph.putI kind ++ Ph.putT key.data.toList) else if D 3 then Sx.OwnB 5 (.slice (u 3).1 (acc ++ Ph.putI kind).length (u 3).2) (acc ++ Ph.putI kind) else Sx.OwnB 5 v acc) :: Cells b4 [.int .i64 kind, .string key, .int .i64 vk, .int .i64 vn, .string vs, .int .i64 ok, .int .i64 on, .string os, .int .i64 n] 38 :: Cells b2 [.int .i64 c, .int .i64 q, .int .i64 (l.length : Int)] 2 :: Cells b1 [.int .i64 c, .int .i64 q, .slice sad l.length scap] 29 :: Old w 0 :: []) (fun _ => (none, 0)) hs hw (hVu := ?vu_a) (ho := ⟨?_, ?_, ?_, ?c3_a, ?_, ?_, ?c6_a, ?c7_a, trivial⟩) (k := ?k_a)
      case vu_a =>
        intro u u' j h
        rcases j with _ | _ | _ | _ | _ | _ | _ | _ | j
        · rfl
        · rfl
        · rfl
        · simp [h]
        · rfl
        · rfl
        · simp [h]
        · simp [h]
        · rfl
      case c3_a =>
        intro u LD D a W hcl hi hp hs hw
        have h6 := Go.Sx.not_done hcl hi 6 (by kernel_rfl)
        have h7 := Go.Sx.not_done hcl h6 7 (by kernel_rfl)
        simp only [hi, h6, h7, Bool.false_eq_true, if_false] at hw
        refine st_call hs (hc := num_Put w _ _ acc kind _ hk.1 hk.2 (by omega) hw) (k := ?_); rintro e0 W1 ⟨ad, cap, rfl, hw1⟩; refine ⟨_, rfl, ?_⟩; clear hs hw; intro a hs; have hw := hw1; clear hw1
        repeat (first | (refine sxv hs hw ?_; clear hs; intro a hs) | refine sxc hs ?_ | (refine sxa hs hw ?_; clear hs hw; intro a b W hw hs) | (refine sxs hs hw ?_; clear hs hw; intro W hs hw))
        refine Or.inr ⟨(ad, cap), hs, ?_⟩
        show Has 0 w _ ((if (Nat.beq 7 3 || D 7) = true then _ else if (Nat.beq 6 3 || D 6) = true then _ else _) :: _)
        rw [h6, h7]
        exact hw
      case c6_a =>
        intro u LD D a W hcl hi hp hs hw
        have h7 := Go.Sx.not_done hcl hi 7 (by kernel_rfl)
        have h3 := Go.Sx.done hp 3 (by kernel_rfl)
        simp only [hi, h3, h7, Bool.false_eq_true, if_false, if_true] at hw
        refine st_call hs (hc := num_PutText w _ _ (acc ++ Ph.putI kind) key _ (by omega) (by rw [List.length_append]; omega) hw) (k := ?_); rintro e0 W1 ⟨ad, cap, rfl, hw1⟩; refine ⟨_, rfl, ?_⟩; clear hs hw; intro a hs; have hw := hw1; clear hw1
        repeat (first | (refine sxv hs hw ?_; clear hs; intro a hs) | refine sxc hs ?_ | (refine sxa hs hw ?_; clear hs hw; intro a b W hw hs) | (refine sxs hs hw ?_; clear hs hw; intro W hs hw))
        refine Or.inr ⟨(ad, cap), hs, ?_⟩
        show Has 0 w _ ((if (Nat.beq 7 6 || D 7) = true then _ else _) :: _)
        rw [h7]
        exact hw
      case c7_a =>
        intro u LD D a W hcl hi hp hs hw
        have h6 := Go.Sx.done hp 6 (by kernel_rfl)
        simp only [hi, h6, Bool.false_eq_true, if_false, if_true] at hw
        repeat (first | (refine sxv hs hw ?_; clear hs; intro a hs) | refine sxc hs ?_ | (refine sxa hs hw ?_; clear hs hw; intro a b W hw hs) | (refine sxs hs hw ?_; clear hs hw; intro W hs hw))
        exact Or.inr ⟨u 6, hs, hw⟩
      case k_a =>
        clear hs hw
        intro u a W hs hw
        replace hw : Has 0 w W (Sx.OwnB 5 (.slice (u 7).1 (acc ++ Ph.putI kind ++ Ph.putT key.data.toList).length (u 7).2) (acc ++ Ph.putI kind ++ Ph.putT key.data.toList) :: Cells b4 [.int .i64 kind, .string key, .int .i64 vk, .int .i64 vn, .string vs, .int .i64 ok, .int .i64 on, .string os, .int .i64 n] 38 :: Cells b2 [.int .i64 c, .int .i64 q, .int .i64 (l.length : Int)] 2 :: Cells b1 [.int .i64 c, .int .i64 q, .slice sad l.length scap] 29 :: Old w 0 :: []) := hw
        replace hs : Slots a 64 [(3, (.slice (u 7).1 (acc ++ Ph.putI kind ++ Ph.putT key.data.toList).length (u 7).2)), (7, .pointer (some ⟨b4, 0, none⟩)), (26, .slice sad l.length scap), (27, .int .i64 (l.length : Int)), (28, .int .i64 (i : Int))] := hs.of ⟨rfl, rfl, rfl, rfl, rfl, trivial⟩
        generalize (u 7).1 = ad1 at *
        generalize (u 7).2 = cap1 at *
        clear u
        have hlen2 : (acc ++ Ph.putI kind ++ Ph.putT key.data.toList).length ≤ 322000060 := by simp only [List.length_append]; omega
        generalize hA : acc ++ Ph.putI kind ++ Ph.putT key.data.toList = acc2 at *
        generalize Value.slice ad1 acc2.length cap1 = v at *
        repeat (first | (refine sxv hs hw ?_; clear hs; intro a hs) | refine sxc hs ?_ | (refine sxa hs hw ?_; clear hs hw; intro a b W hw hs) | (refine sxs hs hw ?_; clear hs hw; intro W hs hw))
        by_cases k3 : kind = 3
        · subst k3
          repeat (first | (refine sxv hs hw ?_; clear hs; intro a hs) | refine sxc hs ?_ | (refine sxa hs hw ?_; clear hs hw; intro a b W hw hs) | (refine sxs hs hw ?_; clear hs hw; intro W hs hw))
          refine rg_drawU (σ := Option Addr × Nat) (V := fun u => [v, .pointer (some ⟨b4, 0 + 2, none⟩), .agg ⟨[.int .i64 vk, .int .i64 vn, .string vs]⟩, (.slice (u 3).1 (acc2 ++ putR vk vn vs).length (u 3).2), .pointer (some ⟨b4, 0 + 5, none⟩), .agg ⟨[.int .i64 ok, .int .i64 on, .string os]⟩, (.slice (u 6).1 (acc2 ++ putR vk vn vs ++ putR ok on os).length (u 6).2), (.slice (u 7).1 (acc2 ++ putR vk vn vs ++ putR ok on os).length (u 7).2)])
            (Rs := fun u D => (if D 7 then Sx.OwnB 5 (.slice (u 7).1 (acc2 ++ putR vk vn vs ++ putR ok on os).length (u 7).2) (acc2 ++ putR vk vn vs ++ putR ok on os) else if D 6 then Sx.OwnB 5 (.slice (u 6).1 (acc2 ++ putR vk vn vs ++ putR ok on os).length (u 6).2) (acc2 ++ putR vk vn vs ++ putR ok on os) else if D 3 then Sx.OwnB 5 (.slice (u 3).1 (acc2 ++ putR vk vn vs).length (u 3).2) (acc2 ++ putR vk vn vs) else Sx.OwnB 5 v acc2) :: Cells b4 [.int .i64 3, .string key, .int .i64 vk, .int .i64 vn, .string vs, .int .i64 ok, .int .i64 on, .string os, .int .i64 n] 38 :: Cells b2 [.int .i64 c, .int .i64 q, .int .i64 (l.length : Int)] 2 :: Cells b1 [.int .i64 c, .int .i64 q, .slice sad l.length scap] 29 :: Old w 0 :: []) (fun _ => (none, 0)) hs hw (hVu := ?vu_b) (ho := ⟨?_, ?_, ?_, ?c3_b, ?_, ?_, ?c6_b, ?c7_b, trivial⟩) (k := ?k_b)
          case vu_b =>
            intro u u' j h
            rcases j with _ | _ | _ | _ | _ | _ | _ | _ | j
            · rfl
            · rfl
            · rfl
            · simp [h]
            · rfl
            · rfl
            · simp [h]
            · simp [h]
            · rfl
          case c3_b =>
            intro u LD D a W hcl hi hp hs hw
            have h6 := Go.Sx.not_done hcl hi 6 (by kernel_rfl)
            have h7 := Go.Sx.not_done hcl h6 7 (by kernel_rfl)
            simp only [hi, h6, h7, Bool.false_eq_true, if_false] at hw
            refine st_call hs (hc := value_Put w _ _ acc2 vk vn vs _ hvk.1 hvk.2 hvn.1 hvn.2 (by omega) (by omega) hw) (k := ?_); rintro e0 W1 ⟨ad, cap, rfl, hw1⟩; refine ⟨_, rfl, ?_⟩; clear hs hw; intro a hs; have hw := hw1; clear hw1
            repeat (first | (refine sxv hs hw ?_; clear hs; intro a hs) | refine sxc hs ?_ | (refine sxa hs hw ?_; clear hs hw; intro a b W hw hs) | (refine sxs hs hw ?_; clear hs hw; intro W hs hw))
            refine Or.inr ⟨(ad, cap), hs, ?_⟩
            show Has 0 w _ ((if (Nat.beq 7 3 || D 7) = true then _ else if (Nat.beq 6 3 || D 6) = true then _ else _) :: _)
            rw [h6, h7]
            exact hw
          case c6_b =>
            intro u LD D a W hcl hi hp hs hw
            have h7 := Go.Sx.not_done hcl hi 7 (by kernel_rfl)
            have h3 := Go.Sx.done hp 3 (by kernel_rfl)
            simp only [hi, h3, h7, Bool.false_eq_true, if_false, if_true] at hw
            refine st_call hs (hc := value_Put w _ _ (acc2 ++ putR vk vn vs) ok on os _ hok'.1 hok'.2 hon.1 hon.2 (by omega) (by rw [List.length_append]; omega) hw) (k := ?_); rintro e0 W1 ⟨ad, cap, rfl, hw1⟩; refine ⟨_, rfl, ?_⟩; clear hs hw; intro a hs; have hw := hw1; clear hw1
            repeat (first | (refine sxv hs hw ?_; clear hs; intro a hs) | refine sxc hs ?_ | (refine sxa hs hw ?_; clear hs hw; intro a b W hw hs) | (refine sxs hs hw ?_; clear hs hw; intro W hs hw))
            refine Or.inr ⟨(ad, cap), hs, ?_⟩
            show Has 0 w _ ((if (Nat.beq 7 6 || D 7) = true then _ else _) :: _)
            rw [h7]
            exact hw
          case c7_b =>
            intro u LD D a W hcl hi hp hs hw
            have h6 := Go.Sx.done hp 6 (by kernel_rfl)
            simp only [hi, h6, Bool.false_eq_true, if_false, if_true] at hw
            repeat (first | (refine sxv hs hw ?_; clear hs; intro a hs) | refine sxc hs ?_ | (refine sxa hs hw ?_; clear hs hw; intro a b W hw hs) | (refine sxs hs hw ?_; clear hs hw; intro W hs hw))
            exact Or.inr ⟨u 6, hs, hw⟩
          case k_b =>
            clear hs hw
            intro u a W hs hw
            replace hw : Has 0 w W (Sx.OwnB 5 (.slice (u 7).1 (acc2 ++ putR vk vn vs ++ putR ok on os).length (u 7).2) (acc2 ++ putR vk vn vs ++ putR ok on os) :: Cells b4 [.int .i64 3, .string key, .int .i64 vk, .int .i64 vn, .string vs, .int .i64 ok, .int .i64 on, .string os, .int .i64 n] 38 :: Cells b2 [.int .i64 c, .int .i64 q, .int .i64 (l.length : Int)] 2 :: Cells b1 [.int .i64 c, .int .i64 q, .slice sad l.length scap] 29 :: Old w 0 :: []) := hw
            replace hs : Slots a 64 [(3, (.slice (u 7).1 (acc2 ++ putR vk vn vs ++ putR ok on os).length (u 7).2)), (7, .pointer (some ⟨b4, 0, none⟩)), (26, .slice sad l.length scap), (27, .int .i64 (l.length : Int)), (28, .int .i64 (i : Int))] := hs.of ⟨rfl, rfl, rfl, rfl, rfl, trivial⟩
            generalize (u 7).1 = ad1 at *
            generalize (u 7).2 = cap1 at *
            clear u
            have hw := hw.drop2
            repeat (first | (refine sxv hs hw ?_; clear hs; intro a hs) | refine sxc hs ?_ | (refine sxa hs hw ?_; clear hs hw; intro a b W hw hs) | (refine sxs hs hw ?_; clear hs hw; intro W hs hw))
            rw [show acc2 ++ putR vk vn vs ++ putR ok on os = acc ++ opB ⟨3, key, vk, vn, vs, ok, on, os, n⟩ from by rw [← hA]; simp [opB], ← hnext] at hs hw
            refine st_again (_, i + 1) hs hw (by show i + 1 ≤ l.length; omega) (by show l.length - (i + 1) < l.length - i; omega) ⟨rfl, rfl, rfl, int_eq (by show IntKind.i64.wrap ((i : Int) + 1) = ((i + 1 : Nat) : Int); rw [IntWalk.i64_in _ (by omega)]; omega), trivial⟩
          all_goals
            intro u LD D a W hcl hi hp hs hw
            repeat (first | (refine sxv hs hw ?_; clear hs; intro a hs) | refine sxc hs ?_ | (refine sxa hs hw ?_; clear hs hw; intro a b W hw hs) | (refine sxs hs hw ?_; clear hs hw; intro W hs hw))
            exact Or.inl ⟨hs, hw⟩
        have e3 : (kind == 3) = false := by simpa using k3
        rw [e3] at hs
        repeat (first | (refine sxv hs hw ?_; clear hs; intro a hs) | refine sxc hs ?_ | (refine sxa hs hw ?_; clear hs hw; intro a b W hw hs) | (refine sxs hs hw ?_; clear hs hw; intro W hs hw))
        by_cases k1 : kind = 1
        · subst k1
          repeat (first | (refine sxv hs hw ?_; clear hs; intro a hs) | refine sxc hs ?_ | (refine sxa hs hw ?_; clear hs hw; intro a b W hw hs) | (refine sxs hs hw ?_; clear hs hw; intro W hs hw))
          refine st_call hs (hc := value_Put w _ _ (acc2) vk vn vs _ hvk.1 hvk.2 hvn.1 hvn.2 (by omega) (by omega) hw) (k := ?_); rintro e0 W1 ⟨ad, cap, rfl, hw1⟩; refine ⟨_, rfl, ?_⟩; clear hs hw; intro a hs; have hw := hw1; clear hw1
          repeat (first | (refine sxv hs hw ?_; clear hs; intro a hs) | refine sxc hs ?_ | (refine sxa hs hw ?_; clear hs hw; intro a b W hw hs) | (refine sxs hs hw ?_; clear hs hw; intro W hs hw))
          have hw := hw.drop2
          repeat (first | (refine sxv hs hw ?_; clear hs; intro a hs) | refine sxc hs ?_ | (refine sxa hs hw ?_; clear hs hw; intro a b W hw hs) | (refine sxs hs hw ?_; clear hs hw; intro W hs hw))
          rw [show acc2 ++ putR vk vn vs = acc ++ opB ⟨1, key, vk, vn, vs, ok, on, os, n⟩ from by rw [← hA]; simp [opB], ← hnext] at hs hw
          refine st_again (_, i + 1) hs hw (by show i + 1 ≤ l.length; omega) (by show l.length - (i + 1) < l.length - i; omega) ⟨rfl, rfl, rfl, int_eq (by show IntKind.i64.wrap ((i : Int) + 1) = ((i + 1 : Nat) : Int); rw [IntWalk.i64_in _ (by omega)]; omega), trivial⟩
        have e1 : (kind == 1) = false := by simpa using k1
        rw [e1] at hs
        repeat (first | (refine sxv hs hw ?_; clear hs; intro a hs) | refine sxc hs ?_ | (refine sxa hs hw ?_; clear hs hw; intro a b W hw hs) | (refine sxs hs hw ?_; clear hs hw; intro W hs hw))
        by_cases k4 : kind = 4
        · subst k4
          repeat (first | (refine sxv hs hw ?_; clear hs; intro a hs) | refine sxc hs ?_ | (refine sxa hs hw ?_; clear hs hw; intro a b W hw hs) | (refine sxs hs hw ?_; clear hs hw; intro W hs hw))
          refine st_call hs (hc := num_Put w _ _ (acc2) n _ hn.1 hn.2 (by omega) hw) (k := ?_); rintro e0 W1 ⟨ad, cap, rfl, hw1⟩; refine ⟨_, rfl, ?_⟩; clear hs hw; intro a hs; have hw := hw1; clear hw1
          repeat (first | (refine sxv hs hw ?_; clear hs; intro a hs) | refine sxc hs ?_ | (refine sxa hs hw ?_; clear hs hw; intro a b W hw hs) | (refine sxs hs hw ?_; clear hs hw; intro W hs hw))
          have hw := hw.drop2
          repeat (first | (refine sxv hs hw ?_; clear hs; intro a hs) | refine sxc hs ?_ | (refine sxa hs hw ?_; clear hs hw; intro a b W hw hs) | (refine sxs hs hw ?_; clear hs hw; intro W hs hw))
          rw [show acc2 ++ Ph.putI n = acc ++ opB ⟨4, key, vk, vn, vs, ok, on, os, n⟩ from by rw [← hA]; simp [opB], ← hnext] at hs hw
          refine st_again (_, i + 1) hs hw (by show i + 1 ≤ l.length; omega) (by show l.length - (i + 1) < l.length - i; omega) ⟨rfl, rfl, rfl, int_eq (by show IntKind.i64.wrap ((i : Int) + 1) = ((i + 1 : Nat) : Int); rw [IntWalk.i64_in _ (by omega)]; omega), trivial⟩
        have e4 : (kind == 4) = false := by simpa using k4
        rw [e4] at hs
        repeat (first | (refine sxv hs hw ?_; clear hs; intro a hs) | refine sxc hs ?_ | (refine sxa hs hw ?_; clear hs hw; intro a b W hw hs) | (refine sxs hs hw ?_; clear hs hw; intro W hs hw))
        have hw := hw.drop2
        repeat (first | (refine sxv hs hw ?_; clear hs; intro a hs) | refine sxc hs ?_ | (refine sxa hs hw ?_; clear hs hw; intro a b W hw hs) | (refine sxs hs hw ?_; clear hs hw; intro W hs hw))
        rw [show acc2 = acc ++ opB ⟨kind, key, vk, vn, vs, ok, on, os, n⟩ from by rw [← hA]; simp [opB, k3, k1, k4], ← hnext] at hw
        refine st_again (_, i + 1) hs hw (by show i + 1 ≤ l.length; omega) (by show l.length - (i + 1) < l.length - i; omega) ⟨rfl, rfl, rfl, int_eq (by show IntKind.i64.wrap ((i : Int) + 1) = ((i + 1 : Nat) : Int); rw [IntWalk.i64_in _ (by omega)]; omega), trivial⟩
      all_goals
        intro u LD D a W hcl hi hp hs hw
        repeat (first | (refine sxv hs hw ?_; clear hs; intro a hs) | refine sxc hs ?_ | (refine sxa hs hw ?_; clear hs hw; intro a b W hw hs) | (refine sxs hs hw ?_; clear hs hw; intro W hs hw))
        exact Or.inl ⟨hs, hw⟩
    · have hi' : i = l.length := by simp at hc; omega
      subst hi'
      repeat (first | (refine sxv hs hw ?_; clear hs; intro a hs) | refine sxc hs ?_ | (refine sxa hs hw ?_; clear hs hw; intro a b W hw hs) | (refine sxs hs hw ?_; clear hs hw; intro W hs hw))
      rw [List.take_length] at hw
      have hw := hw.sub (List.Sublist.cons_cons _ (List.Sublist.cons _ (List.Sublist.cons _ (List.Sublist.refl _))))
      obtain ⟨ad, cap, e⟩ : ∃ ad cap, v = .slice ad (textB c q l).length cap := hw.own_slice
      subst e
      exact rt1 hs rfl rfl ⟨ad, cap, rfl, hw⟩
end Go.Proofs.YtmalklakaalaoaaDoor.Sw

set_option linter.unusedVariables false
set_option maxRecDepth 10000
namespace Go.Proofs.YtmalklakaalaoaaDoor.Sw
open Go.RowKit Go.Sx
instance mpDoc : Mp Tryd.prog 83 9 82 := ⟨by kernel_rfl, by kernel_rfl⟩
theorem zeroVal (W : World) : (zeroValue 82).run Tryd.prog W = .ok (.agg ⟨[vCell none]⟩) W := by kernel_rfl
abbrev DV := Int ⊕ ByteArray
abbrev Dm := List (ByteArray × DV)
def vOf (x : DV) : Value := .agg ⟨[vCell (some x)]⟩
def kvOf (d : Dm) : KV := d.map fun p => (p.1, vOf p.2)
def dKeys (d : Dm) : Prop := (d.map (·.1)).Nodup
def getK : Dm → ByteArray → Option DV
  | [], _ => none
  | p :: d, k => match ks k p.1 with | true => some p.2 | false => getK d k
def delD (d : Dm) (k : ByteArray) : Dm := d.filter fun p => !ks k p.1
def setD (d : Dm) (k : ByteArray) (v : DV) : Dm := (k, v) :: delD d k
theorem dget_kv : ∀ (d : Dm) (k : ByteArray), (dget (kvOf d) k).getD (.agg ⟨[vCell none]⟩) = .agg ⟨[vCell (getK d k)]⟩
  | [], _ => rfl
  | p :: d, k => by
    simp only [kvOf, List.map_cons, dget, getK]
    cases ks k p.1 with
    | true => rfl
    | false => exact dget_kv d k
theorem getK_none : ∀ {d : Dm} {k : ByteArray}, getK d k = none ↔ k ∉ d.map (·.1)
  | [], _ => by simp [getK]
  | p :: d, k => by
    simp only [getK, List.map_cons, List.mem_cons, not_or]
    cases hk : ks k p.1 with
    | true => simp [ks_iff.1 hk]
    | false =>
      have : k ≠ p.1 := fun h => by rw [ks_iff.2 h] at hk; cases hk
      simp only [this, not_false_eq_true, true_and]
      exact getK_none
theorem getK_mem : ∀ {d : Dm} {k : ByteArray} {v : DV}, dKeys d → (getK d k = some v ↔ (k, v) ∈ d)
  | [], _, _, _ => by simp [getK]
  | p :: d, k, v, h => by
    unfold dKeys at h
    rw [List.map_cons, List.nodup_cons] at h
    simp only [getK, List.mem_cons]
    cases hk : ks k p.1 with
    | true =>
      have e := ks_iff.1 hk
      constructor
      · intro h'
        injection h' with h'
        exact .inl (by rw [e, ← h'])
      · rintro (h' | h')
        · rw [← h']
        · exact absurd (List.mem_map_of_mem (f := (·.1)) h') (by rw [e]; exact h.1)
    | false =>
      have : k ≠ p.1 := fun h => by rw [ks_iff.2 h] at hk; cases hk
      simp only
      rw [getK_mem h.2]
      constructor
      · exact .inr
      · rintro (h' | h')
        · exact absurd (by rw [← h']) this
        · exact h'
theorem dKeys_perm {d d' : Dm} (p : d.Perm d') : dKeys d ↔ dKeys d' := (p.map _).nodup_iff
theorem getK_perm {d d' : Dm} (p : d.Perm d') (h : dKeys d) (k : ByteArray) : getK d k = getK d' k := by
  have h' : dKeys d' := (dKeys_perm p).1 h
  cases hd : getK d k with
  | some v => exact ((getK_mem h').2 (p.mem_iff.1 ((getK_mem h).1 hd))).symm
  | none =>
    rw [getK_none] at hd
    exact (getK_none.2 fun hm => hd ((p.map _).mem_iff.2 hm)).symm
theorem delD_keys {d : Dm} (h : dKeys d) (k : ByteArray) : dKeys (delD d k) := h.sublist (List.filter_sublist.map _)
theorem delD_not {d : Dm} {k : ByteArray} : k ∉ (delD d k).map (·.1) := by
  intro h
  obtain ⟨p, hp, rfl⟩ := List.mem_map.1 h
  have := (List.mem_filter.1 hp).2
  rw [ks_self] at this
  cases this
theorem setD_keys {d : Dm} (h : dKeys d) (k : ByteArray) (v : DV) : dKeys (setD d k v) := by
  unfold dKeys setD
  rw [List.map_cons, List.nodup_cons]
  exact ⟨delD_not, delD_keys h k⟩
theorem delD_perm {d d' : Dm} (p : d.Perm d') (k : ByteArray) : (delD d k).Perm (delD d' k) := p.filter _
theorem setD_perm {d d' : Dm} (p : d.Perm d') (k : ByteArray) (v : DV) : (setD d k v).Perm (setD d' k v) := (delD_perm p k).cons _
theorem filter_all {d : Dm} {k : ByteArray} (h : k ∉ d.map (·.1)) : (d.filter fun p => !ks k p.1) = d := by
  rw [List.filter_eq_self]
  intro p hp
  cases hk : ks k p.1 with
  | false => rfl
  | true => exact absurd (List.mem_map_of_mem (f := (·.1)) hp) (by rw [← ks_iff.1 hk]; exact h)
theorem ddel_kv : ∀ {d : Dm} (k : ByteArray), dKeys d → ddel (kvOf d) k = kvOf (delD d k)
  | [], _, _ => rfl
  | p :: d, k, h => by
    unfold dKeys at h
    rw [List.map_cons, List.nodup_cons] at h
    simp only [kvOf, List.map_cons, ddel, delD, List.filter_cons]
    cases hk : ks k p.1 with
    | true =>
      simp only [Bool.not_true, Bool.false_eq_true, if_false]
      rw [filter_all (by rw [ks_iff.1 hk]; exact h.1)]
    | false =>
      simp only [Bool.not_false, if_true, List.map_cons]
      have := ddel_kv (d := d) k h.2
      unfold kvOf delD at this
      rw [this]
theorem dset_kv : ∀ {d : Dm} (k : ByteArray) (v : DV), dKeys d → ∃ d', dset (kvOf d) k (vOf v) = kvOf d' ∧ d'.Perm (setD d k v)
  | [], k, v, _ => ⟨[(k, v)], rfl, List.Perm.refl _⟩
  | p :: d, k, v, h => by
    unfold dKeys at h
    rw [List.map_cons, List.nodup_cons] at h
    simp only [kvOf, List.map_cons, dset, setD, delD, List.filter_cons]
    cases hk : ks k p.1 with
    | true =>
      refine ⟨(k, v) :: d, rfl, ?_⟩
      simp only [Bool.not_true, Bool.false_eq_true, if_false]
      rw [filter_all (by rw [ks_iff.1 hk]; exact h.1)]
    | false =>
      obtain ⟨d', h1, h2⟩ := dset_kv (d := d) k v h.2
      refine ⟨p :: d', ?_, ?_⟩
      · show (p.1, vOf p.2) :: dset (kvOf d) k (vOf v) = _
        rw [h1]; rfl
      · simp only [Bool.not_false, if_true]
        exact (h2.cons p).trans (List.Perm.swap _ _ _)
def DocAt (p : Nat) (d : Dm) : Res := Ex fun x : Nat × Dm => Cells p [.map (some x.1)] 85 :: MapOf x.1 (kvOf x.2) :: Fact (x.2.Perm d ∧ dKeys d) :: []
section
variable {G p m : Nat} {w W : World} {R : List Res} {d d' : Dm}
theorem docShut (h : Has G w W (Cells p [.map (some m)] 85 :: MapOf m (kvOf d') :: R)) (hp : d'.Perm d) (hk : dKeys d) : Has G w W (DocAt p d :: R) :=
  Has.shut (m, d') ((h.fact (p := d'.Perm d ∧ dKeys d) ⟨hp, hk⟩).perm ((List.Perm.swap _ _ _).trans (List.Perm.cons _ (List.Perm.swap _ _ _))))
theorem docOpen (h : Has G w W (DocAt p d :: R)) : ∃ m d', d'.Perm d ∧ dKeys d ∧ Has G w W (Cells p [.map (some m)] 85 :: MapOf m (kvOf d') :: R) := by
  obtain ⟨⟨m, d'⟩, h⟩ := Has.open h
  have h : Has G w W (Cells p [.map (some m)] 85 :: MapOf m (kvOf d') :: Fact (d'.Perm d ∧ dKeys d) :: R) := h
  obtain ⟨h1, h2⟩ := h.told (In.tl (In.tl In.hd))
  exact ⟨m, d', h1, h2, h.sub (List.Sublist.cons_cons _ (List.Sublist.cons_cons _ (List.Sublist.cons _ (List.Sublist.refl _))))⟩
end
set_option maxHeartbeats 4000000 in
theorem doc_New (w0 W : World) (R : List Res) (hw : Has 0 w0 W R) :
    Calls Tryd.prog 31 ⟨[]⟩ W fun e W' => ∃ p, e = .returned (.pointer (some ⟨p, 0, none⟩)) ∧ Has 0 w0 W' (DocAt p [] :: R) := by
  refine enter Tryd.func31 Tryd.ntmps31 rfl rfl fun a hs => ?_
  repeat (first | (refine sxv hs hw ?_; clear hs; intro a hs) | refine sxc hs ?_ | (refine sxa hs hw ?_; clear hs hw; intro a b W hw hs) | (refine sxs hs hw ?_; clear hs hw; intro W hs hw))
  refine st_makeMap hs hw (c := ?_); clear hs hw; intro a b W hw hs
  repeat (first | (refine sxv hs hw ?_; clear hs; intro a hs) | refine sxc hs ?_ | (refine sxa hs hw ?_; clear hs hw; intro a b W hw hs) | (refine sxs hs hw ?_; clear hs hw; intro W hs hw))
  refine rt1 hs rfl rfl ⟨_, rfl, ?_⟩
  exact docShut (d' := []) hw (List.Perm.refl _) (by unfold dKeys; simp)
theorem kind_some (x : Option DV) : (kindOf x != 0) = x.isSome := by rcases x with _ | n | s <;> rfl
set_option maxHeartbeats 4000000 in
theorem doc_has (w0 W : World) (p : Nat) (d : Dm) (k : ByteArray) (R : List Res) (hw : Has 0 w0 W (DocAt p d :: R)) :
    Calls Tryd.prog 33 ⟨[.pointer (some ⟨p, 0, none⟩), .string k]⟩ W fun e W' => e = .returned (.bool (getK d k).isSome) ∧ Has 0 w0 W' (DocAt p d :: R) := by
  obtain ⟨m, d', hp, hk, hw⟩ := docOpen hw
  refine enter Tryd.func33 Tryd.ntmps33 rfl rfl fun a hs => ?_
  repeat (first | (refine sxv hs hw ?_; clear hs; intro a hs) | refine sxc hs ?_ | (refine sxa hs hw ?_; clear hs hw; intro a b W hw hs) | (refine sxs hs hw ?_; clear hs hw; intro W hs hw))
  refine st_lookup hs (hw := hw) (hz := zeroVal) (c := ?_); clear hs; intro a hs
  rw [dget_kv, getK_perm hp ((dKeys_perm hp).2 hk)] at hs
  repeat (first | (refine sxv hs hw ?_; clear hs; intro a hs) | refine sxc hs ?_ | (refine sxa hs hw ?_; clear hs hw; intro a b W hw hs) | (refine sxs hs hw ?_; clear hs hw; intro W hs hw))
  refine st_call hs (hc := Kind_any (getK d k) _) (k := ?_); rintro e0 W1 ⟨rfl, hb⟩; refine ⟨_, rfl, ?_⟩; clear hs; intro a hs; replace hw := hw.below hb; clear hb
  repeat (first | (refine sxv hs hw ?_; clear hs; intro a hs) | refine sxc hs ?_ | (refine sxa hs hw ?_; clear hs hw; intro a b W hw hs) | (refine sxs hs hw ?_; clear hs hw; intro W hs hw))
  rw [kind_some] at hs
  exact rt1 hs rfl rfl ⟨rfl, docShut hw hp hk⟩
def setR (d : Dm) (k : ByteArray) (x : Option DV) : Int × Dm :=
  match x with
  | none => (0, delD d k)
  | some v => if (getK d k).isSome = false ∧ 50 ≤ d.length then (6, d) else (0, setD d k v)
set_option maxHeartbeats 8000000 in
theorem doc_set (w0 W : World) (p : Nat) (d : Dm) (k : ByteArray) (x : Option DV) (R : List Res) (hw : Has 0 w0 W (DocAt p d :: R)) :
    Calls Tryd.prog 66 ⟨[.pointer (some ⟨p, 0, none⟩), .string k, .agg ⟨[vCell x]⟩]⟩ W fun e W' => e = .returned (.int .i64 (setR d k x).1) ∧ Has 0 w0 W' (DocAt p (setR d k x).2 :: R) := by
  refine enter Tryd.func66 Tryd.ntmps66 rfl rfl fun a hs => ?_
  repeat (first | (refine sxv hs hw ?_; clear hs; intro a hs) | refine sxc hs ?_ | (refine sxa hs hw ?_; clear hs hw; intro a b W hw hs) | (refine sxs hs hw ?_; clear hs hw; intro W hs hw))
  refine st_call hs (hc := Kind_any x _) (k := ?_); rintro e0 W1 ⟨rfl, hb⟩; refine ⟨_, rfl, ?_⟩; clear hs; intro a hs; replace hw := hw.below hb; clear hb
  repeat (first | (refine sxv hs hw ?_; clear hs; intro a hs) | refine sxc hs ?_ | (refine sxa hs hw ?_; clear hs hw; intro a b W hw hs) | (refine sxs hs hw ?_; clear hs hw; intro W hs hw))
  cases x with
  | none =>
    repeat (first | (refine sxv hs hw ?_; clear hs; intro a hs) | refine sxc hs ?_ | (refine sxa hs hw ?_; clear hs hw; intro a b W hw hs) | (refine sxs hs hw ?_; clear hs hw; intro W hs hw))
    have hw := hw.sub (List.Sublist.cons _ (List.Sublist.refl _))
    obtain ⟨m, d', hp, hk, hw⟩ := docOpen hw
    repeat (first | (refine sxv hs hw ?_; clear hs; intro a hs) | refine sxc hs ?_ | (refine sxa hs hw ?_; clear hs hw; intro a b W hw hs) | (refine sxs hs hw ?_; clear hs hw; intro W hs hw))
    refine st_delete hs (hw := hw) (c := ?_); clear hs hw; intro W hs hw
    rw [ddel_kv k ((dKeys_perm hp).2 hk)] at hw
    repeat (first | (refine sxv hs hw ?_; clear hs; intro a hs) | refine sxc hs ?_ | (refine sxa hs hw ?_; clear hs hw; intro a b W hw hs) | (refine sxs hs hw ?_; clear hs hw; intro W hs hw))
    exact rt1 hs rfl rfl ⟨rfl, docShut hw (delD_perm hp k) (delD_keys hk k)⟩
  | some v =>
    rw [show (kindOf (some v) == 0) = false from by rcases v with n | s <;> rfl] at hs
    obtain ⟨b5, q5⟩ := nm1 hw; subst q5
    have hw : Has 0 w0 _ (DocAt p d :: Cells b5 [vCell (some v)] 82 :: R) := hw.swap2
    obtain ⟨m, d2, hp, hk, hw⟩ := docOpen hw
    have hlen : d2.length = d.length := hp.length_eq
    have hlen' : (kvOf d2).length = d2.length := by simp [kvOf]
    obtain ⟨d3, h3, h4⟩ := dset_kv k v ((dKeys_perm hp).2 hk)
    refine cd_false hs (k := ?_)
    refine sq ?_
    refine merge (M := fun a W => ∃ m d2, d2.Perm d ∧ Slots a 35 [(0, .pointer (some ⟨p, 0, none⟩)), (1, .string k), (5, .pointer (some ⟨b5, 0, none⟩)), (22, .bool (!(getK d k).isSome && decide ((d.length : Int) ≥ 50)))] ∧ Has 0 w0 W (Cells p [.map (some m)] 85 :: MapOf m (kvOf d2) :: Cells b5 [vCell (some v)] 82 :: R)) ?_ ?_
    · clear h3 h4
      repeat (first | (refine sxv hs hw ?_; clear hs; intro a hs) | refine sxc hs ?_ | (refine sxa hs hw ?_; clear hs hw; intro a b W hw hs) | (refine sxs hs hw ?_; clear hs hw; intro W hs hw))
      refine st_call hs (hc := doc_has w0 _ p d k _ (docShut hw hp hk)) (k := ?_); rintro e0 W1 ⟨rfl, hw1⟩; refine ⟨_, rfl, ?_⟩; clear hs hw; intro a hs; have hw := hw1; clear hw1
      obtain ⟨m, d2, hp, hk, hw⟩ := docOpen hw
      have hlen : d2.length = d.length := hp.length_eq
      have hlen' : (kvOf d2).length = d2.length := by simp [kvOf]
      repeat (first | (refine sxv hs hw ?_; clear hs; intro a hs) | refine sxc hs ?_ | (refine sxa hs hw ?_; clear hs hw; intro a b W hw hs) | (refine sxs hs hw ?_; clear hs hw; intro W hs hw))
      cases hg : (getK d k).isSome with
      | true =>
        rw [hg] at hs
        repeat (first | (refine sxv hs hw ?_; clear hs; intro a hs) | refine sxc hs ?_ | (refine sxa hs hw ?_; clear hs hw; intro a b W hw hs) | (refine sxs hs hw ?_; clear hs hw; intro W hs hw))
        exact ⟨m, d2, hp, hs.of ⟨rfl, rfl, rfl, rfl, trivial⟩, hw⟩
      | false =>
        rw [hg] at hs
        repeat (first | (refine sxv hs hw ?_; clear hs; intro a hs) | refine sxc hs ?_ | (refine sxa hs hw ?_; clear hs hw; intro a b W hw hs) | (refine sxs hs hw ?_; clear hs hw; intro W hs hw))
        refine st_len_map hs (hw := hw) (c := ?_); clear hs; intro a hs
        rw [hlen', hlen] at hs
        repeat (first | (refine sxv hs hw ?_; clear hs; intro a hs) | refine sxc hs ?_ | (refine sxa hs hw ?_; clear hs hw; intro a b W hw hs) | (refine sxs hs hw ?_; clear hs hw; intro W hs hw))
        exact ⟨m, d2, hp, hs.of ⟨rfl, rfl, rfl, bool_eq (by simp), trivial⟩, hw⟩
    clear hs hw hp hlen hlen' h3 h4
    rintro a W ⟨m, d2, hp, hs, hw⟩
    obtain ⟨d3, h3, h4⟩ := dset_kv k v ((dKeys_perm hp).2 hk)
    cases hc : (!(getK d k).isSome && decide ((d.length : Int) ≥ 50)) with
    | true =>
      rw [hc] at hs
      have hR : setR d k (some v) = (6, d) := by
        simp only [Bool.and_eq_true, Bool.not_eq_true', decide_eq_true_eq] at hc
        unfold setR
        simp only
        rw [if_pos ⟨hc.1, by omega⟩]
      repeat (first | (refine sxv hs hw ?_; clear hs; intro a hs) | refine sxc hs ?_ | (refine sxa hs hw ?_; clear hs hw; intro a b W hw hs) | (refine sxs hs hw ?_; clear hs hw; intro W hs hw))
      have hw := docShut (hw.sub (List.Sublist.cons_cons _ (List.Sublist.cons_cons _ (List.Sublist.cons _ (List.Sublist.refl _))))) hp hk
      exact rt1 hs rfl rfl ⟨by rw [hR], by rw [hR]; exact hw⟩
    | false =>
    rw [hc] at hs
    have hR : setR d k (some v) = (0, setD d k v) := by
      unfold setR
      simp only
      rw [if_neg]
      rintro ⟨h1, h2⟩
      rw [h1] at hc
      simp at hc
      omega
    repeat (first | (refine sxv hs hw ?_; clear hs; intro a hs) | refine sxc hs ?_ | (refine sxa hs hw ?_; clear hs hw; intro a b W hw hs) | (refine sxs hs hw ?_; clear hs hw; intro W hs hw))
    refine rg_draw (V := [.pointer (some ⟨p, 0, none⟩), .pointer (some ⟨p, 0, none⟩), .pointer (some ⟨p, 0 + 0, none⟩), .map (some m), .string k, .agg ⟨[vCell (some v)]⟩, .bool true])
      (Rs := fun D => Cells p [.map (some m)] 85 :: (if D 6 then MapOf m (kvOf d3) else MapOf m (kvOf d2)) :: Cells b5 [vCell (some v)] 82 :: R) hs hw (ho := ⟨?_, ?_, ?_, ?_, ?_, ?_, ?c6_1, trivial⟩) (k := ?k_1)
    case c6_1 =>
      intro LD D a W hcl hi hp hs hw
      simp only [hi, Bool.false_eq_true, if_false] at hw
      refine st_update hs (hw := hw) (v := vOf v) (c := ?_); clear hs hw; intro W hs hw
      rw [h3] at hw
      repeat (first | (refine sxv hs hw ?_; clear hs; intro a hs) | refine sxc hs ?_ | (refine sxa hs hw ?_; clear hs hw; intro a b W hw hs) | (refine sxs hs hw ?_; clear hs hw; intro W hs hw))
      exact ⟨hs, hw⟩
    case k_1 =>
      clear hs hw
      intro a W hs hw
      replace hw : Has 0 w0 W (Cells p [.map (some m)] 85 :: MapOf m (kvOf d3) :: Cells b5 [vCell (some v)] 82 :: R) := hw
      repeat (first | (refine sxv hs hw ?_; clear hs; intro a hs) | refine sxc hs ?_ | (refine sxa hs hw ?_; clear hs hw; intro a b W hw hs) | (refine sxs hs hw ?_; clear hs hw; intro W hs hw))
      have hw := docShut (hw.sub (List.Sublist.cons_cons _ (List.Sublist.cons_cons _ (List.Sublist.cons _ (List.Sublist.refl _))))) (h4.trans (setD_perm hp k v)) (setD_keys hk k v)
      exact rt1 hs rfl rfl ⟨by rw [hR], by rw [hR]; exact hw⟩
    all_goals
      intro LD D a W hcl hi hp hs hw
      repeat (first | (refine sxv hs hw ?_; clear hs; intro a hs) | refine sxc hs ?_ | (refine sxa hs hw ?_; clear hs hw; intro a b W hw hs) | (refine sxs hs hw ?_; clear hs hw; intro W hs hw))
      exact ⟨hs, hw⟩
end Go.Proofs.YtmalklakaalaoaaDoor.Sw

set_option linter.unusedVariables false
set_option maxRecDepth 10000
namespace Go.Proofs.YtmalklakaalaoaaDoor.Sw
open Go.RowKit Go.Sx
def inB (n : Int) : Bool := decide (n ≥ -4611686018427387904) && decide (n ≤ 4611686018427387904)
set_option maxHeartbeats 4000000 in
theorem doc_in (n : Int) (W : World) : Calls Tryd.prog 65 ⟨[.int .i64 n]⟩ W fun e W' => e = .returned (.bool (inB n)) ∧ Below W.heap.size W W' := by
  have hw := Has.start (G := 0) (w := W) (Nat.zero_le _)
  refine enter Tryd.func65 Tryd.ntmps65 rfl rfl fun a hs => ?_
  repeat (first | (refine sxv hs hw ?_; clear hs; intro a hs) | refine sxc hs ?_ | (refine sxa hs hw ?_; clear hs hw; intro a b W hw hs) | (refine sxs hs hw ?_; clear hs hw; intro W hs hw))
  cases h : decide (n ≥ -4611686018427387904) with
  | true =>
    rw [h] at hs
    repeat (first | (refine sxv hs hw ?_; clear hs; intro a hs) | refine sxc hs ?_ | (refine sxa hs hw ?_; clear hs hw; intro a b W hw hs) | (refine sxs hs hw ?_; clear hs hw; intro W hs hw))
    exact rt1 hs rfl rfl ⟨by simp only [inB, h]; rfl, hw.end (by repeat (first | exact In.hd | apply In.tl))⟩
  | false =>
    rw [h] at hs
    repeat (first | (refine sxv hs hw ?_; clear hs; intro a hs) | refine sxc hs ?_ | (refine sxa hs hw ?_; clear hs hw; intro a b W hw hs) | (refine sxs hs hw ?_; clear hs hw; intro W hs hw))
    exact rt1 hs rfl rfl ⟨by simp only [inB, h]; rfl, hw.end (by repeat (first | exact In.hd | apply In.tl))⟩
def doOp (d : Dm) (o : OpD) : Int × Dm :=
  if o.kind = 3 then (if eqV (getK d o.key) (ofRaw o.ok o.on o.os).1 then setR d o.key (ofRaw o.vk o.vn o.vs).1 else (8, d))
  else if o.kind = 4 then
    if (kindOf (getK d o.key) != 0 && !isInt (getK d o.key)) = true then (7, d)
    else if (!inB (intIn (getK d o.key)) || !inB (IntKind.i64.wrap (intIn (getK d o.key) + o.n))) = true then (4, d)
    else setR d o.key (some (.inl (IntKind.i64.wrap (intIn (getK d o.key) + o.n))))
  else setR d o.key (ofRaw o.vk o.vn o.vs).1
set_option maxHeartbeats 16000000 in
theorem doc_do (w0 W : World) (H : Fh) (p : Nat) (d : Dm) (o : OpD) (R : List Res) (ho : OpOk o) (i : In (Fz H) R) (hH : (fr w0).le H) (hT : Tabs w0) (hw : Has 0 w0 W (DocAt p d :: R)) :
    Calls Tryd.prog 46 ⟨[.pointer (some ⟨p, 0, none⟩), .agg ⟨opCells o⟩]⟩ W fun e W' => e = .returned (.int .i64 (doOp d o).1) ∧ Has 0 w0 W' (DocAt p (doOp d o).2 :: R) := by
  obtain ⟨kind, key, vk, vn, vs, ok, on, os, n⟩ := o
  have hvs := ho.vs
  have hos := ho.os
  simp only at hvs hos
  refine enter Tryd.func46 Tryd.ntmps46 rfl rfl fun a hs => ?_
  repeat (first | (refine sxv hs hw ?_; clear hs; intro a hs) | refine sxc hs ?_ | (refine sxa hs hw ?_; clear hs hw; intro a b W hw hs) | (refine sxs hs hw ?_; clear hs hw; intro W hs hw))
  refine st_call hs (hc := value_Of vk vn vs _ (by omega) (hT.keep (hw.endF (by repeat (first | exact i | apply In.tl)) hH))) (k := ?_); rintro e0 W1 ⟨rfl, hb⟩; refine ⟨_, rfl, ?_⟩; clear hs; intro a hs; replace hw := hw.below hb; clear hb
  repeat (first | (refine sxv hs hw ?_; clear hs; intro a hs) | refine sxc hs ?_ | (refine sxa hs hw ?_; clear hs hw; intro a b W hw hs) | (refine sxs hs hw ?_; clear hs hw; intro W hs hw))
  refine st_store hs (hw := hw) (h1 := one_cellX (ofRaw vk vn vs).1) (k := ?_); clear hs hw; intro W hs hw
  repeat (first | (refine sxv hs hw ?_; clear hs; intro a hs) | refine sxc hs ?_ | (refine sxa hs hw ?_; clear hs hw; intro a b W hw hs) | (refine sxs hs hw ?_; clear hs hw; intro W hs hw))
  obtain ⟨bv, q1⟩ := nm1 hw; subst q1
  obtain ⟨bo, q2⟩ := nm2 hw; subst q2
  obtain ⟨m, d2, hp, hk, hw⟩ := docOpen (hw.perm ((List.Perm.cons _ (List.Perm.swap _ _ _)).trans (List.Perm.swap _ _ _)))
  have hw : Has 0 w0 _ (Free :: Cells p [.map (some m)] 85 :: MapOf m (kvOf d2) :: Cells bv [vCell (ofRaw vk vn vs).1] 82 :: Cells bo [.int .i64 kind, .string key, .int .i64 vk, .int .i64 vn, .string vs, .int .i64 ok, .int .i64 on, .string os, .int .i64 n] 38 :: R) := hw.free
  have hlk := dget_kv d2 key
  rw [getK_perm hp ((dKeys_perm hp).2 hk)] at hlk
  obtain ⟨now, hnow⟩ : ∃ now, getK d key = now := ⟨_, rfl⟩
  rw [hnow] at hlk
  have hX : doOp d ⟨kind, key, vk, vn, vs, ok, on, os, n⟩ = (if kind = 3 then (if eqV now (ofRaw ok on os).1 then setR d key (ofRaw vk vn vs).1 else (8, d))
      else if kind = 4 then
        if (kindOf now != 0 && !isInt now) = true then (7, d)
        else if (!inB (intIn now) || !inB (IntKind.i64.wrap (intIn now + n))) = true then (4, d)
        else setR d key (some (.inl (IntKind.i64.wrap (intIn now + n))))
      else setR d key (ofRaw vk vn vs).1) := by unfold doOp; simp only; rw [hnow]
  rw [hX]
  clear hX
  obtain ⟨X, hXX⟩ : ∃ X, (ofRaw vk vn vs).1 = X := ⟨_, rfl⟩
  rw [hXX] at hs hw ⊢
  refine rg_drawU (σ := Nat) (V := fun u => [.pointer (some ⟨p, 0, none⟩), .pointer (some ⟨p, 0, none⟩), .pointer (some ⟨p, 0 + 0, none⟩), .map (some m), .pointer (some ⟨bo, 0 + 1, none⟩), .string key, .agg ⟨[vCell now]⟩, .pointer (some ⟨u 7, 0, none⟩), .bool true])
    (Rs := fun u D => (if D 7 then Cells (u 7) (if D 8 then [vCell now] else [.nilIface]) 82 else Free) :: Cells p [.map (some m)] 85 :: MapOf m (kvOf d2) :: Cells bv [vCell X] 82 :: Cells bo [.int .i64 kind, .string key, .int .i64 vk, .int .i64 vn, .string vs, .int .i64 ok, .int .i64 on, .string os, .int .i64 n] 38 :: R) (fun _ => 0) hs hw (hVu := ?vu_1) (ho := ⟨?_, ?_, ?_, ?_, ?_, ?_, ?c6_1, ?c7_1, ?c8_1, trivial⟩) (k := ?k_1)
  case vu_1 =>
    intro u u' j h
    rcases j with _ | _ | _ | _ | _ | _ | _ | _ | _ | j
    all_goals first | rfl | simp [h]
  case c6_1 =>
    intro u LD D a W hcl hi hp hs hw
    refine st_lookup hs (hw := hw) (hz := zeroVal) (c := ?_); clear hs; intro a hs
    rw [hlk] at hs
    repeat (first | (refine sxv hs hw ?_; clear hs; intro a hs) | refine sxc hs ?_ | (refine sxa hs hw ?_; clear hs hw; intro a b W hw hs) | (refine sxs hs hw ?_; clear hs hw; intro W hs hw))
    exact Or.inl ⟨hs, hw⟩
  case c7_1 =>
    intro u LD D a W hcl hi hp hs hw
    have h8 := Go.Sx.not_done hcl hi 8 (by kernel_rfl)
    simp only [hi, Bool.false_eq_true, if_false] at hw
    repeat (first | (refine sxv hs hw ?_; clear hs; intro a hs) | refine sxc hs ?_ | (refine sxa hs hw ?_; clear hs hw; intro a b W hw hs) | (refine sxs hs hw ?_; clear hs hw; intro W hs hw))
    refine Or.inr ⟨_, hs, ?_⟩
    show Has 0 w0 _ (Cells _ (if (Nat.beq 8 7 || D 8) = true then _ else _) _ :: _)
    rw [h8]
    exact hw.fill Upd.hd
  case c8_1 =>
    intro u LD D a W hcl hi hp hs hw
    have h7 := Go.Sx.done hp 7 (by kernel_rfl)
    simp only [hi, h7, Bool.false_eq_true, if_false, if_true] at hw
    refine st_store hs (hw := hw) (h1 := one_cellX now) (k := ?_); clear hs hw; intro W hs hw
    repeat (first | (refine sxv hs hw ?_; clear hs; intro a hs) | refine sxc hs ?_ | (refine sxa hs hw ?_; clear hs hw; intro a b W hw hs) | (refine sxs hs hw ?_; clear hs hw; intro W hs hw))
    refine Or.inl ⟨hs, ?_⟩
    show Has 0 w0 _ ((if (Nat.beq 7 8 || D 7) = true then _ else _) :: _)
    rw [h7]
    exact hw
  case k_1 =>
    clear hs hw
    intro u a W hs hw
    replace hw : Has 0 w0 W (Cells (u 7) [vCell now] 82 :: Cells p [.map (some m)] 85 :: MapOf m (kvOf d2) :: Cells bv [vCell X] 82 :: Cells bo [.int .i64 kind, .string key, .int .i64 vk, .int .i64 vn, .string vs, .int .i64 ok, .int .i64 on, .string os, .int .i64 n] 38 :: R) := hw
    replace hs : Slots a 80 [(0, .pointer (some ⟨p, 0, none⟩)), (3, .pointer (some ⟨bo, 0, none⟩)), (5, .pointer (some ⟨bv, 0, none⟩)), (7, .pointer (some ⟨u 7, 0, none⟩))] := hs.of ⟨rfl, rfl, rfl, rfl, trivial⟩
    generalize u 7 = b7 at *
    clear u
    replace hw := docShut (hw.perm ((List.Perm.swap _ _ _).trans (List.Perm.cons _ (List.Perm.swap _ _ _)))) hp hk
    clear hp hlk
    repeat (first | (refine sxv hs hw ?_; clear hs; intro a hs) | refine sxc hs ?_ | (refine sxa hs hw ?_; clear hs hw; intro a b W hw hs) | (refine sxs hs hw ?_; clear hs hw; intro W hs hw))
    by_cases k3 : kind = 3
    · subst k3
      rw [if_pos rfl]
      repeat (first | (refine sxv hs hw ?_; clear hs; intro a hs) | refine sxc hs ?_ | (refine sxa hs hw ?_; clear hs hw; intro a b W hw hs) | (refine sxs hs hw ?_; clear hs hw; intro W hs hw))
      refine st_call hs (hc := value_Of ok on os _ (by omega) (hT.keep (hw.endF (by repeat (first | exact i | apply In.tl)) hH))) (k := ?_); rintro e0 W1 ⟨rfl, hb⟩; refine ⟨_, rfl, ?_⟩; clear hs; intro a hs; replace hw := hw.below hb; clear hb
      repeat (first | (refine sxv hs hw ?_; clear hs; intro a hs) | refine sxc hs ?_ | (refine sxa hs hw ?_; clear hs hw; intro a b W hw hs) | (refine sxs hs hw ?_; clear hs hw; intro W hs hw))
      refine st_store hs (hw := hw) (h1 := one_cellX (ofRaw ok on os).1) (k := ?_); clear hs hw; intro W hs hw
      repeat (first | (refine sxv hs hw ?_; clear hs; intro a hs) | refine sxc hs ?_ | (refine sxa hs hw ?_; clear hs hw; intro a b W hw hs) | (refine sxs hs hw ?_; clear hs hw; intro W hs hw))
      refine st_call hs (hc := value_Eq now (ofRaw ok on os).1 _) (k := ?_); rintro e0 W1 ⟨rfl, hb⟩; refine ⟨_, rfl, ?_⟩; clear hs; intro a hs; replace hw := hw.below hb; clear hb
      repeat (first | (refine sxv hs hw ?_; clear hs; intro a hs) | refine sxc hs ?_ | (refine sxa hs hw ?_; clear hs hw; intro a b W hw hs) | (refine sxs hs hw ?_; clear hs hw; intro W hs hw))
      cases he : eqV now (ofRaw ok on os).1 with
      | false =>
        rw [he] at hs
        repeat (first | (refine sxv hs hw ?_; clear hs; intro a hs) | refine sxc hs ?_ | (refine sxa hs hw ?_; clear hs hw; intro a b W hw hs) | (refine sxs hs hw ?_; clear hs hw; intro W hs hw))
        refine rt1 hs rfl rfl ⟨rfl, ?_⟩
        exact hw.sub (L' := DocAt p d :: R) (List.Sublist.cons _ (List.Sublist.cons_cons _ (List.Sublist.cons _ (List.Sublist.cons _ (List.Sublist.cons _ (List.Sublist.refl _))))))
      | true =>
        rw [he] at hs
        repeat (first | (refine sxv hs hw ?_; clear hs; intro a hs) | refine sxc hs ?_ | (refine sxa hs hw ?_; clear hs hw; intro a b W hw hs) | (refine sxs hs hw ?_; clear hs hw; intro W hs hw))
        refine st_call hs (hc := doc_set w0 _ p d key X _ hw.swap2) (k := ?_); rintro e0 W1 ⟨rfl, hw1⟩; refine ⟨_, rfl, ?_⟩; clear hs hw; intro a hs; have hw := hw1; clear hw1
        repeat (first | (refine sxv hs hw ?_; clear hs; intro a hs) | refine sxc hs ?_ | (refine sxa hs hw ?_; clear hs hw; intro a b W hw hs) | (refine sxs hs hw ?_; clear hs hw; intro W hs hw))
        refine rt1 hs rfl rfl ⟨rfl, ?_⟩
        exact hw.sub (List.Sublist.cons_cons _ (List.Sublist.cons _ (List.Sublist.cons _ (List.Sublist.cons _ (List.Sublist.cons _ (List.Sublist.refl _))))))
    have e3 : (kind == 3) = false := by simpa using k3
    rw [e3] at hs
    rw [if_neg k3]
    repeat (first | (refine sxv hs hw ?_; clear hs; intro a hs) | refine sxc hs ?_ | (refine sxa hs hw ?_; clear hs hw; intro a b W hw hs) | (refine sxs hs hw ?_; clear hs hw; intro W hs hw))
    by_cases k4 : kind = 4
    · subst k4
      rw [if_pos rfl]
      rcases now with _ | g | s
      · have hK := fun W => Kind_any (none : Option DV) W
        have hA := fun W => AsInt_any (none : Option DV) W
        rw [show kindOf (none : Option DV) = 0 from rfl] at hK ⊢
        rw [show intIn (none : Option DV) = 0 from rfl] at hA ⊢
        rw [show isInt (none : Option DV) = false from rfl] at hA ⊢
        rw [if_neg (by decide)]
        repeat (first | (refine sxv hs hw ?_; clear hs; intro a hs) | refine sxc hs ?_ | (refine sxa hs hw ?_; clear hs hw; intro a b W hw hs) | (refine sxs hs hw ?_; clear hs hw; intro W hs hw))
        refine st_call hs (hc := hA _) (k := ?_); rintro e0 W1 ⟨rfl, hb⟩; refine ⟨_, rfl, ?_⟩; clear hs; intro a hs; replace hw := hw.below hb; clear hb
        repeat (first | (refine sxv hs hw ?_; clear hs; intro a hs) | refine sxc hs ?_ | (refine sxa hs hw ?_; clear hs hw; intro a b W hw hs) | (refine sxs hs hw ?_; clear hs hw; intro W hs hw))
        refine st_call hs (hc := hK _) (k := ?_); rintro e0 W1 ⟨rfl, hb⟩; refine ⟨_, rfl, ?_⟩; clear hs; intro a hs; replace hw := hw.below hb; clear hb
        repeat (first | (refine sxv hs hw ?_; clear hs; intro a hs) | refine sxc hs ?_ | (refine sxa hs hw ?_; clear hs hw; intro a b W hw hs) | (refine sxs hs hw ?_; clear hs hw; intro W hs hw))
        refine st_call hs (hc := doc_in 0 _) (k := ?_); rintro e0 W1 ⟨rfl, hb⟩; refine ⟨_, rfl, ?_⟩; clear hs; intro a hs; replace hw := hw.below hb; clear hb
        repeat (first | (refine sxv hs hw ?_; clear hs; intro a hs) | refine sxc hs ?_ | (refine sxa hs hw ?_; clear hs hw; intro a b W hw hs) | (refine sxs hs hw ?_; clear hs hw; intro W hs hw))
        rw [show inB 0 = true from rfl] at hs ⊢
        refine st_call hs (hc := doc_in (IntKind.i64.wrap (0 + n)) _) (k := ?_); rintro e0 W1 ⟨rfl, hb⟩; refine ⟨_, rfl, ?_⟩; clear hs; intro a hs; replace hw := hw.below hb; clear hb
        repeat (first | (refine sxv hs hw ?_; clear hs; intro a hs) | refine sxc hs ?_ | (refine sxa hs hw ?_; clear hs hw; intro a b W hw hs) | (refine sxs hs hw ?_; clear hs hw; intro W hs hw))
        cases g2 : inB (IntKind.i64.wrap (0 + n)) with
        | false =>
          rw [g2] at hs
          repeat (first | (refine sxv hs hw ?_; clear hs; intro a hs) | refine sxc hs ?_ | (refine sxa hs hw ?_; clear hs hw; intro a b W hw hs) | (refine sxs hs hw ?_; clear hs hw; intro W hs hw))
          rw [if_pos (by rfl)]
          exact rt1 hs rfl rfl ⟨rfl, hw.sub (List.Sublist.cons_cons _ (List.Sublist.cons _ (List.Sublist.cons _ (List.Sublist.cons _ (List.Sublist.refl _)))))⟩
        | true =>
        rw [g2] at hs
        repeat (first | (refine sxv hs hw ?_; clear hs; intro a hs) | refine sxc hs ?_ | (refine sxa hs hw ?_; clear hs hw; intro a b W hw hs) | (refine sxs hs hw ?_; clear hs hw; intro W hs hw))
        rw [if_neg (by decide)]
        have hV := fun W hT => value_Of 1 (IntKind.i64.wrap (0 + n)) ⟨#[]⟩ W (by decide) hT
        rw [show ofRaw 1 (IntKind.i64.wrap (0 + n)) ⟨#[]⟩ = (some (.inl (IntKind.i64.wrap (0 + n))), 0) from rfl] at hV
        refine st_call hs (hc := hV _ (hT.keep (hw.endF (by repeat (first | exact i | apply In.tl)) hH))) (k := ?_); rintro e0 W1 ⟨rfl, hb⟩; refine ⟨_, rfl, ?_⟩; clear hs; intro a hs; replace hw := hw.below hb; clear hb
        repeat (first | (refine sxv hs hw ?_; clear hs; intro a hs) | refine sxc hs ?_ | (refine sxa hs hw ?_; clear hs hw; intro a b W hw hs) | (refine sxs hs hw ?_; clear hs hw; intro W hs hw))
        refine st_call hs (hc := doc_set w0 _ p d key (some (.inl (IntKind.i64.wrap (0 + n)))) _ hw) (k := ?_); rintro e0 W1 ⟨rfl, hw1⟩; refine ⟨_, rfl, ?_⟩; clear hs hw; intro a hs; have hw := hw1; clear hw1
        repeat (first | (refine sxv hs hw ?_; clear hs; intro a hs) | refine sxc hs ?_ | (refine sxa hs hw ?_; clear hs hw; intro a b W hw hs) | (refine sxs hs hw ?_; clear hs hw; intro W hs hw))
        refine rt1 hs rfl rfl ⟨rfl, ?_⟩
        exact hw.sub (List.Sublist.cons_cons _ (List.Sublist.cons _ (List.Sublist.cons _ (List.Sublist.cons _ (List.Sublist.refl _)))))
      · have hK := fun W => Kind_any (some (Sum.inl g) : Option DV) W
        have hA := fun W => AsInt_any (some (Sum.inl g) : Option DV) W
        rw [show kindOf (some (Sum.inl g) : Option DV) = 1 from rfl] at hK ⊢
        rw [show intIn (some (Sum.inl g) : Option DV) = g from rfl] at hA ⊢
        rw [show isInt (some (Sum.inl g) : Option DV) = true from rfl] at hA ⊢
        rw [if_neg (by decide)]
        repeat (first | (refine sxv hs hw ?_; clear hs; intro a hs) | refine sxc hs ?_ | (refine sxa hs hw ?_; clear hs hw; intro a b W hw hs) | (refine sxs hs hw ?_; clear hs hw; intro W hs hw))
        refine st_call hs (hc := hA _) (k := ?_); rintro e0 W1 ⟨rfl, hb⟩; refine ⟨_, rfl, ?_⟩; clear hs; intro a hs; replace hw := hw.below hb; clear hb
        repeat (first | (refine sxv hs hw ?_; clear hs; intro a hs) | refine sxc hs ?_ | (refine sxa hs hw ?_; clear hs hw; intro a b W hw hs) | (refine sxs hs hw ?_; clear hs hw; intro W hs hw))
        refine st_call hs (hc := hK _) (k := ?_); rintro e0 W1 ⟨rfl, hb⟩; refine ⟨_, rfl, ?_⟩; clear hs; intro a hs; replace hw := hw.below hb; clear hb
        repeat (first | (refine sxv hs hw ?_; clear hs; intro a hs) | refine sxc hs ?_ | (refine sxa hs hw ?_; clear hs hw; intro a b W hw hs) | (refine sxs hs hw ?_; clear hs hw; intro W hs hw))
        refine st_call hs (hc := doc_in g _) (k := ?_); rintro e0 W1 ⟨rfl, hb⟩; refine ⟨_, rfl, ?_⟩; clear hs; intro a hs; replace hw := hw.below hb; clear hb
        repeat (first | (refine sxv hs hw ?_; clear hs; intro a hs) | refine sxc hs ?_ | (refine sxa hs hw ?_; clear hs hw; intro a b W hw hs) | (refine sxs hs hw ?_; clear hs hw; intro W hs hw))
        cases g1 : inB g with
        | false =>
          rw [g1] at hs
          repeat (first | (refine sxv hs hw ?_; clear hs; intro a hs) | refine sxc hs ?_ | (refine sxa hs hw ?_; clear hs hw; intro a b W hw hs) | (refine sxs hs hw ?_; clear hs hw; intro W hs hw))
          rw [if_pos (by rfl)]
          exact rt1 hs rfl rfl ⟨rfl, hw.sub (List.Sublist.cons_cons _ (List.Sublist.cons _ (List.Sublist.cons _ (List.Sublist.cons _ (List.Sublist.refl _)))))⟩
        | true =>
        rw [g1] at hs
        repeat (first | (refine sxv hs hw ?_; clear hs; intro a hs) | refine sxc hs ?_ | (refine sxa hs hw ?_; clear hs hw; intro a b W hw hs) | (refine sxs hs hw ?_; clear hs hw; intro W hs hw))
        refine st_call hs (hc := doc_in (IntKind.i64.wrap (g + n)) _) (k := ?_); rintro e0 W1 ⟨rfl, hb⟩; refine ⟨_, rfl, ?_⟩; clear hs; intro a hs; replace hw := hw.below hb; clear hb
        repeat (first | (refine sxv hs hw ?_; clear hs; intro a hs) | refine sxc hs ?_ | (refine sxa hs hw ?_; clear hs hw; intro a b W hw hs) | (refine sxs hs hw ?_; clear hs hw; intro W hs hw))
        cases g2 : inB (IntKind.i64.wrap (g + n)) with
        | false =>
          rw [g2] at hs
          repeat (first | (refine sxv hs hw ?_; clear hs; intro a hs) | refine sxc hs ?_ | (refine sxa hs hw ?_; clear hs hw; intro a b W hw hs) | (refine sxs hs hw ?_; clear hs hw; intro W hs hw))
          rw [if_pos (by rfl)]
          exact rt1 hs rfl rfl ⟨rfl, hw.sub (List.Sublist.cons_cons _ (List.Sublist.cons _ (List.Sublist.cons _ (List.Sublist.cons _ (List.Sublist.refl _)))))⟩
        | true =>
        rw [g2] at hs
        repeat (first | (refine sxv hs hw ?_; clear hs; intro a hs) | refine sxc hs ?_ | (refine sxa hs hw ?_; clear hs hw; intro a b W hw hs) | (refine sxs hs hw ?_; clear hs hw; intro W hs hw))
        rw [if_neg (by decide)]
        have hV := fun W hT => value_Of 1 (IntKind.i64.wrap (g + n)) ⟨#[]⟩ W (by decide) hT
        rw [show ofRaw 1 (IntKind.i64.wrap (g + n)) ⟨#[]⟩ = (some (.inl (IntKind.i64.wrap (g + n))), 0) from rfl] at hV
        refine st_call hs (hc := hV _ (hT.keep (hw.endF (by repeat (first | exact i | apply In.tl)) hH))) (k := ?_); rintro e0 W1 ⟨rfl, hb⟩; refine ⟨_, rfl, ?_⟩; clear hs; intro a hs; replace hw := hw.below hb; clear hb
        repeat (first | (refine sxv hs hw ?_; clear hs; intro a hs) | refine sxc hs ?_ | (refine sxa hs hw ?_; clear hs hw; intro a b W hw hs) | (refine sxs hs hw ?_; clear hs hw; intro W hs hw))
        refine st_call hs (hc := doc_set w0 _ p d key (some (.inl (IntKind.i64.wrap (g + n)))) _ hw) (k := ?_); rintro e0 W1 ⟨rfl, hw1⟩; refine ⟨_, rfl, ?_⟩; clear hs hw; intro a hs; have hw := hw1; clear hw1
        repeat (first | (refine sxv hs hw ?_; clear hs; intro a hs) | refine sxc hs ?_ | (refine sxa hs hw ?_; clear hs hw; intro a b W hw hs) | (refine sxs hs hw ?_; clear hs hw; intro W hs hw))
        refine rt1 hs rfl rfl ⟨rfl, ?_⟩
        exact hw.sub (List.Sublist.cons_cons _ (List.Sublist.cons _ (List.Sublist.cons _ (List.Sublist.cons _ (List.Sublist.refl _)))))
      · have hK := fun W => Kind_any (some (Sum.inr s) : Option DV) W
        have hA := fun W => AsInt_any (some (Sum.inr s) : Option DV) W
        rw [show kindOf (some (Sum.inr s) : Option DV) = 2 from rfl] at hK ⊢
        rw [show isInt (some (Sum.inr s) : Option DV) = false from rfl] at hA ⊢
        rw [if_pos (by decide)]
        repeat (first | (refine sxv hs hw ?_; clear hs; intro a hs) | refine sxc hs ?_ | (refine sxa hs hw ?_; clear hs hw; intro a b W hw hs) | (refine sxs hs hw ?_; clear hs hw; intro W hs hw))
        refine st_call hs (hc := hA _) (k := ?_); rintro e0 W1 ⟨rfl, hb⟩; refine ⟨_, rfl, ?_⟩; clear hs; intro a hs; replace hw := hw.below hb; clear hb
        repeat (first | (refine sxv hs hw ?_; clear hs; intro a hs) | refine sxc hs ?_ | (refine sxa hs hw ?_; clear hs hw; intro a b W hw hs) | (refine sxs hs hw ?_; clear hs hw; intro W hs hw))
        refine st_call hs (hc := hK _) (k := ?_); rintro e0 W1 ⟨rfl, hb⟩; refine ⟨_, rfl, ?_⟩; clear hs; intro a hs; replace hw := hw.below hb; clear hb
        repeat (first | (refine sxv hs hw ?_; clear hs; intro a hs) | refine sxc hs ?_ | (refine sxa hs hw ?_; clear hs hw; intro a b W hw hs) | (refine sxs hs hw ?_; clear hs hw; intro W hs hw))
        exact rt1 hs rfl rfl ⟨rfl, hw.sub (List.Sublist.cons_cons _ (List.Sublist.cons _ (List.Sublist.cons _ (List.Sublist.cons _ (List.Sublist.refl _)))))⟩
    have e4 : (kind == 4) = false := by simpa using k4
    rw [e4] at hs
    rw [if_neg k4]
    repeat (first | (refine sxv hs hw ?_; clear hs; intro a hs) | refine sxc hs ?_ | (refine sxa hs hw ?_; clear hs hw; intro a b W hw hs) | (refine sxs hs hw ?_; clear hs hw; intro W hs hw))
    refine st_call hs (hc := doc_set w0 _ p d key X _ hw) (k := ?_); rintro e0 W1 ⟨rfl, hw1⟩; refine ⟨_, rfl, ?_⟩; clear hs hw; intro a hs; have hw := hw1; clear hw1
    repeat (first | (refine sxv hs hw ?_; clear hs; intro a hs) | refine sxc hs ?_ | (refine sxa hs hw ?_; clear hs hw; intro a b W hw hs) | (refine sxs hs hw ?_; clear hs hw; intro W hs hw))
    refine rt1 hs rfl rfl ⟨rfl, ?_⟩
    exact hw.sub (List.Sublist.cons_cons _ (List.Sublist.cons _ (List.Sublist.cons _ (List.Sublist.cons _ (List.Sublist.refl _)))))
  all_goals
    intro u LD D a W hcl hi hp hs hw
    repeat (first | (refine sxv hs hw ?_; clear hs; intro a hs) | refine sxc hs ?_ | (refine sxa hs hw ?_; clear hs hw; intro a b W hw hs) | (refine sxs hs hw ?_; clear hs hw; intro W hs hw))
    exact Or.inl ⟨hs, hw⟩
end Go.Proofs.YtmalklakaalaoaaDoor.Sw

set_option linter.unusedVariables false
set_option maxRecDepth 10000
namespace Go.Proofs.YtmalklakaalaoaaDoor.Sw
open Go.RowKit Go.Sx
def unV : Value → DV
  | .agg ⟨[.iface _ (.int _ n)]⟩ => .inl n
  | .agg ⟨[.iface _ (.string s)]⟩ => .inr s
  | _ => .inl 0
theorem unV_vOf (x : DV) : unV (vOf x) = x := by rcases x with n | s <;> rfl
theorem kvOf_perm {d d' : Dm} (h : (kvOf d).Perm (kvOf d')) : d.Perm d' := by
  have := h.map fun p => (p.1, unV p.2)
  unfold kvOf at this
  rw [List.map_map, List.map_map] at this
  have e : ((fun p : ByteArray × Value => (p.1, unV p.2)) ∘ fun p : ByteArray × DV => (p.1, vOf p.2)) = id := by
    funext p
    simp [unV_vOf]
  rw [e] at this
  simpa using this
theorem kvOf_keys (d : Dm) : (kvOf d).map (·.1) = d.map (·.1) := by simp [kvOf]
structure CopS where
  dn : Dm
  left : KV
  cur : Option (ByteArray × Value)
set_option maxHeartbeats 8000000 in
theorem maps_Copy (w0 W : World) (m1 m2 : Nat) (d : Dm) (R : List Res) (hk : dKeys d) (hw : Has 0 w0 W (MapOf m1 [] :: MapOf m2 (kvOf d) :: R)) :
    Calls Tryd.prog 56 ⟨[.map (some m1), .map (some m2)]⟩ W fun e W' => e = .returned (.tuple #[]) ∧ ∃ d', d'.Perm d ∧ Has 0 w0 W' (MapOf m1 (kvOf d') :: MapOf m2 (kvOf d) :: R) := by
  refine enter Tryd.func56 Tryd.ntmps56 rfl rfl fun a hs => ?_
  repeat (first | (refine sxv hs hw ?_; clear hs; intro a hs) | refine sxc hs ?_ | (refine sxa hs hw ?_; clear hs hw; intro a b W hw hs) | (refine sxs hs hw ?_; clear hs hw; intro W hs hw))
  refine st_range hs (hw := hw.swap2) (c := ?_); clear hs hw; intro a it W hw hs
  repeat (first | (refine sxv hs hw ?_; clear hs; intro a hs) | refine sxc hs ?_ | (refine sxa hs hw ?_; clear hs hw; intro a b W hw hs) | (refine sxs hs hw ?_; clear hs hw; intro W hs hw))
  refine st_loop (σ := CopS) (fun t => [(0, .map (some m1)), (7, .pointer (some ⟨it, 0, none⟩))]) (fun t => Ranged m2 it (kvOf d) t.left t.cur :: MapOf m1 (kvOf t.dn) :: R) (fun t => (kvOf t.dn ++ t.left).Perm (kvOf d)) (fun t => t.left.length) ⟨[], kvOf d, none⟩ (List.Perm.refl _) hs ⟨rfl, rfl, trivial⟩ hw ?_
  clear hs hw
  rintro ⟨dn, left, cur⟩ a W hp hs hw
  simp only at hp hs hw
  repeat (first | (refine sxv hs hw ?_; clear hs; intro a hs) | refine sxc hs ?_ | (refine sxa hs hw ?_; clear hs hw; intro a b W hw hs) | (refine sxs hs hw ?_; clear hs hw; intro W hs hw))
  refine st_next hs (hw := hw) (c1 := ?_) (c2 := ?_)
  · clear hs; intro a hl hs
    subst hl
    repeat (first | (refine sxv hs hw ?_; clear hs; intro a hs) | refine sxc hs ?_ | (refine sxa hs hw ?_; clear hs hw; intro a b W hw hs) | (refine sxs hs hw ?_; clear hs hw; intro W hs hw))
    rw [List.append_nil] at hp
    exact rt0n hs rfl ⟨rfl, dn, kvOf_perm hp, hw.unranged.swap2⟩
  · clear hs hw; intro a W p left' hpl hw hs
    have hp2 : (kvOf dn ++ p :: left').Perm (kvOf d) := (List.Perm.append_left _ hpl.symm).trans hp
    obtain ⟨k, x, rfl⟩ : ∃ k x, p = (k, vOf x) := by
      have : p ∈ kvOf d := hp2.mem_iff.1 (by simp)
      obtain ⟨q, _, rfl⟩ := List.mem_map.1 this
      exact ⟨q.1, q.2, rfl⟩
    have hnk : k ∉ (kvOf dn).map (·.1) := by
      have h1 : ((kvOf dn ++ (k, vOf x) :: left').map (·.1)).Nodup := (hp2.map _).nodup_iff.2 (by rw [kvOf_keys]; exact hk)
      rw [List.map_append, List.nodup_append] at h1
      intro h2
      exact h1.2.2 k h2 k (by simp) rfl
    have hnew : dset (kvOf dn) k (vOf x) = kvOf (dn ++ [(k, x)]) := by
      rw [dset_new _ hnk]; simp [kvOf]
    simp only at hs
    repeat (first | (refine sxv hs hw ?_; clear hs; intro a hs) | refine sxc hs ?_ | (refine sxa hs hw ?_; clear hs hw; intro a b W hw hs) | (refine sxs hs hw ?_; clear hs hw; intro W hs hw))
    refine st_entry hs (hw := hw) (c := ?_); clear hs; intro a hs
    simp only at hs
    repeat (first | (refine sxv hs hw ?_; clear hs; intro a hs) | refine sxc hs ?_ | (refine sxa hs hw ?_; clear hs hw; intro a b W hw hs) | (refine sxs hs hw ?_; clear hs hw; intro W hs hw))
    refine st_store hs (hw := hw) (h1 := one_cellX (some x)) (k := ?_); clear hs hw; intro W hs hw
    repeat (first | (refine sxv hs hw ?_; clear hs; intro a hs) | refine sxc hs ?_ | (refine sxa hs hw ?_; clear hs hw; intro a b W hw hs) | (refine sxs hs hw ?_; clear hs hw; intro W hs hw))
    refine st_update hs (hw := hw) (v := vOf x) (c := ?_); clear hs hw; intro W hs hw
    rw [hnew] at hw
    repeat (first | (refine sxv hs hw ?_; clear hs; intro a hs) | refine sxc hs ?_ | (refine sxa hs hw ?_; clear hs hw; intro a b W hw hs) | (refine sxs hs hw ?_; clear hs hw; intro W hs hw))
    refine st_again ⟨dn ++ [(k, x)], left', some (k, vOf x)⟩ hs (hw.sub (List.Sublist.cons _ (List.Sublist.refl _))) ?_ ?_ ⟨rfl, rfl, trivial⟩
    · show (kvOf (dn ++ [(k, x)]) ++ left').Perm _
      have : kvOf (dn ++ [(k, x)]) ++ left' = kvOf dn ++ (k, vOf x) :: left' := by simp [kvOf]
      rw [this]; exact hp2
    · show left'.length < left.length
      rw [hpl.length_eq]; simp
set_option maxHeartbeats 8000000 in
theorem doc_Copy (w0 W : World) (p : Nat) (d : Dm) (R : List Res) (hw : Has 0 w0 W (DocAt p d :: R)) :
    Calls Tryd.prog 32 ⟨[.pointer (some ⟨p, 0, none⟩)]⟩ W fun e W' => ∃ c, e = .returned (.pointer (some ⟨c, 0, none⟩)) ∧ Has 0 w0 W' (DocAt c d :: DocAt p d :: R) := by
  refine enter Tryd.func32 Tryd.ntmps32 rfl rfl fun a hs => ?_
  repeat (first | (refine sxv hs hw ?_; clear hs; intro a hs) | refine sxc hs ?_ | (refine sxa hs hw ?_; clear hs hw; intro a b W hw hs) | (refine sxs hs hw ?_; clear hs hw; intro W hs hw) | ((with_reducible first | refine st_ptrSome hs (k := ?_) | refine st_ptrNone hs (k := ?_)); clear hs; intro a hs))
  refine st_call hs (hc := doc_New w0 _ _ hw) (k := ?_); rintro e0 W1 ⟨c, rfl, hw1⟩; refine ⟨_, rfl, ?_⟩; clear hs hw; intro a hs; have hw := hw1; clear hw1
  repeat (first | (refine sxv hs hw ?_; clear hs; intro a hs) | refine sxc hs ?_ | (refine sxa hs hw ?_; clear hs hw; intro a b W hw hs) | (refine sxs hs hw ?_; clear hs hw; intro W hs hw) | ((with_reducible first | refine st_ptrSome hs (k := ?_) | refine st_ptrNone hs (k := ?_)); clear hs; intro a hs))
  obtain ⟨m1, d1, hp1, -, hw⟩ := docOpen hw
  obtain rfl : d1 = [] := List.Perm.eq_nil hp1
  obtain ⟨m2, d2, hp2, hk2, hw⟩ := docOpen (hw.perm ((List.Perm.cons _ (List.Perm.swap _ _ _)).trans (List.Perm.swap _ _ _)))
  have hw : Has 0 w0 _ (Cells c [.map (some m1)] 85 :: Cells p [.map (some m2)] 85 :: MapOf m1 (kvOf []) :: MapOf m2 (kvOf d2) :: R) := hw.perm (by repeat (first | exact List.Perm.refl _ | refine perm_pick (by repeat (first | exact Pick.hd | apply Pick.tl)) ?_))
  refine rg_draw (V := [.pointer (some ⟨c, 0, none⟩), .pointer (some ⟨c, 0, none⟩), .pointer (some ⟨c, 0 + 0, none⟩), .map (some m1), .pointer (some ⟨p, 0, none⟩), .pointer (some ⟨p, 0, none⟩), .pointer (some ⟨p, 0 + 0, none⟩), .map (some m2), .tuple #[]])
    (Rs := fun D => Cells c [.map (some m1)] 85 :: Cells p [.map (some m2)] 85 :: (if D 8 then Ex (fun d3 : Dm => MapOf m1 (kvOf d3) :: Fact (d3.Perm d2) :: []) else MapOf m1 (kvOf [])) :: MapOf m2 (kvOf d2) :: R) hs hw (ho := ⟨?_, ?_, ?_, ?_, ?_, ?_, ?_, ?_, ?c8_2, trivial⟩) (k := ?k_2)
  case c8_2 =>
    intro LD D a W hcl hi hp hs hw
    simp only [hi, Bool.false_eq_true, if_false] at hw
    have hw : Has 0 w0 W (MapOf m1 [] :: MapOf m2 (kvOf d2) :: Cells c [.map (some m1)] 85 :: Cells p [.map (some m2)] 85 :: R) := hw.perm (by repeat (first | exact List.Perm.refl _ | refine perm_pick (by repeat (first | exact Pick.hd | apply Pick.tl)) ?_))
    refine st_call hs (hc := maps_Copy w0 _ m1 m2 d2 _ ((dKeys_perm hp2).2 hk2) hw) (k := ?_); rintro e0 W1 ⟨rfl, d3, h3, hw1⟩; refine ⟨_, rfl, ?_⟩; clear hs hw; intro a hs; have hw := hw1; clear hw1
    repeat (first | (refine sxv hs hw ?_; clear hs; intro a hs) | refine sxc hs ?_ | (refine sxa hs hw ?_; clear hs hw; intro a b W hw hs) | (refine sxs hs hw ?_; clear hs hw; intro W hs hw))
    refine ⟨hs, ?_⟩
    have hw := Has.shut (Ls := fun d3 : Dm => MapOf m1 (kvOf d3) :: Fact (d3.Perm d2) :: []) d3 (hw.fact h3 |>.perm (List.Perm.swap _ _ _))
    exact hw.perm (by repeat (first | exact List.Perm.refl _ | refine perm_pick (by repeat (first | exact Pick.hd | apply Pick.tl)) ?_))
  case k_2 =>
    clear hs hw
    intro a W hs hw
    replace hw : Has 0 w0 W (Cells c [.map (some m1)] 85 :: Cells p [.map (some m2)] 85 :: Ex (fun d3 : Dm => MapOf m1 (kvOf d3) :: Fact (d3.Perm d2) :: []) :: MapOf m2 (kvOf d2) :: R) := hw
    obtain ⟨d3, hw⟩ := Has.open (hw.perm (List.Perm.trans (List.Perm.cons _ (List.Perm.swap _ _ _)) (List.Perm.swap _ _ _)))
    have hw : Has 0 w0 W (MapOf m1 (kvOf d3) :: Fact (d3.Perm d2) :: Cells c [.map (some m1)] 85 :: Cells p [.map (some m2)] 85 :: MapOf m2 (kvOf d2) :: R) := hw
    have h3 := hw.told (In.tl In.hd)
    repeat (first | (refine sxv hs hw ?_; clear hs; intro a hs) | refine sxc hs ?_ | (refine sxa hs hw ?_; clear hs hw; intro a b W hw hs) | (refine sxs hs hw ?_; clear hs hw; intro W hs hw))
    have hw : Has 0 w0 _ (Cells p [.map (some m2)] 85 :: MapOf m2 (kvOf d2) :: Cells c [.map (some m1)] 85 :: MapOf m1 (kvOf d3) :: R) := hw.drop2.perm (by repeat (first | exact List.Perm.refl _ | refine perm_pick (by repeat (first | exact Pick.hd | apply Pick.tl)) ?_))
    have hw := docShut hw hp2 hk2
    have hw : Has 0 w0 _ (Cells c [.map (some m1)] 85 :: MapOf m1 (kvOf d3) :: DocAt p d :: R) := hw.perm (by repeat (first | exact List.Perm.refl _ | refine perm_pick (by repeat (first | exact Pick.hd | apply Pick.tl)) ?_))
    have hw := docShut hw (h3.trans hp2) hk2
    exact rt1 hs rfl rfl ⟨c, rfl, hw⟩
  all_goals
    intro LD D a W hcl hi hp hs hw
    repeat (first | (refine sxv hs hw ?_; clear hs; intro a hs) | refine sxc hs ?_ | (refine sxa hs hw ?_; clear hs hw; intro a b W hw hs) | (refine sxs hs hw ?_; clear hs hw; intro W hs hw))
    exact ⟨hs, hw⟩
end Go.Proofs.YtmalklakaalaoaaDoor.Sw

set_option linter.unusedVariables false
set_option maxRecDepth 10000
namespace Go.Proofs.YtmalklakaalaoaaDoor.Sw
open Go.RowKit Go.Sx
-- pieces
def mayD (o : OpD) : Bool := mayOp o.kind o.key o.vk o.vn o.vs o.ok o.on o.os o.n
def mayBatch (c q : Int) (l : List OpD) : Bool :=
  !(decide (c < 1)) && !(decide (c > 5)) && !(decide (q < 1)) && !(decide (q > 1099511627776)) && !(decide ((l.length : Int) < 1)) && !(decide ((l.length : Int) > 8)) && l.all mayD && decide (((textB c q l).length : Int) ≤ 1200)
set_option maxHeartbeats 8000000 in
theorem op_MayBatch (c q : Int) (l : List OpD) (sv : Value) (w : World) (hc : i64 c) (hq : i64 q) (ho : ∀ o ∈ l, OpOk o) (r : Rd w 9 sv l.length (l.flatMap opCells)) (hT : Tabs w) :
    Calls Tryd.prog 20 ⟨[.agg ⟨[.int .i64 c, .int .i64 q, sv]⟩]⟩ w fun e w' => e = .returned (.bool (mayBatch c q l)) ∧ Below w.heap.size w w' := by
  have hw := Has.start (G := 0) (w := w) (Nat.zero_le _)
  obtain ⟨sad, scap, rfl⟩ : ∃ ad cap, sv = .slice ad l.length cap := by obtain ⟨_, ad, cap, e, _⟩ := r; exact ⟨ad, cap, e⟩
  have hlen : l.length ≤ 9223372036854775807 := r.len
  refine enter Tryd.func20 Tryd.ntmps20 rfl rfl fun a hs => ?_
  repeat (first | (refine sxv hs hw ?_; clear hs; intro a hs) | refine sxc hs ?_ | (refine sxa hs hw ?_; clear hs hw; intro a b W hw hs) | (refine sxs hs hw ?_; clear hs hw; intro W hs hw))
  cases h0 : decide (c < 1) with
  | true =>
    rw [h0] at hs
    repeat (first | (refine sxv hs hw ?_; clear hs; intro a hs) | refine sxc hs ?_ | (refine sxa hs hw ?_; clear hs hw; intro a b W hw hs) | (refine sxs hs hw ?_; clear hs hw; intro W hs hw))
    exact rt1 hs rfl rfl ⟨by simp only [mayBatch, h0]; rfl, hw.end (by repeat (first | exact In.hd | apply In.tl))⟩
  | false =>
  rw [h0] at hs
  repeat (first | (refine sxv hs hw ?_; clear hs; intro a hs) | refine sxc hs ?_ | (refine sxa hs hw ?_; clear hs hw; intro a b W hw hs) | (refine sxs hs hw ?_; clear hs hw; intro W hs hw))
  cases h1 : decide (c > 5) with
  | true =>
    rw [h1] at hs
    repeat (first | (refine sxv hs hw ?_; clear hs; intro a hs) | refine sxc hs ?_ | (refine sxa hs hw ?_; clear hs hw; intro a b W hw hs) | (refine sxs hs hw ?_; clear hs hw; intro W hs hw))
    exact rt1 hs rfl rfl ⟨by simp only [mayBatch, h0, h1]; rfl, hw.end (by repeat (first | exact In.hd | apply In.tl))⟩
  | false =>
  rw [h1] at hs
  repeat (first | (refine sxv hs hw ?_; clear hs; intro a hs) | refine sxc hs ?_ | (refine sxa hs hw ?_; clear hs hw; intro a b W hw hs) | (refine sxs hs hw ?_; clear hs hw; intro W hs hw))
  cases h2 : decide (q < 1) with
  | true =>
    rw [h2] at hs
    repeat (first | (refine sxv hs hw ?_; clear hs; intro a hs) | refine sxc hs ?_ | (refine sxa hs hw ?_; clear hs hw; intro a b W hw hs) | (refine sxs hs hw ?_; clear hs hw; intro W hs hw))
    exact rt1 hs rfl rfl ⟨by simp only [mayBatch, h0, h1, h2]; rfl, hw.end (by repeat (first | exact In.hd | apply In.tl))⟩
  | false =>
  rw [h2] at hs
  repeat (first | (refine sxv hs hw ?_; clear hs; intro a hs) | refine sxc hs ?_ | (refine sxa hs hw ?_; clear hs hw; intro a b W hw hs) | (refine sxs hs hw ?_; clear hs hw; intro W hs hw))
  cases h3 : decide (q > 1099511627776) with
  | true =>
    rw [h3] at hs
    repeat (first | (refine sxv hs hw ?_; clear hs; intro a hs) | refine sxc hs ?_ | (refine sxa hs hw ?_; clear hs hw; intro a b W hw hs) | (refine sxs hs hw ?_; clear hs hw; intro W hs hw))
    exact rt1 hs rfl rfl ⟨by simp only [mayBatch, h0, h1, h2, h3]; rfl, hw.end (by repeat (first | exact In.hd | apply In.tl))⟩
  | false =>
  rw [h3] at hs
  repeat (first | (refine sxv hs hw ?_; clear hs; intro a hs) | refine sxc hs ?_ | (refine sxa hs hw ?_; clear hs hw; intro a b W hw hs) | (refine sxs hs hw ?_; clear hs hw; intro W hs hw))
  cases h4 : decide ((l.length : Int) < 1) with
  | true =>
    rw [h4] at hs
    repeat (first | (refine sxv hs hw ?_; clear hs; intro a hs) | refine sxc hs ?_ | (refine sxa hs hw ?_; clear hs hw; intro a b W hw hs) | (refine sxs hs hw ?_; clear hs hw; intro W hs hw))
    exact rt1 hs rfl rfl ⟨by simp only [mayBatch, h0, h1, h2, h3, h4]; rfl, hw.end (by repeat (first | exact In.hd | apply In.tl))⟩
  | false =>
  rw [h4] at hs
  repeat (first | (refine sxv hs hw ?_; clear hs; intro a hs) | refine sxc hs ?_ | (refine sxa hs hw ?_; clear hs hw; intro a b W hw hs) | (refine sxs hs hw ?_; clear hs hw; intro W hs hw))
  cases h5 : decide ((l.length : Int) > 8) with
  | true =>
    rw [h5] at hs
    repeat (first | (refine sxv hs hw ?_; clear hs; intro a hs) | refine sxc hs ?_ | (refine sxa hs hw ?_; clear hs hw; intro a b W hw hs) | (refine sxs hs hw ?_; clear hs hw; intro W hs hw))
    exact rt1 hs rfl rfl ⟨by simp only [mayBatch, h0, h1, h2, h3, h4, h5]; rfl, hw.end (by repeat (first | exact In.hd | apply In.tl))⟩
  | false =>
  rw [h5] at hs
  repeat (first | (refine sxv hs hw ?_; clear hs; intro a hs) | refine sxc hs ?_ | (refine sxa hs hw ?_; clear hs hw; intro a b W hw hs) | (refine sxs hs hw ?_; clear hs hw; intro W hs hw))
  have h8 : l.length ≤ 8 := by simp at h5; omega
  have hmb : mayBatch c q l = (l.all mayD && decide (((textB c q l).length : Int) ≤ 1200)) := by unfold mayBatch; rw [h0, h1, h2, h3, h4, h5]; simp
  rw [hmb]
  clear hmb h0 h1 h2 h3 h4 h5
  obtain ⟨b1, q1⟩ := nm1 hw; subst q1
  have hw : Has 0 w _ (Cells b1 [.int .i64 c, .int .i64 q, .slice sad l.length scap] 29 :: Old w 0 :: []) := hw
  refine st_loop (σ := Nat) (fun i => [(1, .pointer (some ⟨b1, 0, none⟩)), (36, .slice sad l.length scap), (37, .int .i64 (l.length : Int)), (38, .int .i64 (i : Int))]) (fun _ => Cells b1 [.int .i64 c, .int .i64 q, .slice sad l.length scap] 29 :: Old w 0 :: []) (fun i => i ≤ l.length ∧ (l.take i).all mayD = true) (fun i => l.length - i) 0 ⟨Nat.zero_le _, rfl⟩ hs ⟨rfl, rfl, rfl, rfl, trivial⟩ hw ?_
  clear hs hw
  rintro i a W ⟨hi, ha⟩ hs hw
  repeat (first | (refine sxv hs hw ?_; clear hs; intro a hs) | refine sxc hs ?_ | (refine sxa hs hw ?_; clear hs hw; intro a b W hw hs) | (refine sxs hs hw ?_; clear hs hw; intro W hs hw))
  refine cd_split hs (kt := fun hcc => ?_) (kf := fun hcc => ?_)
  · have hi' : i < l.length := by simpa using hcc
    obtain ⟨o, hoi⟩ : ∃ o, l[i]? = some o := ⟨l[i], List.getElem?_eq_getElem hi'⟩
    have hok := ho o (List.mem_of_getElem? hoi)
    have hnext : (l.take (i + 1)).all mayD = mayD o := by
      rw [List.take_add_one, hoi, List.all_append, ha]; simp
    have hall : mayD o = false → l.all mayD = false := fun h => by
      rw [List.all_eq_false]
      exact ⟨o, List.mem_of_getElem? hoi, by rw [h]; simp⟩
    repeat (first | (refine sxv hs hw ?_; clear hs; intro a hs) | refine sxc hs ?_ | (refine sxa hs hw ?_; clear hs hw; intro a b W hw hs) | (refine sxs hs hw ?_; clear hs hw; intro W hs hw))
    refine st_index_op hs (r := hw.rd (by repeat (first | exact In.hd | apply In.tl)) hw.ext.size r) (ho := hoi) (c := ?_); clear hs; intro a p off hpc hs
    refine st_load_ats (z := opCells ⟨0, ⟨#[]⟩, 0, 0, ⟨#[]⟩, 0, 0, ⟨#[]⟩, 0⟩) hs (hc := hpc) (hl := rfl) (c := ?_); clear hs; intro a hs
    obtain ⟨kind, key, vk, vn, vs, ok, on, os, n⟩ := o
    simp only [opCells] at hs
    clear hpc
    have hkey := hok.key
    have hvs := hok.vs
    have hos := hok.os
    simp only at hkey hvs hos
    repeat (first | (refine sxv hs hw ?_; clear hs; intro a hs) | refine sxc hs ?_ | (refine sxa hs hw ?_; clear hs hw; intro a b W hw hs) | (refine sxs hs hw ?_; clear hs hw; intro W hs hw))
    refine st_call hs (hc := op_May kind key vk vn vs ok on os n _ (by omega) (by omega) (by omega) (hT.keep (hw.end (by repeat (first | exact In.hd | apply In.tl))))) (k := ?_); rintro e0 W1 ⟨rfl, hb⟩; refine ⟨_, rfl, ?_⟩; clear hs; intro a hs; replace hw := hw.below hb; clear hb
    rw [show mayOp kind key vk vn vs ok on os n = mayD ⟨kind, key, vk, vn, vs, ok, on, os, n⟩ from rfl] at hs
    cases hm : mayD ⟨kind, key, vk, vn, vs, ok, on, os, n⟩ with
    | false =>
      rw [hm] at hs
      repeat (first | (refine sxv hs hw ?_; clear hs; intro a hs) | refine sxc hs ?_ | (refine sxa hs hw ?_; clear hs hw; intro a b W hw hs) | (refine sxs hs hw ?_; clear hs hw; intro W hs hw))
      exact rt1 hs rfl rfl ⟨by rw [hall hm]; rfl, hw.end (by repeat (first | exact In.hd | apply In.tl))⟩
    | true =>
      rw [hm] at hs hnext
      repeat (first | (refine sxv hs hw ?_; clear hs; intro a hs) | refine sxc hs ?_ | (refine sxa hs hw ?_; clear hs hw; intro a b W hw hs) | (refine sxs hs hw ?_; clear hs hw; intro W hs hw))
      have hw := hw.sub (List.Sublist.cons _ (List.Sublist.refl _))
      exact st_again (i + 1) hs hw ⟨by omega, hnext⟩ (by show l.length - (i + 1) < l.length - i; omega) ⟨rfl, rfl, rfl, int_eq (by show IntKind.i64.wrap ((i : Int) + 1) = ((i + 1 : Nat) : Int); rw [IntWalk.i64_in _ (by omega)]; omega), trivial⟩
  · have hi' : i = l.length := by simp at hcc; omega
    subst hi'
    rw [List.take_length] at ha
    rw [ha]
    repeat (first | (refine sxv hs hw ?_; clear hs; intro a hs) | refine sxc hs ?_ | (refine sxa hs hw ?_; clear hs hw; intro a b W hw hs) | (refine sxs hs hw ?_; clear hs hw; intro W hs hw))
    refine st_call hs (hc := op_text c q l _ _ hc hq (by omega) ho (hw.rd (by repeat (first | exact In.hd | apply In.tl)) hw.ext.size r)) (k := ?_); rintro e0 W1 ⟨ad, cap, rfl, hw1⟩; refine ⟨_, rfl, ?_⟩; clear hs; intro a hs; replace hw := hw.call hw1; clear hw1
    repeat (first | (refine sxv hs hw ?_; clear hs; intro a hs) | refine sxc hs ?_ | (refine sxa hs hw ?_; clear hs hw; intro a b W hw hs) | (refine sxs hs hw ?_; clear hs hw; intro W hs hw))
    exact rt1 hs rfl rfl ⟨by simp, hw.end (by repeat (first | exact In.hd | apply In.tl))⟩
set_option maxHeartbeats 4000000 in
theorem op_Encode (c q : Int) (l : List OpD) (sv : Value) (w : World) (hc : i64 c) (hq : i64 q) (ho : ∀ o ∈ l, OpOk o) (r : Rd w 9 sv l.length (l.flatMap opCells)) (hT : Tabs w) :
    Calls Tryd.prog 38 ⟨[.agg ⟨[.int .i64 c, .int .i64 q, sv]⟩]⟩ w fun e w' => ∃ ad cap, e = .returned (.slice ad (if mayBatch c q l then textB c q l else []).length cap) ∧ (mayBatch c q l = false → ad = none ∧ cap = 0) ∧ Has 0 w w' (OwnB 5 (.slice ad (if mayBatch c q l then textB c q l else []).length cap) (if mayBatch c q l then textB c q l else []) :: Old w 0 :: []) := by
  have hw := Has.start (G := 0) (w := w) (Nat.zero_le _)
  obtain ⟨sad, scap, rfl⟩ : ∃ ad cap, sv = .slice ad l.length cap := by obtain ⟨_, ad, cap, e, _⟩ := r; exact ⟨ad, cap, e⟩
  have hlen : l.length ≤ 9223372036854775807 := r.len
  refine enter Tryd.func38 Tryd.ntmps38 rfl rfl fun a hs => ?_
  repeat (first | (refine sxv hs hw ?_; clear hs; intro a hs) | refine sxc hs ?_ | (refine sxa hs hw ?_; clear hs hw; intro a b W hw hs) | (refine sxs hs hw ?_; clear hs hw; intro W hs hw))
  refine st_call hs (hc := op_MayBatch c q l _ _ hc hq ho (hw.rd (by repeat (first | exact In.hd | apply In.tl)) hw.ext.size r) (hT.keep (hw.end (by repeat (first | exact In.hd | apply In.tl))))) (k := ?_); rintro e0 W1 ⟨rfl, hb⟩; refine ⟨_, rfl, ?_⟩; clear hs; intro a hs; replace hw := hw.below hb; clear hb
  cases hm : mayBatch c q l with
  | false =>
    rw [hm] at hs
    repeat (first | (refine sxv hs hw ?_; clear hs; intro a hs) | refine sxc hs ?_ | (refine sxa hs hw ?_; clear hs hw; intro a b W hw hs) | (refine sxs hs hw ?_; clear hs hw; intro W hs hw))
    have hw := (hw.nilB 5).sub (List.Sublist.cons_cons _ (List.Sublist.cons _ (List.Sublist.refl _)))
    exact rt1 hs rfl rfl ⟨none, 0, rfl, fun _ => ⟨rfl, rfl⟩, hw⟩
  | true =>
    rw [hm] at hs
    have h8 : l.length ≤ 8 := by
      unfold mayBatch at hm
      simp only [Bool.and_eq_true, Bool.not_eq_true', decide_eq_false_iff_not] at hm
      omega
    repeat (first | (refine sxv hs hw ?_; clear hs; intro a hs) | refine sxc hs ?_ | (refine sxa hs hw ?_; clear hs hw; intro a b W hw hs) | (refine sxs hs hw ?_; clear hs hw; intro W hs hw))
    refine st_call hs (hc := op_text c q l _ _ hc hq (by omega) ho (hw.rd (by repeat (first | exact In.hd | apply In.tl)) hw.ext.size r)) (k := ?_); rintro e0 W1 ⟨ad, cap, rfl, hw1⟩; refine ⟨_, rfl, ?_⟩; clear hs; intro a hs; replace hw := hw.call hw1; clear hw1
    repeat (first | (refine sxv hs hw ?_; clear hs; intro a hs) | refine sxc hs ?_ | (refine sxa hs hw ?_; clear hs hw; intro a b W hw hs) | (refine sxs hs hw ?_; clear hs hw; intro W hs hw))
    have hw := hw.sub (List.Sublist.cons_cons _ (List.Sublist.cons _ (List.Sublist.refl _)))
    exact rt1 hs rfl rfl ⟨ad, cap, rfl, fun h => (Bool.noConfusion h), hw⟩
end Go.Proofs.YtmalklakaalaoaaDoor.Sw

set_option linter.unusedVariables false
set_option maxRecDepth 10000
namespace Go.Proofs.YtmalklakaalaoaaDoor.Sw
open Go.RowKit Go.Sx
def goD : List OpD → Dm → Int × Dm
  | [], d => (0, d)
  | o :: l, d => if mayD o = false then (1, d) else if (doOp d o).1 = 0 then goD l (doOp d o).2 else ((doOp d o).1, d)
def applyD (d : Dm) (l : List OpD) : Int × Dm :=
  if l.length = 0 ∨ 8 < l.length then (1, d) else if (goD l d).1 = 0 then (0, (goD l d).2) else ((goD l d).1, d)
structure OpW (o : OpD) : Prop where
  key : o.key.size ≤ 9223372036854775807
  vs : o.vs.size ≤ 9223372036854775807
  os : o.os.size ≤ 9223372036854775807
  ok : mayD o = true → OpOk o
theorem OpOk.w {o : OpD} (h : OpOk o) : OpW o := ⟨by have := h.key; omega, by have := h.vs; omega, by have := h.os; omega, fun _ => h⟩
set_option maxHeartbeats 16000000 in
theorem doc_ApplyW (w0 W : World) (H : Fh) (p : Nat) (d : Dm) (l : List OpD) (sv : Value) (R : List Res) (ho : ∀ o ∈ l, OpW o) (r : RdH H 9 sv l.length (l.flatMap opCells)) (i : In (Fz H) R) (hH : (fr w0).le H) (hT : Tabs w0) (hw : Has 0 w0 W (DocAt p d :: R)) :
    Calls Tryd.prog 22 ⟨[.pointer (some ⟨p, 0, none⟩), sv]⟩ W fun e W' => e = .returned (.int .i64 (applyD d l).1) ∧ Has 0 w0 W' (DocAt p (applyD d l).2 :: R) := by
  obtain ⟨sad, scap, rfl⟩ := r.slice
  have hlen := r.len
  refine enter Tryd.func22 Tryd.ntmps22 rfl rfl fun a hs => ?_
  repeat (first | (refine sxv hs hw ?_; clear hs; intro a hs) | refine sxc hs ?_ | (refine sxa hs hw ?_; clear hs hw; intro a b W hw hs) | (refine sxs hs hw ?_; clear hs hw; intro W hs hw) | ((with_reducible first | refine st_ptrSome hs (k := ?_) | refine st_ptrNone hs (k := ?_)); clear hs; intro a hs))
  cases h0 : ((l.length : Int) == 0) with
  | true =>
    rw [h0] at hs
    repeat (first | (refine sxv hs hw ?_; clear hs; intro a hs) | refine sxc hs ?_ | (refine sxa hs hw ?_; clear hs hw; intro a b W hw hs) | (refine sxs hs hw ?_; clear hs hw; intro W hs hw) | ((with_reducible first | refine st_ptrSome hs (k := ?_) | refine st_ptrNone hs (k := ?_)); clear hs; intro a hs))
    have hX : applyD d l = (1, d) := by
      unfold applyD
      rw [if_pos (.inl (by have : (l.length : Int) = 0 := by simpa using h0
                           omega))]
    exact rt1 hs rfl rfl ⟨by rw [hX], by rw [hX]; exact hw⟩
  | false =>
  rw [h0] at hs
  repeat (first | (refine sxv hs hw ?_; clear hs; intro a hs) | refine sxc hs ?_ | (refine sxa hs hw ?_; clear hs hw; intro a b W hw hs) | (refine sxs hs hw ?_; clear hs hw; intro W hs hw) | ((with_reducible first | refine st_ptrSome hs (k := ?_) | refine st_ptrNone hs (k := ?_)); clear hs; intro a hs))
  cases h8 : decide ((l.length : Int) > 8) with
  | true =>
    rw [h8] at hs
    repeat (first | (refine sxv hs hw ?_; clear hs; intro a hs) | refine sxc hs ?_ | (refine sxa hs hw ?_; clear hs hw; intro a b W hw hs) | (refine sxs hs hw ?_; clear hs hw; intro W hs hw) | ((with_reducible first | refine st_ptrSome hs (k := ?_) | refine st_ptrNone hs (k := ?_)); clear hs; intro a hs))
    have hX : applyD d l = (1, d) := by
      unfold applyD
      rw [if_pos (.inr (by have := of_decide_eq_true h8; omega))]
    exact rt1 hs rfl rfl ⟨by rw [hX], by rw [hX]; exact hw⟩
  | false =>
  rw [h8] at hs
  repeat (first | (refine sxv hs hw ?_; clear hs; intro a hs) | refine sxc hs ?_ | (refine sxa hs hw ?_; clear hs hw; intro a b W hw hs) | (refine sxs hs hw ?_; clear hs hw; intro W hs hw) | ((with_reducible first | refine st_ptrSome hs (k := ?_) | refine st_ptrNone hs (k := ?_)); clear hs; intro a hs))
  have hX : applyD d l = (if (goD l d).1 = 0 then (0, (goD l d).2) else ((goD l d).1, d)) := by
    unfold applyD
    rw [if_neg]
    rintro (h | h)
    · rw [h] at h0; simp at h0
    · have := of_decide_eq_false h8; omega
  rw [hX]
  clear hX h0 h8
  refine st_call hs (hc := doc_Copy w0 _ p d _ hw) (k := ?_); rintro e0 W1 ⟨c, rfl, hw1⟩; refine ⟨_, rfl, ?_⟩; clear hs hw; intro a hs; have hw := hw1; clear hw1
  repeat (first | (refine sxv hs hw ?_; clear hs; intro a hs) | refine sxc hs ?_ | (refine sxa hs hw ?_; clear hs hw; intro a b W hw hs) | (refine sxs hs hw ?_; clear hs hw; intro W hs hw) | ((with_reducible first | refine st_ptrSome hs (k := ?_) | refine st_ptrNone hs (k := ?_)); clear hs; intro a hs))
  refine st_loop (σ := Nat × Dm) (fun t => [(0, .pointer (some ⟨p, 0, none⟩)), (5, .pointer (some ⟨c, 0, none⟩)), (23, .slice sad l.length scap), (24, .int .i64 (l.length : Int)), (25, .int .i64 (t.1 : Int))]) (fun t => DocAt c t.2 :: DocAt p d :: R) (fun t => t.1 ≤ l.length ∧ goD (l.drop t.1) t.2 = goD l d) (fun t => l.length - t.1) (0, d) ⟨Nat.zero_le _, rfl⟩ hs ⟨rfl, rfl, rfl, rfl, rfl, trivial⟩ hw ?_
  clear hs hw
  rintro ⟨j, dc⟩ a W ⟨hj, hgo⟩ hs hw
  simp only at hj hgo hs hw
  repeat (first | (refine sxv hs hw ?_; clear hs; intro a hs) | refine sxc hs ?_ | (refine sxa hs hw ?_; clear hs hw; intro a b W hw hs) | (refine sxs hs hw ?_; clear hs hw; intro W hs hw) | ((with_reducible first | refine st_ptrSome hs (k := ?_) | refine st_ptrNone hs (k := ?_)); clear hs; intro a hs))
  refine cd_split hs (kt := fun hcc => ?_) (kf := fun hcc => ?_)
  · have hj' : j < l.length := by have := of_decide_eq_true hcc; omega
    obtain ⟨o, hoi⟩ : ∃ o, l[j]? = some o := ⟨l[j], List.getElem?_eq_getElem hj'⟩
    have hok := ho o (List.mem_of_getElem? hoi)
    have hdrop : l.drop j = o :: l.drop (j + 1) := by
      rw [List.drop_eq_getElem_cons hj']
      congr 1
      rw [List.getElem?_eq_getElem hj'] at hoi
      exact Option.some.inj hoi
    rw [hdrop] at hgo
    simp only [goD] at hgo
    repeat (first | (refine sxv hs hw ?_; clear hs; intro a hs) | refine sxc hs ?_ | (refine sxa hs hw ?_; clear hs hw; intro a b W hw hs) | (refine sxs hs hw ?_; clear hs hw; intro W hs hw) | ((with_reducible first | refine st_ptrSome hs (k := ?_) | refine st_ptrNone hs (k := ?_)); clear hs; intro a hs))
    refine st_index_op hs (r := hw.rdH (by repeat (first | exact i | apply In.tl)) r) (ho := hoi) (c := ?_); clear hs; intro a q off hpc hs
    refine st_load_ats (z := opCells ⟨0, ⟨#[]⟩, 0, 0, ⟨#[]⟩, 0, 0, ⟨#[]⟩, 0⟩) hs (hc := hpc) (hl := rfl) (c := ?_); clear hs; intro a hs
    clear hpc
    have hM := fun W hT => op_May o.kind o.key o.vk o.vn o.vs o.ok o.on o.os o.n W hok.key hok.vs hok.os hT
    have hM : ∀ W, Tabs W → Calls Tryd.prog 43 ⟨[.agg ⟨opCells o⟩]⟩ W fun e w' => e = .returned (.bool (mayD o)) ∧ Below W.heap.size W w' := hM
    repeat (first | (refine sxv hs hw ?_; clear hs; intro a hs) | refine sxc hs ?_ | (refine sxa hs hw ?_; clear hs hw; intro a b W hw hs) | (refine sxs hs hw ?_; clear hs hw; intro W hs hw) | ((with_reducible first | refine st_ptrSome hs (k := ?_) | refine st_ptrNone hs (k := ?_)); clear hs; intro a hs))
    obtain ⟨b7, q7⟩ := nm1 hw; subst q7
    have hw : Has 0 w0 _ (Cells b7 (opCells o) 38 :: DocAt c dc :: DocAt p d :: R) := hw
    refine st_call hs (hc := hM _ (hT.keep (hw.endF (by repeat (first | exact i | apply In.tl)) hH))) (k := ?_); rintro e0 W1 ⟨rfl, hb⟩; refine ⟨_, rfl, ?_⟩; clear hs; intro a hs; replace hw := hw.below hb; clear hb
    repeat (first | (refine sxv hs hw ?_; clear hs; intro a hs) | refine sxc hs ?_ | (refine sxa hs hw ?_; clear hs hw; intro a b W hw hs) | (refine sxs hs hw ?_; clear hs hw; intro W hs hw) | ((with_reducible first | refine st_ptrSome hs (k := ?_) | refine st_ptrNone hs (k := ?_)); clear hs; intro a hs))
    cases hm : mayD o with
    | false =>
      rw [hm] at hs hgo
      rw [if_pos rfl] at hgo
      repeat (first | (refine sxv hs hw ?_; clear hs; intro a hs) | refine sxc hs ?_ | (refine sxa hs hw ?_; clear hs hw; intro a b W hw hs) | (refine sxs hs hw ?_; clear hs hw; intro W hs hw) | ((with_reducible first | refine st_ptrSome hs (k := ?_) | refine st_ptrNone hs (k := ?_)); clear hs; intro a hs))
      rw [← hgo, if_neg (by show ¬ (1 : Int) = 0; decide)]
      exact rt1 hs rfl rfl ⟨rfl, hw.sub (List.Sublist.cons _ (List.Sublist.cons _ (List.Sublist.refl _)))⟩
    | true =>
    rw [hm] at hs hgo
    rw [if_neg (by decide)] at hgo
    repeat (first | (refine sxv hs hw ?_; clear hs; intro a hs) | refine sxc hs ?_ | (refine sxa hs hw ?_; clear hs hw; intro a b W hw hs) | (refine sxs hs hw ?_; clear hs hw; intro W hs hw) | ((with_reducible first | refine st_ptrSome hs (k := ?_) | refine st_ptrNone hs (k := ?_)); clear hs; intro a hs))
    refine st_call hs (hc := doc_do w0 _ H c dc o _ (hok.ok hm) (by repeat (first | exact i | apply In.tl)) hH hT hw.swap2) (k := ?_); rintro e0 W1 ⟨rfl, hw1⟩; refine ⟨_, rfl, ?_⟩; clear hs hw; intro a hs; have hw := hw1; clear hw1
    repeat (first | (refine sxv hs hw ?_; clear hs; intro a hs) | refine sxc hs ?_ | (refine sxa hs hw ?_; clear hs hw; intro a b W hw hs) | (refine sxs hs hw ?_; clear hs hw; intro W hs hw) | ((with_reducible first | refine st_ptrSome hs (k := ?_) | refine st_ptrNone hs (k := ?_)); clear hs; intro a hs))
    cases he : ((doOp dc o).1 != 0) with
    | true =>
      rw [he] at hs
      rw [if_neg (by simpa using he)] at hgo
      repeat (first | (refine sxv hs hw ?_; clear hs; intro a hs) | refine sxc hs ?_ | (refine sxa hs hw ?_; clear hs hw; intro a b W hw hs) | (refine sxs hs hw ?_; clear hs hw; intro W hs hw) | ((with_reducible first | refine st_ptrSome hs (k := ?_) | refine st_ptrNone hs (k := ?_)); clear hs; intro a hs))
      rw [← hgo, if_neg (by simpa using he)]
      exact rt1 hs rfl rfl ⟨rfl, hw.sub (List.Sublist.cons _ (List.Sublist.cons _ (List.Sublist.refl _)))⟩
    | false =>
    rw [he] at hs
    rw [if_pos (by simpa using he)] at hgo
    repeat (first | (refine sxv hs hw ?_; clear hs; intro a hs) | refine sxc hs ?_ | (refine sxa hs hw ?_; clear hs hw; intro a b W hw hs) | (refine sxs hs hw ?_; clear hs hw; intro W hs hw) | ((with_reducible first | refine st_ptrSome hs (k := ?_) | refine st_ptrNone hs (k := ?_)); clear hs; intro a hs))
    exact st_again (j + 1, (doOp dc o).2) hs hw.drop2 ⟨by show j + 1 ≤ l.length; omega, hgo⟩ (by show l.length - (j + 1) < l.length - j; omega) ⟨rfl, rfl, rfl, rfl, int_eq (by show IntKind.i64.wrap ((j : Int) + 1) = ((j + 1 : Nat) : Int); rw [IntWalk.i64_in _ (by omega)]; omega), trivial⟩
  · have hj' : j = l.length := by have := of_decide_eq_false hcc; omega
    subst hj'
    rw [List.drop_length] at hgo
    rw [← hgo]
    simp only [goD, if_true]
    obtain ⟨m1, d1, hp1, hk1, hw⟩ := docOpen hw
    have hw : Has 0 w0 _ (DocAt p d :: Cells c [.map (some m1)] 85 :: MapOf m1 (kvOf d1) :: R) := hw.perm (by repeat (first | exact List.Perm.refl _ | refine perm_pick (by repeat (first | exact Pick.hd | apply Pick.tl)) ?_))
    obtain ⟨m2, d2, hp2, hk2, hw⟩ := docOpen hw
    repeat (first | (refine sxv hs hw ?_; clear hs; intro a hs) | refine sxc hs ?_ | (refine sxa hs hw ?_; clear hs hw; intro a b W hw hs) | (refine sxs hs hw ?_; clear hs hw; intro W hs hw) | ((with_reducible first | refine st_ptrSome hs (k := ?_) | refine st_ptrNone hs (k := ?_)); clear hs; intro a hs))
    have hw : Has 0 w0 _ (Cells p [.map (some m1)] 85 :: MapOf m1 (kvOf d1) :: MapOf m2 (kvOf d2) :: Cells c [.map (some m1)] 85 :: R) := hw.perm (by repeat (first | exact List.Perm.refl _ | refine perm_pick (by repeat (first | exact Pick.hd | apply Pick.tl)) ?_))
    have hw := docShut hw hp1 hk1
    exact rt1 hs rfl rfl ⟨rfl, hw.sub (List.Sublist.cons_cons _ (List.Sublist.cons _ (List.Sublist.cons _ (List.Sublist.refl _))))⟩
theorem doc_Apply (w0 W : World) (H : Fh) (p : Nat) (d : Dm) (l : List OpD) (sv : Value) (R : List Res) (ho : ∀ o ∈ l, OpOk o) (r : RdH H 9 sv l.length (l.flatMap opCells)) (i : In (Fz H) R) (hH : (fr w0).le H) (hT : Tabs w0) (hw : Has 0 w0 W (DocAt p d :: R)) :
    Calls Tryd.prog 22 ⟨[.pointer (some ⟨p, 0, none⟩), sv]⟩ W fun e W' => e = .returned (.int .i64 (applyD d l).1) ∧ Has 0 w0 W' (DocAt p (applyD d l).2 :: R) :=
  doc_ApplyW w0 W H p d l sv R (fun o h => (ho o h).w) r i hH hT hw
end Go.Proofs.YtmalklakaalaoaaDoor.Sw

set_option linter.unusedVariables false
namespace Go.Proofs.YtmalklakaalaoaaDoor.Sw
open Go.RowKit
end Go.Proofs.YtmalklakaalaoaaDoor.Sw

set_option linter.unusedVariables false
set_option maxRecDepth 10000
namespace Go.Proofs.YtmalklakaalaoaaDoor.Sw
open Go.RowKit Go.Sx
theorem ba_eq {s t : ByteArray} (h : s.toList = t.toList) : s = t := by
  rw [Go.ByteArray.toList_eq, Go.ByteArray.toList_eq] at h
  apply ByteArray.ext
  exact Array.toList_inj.1 h
theorem ba_mk (s : ByteArray) : (⟨s.data.toList.toArray⟩ : ByteArray) = s := by
  apply ByteArray.ext
  simp
theorem rawEq_iff {k n : Int} {s : ByteArray} {k' n' : Int} {s' : ByteArray} : rawEq k n s k' n' s' = true ↔ k = k' ∧ n = n' ∧ s = s' := by
  unfold rawEq
  simp only [Bool.and_eq_true, beq_iff_eq]
  constructor
  · rintro ⟨⟨h1, h2⟩, h3⟩
    exact ⟨h1, h2, ba_eq h3⟩
  · rintro ⟨rfl, rfl, rfl⟩
    exact ⟨⟨rfl, rfl⟩, rfl⟩
theorem mayBatch_parts {c q : Int} {l : List OpD} (h : mayBatch c q l = true) : (1 ≤ c ∧ c ≤ 5) ∧ (1 ≤ q ∧ q ≤ 1099511627776) ∧ (1 ≤ l.length ∧ l.length ≤ 8) ∧ l.all mayD = true ∧ (textB c q l).length ≤ 1200 := by
  unfold mayBatch at h
  simp only [Bool.and_eq_true, Bool.not_eq_true', decide_eq_false_iff_not, decide_eq_true_eq] at h
  obtain ⟨⟨⟨⟨⟨⟨⟨h1, h2⟩, h3⟩, h4⟩, h5⟩, h6⟩, h7⟩, h8⟩ := h
  exact ⟨by omega, by omega, by omega, h7, by omega⟩
def eqOp (o o' : OpD) : Bool := (o.kind == o'.kind) && (o.key.toList == o'.key.toList) && rawEq o.vk o.vn o.vs o'.vk o'.vn o'.vs && rawEq o.ok o.on o.os o'.ok o'.on o'.os && (o.n == o'.n)
def eqOps (l l' : List OpD) : Bool := (l.zip l').all fun p => eqOp p.1 p.2
theorem textB_pos (c q : Int) (l : List OpD) : 0 < (textB c q l).length := by
  have h4 : 0 < (Ph.putI c).length := List.length_pos_iff.2 (Ph.putI_ne_nil c)
  unfold textB headB
  simp only [List.length_append]
  omega
end Go.Proofs.YtmalklakaalaoaaDoor.Sw

set_option linter.unusedVariables false
namespace Go.Sx
open Go.RowKit
def Ch {α : Type} (R : α → List Value → Prop) : List α → List Value → Prop
  | [], cs => cs = []
  | a :: l, cs => ∃ c cs', cs = c ++ cs' ∧ R a c ∧ Ch R l cs'
section
variable {α : Type} {R R' : α → List Value → Prop} {k : Nat}
theorem Ch.length (hk : ∀ a c, R a c → c.length = k) : ∀ {l : List α} {cs : List Value}, Ch R l cs → cs.length = l.length * k
  | [], cs, h => by
    have h : cs = [] := h
    subst h; simp
  | a :: l, _, ⟨c, cs', rfl, h1, h2⟩ => by
    have := Ch.length hk h2
    have := hk a c h1
    rw [List.length_append, List.length_cons, Nat.add_mul]; omega
theorem Ch.app : ∀ {l m : List α} {cs ds : List Value}, Ch R l cs → Ch R m ds → Ch R (l ++ m) (cs ++ ds)
  | [], m, cs, ds, h, h2 => by
    have h : cs = [] := h
    subst h; exact h2
  | a :: l, m, _, ds, ⟨c, cs', rfl, h1, h2⟩, h3 => ⟨c, cs' ++ ds, by simp, h1, Ch.app h2 h3⟩
theorem Ch.mono (h : ∀ a c, R a c → R' a c) : ∀ {l : List α} {cs : List Value}, Ch R l cs → Ch R' l cs
  | [], cs, h0 => h0
  | a :: l, _, ⟨c, cs', e, h1, h2⟩ => ⟨c, cs', e, h a c h1, Ch.mono h h2⟩
theorem Ch.split (hk : ∀ a c, R a c → c.length = k) : ∀ {l : List α} {cs : List Value} {i : Nat} {a : α}, Ch R l cs → l[i]? = some a →
    ∃ cs1 c cs2, cs = cs1 ++ (c ++ cs2) ∧ cs1.length = i * k ∧ R a c ∧ Ch R (l.take i) cs1 ∧ Ch R (l.drop (i + 1)) cs2
  | [], _, _, _, _, h => by simp at h
  | b :: l, _, 0, a, ⟨c, cs', rfl, h1, h2⟩, h => by
    simp only [List.getElem?_cons_zero, Option.some.injEq] at h
    subst h
    exact ⟨[], c, cs', rfl, by simp, h1, rfl, h2⟩
  | b :: l, _, i + 1, a, ⟨c, cs', rfl, h1, h2⟩, h => by
    rw [List.getElem?_cons_succ] at h
    obtain ⟨cs1, c', cs2, rfl, h3, h4, h5, h6⟩ := Ch.split hk h2 h
    refine ⟨c ++ cs1, c', cs2, by simp, ?_, h4, ⟨c, cs1, rfl, h1, h5⟩, h6⟩
    have := hk b c h1
    rw [List.length_append, Nat.add_mul]; omega
theorem Ch.get (hk : ∀ a c, R a c → c.length = k) {l : List α} {cs : List Value} {i : Nat} {a : α} (h : Ch R l cs) (hi : l[i]? = some a) : ∃ c, R a c ∧ c.length = k ∧ cut cs (i * k) k = c := by
  obtain ⟨cs1, c, cs2, rfl, h1, h2, _, _⟩ := h.split hk hi
  have := hk a c h2
  refine ⟨c, h2, this, ?_⟩
  rw [cut_eq, List.drop_append, h1, Nat.sub_self, List.drop_of_length_le (by omega), List.nil_append, List.drop_zero, List.take_append_of_le_length (by omega), List.take_of_length_le (by omega)]
theorem Ch.set (hk : ∀ a c, R a c → c.length = k) {l : List α} {cs : List Value} {i : Nat} {a : α} {c : List Value} (h : Ch R l cs) (hi : i < l.length) (ha : R a c) : Ch R (l.set i a) (ov cs (i * k) c) := by
  obtain ⟨cs1, c0, cs2, rfl, h1, h2, h3, h4⟩ := h.split hk (i := i) (a := l[i]) (by simp [hi])
  have e1 := hk _ _ h2
  have e2 := hk _ _ ha
  rw [ov_eq _ _ _ (by simp; omega), List.set_eq_take_append_cons_drop, if_pos hi]
  have e3 : (cs1 ++ (c0 ++ cs2)).take (i * k) = cs1 := by rw [← h1]; simp
  have e4 : (cs1 ++ (c0 ++ cs2)).drop (i * k + c.length) = cs2 := by
    rw [← List.append_assoc, ← h1, e2, ← e1, ← List.length_append, List.drop_left]
  rw [e3, e4, List.append_assoc]
  exact h3.app ⟨c, cs2, rfl, ha, h4⟩
end
section
variable {P : Program} {ops : Array Oper} {rest : List Oper} {Q : Exit → Act → World → Prop} {a : Act} {n : Nat} {L : List (Nat × Value)} {W : World} {d k : Nat} {T S E : TypeId} {p : String} {e : Array Edge} {x y : Operand} {v : Value} {xs : List Value} {i : Nat} {q : IntKind} {z : List Value} {α : Type} {R : α → List Value → Prop} {l : List α} {u : α}
theorem st_index_ch {agg : Bool} {sz : Nat} [sl : Sl P S E] [t : Ty P E agg z] (hs : Slots a n L) (r : Rd W sz v k xs) (hk : ∀ a c, R a c → c.length = sz) (ch : Ch R l xs) (ho : l[i]? = some u) (hlen : l.length = k) (hx : ev L x = some v := by with_unfolding_all exact rfl) (hy : ev L y = some (.int q (i : Int)) := by with_unfolding_all exact rfl) (hd : Nat.blt d n = true := by with_unfolding_all exact rfl) (hz : z.length = sz := by with_unfolding_all exact rfl)
    (c : ∀ a' b o c, R u c → c.length = sz → (∀ j u, c[j]? = some u → W.cell? ⟨b, o + j, none⟩ = some u) → b < W.heap.size → Slots a' n ((d, .pointer (some ⟨b, o, none⟩)) :: L) → wpList P ops Q rest a' W) : wpList P ops Q (⟨some d, .indexAddr S x y, T, p, e, none⟩ :: rest) a W := by
  subst hz
  have hi := (List.getElem?_eq_some_iff.1 ho).1
  obtain ⟨cc, h1, h2, h3⟩ := ch.get hk ho
  refine st_indexAddr hs hx hy r (by omega) (by omega) hd fun a' b o h4 h5 h6 => c a' b o cc h1 h2 ?_ h5 h6
  rw [Int.toNat_natCast] at h4
  rw [← h3]
  exact h4
end
section
variable {P : Program} {ops : Array Oper} {rest : List Oper} {Q : Exit → Act → World → Prop} {a : Act} {n G : Nat} {L : List (Nat × Value)} {w W : World} {R : List Res} {d b size bytes m : Nat} {T S S' E : TypeId} {p : String} {e : Array Edge} {x y : Operand} {v : Value} {xs c : List Value} {α : Type} {Rr : α → List Value → Prop} {l : List α} {u : α}
end
section
variable {G : Nat} {w W : World} {R : List Res} {H : Fh}
def FzF (H : Fh) (p : Prop) : Res where
  ok F W := p ∧ (Fz H).ok F W
  loc F W W' h k := ⟨k.1, (Fz H).loc F W W' h k.2⟩
theorem Has.fzf {q : Prop} (h : Has G w W (Fz H :: R)) (hq : q) : Has G w W (FzF H q :: R) := by
  obtain ⟨F1, h1, h2, h3⟩ := h.has
  exact ⟨h.ext, h.glob, F1, h1, ⟨hq, h2⟩, h3⟩
theorem Has.unfzf {q : Prop} (h : Has G w W (FzF H q :: R)) : q ∧ Has G w W (Fz H :: R) := by
  obtain ⟨F1, h1, ⟨hq, h2⟩, h3⟩ := h.has
  exact ⟨hq, h.ext, h.glob, F1, h1, h2, h3⟩
end
theorem drop_of {α : Type} {l : List α} {j : Nat} {o : α} (h : l[j]? = some o) : l.drop j = o :: l.drop (j + 1) := by
  have hj := (List.getElem?_eq_some_iff.1 h).1
  rw [List.drop_eq_getElem_cons hj]
  congr 1
  rw [List.getElem?_eq_getElem hj] at h
  exact Option.some.inj h
theorem take_of {α : Type} {l : List α} {j : Nat} {o : α} (h : l[j]? = some o) : l.take (j + 1) = l.take j ++ [o] := by
  rw [List.take_add_one, h]; rfl
end Go.Sx

set_option linter.unusedVariables false
set_option maxRecDepth 10000
namespace Go.Proofs.YtmalklakaalaoaaDoor.Sw
open Go.RowKit Go.Sx
def lessK (a b : ByteArray) : Bool := Ph.lessL a.data.toList b.data.toList
def setL : Dm → ByteArray → DV → Dm
  | [], k, v => [(k, v)]
  | p :: d, k, v => match lessK p.1 k with
    | false => (k, v) :: delD (p :: d) k
    | true => match ks k p.1 with
      | true => setL d k v
      | false => p :: setL d k v
theorem delD_cons (p : ByteArray × DV) (d : Dm) (k : ByteArray) : delD (p :: d) k = match ks k p.1 with | true => delD d k | false => p :: delD d k := by
  unfold delD
  rw [List.filter_cons]
  cases ks k p.1 <;> rfl
theorem setL_perm : ∀ (d : Dm) (k : ByteArray) (v : DV), (setL d k v).Perm (setD d k v)
  | [], k, v => List.Perm.refl _
  | p :: d, k, v => by
    have ih := setL_perm d k v
    unfold setD at ih ⊢
    simp only [setL]
    cases lessK p.1 k with
    | false => exact List.Perm.refl _
    | true =>
      simp only
      rw [delD_cons]
      cases ks k p.1 with
      | true => exact ih
      | false => exact (ih.cons p).trans (List.Perm.swap _ _ _)
def setRL (d : Dm) (k : ByteArray) (x : Option DV) : Int × Dm :=
  match x with
  | none => (0, delD d k)
  | some v => if (getK d k).isSome = false ∧ 50 ≤ d.length then (6, d) else (0, setL d k v)
def doL (d : Dm) (o : OpD) : Int × Dm :=
  if o.kind = 3 then (if eqV (getK d o.key) (ofRaw o.ok o.on o.os).1 then setRL d o.key (ofRaw o.vk o.vn o.vs).1 else (8, d))
  else if o.kind = 4 then
    if (kindOf (getK d o.key) != 0 && !isInt (getK d o.key)) = true then (7, d)
    else if (!inB (intIn (getK d o.key)) || !inB (IntKind.i64.wrap (intIn (getK d o.key) + o.n))) = true then (4, d)
    else setRL d o.key (some (.inl (IntKind.i64.wrap (intIn (getK d o.key) + o.n))))
  else setRL d o.key (ofRaw o.vk o.vn o.vs).1
def goL : List OpD → Dm → Int × Dm
  | [], d => (0, d)
  | o :: l, d => if mayD o = false then (1, d) else if (doL d o).1 = 0 then goL l (doL d o).2 else ((doL d o).1, d)
def applyL (d : Dm) (l : List OpD) : Int × Dm :=
  if l.length = 0 ∨ 8 < l.length then (1, d) else if (goL l d).1 = 0 then (0, (goL l d).2) else ((goL l d).1, d)
def Like (a b : Int × Dm) : Prop := a.1 = b.1 ∧ a.2.Perm b.2 ∧ dKeys b.2
theorem setRL_like {d d' : Dm} (hp : d'.Perm d) (hk : dKeys d) (k : ByteArray) (x : Option DV) : Like (setR d' k x) (setRL d k x) := by
  cases x with
  | none => exact ⟨rfl, delD_perm hp k, delD_keys hk k⟩
  | some v =>
    unfold setR setRL
    simp only
    rw [getK_perm hp ((dKeys_perm hp).2 hk), hp.length_eq]
    by_cases h : (getK d k).isSome = false ∧ 50 ≤ d.length
    · rw [if_pos h, if_pos h]
      exact ⟨rfl, hp, hk⟩
    · rw [if_neg h, if_neg h]
      exact ⟨rfl, (setD_perm hp k v).trans (setL_perm d k v).symm, (dKeys_perm (setL_perm d k v)).2 (setD_keys hk k v)⟩
theorem doL_like {d d' : Dm} (hp : d'.Perm d) (hk : dKeys d) (o : OpD) : Like (doOp d' o) (doL d o) := by
  unfold doOp doL
  rw [getK_perm hp ((dKeys_perm hp).2 hk)]
  split
  · split
    · exact setRL_like hp hk _ _
    · exact ⟨rfl, hp, hk⟩
  · split
    · split
      · exact ⟨rfl, hp, hk⟩
      · split
        · exact ⟨rfl, hp, hk⟩
        · exact setRL_like hp hk _ _
    · exact setRL_like hp hk _ _
theorem goL_like : ∀ (l : List OpD) {d d' : Dm}, d'.Perm d → dKeys d → Like (goD l d') (goL l d)
  | [], d, d', hp, hk => ⟨rfl, hp, hk⟩
  | o :: l, d, d', hp, hk => by
    unfold goD goL
    obtain ⟨h1, h2, h3⟩ := doL_like hp hk o
    by_cases hm : mayD o = false
    · rw [if_pos hm, if_pos hm]
      exact ⟨rfl, hp, hk⟩
    · rw [if_neg hm, if_neg hm, h1]
      by_cases he : (doL d o).1 = 0
      · rw [if_pos he, if_pos he]
        exact goL_like l h2 h3
      · rw [if_neg he, if_neg he]
        exact ⟨rfl, hp, hk⟩
theorem applyL_like {d d' : Dm} (hp : d'.Perm d) (hk : dKeys d) (l : List OpD) : Like (applyD d' l) (applyL d l) := by
  unfold applyD applyL
  obtain ⟨h1, h2, h3⟩ := goL_like l hp hk
  by_cases h : l.length = 0 ∨ 8 < l.length
  · rw [if_pos h, if_pos h]
    exact ⟨rfl, hp, hk⟩
  · rw [if_neg h, if_neg h, h1]
    by_cases he : (goL l d).1 = 0
    · rw [if_pos he, if_pos he]
      exact ⟨rfl, h2, h3⟩
    · rw [if_neg he, if_neg he]
      exact ⟨rfl, hp, hk⟩
theorem docLike {G p : Nat} {w W : World} {R : List Res} {d d' : Dm} (h : Has G w W (DocAt p d :: R)) (hp : d.Perm d') : Has G w W (DocAt p d' :: R) := by
  obtain ⟨m, d2, h1, h2, h3⟩ := docOpen h
  exact docShut h3 (h1.trans hp) ((dKeys_perm hp).1 h2)
theorem docKeys {G p : Nat} {w W : World} {R : List Res} {d : Dm} (h : Has G w W (DocAt p d :: R)) : dKeys d := by
  obtain ⟨m, d2, h1, h2, h3⟩ := docOpen h
  exact h2
theorem doc_ApplyL (w0 W : World) (H : Fh) (p : Nat) (d : Dm) (l : List OpD) (sv : Value) (R : List Res) (ho : ∀ o ∈ l, OpOk o) (r : RdH H 9 sv l.length (l.flatMap opCells)) (i : In (Fz H) R) (hH : (fr w0).le H) (hT : Tabs w0) (hw : Has 0 w0 W (DocAt p d :: R)) :
    Calls Tryd.prog 22 ⟨[.pointer (some ⟨p, 0, none⟩), sv]⟩ W fun e W' => e = .returned (.int .i64 (applyL d l).1) ∧ Has 0 w0 W' (DocAt p (applyL d l).2 :: R) := by
  have hk := docKeys hw
  obtain ⟨h1, h2, h3⟩ := applyL_like (List.Perm.refl d) hk l
  refine (doc_Apply w0 W H p d l sv R ho r i hH hT hw).mono ?_
  rintro e W' ⟨rfl, h⟩
  exact ⟨by rw [h1], docLike h h2⟩
structure PairOk (p : ByteArray × DV) : Prop where
  key : p.1.size ≤ 1000000
  num : ∀ n, p.2 = .inl n → i64 n
  txt : ∀ s, p.2 = .inr s → s.size ≤ 200 ∧ Lib.validD s.data.toList = true
structure DocOk (d : Dm) : Prop where
  keys : dKeys d
  len : d.length ≤ 50
  all : ∀ p ∈ d, PairOk p
theorem DocOk.nil : DocOk [] := ⟨by unfold dKeys; simp, by simp, by simp⟩
theorem delD_len (d : Dm) (k : ByteArray) : (delD d k).length ≤ d.length := List.length_filter_le _ _
theorem delD_less {d : Dm} {k : ByteArray} (h : (getK d k).isSome = true) : (delD d k).length < d.length := by
  have h1 : k ∈ d.map (·.1) := by
    cases hg : getK d k with
    | none => rw [hg] at h; cases h
    | some v => exact Classical.byContradiction fun hn => by rw [getK_none.2 hn] at hg; cases hg
  obtain ⟨p, hp, rfl⟩ := List.mem_map.1 h1
  have h3 := List.length_eq_countP_add_countP (fun q : ByteArray × DV => !ks p.1 q.1) (l := d)
  have h4 : 0 < d.countP (fun q => decide ¬(!ks p.1 q.1) = true) := List.countP_pos_iff.2 ⟨p, hp, by simp [ks_self]⟩
  have h5 : (delD d p.1).length = d.countP (fun q => !ks p.1 q.1) := by unfold delD; rw [List.countP_eq_length_filter]
  omega
theorem setRL_ok {d : Dm} (h : DocOk d) {k : ByteArray} {x : Option DV} (hx : ∀ v, x = some v → PairOk (k, v)) : DocOk (setRL d k x).2 := by
  cases x with
  | none => exact ⟨delD_keys h.keys k, Nat.le_trans (delD_len d k) h.len, fun p hp => h.all p ((List.mem_filter.1 hp).1)⟩
  | some v =>
    unfold setRL
    simp only
    by_cases hc : (getK d k).isSome = false ∧ 50 ≤ d.length
    · rw [if_pos hc]; exact h
    · rw [if_neg hc]
      have hp := setL_perm d k v
      refine ⟨(dKeys_perm hp).2 (setD_keys h.keys k v), ?_, fun p hm => ?_⟩
      · rw [hp.length_eq]
        show (delD d k).length + 1 ≤ 50
        cases hg : (getK d k).isSome with
        | true =>
          have := delD_less hg
          have := h.len
          omega
        | false =>
          have := delD_len d k
          have : ¬ 50 ≤ d.length := fun hh => hc ⟨hg, hh⟩
          omega
      · rcases List.mem_cons.1 (hp.mem_iff.1 hm) with rfl | hm
        · exact hx v rfl
        · exact h.all p ((List.mem_filter.1 hm).1)
theorem ofRaw_pair {k n : Int} {s key : ByteArray} (hk : key.size ≤ 1000000) (hn : i64 n) : ∀ v, (ofRaw k n s).1 = some v → PairOk (key, v) := by
  intro v hv
  unfold ofRaw at hv
  split at hv
  · cases hv
  · split at hv
    · cases hv
      exact ⟨hk, (fun m h => by cases h; exact hn), (fun t h => by cases h)⟩
    · split at hv
      · rename_i c
        cases hv
        exact ⟨hk, (fun m h => by cases h), (fun t h => by cases h; exact ⟨c.2.2.1, c.2.2.2⟩)⟩
      · cases hv
theorem wrap_i64 (n : Int) : i64 (IntKind.i64.wrap n) := by
  unfold i64
  rw [IntKind.wrap_i64]; omega
theorem doL_ok {d : Dm} (h : DocOk d) {o : OpD} (ho : OpOk o) : DocOk (doL d o).2 := by
  unfold doL
  split
  · split
    · exact setRL_ok h (ofRaw_pair ho.key ho.vn)
    · exact h
  · split
    · split
      · exact h
      · split
        · exact h
        · exact setRL_ok h fun v hv => by
            cases hv
            exact ⟨ho.key, (fun n hn => by cases hn; exact wrap_i64 _), (fun s hs => by cases hs)⟩
    · exact setRL_ok h (ofRaw_pair ho.key ho.vn)
theorem goL_ok : ∀ (l : List OpD) {d : Dm}, DocOk d → (∀ o ∈ l, OpOk o) → DocOk (goL l d).2
  | [], d, h, _ => h
  | o :: l, d, h, ho => by
    unfold goL
    split
    · exact h
    · split
      · exact goL_ok l (doL_ok h (ho o (by simp))) fun o' ho' => ho o' (by simp [ho'])
      · exact h
theorem applyL_ok {d : Dm} (h : DocOk d) {l : List OpD} (ho : ∀ o ∈ l, OpOk o) : DocOk (applyL d l).2 := by
  unfold applyL
  split
  · exact h
  · split
    · exact goL_ok l h ho
    · exact h
end Go.Proofs.YtmalklakaalaoaaDoor.Sw

set_option linter.unusedVariables false
namespace Go.Proofs.YtmalklakaalaoaaDoor
open Go.RowKit
-- pieces
end Go.Proofs.YtmalklakaalaoaaDoor

set_option linter.unusedVariables false
set_option maxRecDepth 10000
namespace Go.Proofs.YtmalklakaalaoaaDoor.Sw
open Go.RowKit Go.Sx
-- pieces
def rawCells (x : Option DV) : List Value := [.int .i64 (kindOf x), .int .i64 (intIn x), .string (textIn x)]
end Go.Proofs.YtmalklakaalaoaaDoor.Sw

set_option linter.unusedVariables false
set_option maxRecDepth 10000
namespace Go.Proofs.YtmalklakaalaoaaDoor.Sw
open Go.RowKit Go.Sx
-- pieces
end Go.Proofs.YtmalklakaalaoaaDoor.Sw

set_option linter.unusedVariables false
set_option maxRecDepth 10000
namespace Go.Proofs.YtmalklakaalaoaaDoor.Sw
open Go.RowKit Go.Sx
-- pieces
set_option maxHeartbeats 4000000 in
theorem bytes_Equal (l m : List UInt8) (v u : Value) (w : World) (r : RdB w v l) (r' : RdB w u m) :
    Calls Tryd.prog 29 ⟨[v, u]⟩ w fun e w' => e = .returned (.bool (l == m)) ∧ Below w.heap.size w w' := by
  have hw := Has.start (G := 0) (w := w) (Nat.zero_le _)
  refine enter Tryd.func29 Tryd.ntmps29 rfl rfl fun a hs => ?_
  repeat (first | (refine sxv hs hw ?_; clear hs; intro a hs) | refine sxc hs ?_ | (refine sxa hs hw ?_; clear hs hw; intro a b W hw hs) | (refine sxs hs hw ?_; clear hs hw; intro W hs hw))
  refine st_string_b (hs := hs) (r := r) (k := ?_); clear hs; intro a hs
  repeat (first | (refine sxv hs hw ?_; clear hs; intro a hs) | refine sxc hs ?_ | (refine sxa hs hw ?_; clear hs hw; intro a b W hw hs) | (refine sxs hs hw ?_; clear hs hw; intro W hs hw))
  refine st_string_b (hs := hs) (r := r') (k := ?_); clear hs; intro a hs
  repeat (first | (refine sxv hs hw ?_; clear hs; intro a hs) | refine sxc hs ?_ | (refine sxa hs hw ?_; clear hs hw; intro a b W hw hs) | (refine sxs hs hw ?_; clear hs hw; intro W hs hw))
  have e : ((⟨l.toArray⟩ : ByteArray).toList == (⟨m.toArray⟩ : ByteArray).toList) = (l == m) := by
    rw [Go.ByteArray.toList_eq, Go.ByteArray.toList_eq]
  rw [e] at hs
  exact rt1 hs rfl rfl ⟨rfl, hw.end (by repeat (first | exact In.hd | apply In.tl))⟩
end Go.Proofs.YtmalklakaalaoaaDoor.Sw

set_option linter.unusedVariables false
set_option maxRecDepth 10000
namespace Go.Proofs.YtmalklakaalaoaaDoor.Sw
open Go.RowKit Go.Sx
-- pieces
abbrev OpsH (H : Fh) (sv : Value) (l : List OpD) : Prop := RdH H 9 sv l.length (l.flatMap opCells)
end Go.Proofs.YtmalklakaalaoaaDoor.Sw

set_option linter.unusedVariables false
set_option maxRecDepth 10000
namespace Go.Proofs.YtmalklakaalaoaaDoor.Sw
open Go.RowKit Go.Sx
-- pieces
instance arTold : Ar Tryd.prog 59 6 58 := ⟨by kernel_rfl⟩
theorem ops_one (l : List OpD) : ∀ u ∈ l.flatMap opCells, u.oneCell' = true := by
  intro u hu
  obtain ⟨o, _, ho⟩ := List.mem_flatMap.1 hu
  simp only [opCells, List.mem_cons, List.not_mem_nil, or_false] at ho
  rcases ho with rfl | rfl | rfl | rfl | rfl | rfl | rfl | rfl | rfl <;> rfl
set_option maxHeartbeats 4000000 in
theorem clone_ops (w0 W : World) (H : Fh) (l : List OpD) (sv : Value) (R : List Res) (hl : l.length ≤ 1000) (r : RdH H 9 sv l.length (l.flatMap opCells)) (hw : Has 0 w0 W (Fz H :: R)) :
    Calls Tryd.prog 45 ⟨[sv]⟩ W fun e W' => ∃ sv' H', e = .returned sv' ∧ H.le H' ∧ RdH H' 9 sv' l.length (l.flatMap opCells) ∧ Has 0 w0 W' (Fz H' :: R) := by
  obtain ⟨sad, scap, rfl⟩ := r.slice
  refine enter Tryd.func45 Tryd.ntmps45 rfl rfl fun a hs => ?_
  repeat (first | (refine sxv hs hw ?_; clear hs; intro a hs) | refine sxc hs ?_ | (refine sxa hs hw ?_; clear hs hw; intro a b W hw hs) | (refine sxs hs hw ?_; clear hs hw; intro W hs hw))
  refine st_eqnil hs (c := ?_); clear hs; intro a hs
  cases sad with
  | none =>
    repeat (first | (refine sxv hs hw ?_; clear hs; intro a hs) | refine sxc hs ?_ | (refine sxa hs hw ?_; clear hs hw; intro a b W hw hs) | (refine sxs hs hw ?_; clear hs hw; intro W hs hw))
    have h0 : l = [] := by
      obtain ⟨_, ad, cap, e, _, _, h | ⟨b, o, cs, T, z, h, _⟩⟩ := r
      · exact List.eq_nil_of_length_eq_zero h
      · injection e with e1 _ _
        rw [← e1] at h; cases h
    subst h0
    exact rt1 hs rfl rfl ⟨_, H, rfl, Fh.le.refl _, RdH.nil H 9 0 (by omega), hw⟩
  | some A =>
    rw [show (some A).isNone = false from rfl] at hs
    repeat (first | (refine sxv hs hw ?_; clear hs; intro a hs) | refine sxc hs ?_ | (refine sxa hs hw ?_; clear hs hw; intro a b W hw hs) | (refine sxs hs hw ?_; clear hs hw; intro W hs hw))
    refine st_buildSlice0 hs hw (c := ?_); clear hs hw; intro a ad W hw hs
    repeat (first | (refine sxv hs hw ?_; clear hs; intro a hs) | refine sxc hs ?_ | (refine sxa hs hw ?_; clear hs hw; intro a b W hw hs) | (refine sxs hs hw ?_; clear hs hw; intro W hs hw))
    refine st_append hs (hw := hw) (k := 0) (m := l.length) (xs := []) (news := l.flatMap opCells) (hsrc := src_rd (hw.rdH (In.tl In.hd) r) (ops_one l)) (h63 := by omega) (hb := by omega) (c := ?_)
    clear hs hw; intro a ad2 cap2 W hs hw
    repeat (first | (refine sxv hs hw ?_; clear hs; intro a hs) | refine sxc hs ?_ | (refine sxa hs hw ?_; clear hs hw; intro a b W hw hs) | (refine sxs hs hw ?_; clear hs hw; intro W hs hw))
    rw [List.nil_append, Nat.zero_add] at hw
    rw [Nat.zero_add] at hs
    obtain ⟨H', h1, h2, h3⟩ := hw.freeze_own
    exact rt1 hs rfl rfl ⟨_, H', rfl, h1, h3, h2⟩
structure BatchD where
  c : Int
  q : Int
  l : List OpD
structure RowD where
  place : Int
  b : BatchD
  err : Int
def batCells (b : BatchD) (sv : Value) : List Value := [.int .i64 b.c, .int .i64 b.q, sv]
def rowCells (r : RowD) (sv : Value) : List Value := [.int .i64 r.place, .int .i64 r.b.c, .int .i64 r.b.q, sv, .int .i64 r.err]
def TolIn (H : Fh) (x : Int × RowD) (cs : List Value) : Prop := ∃ sv, cs = .int .i64 x.1 :: rowCells x.2 sv ∧ OpsH H sv x.2.b.l
structure BatOk (b : BatchD) : Prop where
  c : i64 b.c
  q : i64 b.q
  ops : ∀ o ∈ b.l, OpOk o
def mayB (b : BatchD) : Bool := mayBatch b.c b.q b.l
def zeroRow : RowD := ⟨0, ⟨0, 0, []⟩, 0⟩
abbrev zrc : List Value := [.int .i64 0, .int .i64 0, .int .i64 0, .slice none 0 0, .int .i64 0]
theorem TolIn.len {H : Fh} : ∀ (b : Int × RowD) (c : List Value), TolIn H b c → c.length = 6 := by rintro b c ⟨sv, rfl, _⟩; rfl
theorem TolIn.le {H H' : Fh} (h : H.le H') : ∀ (b : Int × RowD) (c : List Value), TolIn H b c → TolIn H' b c := by rintro b c ⟨sv, rfl, h1⟩; exact ⟨sv, rfl, h1.le h⟩
theorem ops_nil (H : Fh) : OpsH H (.slice none 0 0) [] := RdH.nil H 9 0 (by omega)
structure FoldD where
  place : Int
  d : Dm
  told : List (Int × RowD)
def foldCells (pl : Int) (pd : Nat) (xs : List Value) : List Value := .int .i64 pl :: .pointer (some ⟨pd, 0, none⟩) :: xs
def ToldOk (H : Fh) (told : List (Int × RowD)) (xs : List Value) : Prop := told.length = 6 ∧ Ch (TolIn H) told xs
def FoldAt (H : Fh) (p : Nat) (f : FoldD) : Res := Ex fun x : Nat × List Value => Cells p (foldCells f.place x.1 x.2) 61 :: DocAt x.1 f.d :: Fact (ToldOk H f.told x.2) :: []
section
variable {G p pd : Nat} {w W : World} {R : List Res} {f : FoldD} {H H' : Fh} {xs : List Value}
theorem foldShut (h : Has G w W (Cells p (foldCells f.place pd xs) 61 :: DocAt pd f.d :: R)) (ht : ToldOk H f.told xs) : Has G w W (FoldAt H p f :: R) :=
  Has.shut (pd, xs) ((h.fact ht).perm ((List.Perm.swap _ _ _).trans (List.Perm.cons _ (List.Perm.swap _ _ _))))
theorem foldOpen (h : Has G w W (FoldAt H p f :: R)) : ∃ pd xs, ToldOk H f.told xs ∧ Has G w W (Cells p (foldCells f.place pd xs) 61 :: DocAt pd f.d :: R) := by
  obtain ⟨⟨pd, xs⟩, h⟩ := Has.open h
  have h : Has G w W (Cells p (foldCells f.place pd xs) 61 :: DocAt pd f.d :: Fact (ToldOk H f.told xs) :: R) := h
  exact ⟨pd, xs, h.told (In.tl (In.tl In.hd)), h.sub (List.Sublist.cons_cons _ (List.Sublist.cons_cons _ (List.Sublist.cons _ (List.Sublist.refl _))))⟩
theorem foldLe (h : Has G w W (FoldAt H p f :: R)) (hl : H.le H') : Has G w W (FoldAt H' p f :: R) := by -- 61
  obtain ⟨pd, xs, ⟨h1, h2⟩, h3⟩ := foldOpen h
  exact foldShut h3 ⟨h1, h2.mono (TolIn.le hl)⟩
end
theorem told_len {H : Fh} {told : List (Int × RowD)} {xs : List Value} (h : ToldOk H told xs) : xs.length = 36 := by
  have := h.2.length TolIn.len
  rw [h.1] at this
  omega
theorem told_get {H : Fh} {told : List (Int × RowD)} {xs : List Value} (h : ToldOk H told xs) {c : Nat} {x : Int × RowD} (hx : told[c]? = some x) : ∃ sv, OpsH H sv x.2.b.l ∧ cut xs (c * 6) 6 = .int .i64 x.1 :: rowCells x.2 sv := by
  obtain ⟨cs, ⟨sv, rfl, h1⟩, h2, h3⟩ := h.2.get TolIn.len hx
  exact ⟨sv, h1, h3⟩
theorem told_set {H : Fh} {told : List (Int × RowD)} {xs : List Value} (h : ToldOk H told xs) {c : Nat} (hc : c < 6) {x : Int × RowD} {sv : Value} (hx : OpsH H sv x.2.b.l) : ToldOk H (told.set c x) (ov xs (c * 6) (.int .i64 x.1 :: rowCells x.2 sv)) :=
  ⟨by rw [List.length_set]; exact h.1, h.2.set TolIn.len (by rw [h.1]; exact hc) ⟨sv, rfl, hx⟩⟩
theorem fold_len {H : Fh} {told : List (Int × RowD)} {xs : List Value} (pl : Int) (pd : Nat) (h : ToldOk H told xs) : (foldCells pl pd xs).length = 38 := by
  have := told_len h
  simp [foldCells, this]
abbrev ztold : List Value := [.int .i64 0, .int .i64 0, .int .i64 0, .int .i64 0, .slice none 0 0, .int .i64 0]
theorem told_zero (H : Fh) : ToldOk H (List.replicate 6 (0, zeroRow)) (ztold ++ (ztold ++ (ztold ++ (ztold ++ (ztold ++ (ztold ++ [])))))) := by
  have z : TolIn H (0, zeroRow) ztold := ⟨_, rfl, ops_nil H⟩
  exact ⟨rfl, _, _, rfl, z, _, _, rfl, z, _, _, rfl, z, _, _, rfl, z, _, _, rfl, z, _, _, rfl, z, rfl⟩
def emptyF : FoldD := ⟨0, [], List.replicate 6 (0, zeroRow)⟩
set_option maxHeartbeats 4000000 in
theorem fold_New (w0 W : World) (H : Fh) (R : List Res) (hw : Has 0 w0 W R) :
    Calls Tryd.prog 14 ⟨[]⟩ W fun e W' => ∃ p, e = .returned (.pointer (some ⟨p, 0, none⟩)) ∧ Has 0 w0 W' (FoldAt H p emptyF :: R) := by
  refine enter Tryd.func14 Tryd.ntmps14 rfl rfl fun a hs => ?_
  repeat (first | (refine sxv hs hw ?_; clear hs; intro a hs) | refine sxc hs ?_ | (refine sxa hs hw ?_; clear hs hw; intro a b W hw hs) | (refine sxs hs hw ?_; clear hs hw; intro W hs hw))
  refine st_call hs (hc := doc_New w0 _ _ hw) (k := ?_); rintro e0 W1 ⟨c, rfl, hw1⟩; refine ⟨_, rfl, ?_⟩; clear hs hw; intro a hs; have hw := hw1; clear hw1
  repeat (first | (refine sxv hs hw ?_; clear hs; intro a hs) | refine sxc hs ?_ | (refine sxa hs hw ?_; clear hs hw; intro a b W hw hs) | (refine sxs hs hw ?_; clear hs hw; intro W hs hw))
  refine rt1 hs rfl rfl ⟨_, rfl, ?_⟩
  exact foldShut (H := H) (f := emptyF) (pd := c) (xs := ztold ++ (ztold ++ (ztold ++ (ztold ++ (ztold ++ (ztold ++ [])))))) (by with_unfolding_all exact hw) (told_zero H)
def lastOf (f : FoldD) (c : Int) : Int := if 1 ≤ c ∧ c ≤ 5 then ((f.told[c.toNat]?).map (·.1)).getD 0 else 0
set_option maxHeartbeats 4000000 in
theorem fold_may (c : Int) (W : World) : Calls Tryd.prog 30 ⟨[.int .i64 c]⟩ W fun e W' => e = .returned (.bool (decide (1 ≤ c ∧ c ≤ 5))) ∧ Below W.heap.size W W' := by
  have hw := Has.start (G := 0) (w := W) (Nat.zero_le _)
  refine enter Tryd.func30 Tryd.ntmps30 rfl rfl fun a hs => ?_
  repeat (first | (refine sxv hs hw ?_; clear hs; intro a hs) | refine sxc hs ?_ | (refine sxa hs hw ?_; clear hs hw; intro a b W hw hs) | (refine sxs hs hw ?_; clear hs hw; intro W hs hw))
  cases h : decide (c ≥ 1) with
  | true =>
    rw [h] at hs
    repeat (first | (refine sxv hs hw ?_; clear hs; intro a hs) | refine sxc hs ?_ | (refine sxa hs hw ?_; clear hs hw; intro a b W hw hs) | (refine sxs hs hw ?_; clear hs hw; intro W hs hw))
    have : decide (c ≤ 5) = decide (1 ≤ c ∧ c ≤ 5) := by
      have := of_decide_eq_true h
      by_cases h5 : c ≤ 5
      · rw [decide_eq_true h5, decide_eq_true ⟨this, h5⟩]
      · rw [decide_eq_false h5, decide_eq_false fun h => h5 h.2]
    exact rt1 hs rfl rfl ⟨by rw [← this]; rfl, hw.end (by repeat (first | exact In.hd | apply In.tl))⟩
  | false =>
    rw [h] at hs
    repeat (first | (refine sxv hs hw ?_; clear hs; intro a hs) | refine sxc hs ?_ | (refine sxa hs hw ?_; clear hs hw; intro a b W hw hs) | (refine sxs hs hw ?_; clear hs hw; intro W hs hw))
    have : decide (1 ≤ c ∧ c ≤ 5) = false := decide_eq_false fun h' => (of_decide_eq_false h) h'.1
    exact rt1 hs rfl rfl ⟨by rw [this]; rfl, hw.end (by repeat (first | exact In.hd | apply In.tl))⟩
set_option maxHeartbeats 4000000 in
theorem fold_Last (w0 W : World) (H : Fh) (p : Nat) (f : FoldD) (c : Int) (R : List Res) (hw : Has 0 w0 W (FoldAt H p f :: R)) :
    Calls Tryd.prog 13 ⟨[.pointer (some ⟨p, 0, none⟩), .int .i64 c]⟩ W fun e W' => e = .returned (.int .i64 (lastOf f c)) ∧ Has 0 w0 W' (FoldAt H p f :: R) := by
  refine enter Tryd.func13 Tryd.ntmps13 rfl rfl fun a hs => ?_
  repeat (first | (refine sxv hs hw ?_; clear hs; intro a hs) | refine sxc hs ?_ | (refine sxa hs hw ?_; clear hs hw; intro a b W hw hs) | (refine sxs hs hw ?_; clear hs hw; intro W hs hw) | ((with_reducible first | refine st_ptrSome hs (k := ?_) | refine st_ptrNone hs (k := ?_)); clear hs; intro a hs))
  refine st_call hs (hc := fold_may c _) (k := ?_); rintro e0 W1 ⟨rfl, hb⟩; refine ⟨_, rfl, ?_⟩; clear hs; intro a hs; replace hw := hw.below hb; clear hb
  repeat (first | (refine sxv hs hw ?_; clear hs; intro a hs) | refine sxc hs ?_ | (refine sxa hs hw ?_; clear hs hw; intro a b W hw hs) | (refine sxs hs hw ?_; clear hs hw; intro W hs hw) | ((with_reducible first | refine st_ptrSome hs (k := ?_) | refine st_ptrNone hs (k := ?_)); clear hs; intro a hs))
  cases h : decide (1 ≤ c ∧ c ≤ 5) with
  | false =>
    rw [h] at hs
    repeat (first | (refine sxv hs hw ?_; clear hs; intro a hs) | refine sxc hs ?_ | (refine sxa hs hw ?_; clear hs hw; intro a b W hw hs) | (refine sxs hs hw ?_; clear hs hw; intro W hs hw) | ((with_reducible first | refine st_ptrSome hs (k := ?_) | refine st_ptrNone hs (k := ?_)); clear hs; intro a hs))
    have hX : lastOf f c = 0 := by unfold lastOf; rw [if_neg (of_decide_eq_false h)]
    exact rt1 hs rfl rfl ⟨by rw [hX], hw⟩
  | true =>
    rw [h] at hs
    have h15 := of_decide_eq_true h
    obtain ⟨pd, xs, ht, hw⟩ := foldOpen hw
    repeat (first | (refine sxv hs hw ?_; clear hs; intro a hs) | refine sxc hs ?_ | (refine sxa hs hw ?_; clear hs hw; intro a b W hw hs) | (refine sxs hs hw ?_; clear hs hw; intro W hs hw) | ((with_reducible first | refine st_ptrSome hs (k := ?_) | refine st_ptrNone hs (k := ?_)); clear hs; intro a hs))
    refine st_index_arr hs (h0 := by omega) (h1 := by omega) (c := ?_); clear hs; intro a hs
    repeat (first | (refine sxv hs hw ?_; clear hs; intro a hs) | refine sxc hs ?_ | (refine sxa hs hw ?_; clear hs hw; intro a b W hw hs) | (refine sxs hs hw ?_; clear hs hw; intro W hs hw) | ((with_reducible first | refine st_ptrSome hs (k := ?_) | refine st_ptrNone hs (k := ?_)); clear hs; intro a hs))
    obtain ⟨x, hx⟩ : ∃ x, f.told[c.toNat]? = some x := ⟨f.told[c.toNat]'(by rw [ht.1]; omega), List.getElem?_eq_getElem _⟩
    have hX : lastOf f c = x.1 := by
      unfold lastOf
      rw [if_pos h15, hx]
      rfl
    refine st_load_one hs (hw := hw) (hi := In.hd) (v := .int .i64 x.1) (hv := ?_) (k := ?_)
    · show (foldCells f.place pd xs)[0 + 2 + c.toNat * 6 + 0]? = _
      rw [show 0 + 2 + c.toNat * 6 + 0 = c.toNat * 6 + 1 + 1 by omega]
      obtain ⟨sv, _, h6⟩ := told_get ht hx
      have := congrArg (fun t => t[0]?) h6
      simp only [cut_eq, List.getElem?_take, List.getElem?_drop] at this
      simpa [foldCells] using this
    · clear hs; intro a hs
      repeat (first | (refine sxv hs hw ?_; clear hs; intro a hs) | refine sxc hs ?_ | (refine sxa hs hw ?_; clear hs hw; intro a b W hw hs) | (refine sxs hs hw ?_; clear hs hw; intro W hs hw) | ((with_reducible first | refine st_ptrSome hs (k := ?_) | refine st_ptrNone hs (k := ?_)); clear hs; intro a hs))
      exact rt1 hs rfl rfl ⟨by rw [hX], foldShut hw ht⟩
set_option maxHeartbeats 4000000 in
theorem fold_Place (w0 W : World) (H : Fh) (p : Nat) (f : FoldD) (R : List Res) (hw : Has 0 w0 W (FoldAt H p f :: R)) :
    Calls Tryd.prog 12 ⟨[.pointer (some ⟨p, 0, none⟩)]⟩ W fun e W' => e = .returned (.int .i64 f.place) ∧ Has 0 w0 W' (FoldAt H p f :: R) := by
  refine enter Tryd.func12 Tryd.ntmps12 rfl rfl fun a hs => ?_
  obtain ⟨pd, xs, ht, hw⟩ := foldOpen hw
  repeat (first | (refine sxv hs hw ?_; clear hs; intro a hs) | refine sxc hs ?_ | (refine sxa hs hw ?_; clear hs hw; intro a b W hw hs) | (refine sxs hs hw ?_; clear hs hw; intro W hs hw) | ((with_reducible first | refine st_ptrSome hs (k := ?_) | refine st_ptrNone hs (k := ?_)); clear hs; intro a hs))
  exact rt1 hs rfl rfl ⟨rfl, foldShut hw ht⟩
set_option maxHeartbeats 4000000 in
theorem fold_own (w0 W : World) (H : Fh) (r : RowD) (sv : Value) (R : List Res) (hl : r.b.l.length ≤ 1000) (hr : OpsH H sv r.b.l) (hw : Has 0 w0 W (Fz H :: R)) :
    Calls Tryd.prog 21 ⟨[.agg ⟨rowCells r sv⟩]⟩ W fun e W' => ∃ sv' H', e = .returned (.agg ⟨rowCells r sv'⟩) ∧ H.le H' ∧ OpsH H' sv' r.b.l ∧ Has 0 w0 W' (Fz H' :: R) := by
  obtain ⟨sad, scap, rfl⟩ := hr.slice
  refine enter Tryd.func21 Tryd.ntmps21 rfl rfl fun a hs => ?_
  repeat (first | (refine sxv hs hw ?_; clear hs; intro a hs) | refine sxc hs ?_ | (refine sxa hs hw ?_; clear hs hw; intro a b W hw hs) | (refine sxs hs hw ?_; clear hs hw; intro W hs hw))
  obtain ⟨b2, q2⟩ := nm1 hw; subst q2
  obtain ⟨b1, q1⟩ := nm2 hw; subst q1
  have hw : Has 0 w0 _ (Fz H :: Cells b2 [.int .i64 0, .int .i64 0, .int .i64 0, .slice none 0 0, .int .i64 0] 32 :: Cells b1 (rowCells r (.slice sad r.b.l.length scap)) 32 :: R) := hw.perm (by repeat (first | exact List.Perm.refl _ | refine perm_pick (by repeat (first | exact Pick.hd | apply Pick.tl)) ?_))
  refine st_call hs (hc := clone_ops w0 _ H r.b.l _ _ hl hr hw) (k := ?_); rintro e0 W1 ⟨sv', H', rfl, h1, h2, hw1⟩; refine ⟨_, rfl, ?_⟩; clear hs hw; intro a hs; have hw := hw1; clear hw1
  obtain ⟨tad, tcap, rfl⟩ := h2.slice
  repeat (first | (refine sxv hs hw ?_; clear hs; intro a hs) | refine sxc hs ?_ | (refine sxa hs hw ?_; clear hs hw; intro a b W hw hs) | (refine sxs hs hw ?_; clear hs hw; intro W hs hw))
  refine rc1 hs rfl rfl hw (In.tl In.hd) rfl ?_
  exact ⟨_, H', rfl, h1, h2, hw.drop2.drop2⟩
end Go.Proofs.YtmalklakaalaoaaDoor.Sw
