/-
  Texts of the proof, one behind the other (part 8).
-/
import Derived.Test.YtmalklakaalaoaaGreatDoorM7
import Derived.Test.YtmalklakaalaoaaGreatDoorChecked
import Derived.Sort.Grow
import Derived.WalkKit
import Derived.WalkLawsBesides
import Derived.WalkSpells
import Derived.Lib.Hide
import Derived.Deep.QuietTactic
import Derived.BigQuiet
import Derived.Below
import Derived.Shelf.SlSortCmp.Whole1
import Derived.Shelf.SlIter.Collect
import Derived.Shelf.SlSortCmp.NoneTotal
import Derived.Ground.GgzProg
import Derived.Ground.SlsfProg
import Derived.Test.YtmalklakaalaoaaGreatDoorProg
import Derived.Maps.Own
import Derived.Maps.Views
import Derived.Sort.KeysCollected
import Derived.Laws.Small
set_option linter.unusedVariables false
set_option maxRecDepth 10000
namespace Ph
open Go Go.Lib
theorem decodeN_le4 (n b0 b1 b2 b3 : Nat) : (decodeN n b0 b1 b2 b3).2 ≤ 4 := by
  unfold decodeN
  repeat' split
  all_goals first | decide | simp
theorem decodeL_le4 (l : List UInt8) : (decodeL l).2 ≤ 4 := by
  unfold decodeL
  rw [decode_at]; exact decodeN_le4 _ _ _ _ _
theorem wid_le4 : ∀ l : List UInt8, wid (rs l) ≤ 4 * (rs l).length :=
  rs_induct (by simp [rs_nil, wid]) (fun l he ih => by
    rw [rs_step l he, wid_cons, List.length_cons]
    have hw := decodeL_le4 l
    omega)
theorem keyB_len {l : List UInt8} (h : keyB l = true) : l.length ≤ 160 := by
  unfold keyB at h
  simp only [Bool.and_eq_true, decide_eq_true_eq] at h
  have h1 := wid_le4 l
  rw [wid_rs] at h1
  have h2 := h.1.2
  unfold count at h2
  omega
end Ph
namespace Go.Proofs.YtmalklakaalaoaaGreatDoor.Sw
open Go.RowKit Go.Sx
def fineE (e : Int) : Bool := e == 0 || e == 6 || e == 7 || e == 8 || e == 4
def seqB (x : Int × RowD) : List UInt8 := Ph.putI x.1 ++ (if x.1 > 0 then Ph.putI x.2.place ++ Ph.putT (encB x.2.b) ++ Ph.putI x.2.err else [])
def foldB (f : FoldD) : List UInt8 := Ph.putI f.place ++ Ph.putT (docB f.d) ++ (f.told.drop 1).flatMap seqB
structure ToldFine (place : Int) (c : Nat) (x : Int × RowD) : Prop where
  seq : x.1 = x.2.b.q
  cli : x.2.b.c = c
  may : mayB x.2.b = true
  ok : BatOk x.2.b
  pl : 1 ≤ x.2.place ∧ x.2.place ≤ place
  err : fineE x.2.err = true
structure FoldFine (f : FoldD) : Prop where
  doc : DocFine f.d
  place : 0 ≤ f.place ∧ f.place ≤ 9223372036854775807
  six : f.told.length = 6
  told : ∀ (c : Nat) (x : Int × RowD), f.told[c]? = some x → x = (0, zeroRow) ∨ (1 ≤ c ∧ ToldFine f.place c x)
  dist : ∀ (c c' : Nat) (x x' : Int × RowD), f.told[c]? = some x → f.told[c']? = some x' → x.1 ≠ 0 → x'.1 ≠ 0 → x.2.place = x'.2.place → c = c'
theorem ToldFine.pos {place : Int} {c : Nat} {x : Int × RowD} (h : ToldFine place c x) : 0 < x.1 := by
  have := (may_parts h.may).2.1.1
  have := h.seq
  omega
theorem fineE_i64 {e : Int} (h : fineE e = true) : i64 e := by
  unfold fineE at h
  simp only [Bool.or_eq_true, beq_iff_eq] at h
  unfold i64
  omega
theorem DocFine.len {d : Dm} (h : DocFine d) : (docB d).length ≤ 30000 := by
  have h1 : ∀ m : Dm, (∀ p ∈ m, PairOk p) → (∀ p ∈ m, Ph.keyB p.1.data.toList = true) → (m.flatMap pairB).length ≤ m.length * 460 := by
    intro m
    induction m with
    | nil => intro _ _; simp
    | cons p m ih =>
      intro a b
      have h1 := pairB_len (a p (by simp))
      have h2 := Ph.keyB_len (b p (by simp))
      have h3 := ih (fun q hq => a q (by simp [hq])) (fun q hq => b q (by simp [hq]))
      have h4 : p.1.data.toList.length = p.1.size := by rw [Array.length_toList]; rfl
      rw [List.flatMap_cons, List.length_append, List.length_cons]
      omega
  have h2 := h1 d h.ok.all h.key
  have h3 := Ph.putI_length_le (d.length : Int)
  have h4 := h.ok.len
  unfold docB
  rw [List.length_append]
  omega
def rdTold (place : Int) : Nat → Nat → (List UInt8 × Bool) → List (Int × RowD) → List Int → Option (List (Int × RowD) × (List UInt8 × Bool))
  | 0, _, s, told, _ => some (told, s)
  | n + 1, c, s, told, places =>
    if (Ph.getI s.1).1 = 0 then rdTold place n (c + 1) (rdNum s) told places
    else
      match decode (Ph.getT (rdNum (rdNum s)).1).1 with
      | none => none
      | some x =>
        if x.1 = (c : Int) ∧ x.2.1 = (Ph.getI s.1).1 ∧ 1 ≤ (Ph.getI (rdNum s).1).1 ∧ (Ph.getI (rdNum s).1).1 ≤ place ∧ fineE (Ph.getI (rdTxt (rdNum (rdNum s))).1).1 = true ∧ (Ph.getI (rdNum s).1).1 ∉ places then
          rdTold place n (c + 1) (rdNum (rdTxt (rdNum (rdNum s)))) (told.set c ((Ph.getI s.1).1, ⟨(Ph.getI (rdNum s).1).1, batOf x, (Ph.getI (rdTxt (rdNum (rdNum s))).1).1⟩)) (places ++ [(Ph.getI (rdNum s).1).1])
        else none
def decF (b : List UInt8) : Option FoldD :=
  match decDoc (Ph.getT (rdNum (b, false)).1).1 with
  | none => none
  | some d =>
    if (Ph.getI b).1 < 0 then none
    else
      match rdTold (Ph.getI b).1 5 1 (rdTxt (rdNum (b, false))) (List.replicate 6 (0, zeroRow)) [] with
      | none => none
      | some (told, s) => if s.2 = false ∧ foldB ⟨(Ph.getI b).1, d, told⟩ = b then some ⟨(Ph.getI b).1, d, told⟩ else none
def curT (told : List (Int × RowD)) (c : Nat) : List (Int × RowD) := told.take c ++ List.replicate (6 - c) (0, zeroRow)
theorem curT_next {told : List (Int × RowD)} {c : Nat} (h6 : told.length = 6) (hc : c < 6) {x : Int × RowD} (hx : told[c]? = some x) : (curT told c).set c x = curT told (c + 1) := by
  unfold curT
  have hl : (told.take c).length = c := by rw [List.length_take]; omega
  rw [List.set_append_right _ _ (by omega), hl, Nat.sub_self, show 6 - c = (6 - (c + 1)) + 1 from by omega, List.replicate_succ, List.set_cons_zero, List.take_add_one, hx]
  simp
theorem curT_same {told : List (Int × RowD)} {c : Nat} (h6 : told.length = 6) (hc : c < 6) (hx : told[c]? = some (0, zeroRow)) : curT told c = curT told (c + 1) := by
  rw [← curT_next h6 hc hx]
  unfold curT
  have hl : (told.take c).length = c := by rw [List.length_take]; omega
  rw [List.set_append_right _ _ (by omega), hl, Nat.sub_self, show 6 - c = (6 - (c + 1)) + 1 from by omega, List.replicate_succ, List.set_cons_zero]
theorem mayB_dec {b : BatchD} (h : mayB b = true) (hb : BatOk b) : decode (encB b) = some (b.c, b.q, b.l) := decode_text h hb.ops
theorem encB_le {b : BatchD} (h : mayB b = true) : (encB b).length ≤ 1200 := (mayBatch_parts h).2.2.2.2
theorem rdTold_put {f : FoldD} (hf : FoldFine f) : ∀ (n c : Nat) (places : List Int) (t : List UInt8), c + n = 6 → (∀ p ∈ places, ∃ c', c' < c ∧ ∃ x, f.told[c']? = some x ∧ x.1 ≠ 0 ∧ x.2.place = p) →
    rdTold f.place n c ((f.told.drop c).flatMap seqB ++ t, false) (curT f.told c) places = some (f.told, (t, false))
  | 0, c, places, t, hc, hp => by
    have h6 : c = 6 := by omega
    subst h6
    have hd : f.told.drop 6 = [] := List.drop_eq_nil_of_le (by rw [hf.six]; omega)
    have ht : curT f.told 6 = f.told := by unfold curT; rw [List.take_of_length_le (by rw [hf.six]; omega)]; simp
    rw [hd, ht]
    rfl
  | n + 1, c, places, t, hc, hp => by
    have hlt : c < f.told.length := by rw [hf.six]; omega
    obtain ⟨x, hx⟩ : ∃ x, f.told[c]? = some x := ⟨f.told[c], List.getElem?_eq_getElem hlt⟩
    have hdr : f.told.drop c = x :: f.told.drop (c + 1) := drop_of hx
    have hcat : (f.told.drop c).flatMap seqB ++ t = seqB x ++ ((f.told.drop (c + 1)).flatMap seqB ++ t) := by rw [hdr, List.flatMap_cons, List.append_assoc]
    rw [hcat]
    generalize hT : (f.told.drop (c + 1)).flatMap seqB ++ t = T at *
    rcases hf.told c x hx with h0 | ⟨h1, hfine⟩
    · subst h0
      have e : seqB (0, zeroRow) ++ T = Ph.putI 0 ++ T := by simp [seqB]
      rw [e]
      obtain ⟨a1, a2⟩ := rdNum_put 0 T ⟨by decide, by decide⟩
      unfold rdTold
      simp only
      rw [if_pos a2, a1, curT_same hf.six (by omega) hx, ← hT]
      exact rdTold_put hf n (c + 1) places t (by omega) fun p hh => by
        obtain ⟨c', h2, h3⟩ := hp p hh
        exact ⟨c', by omega, h3⟩
    · have hpos := hfine.pos
      obtain ⟨q, r⟩ := x
      have hq : q = r.b.q := hfine.seq
      have hpl := hfine.pl
      simp only at hpos hpl
      have hqi : i64 q := by have := hfine.ok.q; rw [hq]; exact this
      have hpi : i64 r.place := ⟨by omega, by have := hf.place.2; have := hpl.2; omega⟩
      have hei := fineE_i64 hfine.err
      have e : seqB (q, r) ++ T = Ph.putI q ++ (Ph.putI r.place ++ (Ph.putT (⟨(encB r.b).toArray⟩ : ByteArray).data.toList ++ (Ph.putI r.err ++ T))) := by
        simp only [seqB]
        rw [if_pos hpos]
        simp
      rw [e]
      obtain ⟨a1, a2⟩ := rdNum_put q (Ph.putI r.place ++ (Ph.putT (⟨(encB r.b).toArray⟩ : ByteArray).data.toList ++ (Ph.putI r.err ++ T))) hqi
      obtain ⟨b1, b2⟩ := rdNum_put r.place (Ph.putT (⟨(encB r.b).toArray⟩ : ByteArray).data.toList ++ (Ph.putI r.err ++ T)) hpi
      have hel : (encB r.b).length ≤ 1200 := encB_le hfine.may
      obtain ⟨c1, c2⟩ := rdTxt_put ⟨(encB r.b).toArray⟩ (Ph.putI r.err ++ T) (by show (encB r.b).toArray.size ≤ _; simp; exact Nat.le_trans hel (by decide))
      obtain ⟨d1, d2⟩ := rdNum_put r.err T hei
      have c3 : (Ph.getT (Ph.putT (⟨(encB r.b).toArray⟩ : ByteArray).data.toList ++ (Ph.putI r.err ++ T))).1 = encB r.b := by
        rw [Ph.getT_putT _ _ (by show (encB r.b).length ≤ _; omega)]
      unfold rdTold
      simp only
      rw [a2, if_neg (by omega), a1]
      simp only
      rw [b1, b2]
      simp only
      rw [c3, c1, mayB_dec hfine.may hfine.ok]
      simp only
      rw [d1, d2]
      have hnp : r.place ∉ places := fun hh => by
        obtain ⟨c', h2, x', h3, h4, h5⟩ := hp _ hh
        have := hf.dist c c' (q, r) x' hx h3 (by show q ≠ 0; omega) h4 h5.symm
        omega
      have hco : r.b.c = (c : Int) := hfine.cli
      rw [if_pos ⟨hco, hq.symm, hpl.1, hpl.2, hfine.err, hnp⟩]
      have hset : (curT f.told c).set c (q, (⟨r.place, batOf (r.b.c, r.b.q, r.b.l), r.err⟩ : RowD)) = curT f.told (c + 1) := curT_next hf.six (by omega) hx
      rw [hset, ← hT]
      refine rdTold_put hf n (c + 1) (places ++ [r.place]) t (by omega) fun p hh => ?_
      rcases List.mem_append.1 hh with hh | hh
      · obtain ⟨c', h2, h3⟩ := hp p hh
        exact ⟨c', by omega, h3⟩
      · rw [List.mem_singleton] at hh
        subst hh
        exact ⟨c, by omega, (q, r), hx, by show q ≠ 0; omega, rfl⟩
theorem dec_foldB {f : FoldD} (hf : FoldFine f) (h0 : f.told[0]? = some (0, zeroRow)) : decF (foldB f) = some f := by
  have hpi : i64 f.place := ⟨by have := hf.place.1; omega, hf.place.2⟩
  have hdl := hf.doc.len
  have e : foldB f = Ph.putI f.place ++ (Ph.putT (⟨(docB f.d).toArray⟩ : ByteArray).data.toList ++ ((f.told.drop 1).flatMap seqB ++ [])) := by
    unfold foldB; simp
  obtain ⟨a1, a2⟩ := rdNum_put f.place (Ph.putT (⟨(docB f.d).toArray⟩ : ByteArray).data.toList ++ ((f.told.drop 1).flatMap seqB ++ [])) hpi
  obtain ⟨b1, b2⟩ := rdTxt_put ⟨(docB f.d).toArray⟩ ((f.told.drop 1).flatMap seqB ++ []) (by show (docB f.d).toArray.size ≤ _; simp; omega)
  have b3 : (Ph.getT (Ph.putT (⟨(docB f.d).toArray⟩ : ByteArray).data.toList ++ ((f.told.drop 1).flatMap seqB ++ []))).1 = docB f.d := by
    rw [Ph.getT_putT _ _ (by show (docB f.d).length ≤ _; omega)]
  have hr := rdTold_put hf 5 1 [] [] (by decide) (by simp)
  have hc1 : curT f.told 1 = List.replicate 6 (0, zeroRow) := by
    rw [← curT_same hf.six (by decide) h0]
    unfold curT
    simp
  rw [hc1] at hr
  unfold decF
  rw [e, a1]
  simp only
  rw [b3, dec_docB hf.doc]
  simp only
  rw [a2, if_neg (by have := hf.place.1; omega), b1, hr]
  simp only
  rw [if_pos ⟨trivial, e⟩]
structure ReadInv (place : Int) (c : Nat) (tl : List (Int × RowD)) (places : List Int) : Prop where
  six : tl.length = 6
  told : ∀ (i : Nat) (x : Int × RowD), tl[i]? = some x → x = (0, zeroRow) ∨ (1 ≤ i ∧ i < c ∧ ToldFine place i x)
  dist : ∀ (i i' : Nat) (x x' : Int × RowD), tl[i]? = some x → tl[i']? = some x' → x.1 ≠ 0 → x'.1 ≠ 0 → x.2.place = x'.2.place → i = i'
  mem : ∀ (i : Nat) (x : Int × RowD), tl[i]? = some x → x.1 ≠ 0 → x.2.place ∈ places
theorem rdNum_len (s : List UInt8 × Bool) : (rdNum s).1.length ≤ s.1.length := tk_le s _ _
theorem rdTxt_len (s : List UInt8 × Bool) : (rdTxt s).1.length ≤ s.1.length := tk_le s _ _
theorem getT_len (l : List UInt8) : (Ph.getT l).1.length ≤ l.length := by
  have h1 := getT_size l
  have h2 : (⟨(Ph.getT l).1.toArray⟩ : ByteArray).size = (Ph.getT l).1.length := by show (Ph.getT l).1.toArray.size = _; simp
  omega
theorem ReadInv.more {place : Int} {c : Nat} {told : List (Int × RowD)} {places : List Int} (h : ReadInv place c told places) : ReadInv place (c + 1) told places :=
  ⟨h.six, fun i x hx => (h.told i x hx).imp id fun ⟨a, b, d⟩ => ⟨a, by omega, d⟩, h.dist, h.mem⟩
theorem ReadInv.set {place : Int} {c : Nat} {told : List (Int × RowD)} {places : List Int} (h : ReadInv place c told places) (hc : 1 ≤ c ∧ c < 6) {x : Int × RowD} (hx : ToldFine place c x) (hn : x.2.place ∉ places) : ReadInv place (c + 1) (told.set c x) (places ++ [x.2.place]) := by
  have hlt : c < told.length := by rw [h.six]; omega
  have hat : ∀ (i : Nat) (y : Int × RowD), (told.set c x)[i]? = some y → (i = c ∧ y = x) ∨ (i ≠ c ∧ told[i]? = some y) := by
    intro i y hy
    by_cases e : i = c
    · subst e
      rw [List.getElem?_set_self hlt] at hy
      injection hy with hy
      exact .inl ⟨rfl, hy.symm⟩
    · rw [List.getElem?_set_ne (fun k => e k.symm)] at hy
      exact .inr ⟨e, hy⟩
  refine ⟨by rw [List.length_set]; exact h.six, fun i y hy => ?_, fun i i' y y' hy hy' h0 h0' he => ?_, fun i y hy h0 => ?_⟩
  · rcases hat i y hy with ⟨rfl, rfl⟩ | ⟨_, hy⟩
    · exact .inr ⟨hc.1, by omega, hx⟩
    · exact (h.told i y hy).imp id fun ⟨a, b, d⟩ => ⟨a, by omega, d⟩
  · rcases hat i y hy with ⟨e1, e2⟩ | ⟨hne, hz⟩
    · rcases hat i' y' hy' with ⟨e3, e4⟩ | ⟨hne', hz'⟩
      · rw [e1, e3]
      · exact absurd (by rw [← e2, he]; exact h.mem i' y' hz' h0') hn
    · rcases hat i' y' hy' with ⟨e3, e4⟩ | ⟨hne', hz'⟩
      · exact absurd (by rw [← e4, ← he]; exact h.mem i y hz h0) hn
      · exact h.dist i i' y y' hz hz' h0 h0' he
  · rcases hat i y hy with ⟨rfl, rfl⟩ | ⟨hne, hy⟩
    · exact List.mem_append_right _ (by simp)
    · exact List.mem_append_left _ (h.mem i y hy h0)
theorem rdTold_some {place : Int} : ∀ (n c : Nat) (s : List UInt8 × Bool) (told : List (Int × RowD)) (places : List Int) (r : List (Int × RowD) × (List UInt8 × Bool)), rdTold place n c s told places = some r → c + n = 6 → 1 ≤ c → s.1.length ≤ 1000000 → ReadInv place c told places → ∃ pl, ReadInv place 6 r.1 pl
  | 0, c, s, told, places, r, h, hc, _, _, hi => by
    simp only [rdTold, Option.some.injEq] at h
    obtain rfl : c = 6 := by omega
    rw [← h]; exact ⟨places, hi⟩
  | n + 1, c, s, told, places, r, h, hc, h1, hl, hi => by
    unfold rdTold at h
    have l1 := rdNum_len s
    have l2 := rdNum_len (rdNum s)
    have l3 := rdTxt_len (rdNum (rdNum s))
    have l4 := rdNum_len (rdTxt (rdNum (rdNum s)))
    split at h
    · exact rdTold_some n (c + 1) _ told places r h (by omega) (by omega) (by omega) hi.more
    · rename_i hseq
      split at h
      · cases h
      · rename_i x hx
        split at h
        · rename_i hh
          obtain ⟨h2, h3, h4, h5, h6, h7⟩ := hh
          obtain ⟨xc, xq, xl⟩ := x
          have hlt := getT_len (rdNum (rdNum s)).1
          have hok := decode_ok (by omega) hx
          have hds := decode_some hx
          refine rdTold_some n (c + 1) _ _ _ r h (by omega) (by omega) (by omega) (hi.set ⟨h1, by omega⟩ ⟨h3.symm, h2, hds.1, ⟨hok.1, hok.2.1, hok.2.2.2⟩, ⟨h4, h5⟩, h6⟩ h7)
        · cases h
theorem decF_some {b : List UInt8} {f : FoldD} (hl : b.length ≤ 1000000) (h : decF b = some f) : foldB f = b ∧ FoldFine f := by
  unfold decF at h
  have l1 := rdNum_len (b, false)
  have l2 := rdTxt_len (rdNum (b, false))
  have l3 := getT_len (rdNum (b, false)).1
  simp only at l1
  split at h
  · cases h
  · rename_i d hd
    split at h
    · cases h
    · rename_i hp
      split at h
      · cases h
      · rename_i told s hr
        split at h
        · rename_i hh
          injection h with h
          subst h
          have hdd := decDoc_some (by omega) hd
          obtain ⟨pl, hi⟩ := rdTold_some 5 1 _ _ [] _ hr (by decide) (by decide) (by omega) ⟨by simp, fun i x hx => by
            have := List.eq_of_mem_replicate (List.mem_of_getElem? hx); exact .inl this, fun i i' x x' hx _ h0 => by
            have := List.eq_of_mem_replicate (List.mem_of_getElem? hx); rw [this] at h0; exact absurd rfl h0, fun i x hx h0 => by
            have := List.eq_of_mem_replicate (List.mem_of_getElem? hx); rw [this] at h0; exact absurd rfl h0⟩
          have hgi := getI_range b
          exact ⟨hh.2, hdd.2, ⟨by show 0 ≤ (Ph.getI b).1; omega, hgi.2⟩, hi.six, fun c x hx => (hi.told c x hx).imp id fun ⟨a, _, e⟩ => ⟨a, e⟩, hi.dist⟩
        · cases h
theorem FoldFine.zero {f : FoldD} (h : FoldFine f) : f.told[0]? = some (0, zeroRow) := by
  have hlt : 0 < f.told.length := by rw [h.six]; decide
  have hx : f.told[0]? = some f.told[0] := List.getElem?_eq_getElem hlt
  rcases h.told 0 _ hx with e | ⟨e, _⟩
  · rw [hx, e]
  · omega
theorem FoldFine.ok {f : FoldD} (h : FoldFine f) : FoldOk f := by
  refine ⟨h.doc, h.six, fun x hx => ?_⟩
  obtain ⟨i, hi⟩ := List.mem_iff_getElem?.1 hx
  rcases h.told i x hi with rfl | ⟨_, e⟩
  · exact ⟨by decide, fun _ => rfl, by decide⟩
  · have := e.pos
    exact ⟨by omega, fun h0 => by omega, (may_parts e.may).2.2⟩
theorem FoldFine.empty : FoldFine emptyF := by
  refine ⟨DocFine.nil, ⟨by decide, by decide⟩, rfl, fun c x hx => .inl (List.eq_of_mem_replicate (List.mem_of_getElem? hx)), fun c c' x x' hx _ h0 => ?_⟩
  rw [List.eq_of_mem_replicate (List.mem_of_getElem? hx)] at h0
  exact absurd rfl h0
theorem FoldFine.dec {f : FoldD} (h : FoldFine f) : decF (foldB f) = some f := dec_foldB h h.zero
theorem foldB_inj {f g : FoldD} (hf : FoldFine f) (hg : FoldFine g) (h : foldB f = foldB g) : f = g := by
  have := hf.dec
  rw [h, hg.dec] at this
  injection this with this
  exact this.symm
theorem setRL_fineE (d : Dm) (k : ByteArray) (x : Option DV) : fineE (setRL d k x).1 = true := by
  rcases setRL_err d k x with h | h <;> rw [h] <;> rfl
theorem doL_fineE (d : Dm) (o : OpD) : fineE (doL d o).1 = true := by
  unfold doL
  split
  · split
    · exact setRL_fineE _ _ _
    · exact (rfl : fineE 8 = true)
  · split
    · split
      · exact (rfl : fineE 7 = true)
      · split
        · exact (rfl : fineE 4 = true)
        · exact setRL_fineE _ _ _
    · exact setRL_fineE _ _ _
theorem goL_fineE : ∀ (l : List OpD) (d : Dm), l.all mayD = true → fineE (goL l d).1 = true
  | [], d, _ => (rfl : fineE 0 = true)
  | o :: l, d, h => by
    rw [List.all_cons, Bool.and_eq_true] at h
    unfold goL
    rw [if_neg (by rw [h.1]; simp)]
    split
    · exact goL_fineE l _ h.2
    · exact doL_fineE d o
theorem applyL_fineE {b : BatchD} (h : mayB b = true) (d : Dm) : fineE (applyL d b.l).1 = true := by
  obtain ⟨_, _, h3, h4, _⟩ := mayBatch_parts h
  unfold applyL
  rw [if_neg (by omega)]
  have := goL_fineE b.l d h4
  split
  · exact (rfl : fineE 0 = true)
  · exact this
theorem FoldFine.next {f : FoldD} (h : FoldFine f) {b : BatchD} (hb : BatOk b) (hp : f.place < 1000000) : FoldFine (next f b).1 ∧ (next f b).1.place ≤ f.place + 1 := by
  unfold Sw.next
  cases hn : nextB f b with
  | false => exact ⟨h, by show f.place ≤ f.place + 1; omega⟩
  | true =>
    have hm : mayB b = true := by
      unfold nextB at hn
      rw [Bool.and_eq_true] at hn
      exact hn.1
    obtain ⟨hc, hq, hl⟩ := may_parts hm
    have hp0 := h.place.1
    have hwr : IntKind.i64.wrap (f.place + 1) = f.place + 1 := IntWalk.i64_in _ (by omega)
    have hlt : b.c.toNat < f.told.length := by rw [h.six]; omega
    have hat : ∀ (i : Nat) (y : Int × RowD), (f.told.set b.c.toNat (b.q, nextR f b))[i]? = some y → (i = b.c.toNat ∧ y = (b.q, nextR f b)) ∨ (i ≠ b.c.toNat ∧ f.told[i]? = some y) := by
      intro i y hy
      by_cases e : i = b.c.toNat
      · subst e
        rw [List.getElem?_set_self hlt] at hy
        injection hy with hy
        exact .inl ⟨rfl, hy.symm⟩
      · rw [List.getElem?_set_ne (fun k => e k.symm)] at hy
        exact .inr ⟨e, hy⟩
    have hpl : ∀ (i : Nat) (y : Int × RowD), f.told[i]? = some y → y.1 ≠ 0 → y.2.place ≤ f.place := by
      intro i y hy h0
      rcases h.told i y hy with rfl | ⟨_, e⟩
      · exact absurd rfl h0
      · exact e.pl.2
    refine ⟨⟨applyL_fine h.doc hb.ops, ?_, by show (f.told.set _ _).length = 6; rw [List.length_set]; exact h.six, fun i y hy => ?_, fun i i' y y' hy hy' h0 h0' he => ?_⟩, ?_⟩
    · show 0 ≤ IntKind.i64.wrap (f.place + 1) ∧ IntKind.i64.wrap (f.place + 1) ≤ _
      rw [hwr]; omega
    · rcases hat i y hy with ⟨rfl, rfl⟩ | ⟨_, hy⟩
      · refine .inr ⟨by omega, rfl, by show b.c = _; omega, hm, hb, ?_, applyL_fineE hm f.d⟩
        show 1 ≤ IntKind.i64.wrap (f.place + 1) ∧ IntKind.i64.wrap (f.place + 1) ≤ IntKind.i64.wrap (f.place + 1)
        rw [hwr]; omega
      · refine (h.told i y hy).imp id fun ⟨a, e⟩ => ⟨a, e.seq, e.cli, e.may, e.ok, ⟨e.pl.1, ?_⟩, e.err⟩
        show _ ≤ IntKind.i64.wrap (f.place + 1)
        have := e.pl.2
        rw [hwr]; omega
    · have hnp : (nextR f b).place = f.place + 1 := hwr
      rcases hat i y hy with ⟨rfl, rfl⟩ | ⟨hne, hy⟩
      · rcases hat i' y' hy' with ⟨rfl, rfl⟩ | ⟨hne', hy'⟩
        · rfl
        · have h1 := hpl i' y' hy' h0'
          have h2 : (nextR f b).place = y'.2.place := he
          omega
      · rcases hat i' y' hy' with ⟨rfl, rfl⟩ | ⟨hne', hy'⟩
        · have h1 := hpl i y hy h0
          have h2 : y.2.place = (nextR f b).place := he
          omega
        · exact h.dist i i' y y' hy hy' h0 h0' he
    · show IntKind.i64.wrap (f.place + 1) ≤ f.place + 1
      rw [hwr]; omega
end Go.Proofs.YtmalklakaalaoaaGreatDoor.Sw

set_option linter.unusedVariables false
namespace Go.Proofs.YtmalklakaalaoaaGreatDoor
open Go.RowKit
def Bel (w w' : World) : Prop := Below w.heap.size w w' ∧ w.drawn ≤ w'.drawn
theorem Bel.refl (w : World) : Bel w w := ⟨Below.refl _ _, Nat.le_refl _⟩
theorem Bel.trans {a b c : World} (h : Bel a b) (k : Bel b c) : Bel a c := ⟨h.1.trans (k.1.mono h.1.size), Nat.le_trans h.2 k.2⟩
theorem bel_iter (w : World) (s : ByteArray) (pos : Nat) : Bel w (w.iter s pos) := ⟨(Below.refl _ _).alloc (Nat.le_refl _) _, Nat.le_refl _⟩
theorem bel_drewN {w w' : World} (h : Bel w w') (n : Nat) : Bel w (w'.drewN n) := ⟨h.1.trans ⟨rfl, rfl, rfl, Nat.le_refl _, fun _ _ => rfl⟩, Nat.le_trans h.2 (Nat.le_add_right _ _)⟩
theorem Bel.grown {w w' : World} (h : Bel w w') : ∃ q os, w' = Sort.grow (w.drewN q) os := by
  obtain ⟨⟨h1, h2, h3, h4, h5⟩, h6⟩ := h
  refine ⟨w'.drawn - w.drawn, w'.heap.extract w.heap.size w'.heap.size, ?_⟩
  have e : w'.heap = w.heap ++ w'.heap.extract w.heap.size w'.heap.size := by
    refine Array.ext_getElem? fun k => ?_
    rw [Array.getElem?_append]
    split
    · rename_i hk; exact h5 k hk
    · rename_i hk
      rw [Array.getElem?_extract]
      split
      · rw [show w.heap.size + (k - w.heap.size) = k by omega]
      · rename_i hk2
        rw [Array.getElem?_eq_none (by omega)]
  have e2 : w'.drawn = w.drawn + (w'.drawn - w.drawn) := by omega
  cases w'
  cases w
  simp only at h1 h2 h3 e e2
  simp only [Sort.grow, World.drewN]
  subst h1 h2 h3
  rw [← e, ← e2]
set_option maxHeartbeats 400000 in
theorem runes_CutD (s : ByteArray) (n : Int) (w : World) (hs : s.size ≤ 9223372036854775807) :
    Calls Tryz.prog 128 #[.string s, .int .i64 n] w fun e w' => e = .returned (.string ⟨(Ph.cutL s.data.toList n).toArray⟩) ∧ Bel w w' := by
  have hcl := Ph.count_le s
  by_cases hn : n < 1
  · have HF : Hid (Ph.cutL s.data.toList n = []) := by unfold Hid Ph.cutL; rw [if_pos hn]
    go_enter Tryz.func128, Tryz.ntmps128
    go_wp2
    go_ret
    exact ⟨by rw [HF.out]; rfl, Bel.refl _⟩
  · obtain ⟨m, rfl⟩ := Int.eq_ofNat_of_zero_le (show 0 ≤ n by omega)
    go_enter Tryz.func128, Tryz.ntmps128
    go_wp2
    go_loopw [5] (fun c wr => ∃ pos k : Nat, wr = w.iter s pos ∧ c = .int .i64 k ∧ k ≤ m ∧ Hid ((Ph.rs (s.data.toList.drop pos)) = (Ph.rs s.data.toList).drop k) ∧ Hid (pos = Ph.wid ((Ph.rs s.data.toList).take k))) (fun _ wr => s.size - wr.iterPos w.heap.size)
    case atStart => exact ⟨0, 0, rfl, rfl, by omega, by unfold Hid; simp, by unfold Hid; simp [Ph.wid_nil]⟩
    case round =>
      obtain ⟨pos, k, rfl, rfl, hkm, HK, HP⟩ := hrel
      by_cases hp : pos < s.size
      · have hnx := fun ty => run_next_any (P := Tryz.prog) w s pos ty hp
        by_cases he : k = m
        · subst he
          go_wp2
          go_ret
          refine ⟨?_, bel_iter _ _ _⟩
          have HP' := HP.out
          subst HP'
          show Ending.returned (.string (s.extract 0 _)) = _
          rw [Ph.extract_eq, Ph.cutL, if_neg (by omega)]
          rfl
        · have he' : ((k : Int) == (m : Int)) = false := by simp; omega
          have hst := Ph.step_take (HK.out.symm.trans (Ph.rs_at s pos hp))
          have hkl : k + 1 ≤ s.size := by have := hst.1; unfold Ph.count at hcl; omega
          have HS : Hid ((Ph.rs s.data.toList).take (k + 1) = (Ph.rs s.data.toList).take k ++ [Utf8.decode s pos] ∧ (Ph.rs s.data.toList).drop (k + 1) = Ph.rs (s.data.toList.drop (pos + (Utf8.decode s pos).2))) := hst.2
          clear hst
          go_wp2
          go_roundw
          case rel =>
            refine ⟨pos + (Utf8.decode s pos).2, k + 1, rfl, by go_num, by omega, HS.out.2.symm, ?_⟩
            show _ = _
            rw [HS.out.1, Ph.wid_append, ← HP.out]
            simp [Ph.wid_cons, Ph.wid_nil]
          case measure =>
            have := Ph.width_pos s pos
            rw [World.iterPos_iter, World.iterPos_iter]
            omega
      · have hnx := fun ty => run_next_end (P := Tryz.prog) w s pos ty hp
        go_wp2
        go_ret
        have hle := Ph.drop_nil_le (HK.out.symm.trans (Ph.rs_end s pos hp))
        refine ⟨?_, bel_iter _ _ _⟩
        rw [Ph.cutL_all _ _ (by unfold Ph.count; omega) (by omega), Ph.eta_bytes]
        rfl
set_option maxHeartbeats 400000 in
theorem runes_DecodeD (s : ByteArray) (w : World) (hs : s.size ≤ 9223372036854775807) :
    Calls Tryz.prog 122 #[.string s] w fun e w' => e = .returned (.tuple #[.int .i32 (Ph.decZ s.data.toList).1, .int .i64 (Ph.decZ s.data.toList).2]) ∧ Bel w w' := by
  by_cases hp : 0 < s.size
  · have hnx := fun ty => run_next_any (P := Tryz.prog) w s 0 ty hp
    have HD : Hid (Ph.decZ s.data.toList = Utf8.decode s 0 ∧ (Ph.cutL s.data.toList 1).length = (Utf8.decode s 0).2) := Ph.decZ_at s hp
    go_enter Tryz.func122, Tryz.ntmps122
    go_wp2
    go_loopw [] (fun wr => wr = w.iter s 0) (fun wr => 0)
    case atStart => rfl
    case round =>
      obtain rfl := hrel
      go_wp2_with (go_at_call 128; refine (runes_CutD _ _ _ hs).mono ?_; rintro e w' ⟨rfl, hb⟩)
      go_ret2
      refine ⟨ret_tab ?_ ?_, (bel_iter _ _ _).trans hb⟩
      · rw [HD.out.1]
      · rw [HD.out.1, ← HD.out.2]
  · have hnx := fun ty => run_next_end (P := Tryz.prog) w s 0 ty hp
    have HD : Hid (Ph.decZ s.data.toList = (65533, 0)) := Ph.decZ_empty s hp
    go_enter Tryz.func122, Tryz.ntmps122
    go_wp2
    go_loopw [] (fun wr => wr = w.iter s 0) (fun wr => 0)
    case atStart => rfl
    case round =>
      obtain rfl := hrel
      go_wp2
      go_ret2
      rw [HD.out]
      exact ⟨rfl, bel_iter _ _ _⟩
def strLenD : Value → Nat | .string s => s.size | _ => 0
set_option maxHeartbeats 800000 in
theorem runes_LessD (a b : ByteArray) (w : World) (ha : a.size ≤ 9223372036854775807) (hb : b.size ≤ 9223372036854775807) :
    Calls Tryz.prog 97 #[.string a, .string b] w fun e w' => e = .returned (.bool (Ph.lessL a.data.toList b.data.toList)) ∧ Bel w w' := by
  go_enter Tryz.func97, Tryz.ntmps97
  go_wp2
  go_loopw [5, 6] (fun x y wr => ∃ X Y : ByteArray, x = .string X ∧ y = .string Y ∧ X.size ≤ 9223372036854775807 ∧ Y.size ≤ 9223372036854775807 ∧ Hid (Ph.lessL a.data.toList b.data.toList = Ph.lessAt a.data.toList b.data.toList X.data.toList Y.data.toList) ∧ Bel w wr) (fun x _ _ => strLenD x)
  case atStart => exact ⟨a, b, rfl, rfl, ha, hb, rfl, Bel.refl _⟩
  case round =>
    obtain ⟨X, Y, rfl, rfl, hX, hY, HL, hbw⟩ := hrel
    by_cases hx : 0 < X.size
    · have ex := Ph.empty_no hx
      by_cases hy : 0 < Y.size
      · have ey := Ph.empty_no hy
        obtain ⟨eX, lX, uX⟩ := Ph.decZ_ne hx
        obtain ⟨eY, lY, uY⟩ := Ph.decZ_ne hy
        have EX := Lib.hid eX
        have EY := Lib.hid eY
        clear eX eY
        go_wp2_with fail
        refine (runes_DecodeD X _ hX).mono ?_
        rintro e w1 ⟨rfl, hb1⟩
        go_wp2_with fail
        refine (runes_DecodeD Y _ hY).mono ?_
        rintro e w2 ⟨rfl, hb2⟩
        have hb3 : Bel w w2 := (hbw.trans hb1).trans hb2
        clear hb1 hb2
        by_cases hne : (Ph.decZ X.data.toList).1 = (Ph.decZ Y.data.toList).1
        · have hne' : (((Ph.decZ X.data.toList).1 : Int) != ((Ph.decZ Y.data.toList).1 : Int)) = false := by rw [hne]; simp
          have HN : Hid (Ph.lessAt a.data.toList b.data.toList X.data.toList Y.data.toList = Ph.lessAt a.data.toList b.data.toList (X.data.toList.drop (Ph.decZ X.data.toList).2) (Y.data.toList.drop (Ph.decZ Y.data.toList).2)) := by
            show _ = _
            rw [Ph.lessAt_eq _ _ _ _ (Ph.ne_of_size hx) (Ph.ne_of_size hy) (by rw [← EX.out, ← EY.out]; exact hne), EX.out, EY.out]
          clear hne
          generalize (Ph.decZ X.data.toList).2 = n at *
          generalize (Ph.decZ Y.data.toList).2 = m at *
          have g1 : (0 : Int) ≤ (n : Int) := by omega
          have g2 : (n : Int) ≤ (X.size : Int) := by omega
          have g3 : (0 : Int) ≤ (m : Int) := by omega
          have g4 : (m : Int) ≤ (Y.size : Int) := by omega
          go_wp2_with fail
          go_quiet (fail)
          go_wp2
          go_roundw
          case rel =>
            have e1 : (X.extract n X.size).size = X.size - n := by simp
            have e2 : (Y.extract m Y.size).size = Y.size - m := by simp
            refine ⟨X.extract n X.size, Y.extract m Y.size, rfl, rfl, by rw [e1]; omega, by rw [e2]; omega, ?_, bel_drewN hb3 _⟩
            show _ = _
            rw [HL.out, HN.out, Ph.extract_drop, Ph.extract_drop]
          case measure =>
            show (X.extract n X.size).size < X.size
            have e1 : (X.extract n X.size).size = X.size - n := by simp
            omega
        · have hne' : (((Ph.decZ X.data.toList).1 : Int) != ((Ph.decZ Y.data.toList).1 : Int)) = true := by rw [bne_iff_ne]; omega
          have HN : Hid (Ph.lessL a.data.toList b.data.toList = decide ((Ph.decZ X.data.toList).1 < (Ph.decZ Y.data.toList).1)) := by
            show _ = _
            rw [HL.out, Ph.lessAt_ne _ _ _ _ (Ph.ne_of_size hx) (Ph.ne_of_size hy) (by rw [← EX.out, ← EY.out]; exact hne), EX.out, EY.out]
          clear hne
          go_wp2
          go_ret
          exact ⟨ret_bool HN.out.symm, hb3⟩
      · have ey := Ph.empty_yes hy
        have HN : Hid (Ph.lessL a.data.toList b.data.toList = false) := by
          show _ = _
          rw [HL.out, Ph.nil_of_size hy, Ph.lessAt_right _ _ _ (Ph.ne_of_size hx)]
        go_wp2
        go_ret
        exact ⟨ret_bool HN.out.symm, hbw⟩
    · have ex := Ph.empty_yes hx
      by_cases hy : 0 < Y.size
      · have ey := Ph.empty_no hy
        have HN : Hid (Ph.lessL a.data.toList b.data.toList = true) := by
          show _ = _
          rw [HL.out, Ph.nil_of_size hx, Ph.lessAt_left _ _ _ (Ph.ne_of_size hy)]
        go_wp2
        go_ret
        exact ⟨ret_bool HN.out.symm, hbw⟩
      · have ey := Ph.empty_yes hy
        have HN : Hid (Ph.lessL a.data.toList b.data.toList = Op.bytesLess a.toList b.toList) := by
          show _ = _
          rw [HL.out, Ph.nil_of_size hx, Ph.nil_of_size hy, Ph.lessAt_none, Ph.bytesLess_toList]
        go_wp2
        go_ret
        exact ⟨ret_bool HN.out.symm, hbw⟩
def cmpK (a b : ByteArray) : Int := if Ph.lessL a.data.toList b.data.toList = true then -1 else if Ph.lessL b.data.toList a.data.toList = true then 1 else 0
set_option maxHeartbeats 800000 in
theorem doc_Keys1 (a b : ByteArray) (w : World) (ha : a.size ≤ 9223372036854775807) (hb : b.size ≤ 9223372036854775807) :
    Calls Tryz.prog 96 #[.string a, .string b] w fun e w' => e = .returned (.int .i64 (cmpK a b)) ∧ Bel w w' := by
  have HC : Hid (cmpK a b = if Ph.lessL a.data.toList b.data.toList = true then -1 else if Ph.lessL b.data.toList a.data.toList = true then 1 else 0) := rfl
  go_enter Tryz.func96, Tryz.ntmps96
  go_wp2_with fail
  refine (runes_LessD a b _ ha hb).mono ?_
  rintro e w1 ⟨rfl, hb1⟩
  cases h1 : Ph.lessL a.data.toList b.data.toList with
  | true =>
    rw [h1] at HC
    go_wp2
    go_ret
    exact ⟨by rw [HC.out]; rfl, hb1⟩
  | false =>
    rw [h1] at HC
    go_wp2_with fail
    refine (runes_LessD b a _ hb ha).mono ?_
    rintro e w2 ⟨rfl, hb2⟩
    cases h2 : Ph.lessL b.data.toList a.data.toList with
    | true =>
      rw [h2] at HC
      go_wp2
      go_ret
      exact ⟨by rw [HC.out]; rfl, hb1.trans hb2⟩
    | false =>
      rw [h2] at HC
      go_wp2
      go_ret
      exact ⟨by rw [HC.out]; rfl, hb1.trans hb2⟩
end Go.Proofs.YtmalklakaalaoaaGreatDoor

set_option linter.unusedVariables false
namespace Go.Sx
open Go.RowKit Go.Sort Go.Proofs
theorem put_cells {α : Type} [Inhabited α] (enc : α → Value) (d d' : Array α) (hd : d'.size = d.size) (ext : List Value) : putCells enc 0 d' ⟨d.toList.map enc ++ ext⟩ = ⟨d'.toList.map enc ++ ext⟩ := by
  apply Array.ext_getElem?
  intro k
  unfold putCells
  simp only [Array.getElem?_mapIdx, List.getElem?_toArray, Nat.zero_le, Nat.zero_add, true_and, Nat.sub_zero]
  by_cases hk : k < d'.size
  · have h1 : k < (d.toList.map enc).length := by simp; omega
    have h2 : k < (d'.toList.map enc).length := by simp; omega
    rw [List.getElem?_append_left h1, List.getElem?_append_left h2, List.getElem?_eq_getElem h1, List.getElem?_eq_getElem h2, Option.map_some, if_pos hk]
    simp [getElem!_pos d' k hk]
  · rw [List.getElem?_append_right (by simp; omega), List.getElem?_append_right (by simp; omega)]
    have e : (d.toList.map enc).length = (d'.toList.map enc).length := by simp [hd]
    rw [e]
    cases ext[k - (d'.toList.map enc).length]? with
    | none => rfl
    | some y => rw [Option.map_some, if_neg hk]
section
variable {α : Type} [Inhabited α] {enc : α → Value} {G g : Nat} {w W : World} {T : TypeId} {R : List Res} {d d' : Array α} {ext : List Value}
theorem Has.sorted (hd : d'.size = d.size) (h : Has G w W (Cells g (d.toList.map enc ++ ext) T :: R)) (m : Nat) (os : Array Obj) : Has G w (sortWorld enc W g 0 m d' os) (Cells g (d'.toList.map enc ++ ext) T :: R) := by
  obtain ⟨F1, h1, ⟨h2, h2'⟩, h3⟩ := h.has.upd (Upd.hd (r' := Cells g (d'.toList.map enc ++ ext) T))
  have hg := h1 g h2
  have hh : (sortWorld enc W g 0 m d' os).heap = W.heap.modify g (onCells (putCells enc 0 d')) ++ os := rfl
  have hsz : W.heap.size ≤ (sortWorld enc W g 0 m d' os).heap.size := by rw [hh]; simp
  have hat : (sortWorld enc W g 0 m d' os).heap[g]? = some (.cells ⟨d'.toList.map enc ++ ext⟩ T (0, 0)) := by
    rw [hh, Array.getElem?_append, if_pos (by simpa using hg.2), Array.getElem?_modify, if_pos rfl, h2', Option.map_some]
    show some (Obj.cells (putCells enc 0 d' ⟨d.toList.map enc ++ ext⟩) T (0, 0)) = _
    rw [put_cells enc d d' hd ext]
  have hne : ∀ b, b < W.heap.size → b ≠ g → (sortWorld enc W g 0 m d' os).heap[b]? = W.heap[b]? := fun b hb hn => by
    rw [hh, Array.getElem?_append, if_pos (by simpa using hb), Array.getElem?_modify, if_neg (fun e => hn e.symm)]
  refine ⟨h.ext.trans ⟨rfl, rfl, rfl, hsz, fun c hc => hne c (by have := hg.1; have := h.globW; omega) (by have := hg.1; omega)⟩, h.glob, h3 _ _ (fun c => c = g) (fun c hc => ⟨hc.1, by have := hc.2; omega⟩) ?_ ?_ ⟨rfl, hat⟩⟩
  · rintro c rfl
    exact ⟨⟨hg.1, by have := hg.2; omega⟩, fun _ => h2⟩
  · intro c hc hn
    exact hne c hc.2 fun e => hn (by rw [e]; exact h2)
theorem Has.holds (h : Has G w W (Cells g (d.toList.map enc ++ ext) T :: R)) : Holds enc W g 0 d := by
  intro j hj
  have hb := (h.block In.hd).1
  have hl : j < (d.toList.map enc).length := by simp; omega
  constructor
  · rw [cell_block hb, Nat.zero_add, List.getElem?_append_left hl, List.getElem?_eq_getElem hl]
    simp [getElem!_pos d j hj]
  · unfold World.frozen?
    simp [hb]
end
end Go.Sx

namespace Go.Proofs
open Go.Shelf
def Tryz.keysD_ren : Go.Shelf.Ren := ⟨fun | 7 => 95 | 10 => 121 | n => n, fun | 23 => 139 | 26 => 9 | 3 => 165 | 28 => 160 | 0 => 0 | 27 => 159 | 33 => 170 | 4 => 4 | n => n, fun | n => n⟩
theorem Tryz.keysD : Go.Proofs.SlLaysZ.n7 Tryz.prog Tryz.keysD_ren := {
  mixed := by kernel_rfl
  f7 := ⟨Tryz.f95.name, by decide, Tryz.func95.trans (congrArg some (by kernel_rfl))⟩
  f10 := ⟨Tryz.f121.name, by decide, Tryz.func121.trans (congrArg some (by kernel_rfl))⟩
  t0 := Tryz.underlying0
  a0 := Tryz.isAgg0
  z0 := Tryz.sizeOf0
  v0 := Tryz.zeroValue0
  t4 := Tryz.underlying4
  a4 := Tryz.isAgg4
  z4 := Tryz.sizeOf4
  v4 := Tryz.zeroValue4
  t23 := Tryz.underlying139
  a23 := Tryz.isAgg139
  z23 := Tryz.sizeOf139
  v23 := Tryz.zeroValue139
  t26 := Tryz.underlying9
  a26 := Tryz.isAgg9
  z26 := Tryz.sizeOf9
  v26 := Tryz.zeroValue9
  t27 := Tryz.underlying159
  a27 := Tryz.isAgg159
  z27 := Tryz.sizeOf159
  v27 := Tryz.zeroValue159
  t28 := Tryz.underlying160
  a28 := Tryz.isAgg160
  z28 := Tryz.sizeOf160
  v28 := Tryz.zeroValue160
  t33 := Tryz.underlying170
  a33 := Tryz.isAgg170
  z33 := Tryz.sizeOf170
  v33 := Tryz.zeroValue170 }
def Tryz.collD_ren : Go.Shelf.Ren := ⟨fun | 8 => 119 | 11 => 125 | n => n, fun | 26 => 9 | 28 => 160 | 24 => 120 | 0 => 0 | 33 => 170 | 4 => 4 | n => n, fun | n => n⟩
theorem Tryz.collD : Go.Proofs.SlLaysZ.n8 Tryz.prog Tryz.collD_ren := {
  mixed := by kernel_rfl
  f8 := ⟨Tryz.f119.name, by decide, Tryz.func119.trans (congrArg some (by kernel_rfl))⟩
  f11 := ⟨Tryz.f125.name, by decide, Tryz.func125.trans (congrArg some (by kernel_rfl))⟩
  t0 := Tryz.underlying0
  a0 := Tryz.isAgg0
  z0 := Tryz.sizeOf0
  v0 := Tryz.zeroValue0
  t24 := Tryz.underlying120
  a24 := Tryz.isAgg120
  z24 := Tryz.sizeOf120
  v24 := Tryz.zeroValue120
  t26 := Tryz.underlying9
  a26 := Tryz.isAgg9
  z26 := Tryz.sizeOf9
  v26 := Tryz.zeroValue9
  t28 := Tryz.underlying160
  a28 := Tryz.isAgg160
  z28 := Tryz.sizeOf160
  v28 := Tryz.zeroValue160
  i26 := by kernel_rfl }
def Tryz.sortD_ren : Go.Shelf.Ren := ⟨fun | 6 => 120 | 15 => 127 | 14 => 126 | 28 => 139 | 29 => 140 | 20 => 131 | 21 => 132 | 22 => 133 | 23 => 134 | 24 => 135 | 25 => 136 | 26 => 137 | 27 => 138 | 46 => 142 | 47 => 143 | 48 => 144 | 49 => 145 | 50 => 146 | 57 => 147 | n => n, fun | 22 => 120 | 24 => 9 | 25 => 167 | 3 => 3 | 39 => 157 | 0 => 0 | 53 => 209 | 55 => 156 | 4 => 4 | 46 => 202 | 45 => 201 | 50 => 206 | 5 => 5 | 9 => 9 | 66 => 216 | 70 => 220 | 76 => 222 | 77 => 223 | n => n, fun | n => n⟩
theorem Tryz.sortD : Go.Proofs.SlLaysF.n6 Tryz.prog Tryz.sortD_ren := {
  mixed := by kernel_rfl
  f6 := ⟨Tryz.f120.name, by decide, Tryz.func120.trans (congrArg some (by kernel_rfl))⟩
  f14 := ⟨Tryz.f126.name, by decide, Tryz.func126.trans (congrArg some (by kernel_rfl))⟩
  f15 := Tryz.func127.trans (congrArg some (by kernel_rfl))
  f20 := ⟨Tryz.f131.name, by decide, Tryz.func131.trans (congrArg some (by kernel_rfl))⟩
  f21 := ⟨Tryz.f132.name, by decide, Tryz.func132.trans (congrArg some (by kernel_rfl))⟩
  f22 := ⟨Tryz.f133.name, by decide, Tryz.func133.trans (congrArg some (by kernel_rfl))⟩
  f23 := ⟨Tryz.f134.name, by decide, Tryz.func134.trans (congrArg some (by kernel_rfl))⟩
  f24 := ⟨Tryz.f135.name, by decide, Tryz.func135.trans (congrArg some (by kernel_rfl))⟩
  f25 := ⟨Tryz.f136.name, by decide, Tryz.func136.trans (congrArg some (by kernel_rfl))⟩
  f26 := ⟨Tryz.f137.name, by decide, Tryz.func137.trans (congrArg some (by kernel_rfl))⟩
  f27 := ⟨Tryz.f138.name, by decide, Tryz.func138.trans (congrArg some (by kernel_rfl))⟩
  f28 := Tryz.func139.trans (congrArg some (by kernel_rfl))
  f29 := Tryz.func140.trans (congrArg some (by kernel_rfl))
  f46 := ⟨Tryz.f142.name, by decide, Tryz.func142.trans (congrArg some (by kernel_rfl))⟩
  f47 := Tryz.func143.trans (congrArg some (by kernel_rfl))
  f48 := Tryz.func144.trans (congrArg some (by kernel_rfl))
  f49 := ⟨Tryz.f145.name, by decide, Tryz.func145.trans (congrArg some (by kernel_rfl))⟩
  f50 := ⟨Tryz.f146.name, by decide, Tryz.func146.trans (congrArg some (by kernel_rfl))⟩
  f57 := ⟨Tryz.f147.name, by decide, Tryz.func147.trans (congrArg some (by kernel_rfl))⟩
  t0 := Tryz.underlying0
  a0 := Tryz.isAgg0
  z0 := Tryz.sizeOf0
  v0 := Tryz.zeroValue0
  t3 := Tryz.underlying3
  a3 := Tryz.isAgg3
  z3 := Tryz.sizeOf3
  v3 := Tryz.zeroValue3
  t4 := Tryz.underlying4
  a4 := Tryz.isAgg4
  z4 := Tryz.sizeOf4
  v4 := Tryz.zeroValue4
  t5 := Tryz.underlying5
  a5 := Tryz.isAgg5
  z5 := Tryz.sizeOf5
  v5 := Tryz.zeroValue5
  t9 := Tryz.underlying9
  a9 := Tryz.isAgg9
  z9 := Tryz.sizeOf9
  v9 := Tryz.zeroValue9
  t22 := Tryz.underlying120
  a22 := Tryz.isAgg120
  z22 := Tryz.sizeOf120
  v22 := Tryz.zeroValue120
  a24 := Tryz.isAgg9
  z24 := Tryz.sizeOf9
  t25 := Tryz.underlying167
  a25 := Tryz.isAgg167
  z25 := Tryz.sizeOf167
  v25 := Tryz.zeroValue167
  t39 := Tryz.underlying157
  a39 := Tryz.isAgg157
  z39 := Tryz.sizeOf157
  v39 := Tryz.zeroValue157
  t45 := Tryz.underlying201
  a45 := Tryz.isAgg201
  z45 := Tryz.sizeOf201
  v45 := Tryz.zeroValue201
  t46 := Tryz.underlying202
  a46 := Tryz.isAgg202
  z46 := Tryz.sizeOf202
  v46 := Tryz.zeroValue202
  t50 := Tryz.underlying206
  a50 := Tryz.isAgg206
  z50 := Tryz.sizeOf206
  v50 := Tryz.zeroValue206
  t53 := Tryz.underlying209
  a53 := Tryz.isAgg209
  z53 := Tryz.sizeOf209
  v53 := Tryz.zeroValue209
  t55 := Tryz.underlying156
  a55 := Tryz.isAgg156
  z55 := Tryz.sizeOf156
  v55 := Tryz.zeroValue156
  t66 := Tryz.underlying216
  a66 := Tryz.isAgg216
  z66 := Tryz.sizeOf216
  v66 := Tryz.zeroValue216
  t70 := Tryz.underlying220
  a70 := Tryz.isAgg220
  z70 := Tryz.sizeOf220
  v70 := Tryz.zeroValue220
  t76 := Tryz.underlying222
  a76 := Tryz.isAgg222
  z76 := Tryz.sizeOf222
  v76 := Tryz.zeroValue222
  t77 := Tryz.underlying223
  a77 := Tryz.isAgg223
  z77 := Tryz.sizeOf223
  v77 := Tryz.zeroValue223 }
end Go.Proofs

set_option linter.unusedVariables false
set_option maxRecDepth 10000
namespace Go.Proofs.YtmalklakaalaoaaGreatDoor.Sw
open Go.RowKit Go.Sx Go.Sort Go.Proofs
abbrev KA := {s : ByteArray // s.size ≤ 1000000}
instance : Inhabited KA := ⟨⟨ByteArray.empty, Nat.zero_le _⟩⟩
def encA (x : KA) : Value := .string x.1
def cfA (x y : KA) : Int := cmpK x.1 y.1
theorem lt_A (x y : KA) : ltOf cfA x y = lessK x.1 y.1 := by
  unfold ltOf cfA cmpK lessK
  cases h : Ph.lessL x.1.data.toList y.1.data.toList with
  | true => simp
  | false =>
    rw [if_neg (by simp)]
    split <;> simp
theorem swo_A : SWO (ltOf cfA) := by
  refine ⟨fun x => ?_, fun x y z h1 h2 => ?_, fun x y z h1 h2 => ?_⟩
  · rw [lt_A]; exact lessK_irr _
  · rw [lt_A] at *; exact lessK_trans h1 h2
  · rw [lt_A] at *
    cases h : lessK x.1 z.1 with
    | false => rfl
    | true =>
      by_cases e : x.1 = y.1
      · rw [e, h2] at h; cases h
      · rcases lessK_total e with k | k
        · rw [h1] at k; cases k
        · rw [lessK_trans k h] at h2; cases h2
theorem enc_list (ks : List ByteArray) (hks : ∀ k ∈ ks, k.size ≤ 1000000) : (ks.pmap (fun k h => (⟨k, h⟩ : KA)) hks).toArray.toList.map encA = ks.map Value.string := by
  rw [List.map_pmap]
  exact List.pmap_eq_map ..
theorem sort_keys (w0 W : World) (sv : Value) (ks : List ByteArray) (R : List Res) (hks : ∀ k ∈ ks, k.size ≤ 1000000) (hn : ks.length < 4611686018427387904) (hw : Has 0 w0 W (Own 9 1 sv ks.length (ks.map Value.string) :: R)) :
    Calls Tryz.prog 120 ⟨[sv, .func (.func 96) #[] #[]]⟩ W fun e W' => e = .returned (.tuple #[]) ∧ ∃ ks' : List ByteArray, ks'.Perm ks ∧ ks'.Pairwise (fun a b => lessK b a = false) ∧
      Has 0 w0 W' (Own 9 1 sv ks'.length (ks'.map Value.string) :: R) := by
  obtain ⟨ad, cap, rfl⟩ : ∃ ad cap, sv = .slice ad ks.length cap := by
    obtain ⟨F1, h1, h2, h3⟩ := hw.has
    obtain ⟨_, ⟨e, h0⟩ | ⟨g, cap, cur, e, _⟩⟩ := h2
    · exact ⟨none, 0, by rw [e, h0]⟩
    · exact ⟨_, _, e⟩
  by_cases hz : ks = []
  · subst hz
    exact (AnyF.slices_SortFunc_none { Tryz.sortD with } ad cap (.func (.func 96) #[] #[]) W).mono fun e W' ⟨h1, h2⟩ => ⟨h1, [], List.Perm.refl _, List.Pairwise.nil, by rw [h2]; exact hw⟩
  have hpos : 0 < ks.length := by cases ks with | nil => exact absurd rfl hz | cons => simp
  obtain ⟨g, cur, rfl, ht, hl, hkc, hcm, hw⟩ := hw.open_own hpos
  have he := enc_list ks hks
  have hsz : (ks.pmap (fun k h => (⟨k, h⟩ : KA)) hks).toArray.size = ks.length := by simp
  generalize hd : (ks.pmap (fun k h => (⟨k, h⟩ : KA)) hks).toArray = d at he hsz
  have hcur : cur = d.toList.map encA ++ cur.drop ks.length := by rw [he, ← ht, Nat.mul_one]; exact (List.take_append_drop _ _).symm
  generalize cur.drop ks.length = ext at hcur
  subst hcur
  have hcmp : CmpLays1 Tryz.prog 96 #[] encA cfA g 0 d.size W := by
    intro m os dk hdk x y
    refine (doc_Keys1 x.1 y.1 _ (by have := x.2; omega) (by have := y.2; omega)).mono ?_
    rintro e W' ⟨rfl, hb⟩
    exact ⟨rfl, hb.grown⟩
  have hS := Any.slices_SortFunc (P := Tryz.prog) Tryz.sortD encA (fun _ => rfl) cfA swo_A 96 #[] g 0 cap d W (enters_of Tryz.func96 (by kernel_rfl) rfl) hcmp hw.holds (hw.block In.hd).2.2 (by omega)
  rw [hsz] at hS
  refine Calls.mono hS ?_
  · rintro e W' ⟨rfl, d', n, os, hp, hs, rfl⟩
    have hd' : d'.size = d.size := hp.1
    have hpm : d'.toList.Perm d.toList := by
      have := hp.2.2
      rwa [Array.extract_eq_self_of_le (by omega), Array.extract_eq_self_of_le (by omega)] at this
    have hdk : d.toList.map (·.1) = ks := by
      rw [← hd]
      show List.map _ (List.pmap _ _ _) = _
      rw [List.map_pmap]
      simp
    have hlen : (d'.toList.map (·.1)).length = ks.length := by simp; omega
    refine ⟨rfl, d'.toList.map (·.1), hdk ▸ hpm.map _, ?_, ?_⟩
    · rw [List.pairwise_map, List.pairwise_iff_getElem]
      intro i j hi hj hij
      have h := hs i j (Nat.zero_le _) hij (by simp at hj; omega)
      rw [lt_A, getElem!_pos d' i (by simp at hi; omega), getElem!_pos d' j (by simp at hj; omega)] at h
      simpa using h
    · rw [hlen]
      refine (hw.sorted hd' n os).shut_own ?_ ?_ hkc hcm
      · rw [List.map_map, Nat.mul_one]
        show List.take ks.length (d'.toList.map encA ++ ext) = d'.toList.map encA
        rw [List.take_left']
        simp; omega
      · rw [← hl]; simp [hd']
end Go.Proofs.YtmalklakaalaoaaGreatDoor.Sw

set_option linter.unusedVariables false
namespace Go.Sx
open Go.RowKit Go.Maps
open Go.WideElems (Fit rd rg rd_mk rg_of)
theorem key_str {P : Program} {K : TypeId} (hK : P.underlying K = some .string) {s : ByteArray} (hs : s.size ≤ maxLen) : keyOf P K (.string s) = some (.string s.data.toList) := by
  unfold keyOf
  rw [hK]
  simp [mapKey, hK, hs]
theorem map_owns {P : Program} {K : TypeId} (hK : P.underlying K = some .string) {W : World} {b c : Nat} {es : List Ent} (h : MapAt W b es c) (hn : (es.map (·.k)).Nodup) (hs : ∀ e ∈ es, e.k.size ≤ maxLen) (hl : es.length ≤ maxLen) :
    ∃ D0 : DataW Unit, W.ownsMap P K (fun _ => some (.nil, [])) b es.length D0 ∧ (strKeys D0).Perm (es.map fun e => e.k.data.toList) ∧ Maps.size D0 = es.length := by
  have hrd : ∀ e ∈ es, rd (H := Unit) P K (fun _ => some (.nil, [])) e.raw = some (.string e.k.data.toList, .nil) := fun e he => rd_mk (yv := (.nil, [])) (key_str hK (hs e he)) rfl
  refine ⟨_, ⟨⟨es.map Ent.raw⟩, c, h.at_, ⟨by simpa using hl, ⟨?_, ?_, ?_⟩, ?_⟩, by simp, rfl⟩, ?_, ?_⟩
  · intro x hx
    obtain ⟨e, he, rfl⟩ := List.mem_map.1 hx
    exact h.lt e he
  · show ((es.map Ent.raw).map (·.born)).Nodup
    rw [List.map_map]
    exact h.nodup
  · show ((es.map Ent.raw).map (·.key)).Nodup
    rw [List.map_map]
    have : es.map ((·.key) ∘ Ent.raw) = (es.map (·.k)).map Value.string := by rw [List.map_map]; rfl
    rw [this]
    exact List.Pairwise.map (R := (· ≠ ·)) (S := (· ≠ ·)) Value.string (fun a b hab e => hab (by injection e)) hn
  · intro x hx
    obtain ⟨e, he, rfl⟩ := List.mem_map.1 hx
    exact ⟨_, hrd e he⟩
  · show (List.map (fun p : Lit × DataW Unit => strOf p.1) _).Perm _
    refine ((WideShapes.sorted_perm _).map _).trans ?_
    show (List.map _ (List.map _ (es.map Ent.raw))).Perm _
    rw [List.map_map, List.map_map]
    refine List.Perm.of_eq (List.map_congr_left fun e he => ?_)
    show strOf (rg P K _ e.raw).1 = _
    rw [rg_of (hrd e he)]
    rfl
  · show List.length _ = _
    rw [(WideShapes.sorted_perm _).length_eq]
    simp
end Go.Sx

set_option linter.unusedVariables false
namespace Go.Sx
open Go.RowKit
section
variable {P : Program} {ops : Array Oper} {rest : List Oper} {Q : Exit → Act → World → Prop} {a : Act} {n G : Nat} {L : List (Nat × Value)} {w W W' : World} {R : List Res} {d : Nat} {T S E : TypeId} {p : String} {e : Array Edge} {x y lo hi : Operand} {v : Value} {xs cs : List Value} {k sz : Nat} {i j : Int} {q q' : IntKind} {z : List Value} {H : Fh}
theorem run_slice_rdH {agg : Bool} [sl : Sl P S E] [t : Ty P E agg z] (r : RdH H sz v k xs) (hz : z.length = sz) (l h : Option Value) {i' j' : Nat} (h0 : i' ≤ j') (h1 : j' ≤ k)
    (hl : l = none ∧ i' = 0 ∨ ∃ q, l = some (.int q i')) (hh : h = none ∧ j' = k ∨ ∃ q, h = some (.int q j')) :
    ∃ v', (Instr.sliceAt S v l h none).run P W = .ok v' W ∧ RdH H sz v' (j' - i') ((xs.drop (i' * sz)).take ((j' - i') * sz)) := by
  subst hz
  obtain ⟨hx, ad, cap, rfl, h3, h4, h5⟩ := r
  have hb : ∀ (u : Value) (m y : Nat) (c : BoundsCode) (q : IntKind), u = .int q m → m ≤ y → (Instr.sliceBound u y c).run P W = .ok m W := by
    rintro u m y c q rfl hm
    have : (0 : Int) ≤ (m : Int) ∧ (m : Int) ≤ (y : Int) := ⟨by omega, by omega⟩
    simp only [Instr.sliceBound, asIntOf, Sem.run_bind, Sem.run_pure, Result.andThen_ok]
    rw [if_pos this]
    simp
  have hbs : (Instr.sliceBounds true k cap l h none).run P W = .ok (i', j', cap) W := by
    unfold Instr.sliceBounds
    rcases hh with ⟨rfl, rfl⟩ | ⟨q2, rfl⟩ <;> rcases hl with ⟨rfl, rfl⟩ | ⟨q1, rfl⟩
    · simp
    · simp [hb _ i' j' .sliceB q1 rfl h0]
    · simp [hb _ j' cap .sliceAcap q2 rfl (by omega)]
    · simp [hb _ j' cap .sliceAcap q2 rfl (by omega), hb _ i' j' .sliceB q1 rfl h0]
  refine ⟨.slice (if cap = i' then ad else ad.map (·.add (i' * z.length))) (j' - i') (cap - i'), ?_, ?_, _, _, rfl, by omega, by omega, ?_⟩
  · simp only [Instr.sliceAt, Instr.slice, Sem.run_bind, run_underlying sl.out, Result.andThen_ok, hbs, t.sizeOf, Sem.run_pure]
  · rw [List.length_take, List.length_drop, hx]
    have : (j' - i') * z.length ≤ k * z.length - i' * z.length := by rw [← Nat.sub_mul]; exact Nat.mul_le_mul_right _ (by omega)
    omega
  · rcases h5 with rfl | ⟨b, o, cs, T, zz, rfl, hlt, hc⟩
    · exact .inl (by omega)
    · by_cases hci : cap = i'
      · exact .inl (by omega)
      · refine .inr ⟨b, o + i' * z.length, cs, T, zz, by rw [if_neg hci]; simp [addr_add], hlt, fun m u hu => ?_⟩
        rw [List.getElem?_take] at hu
        split at hu
        · rw [List.getElem?_drop] at hu
          rw [Nat.add_assoc]
          exact hc _ _ hu
        · cases hu
theorem st_sliceH_lo {agg : Bool} [sl : Sl P S E] [t : Ty P E agg z] (hs : Slots a n L) (r : RdH H sz v k xs) (h0 : 0 ≤ i) (h1 : i ≤ k) (hx : ev L x = some v := by with_unfolding_all exact rfl) (hl : ev L lo = some (.int q i) := by with_unfolding_all exact rfl) (hd : Nat.blt d n = true := by with_unfolding_all exact rfl) (hz : z.length = sz := by with_unfolding_all exact rfl)
    (c : ∀ a' v', RdH H sz v' (k - i.toNat) (xs.drop (i.toNat * sz)) → Slots a' n ((d, v') :: L) → wpList P ops Q rest a' W) : wpList P ops Q (⟨some d, .slice S x (some lo) none none, T, p, e, none⟩ :: rest) a W := by
  obtain ⟨m, rfl⟩ := Int.eq_ofNat_of_zero_le h0
  obtain ⟨v', h2, h3⟩ := run_slice_rdH (P := P) (S := S) (W := W) r hz (some (.int q m)) none (i' := m) (j' := k) (by omega) (Nat.le_refl _) (.inr ⟨q, rfl⟩) (.inl ⟨rfl, rfl⟩)
  refine st_value hs hd (v := v') (W' := W) ?_ fun a' hs' => c a' v' ?_ hs'
  · simp only [execOp, Option.map_some, Option.map_none, hs.ev hx, hs.ev hl]
    simp only [Sem.run_bind, h2, Result.andThen_ok]
    rfl
  · rw [List.take_of_length_le (by rw [List.length_drop, r.1, Nat.sub_mul]; omega)] at h3
    simpa using h3
theorem Has.freeze_lit {b m : Nat} (h : Has G w W (Cells b cs E :: Fz H :: R)) (hl : cs.length = m * sz) (hm : m ≤ 9223372036854775807) : ∃ H', H.le H' ∧ Has G w W (Fz H' :: R) ∧ RdH H' sz (.slice (some ⟨b, 0, none⟩) m m) m cs := by
  obtain ⟨H', h1, h2, F, ⟨hF, hb⟩, h4⟩ := h.freeze (R' := [])
  exact ⟨H', h1, h2, hl, some ⟨b, 0, none⟩, m, rfl, Nat.le_refl _, hm, .inr ⟨b, 0, ⟨cs⟩, E, (0, 0), rfl, h4 b _ hF hb, fun j x hx => by simpa using hx⟩⟩
end
end Go.Sx

set_option linter.unusedVariables false
set_option maxRecDepth 10000
namespace Go.Sx
open Go.RowKit
theorem Has.newOwn {G : Nat} {w W W' : World} {R : List Res} {E : TypeId} {size n : Nat} {v : Value} {xs : List Value} (h : Has G w W R) (hb : Below W.heap.size W W') (ho : OwnAt (fun b => W.heap.size ≤ b ∧ b < W'.heap.size) W' E size v n xs) : Has G w W' (Own E size v n xs :: R) := by
  have h1 := h.below hb
  refine ⟨h1.ext, h1.glob, _, ?_, ho, ?_⟩
  · rintro b ⟨hb1, hb2⟩
    exact ⟨Nat.le_trans h.globW hb1, hb2⟩
  · refine (h.has.loc fun b hb' => hb.block b hb'.2).mono fun b hb' => ⟨⟨hb'.1, Nat.lt_of_lt_of_le hb'.2 hb.size⟩, by omega⟩
section
variable {P : Program} {W : World}
end
section
variable {P : Program} {ops : Array Oper} {rest : List Oper} {Q : Exit → Act → World → Prop} {a : Act} {n G : Nat} {L : List (Nat × Value)} {w W : World} {R : List Res} {d : Nat} {T S S' E E' : TypeId} {p : String} {e : Array Edge} {x y hi mx : Operand} {v u : Value} {cur xs news : List Value} {g k m len cap size bytes : Nat} {q q' : IntKind} {z : List Value}
end
section
variable {P : Program} {ops : Array Oper} {rest : List Oper} {Q : Exit → Act → World → Prop} {a : Act} {n G : Nat} {L : List (Nat × Value)} {w W : World} {R : List Res} {d : Nat} {T S E : TypeId} {p : String} {e : Array Edge} {x lo : Operand} {g k m cap size : Nat} {q : IntKind} {z cur : List Value} {H : Fh}
end
end Go.Sx

set_option linter.unusedVariables false
set_option maxRecDepth 10000
namespace Go.Proofs.YtmalklakaalaoaaGreatDoor.Sw
open Go.RowKit Go.Sx Go.Sort Go.Proofs Go.Maps
theorem maps_Keys (w0 W : World) (m : Nat) (R : List Res) (hw : Has 0 w0 W R) :
    Calls Tryz.prog 95 ⟨[.map (some m)]⟩ W fun e W' => ∃ q, e = .returned (.func (.func 121) #[] #[.pointer (some ⟨q, 0, none⟩)]) ∧ Has 0 w0 W' (Cells q [.map (some m)] (Tryz.keysD_ren.t 23) :: R) :=
  (callsIn_wide.1 (AnyZ.keys_in Tryz.keysD Fence.wide 5 trivial rfl (some m) W)).mono (by
    rintro e W' ⟨rfl, rfl⟩
    exact ⟨_, rfl, hw.new [.map (some m)] _⟩)
theorem keys_collect (w0 W : World) (q m : Nat) (d : Dm) (R : List Res) (hd : DocOk d) (hw : Has 0 w0 W (Cells q [.map (some m)] (Tryz.keysD_ren.t 23) :: MapOf m (kvOf d) :: R)) :
    Calls Tryz.prog 119 ⟨[.func (.func 121) #[] #[.pointer (some ⟨q, 0, none⟩)]]⟩ W fun e W' => ∃ (sv : Value) (ks : List ByteArray), e = .returned sv ∧ ks.Perm (d.map (·.1)) ∧
      Has 0 w0 W' (Own 9 1 sv ks.length (ks.map Value.string) :: Cells q [.map (some m)] (Tryz.keysD_ren.t 23) :: MapOf m (kvOf d) :: R) := by
  obtain ⟨es, c, hm, he⟩ := hw.map_at (In.tl In.hd)
  have hk : es.map (·.k) = d.map (·.1) := by
    have := congrArg (List.map (·.1)) he
    rw [kvOf_keys] at this
    rw [← this, List.map_map]
    rfl
  have hlen : es.length = d.length := by simpa using congrArg List.length hk
  have hl := hd.len
  have hsz : ∀ e ∈ es, e.k.size ≤ maxLen := by
    intro e he'
    have h1 : e.k ∈ d.map (·.1) := hk ▸ List.mem_map_of_mem he'
    obtain ⟨p, hp, hpe⟩ := List.mem_map.1 h1
    have h2 := (hd.all p hp).key
    rw [hpe] at h2
    exact Nat.le_trans h2 (by decide)
  obtain ⟨D0, ho, hp, hs⟩ := map_owns (P := Tryz.prog) (K := Tryz.keysD_ren.t 26) (by kernel_rfl) hm (by rw [hk]; exact hd.keys) hsz (Nat.le_trans (by omega : es.length ≤ 50) (by decide))
  have hq := hw.block In.hd
  have hseq : SeqGives Fence.wide 3 Tryz.prog (Tryz.keysD_ren.f 10) #[.pointer (some ⟨q, 0, none⟩)] encStr (fun ss => ss.Perm (strKeys D0)) (Maps.size D0) W :=
    AnyZ.keys_gives (ρ := Tryz.keysD_ren) { Tryz.keysD with } Fence.wide _ trivial rfl (by omega) q m es.length D0 W hq.2.2 (by rw [cell_block hq.1]; rfl) ho
  refine (callsIn_wide.1 (AnyZ.collect_in Tryz.collD Fence.wide 5 trivial trivial rfl (by omega) (Tryz.keysD_ren.f 10) #[.pointer (some ⟨q, 0, none⟩)] trivial (enters_of Tryz.func121 (by kernel_rfl) rfl) _ _ (by rw [hs]; exact Nat.le_trans (by omega : es.length ≤ 50) (by decide)) (by rw [hs]; omega) W hseq)).mono ?_
  rintro e W' ⟨v, ss, rfl, hS, hrow, hnil, hb⟩
  have hks : (ss.map fun s => (⟨s.toArray⟩ : ByteArray)).map Value.string = ss.map encStr := by rw [List.map_map]; rfl
  refine ⟨v, ss.map fun s => (⟨s.toArray⟩ : ByteArray), rfl, ?_, ?_⟩
  · refine ((hS.trans hp).map _).trans (List.Perm.of_eq ?_)
    rw [List.map_map, ← hk]
    refine List.map_congr_left fun e _ => ?_
    show (⟨e.k.data.toList.toArray⟩ : ByteArray) = e.k
    simp
  · rw [hks, List.length_map]
    refine hw.newOwn hb ?_
    obtain ⟨h1, h2⟩ := hrow
    refine ⟨h1, h2.imp id ?_⟩
    rintro ⟨g, cap, cur, h3, h4, h5, h6, h7, h8, h9⟩
    exact ⟨g, cap, cur.toList, h3, ⟨h4, (Array.getElem?_eq_some_iff.1 h5).1⟩, h5, h6, h7, by simpa using h8, h9⟩
set_option maxHeartbeats 8000000 in
theorem sorted_keys (w0 W : World) (q m : Nat) (d : Dm) (R : List Res) (hd : DocOk d) (hw : Has 0 w0 W (Cells q [.map (some m)] (Tryz.keysD_ren.t 23) :: MapOf m (kvOf d) :: R)) :
    Calls Tryz.prog 94 ⟨[.func (.func 121) #[] #[.pointer (some ⟨q, 0, none⟩)], .func (.func 96) #[] #[]]⟩ W fun e W' => ∃ (sv : Value) (ks : List ByteArray), e = .returned sv ∧ ks.Perm (d.map (·.1)) ∧ ks.Pairwise (fun a b => lessK b a = false) ∧
      Has 0 w0 W' (Own 9 1 sv ks.length (ks.map Value.string) :: Cells q [.map (some m)] (Tryz.keysD_ren.t 23) :: MapOf m (kvOf d) :: R) := by
  refine enter Tryz.func94 Tryz.ntmps94 rfl rfl fun a hs => ?_
  repeat (first | (refine sxv hs hw ?_; clear hs; intro a hs) | refine sxc hs ?_ | (refine sxa hs hw ?_; clear hs hw; intro a b W hw hs) | (refine sxs hs hw ?_; clear hs hw; intro W hs hw) | ((with_reducible first | refine st_ptrSome hs (k := ?_) | refine st_ptrNone hs (k := ?_)); clear hs; intro a hs))
  refine st_call hs (hc := keys_collect w0 _ q m d _ hd hw) (k := ?_); rintro e0 W1 ⟨sv, ks, rfl, hp, hw1⟩; refine ⟨_, rfl, ?_⟩; clear hs hw; intro a hs; have hw := hw1; clear hw1
  repeat (first | (refine sxv hs hw ?_; clear hs; intro a hs) | refine sxc hs ?_ | (refine sxa hs hw ?_; clear hs hw; intro a b W hw hs) | (refine sxs hs hw ?_; clear hs hw; intro W hs hw) | ((with_reducible first | refine st_ptrSome hs (k := ?_) | refine st_ptrNone hs (k := ?_)); clear hs; intro a hs))
  have hlen : ks.length = d.length := by simpa using hp.length_eq
  have hl := hd.len
  refine st_call hs (hc := sort_keys w0 _ sv ks _ (fun k hk => ?hk) (by omega) hw) (k := ?_)
  case hk =>
    obtain ⟨p, hp', rfl⟩ := List.mem_map.1 (hp.mem_iff.1 hk)
    exact (hd.all p hp').key
  rintro e0 W1 ⟨rfl, ks', hp2, hsr, hw1⟩; refine ⟨_, rfl, ?_⟩; clear hs hw; intro a hs; have hw := hw1; clear hw1
  repeat (first | (refine sxv hs hw ?_; clear hs; intro a hs) | refine sxc hs ?_ | (refine sxa hs hw ?_; clear hs hw; intro a b W hw hs) | (refine sxs hs hw ?_; clear hs hw; intro W hs hw) | ((with_reducible first | refine st_ptrSome hs (k := ?_) | refine st_ptrNone hs (k := ?_)); clear hs; intro a hs))
  exact rt1 hs rfl rfl ⟨_, ks', rfl, hp2.trans hp, hsr, hw⟩
set_option maxHeartbeats 8000000 in
theorem doc_Keys (w0 W : World) (p : Nat) (d : Dm) (R : List Res) (hd : DocFine d) (hw : Has 0 w0 W (DocAt p d :: R)) :
    Calls Tryz.prog 64 ⟨[.pointer (some ⟨p, 0, none⟩)]⟩ W fun e W' => ∃ sv, e = .returned sv ∧ Has 0 w0 W' (Own 9 1 sv d.length (d.map fun x => Value.string x.1) :: DocAt p d :: R) := by
  obtain ⟨m, d', hp, hk, hw⟩ := docOpen hw
  have hd' : DocOk d' := ⟨(dKeys_perm hp).2 hk, by rw [hp.length_eq]; exact hd.ok.len, fun x hx => hd.ok.all x (hp.mem_iff.1 hx)⟩
  refine enter Tryz.func64 Tryz.ntmps64 rfl rfl fun a hs => ?_
  repeat (first | (refine sxv hs hw ?_; clear hs; intro a hs) | refine sxc hs ?_ | (refine sxa hs hw ?_; clear hs hw; intro a b W hw hs) | (refine sxs hs hw ?_; clear hs hw; intro W hs hw) | ((with_reducible first | refine st_ptrSome hs (k := ?_) | refine st_ptrNone hs (k := ?_)); clear hs; intro a hs))
  refine st_call hs (hc := maps_Keys w0 _ m _ hw) (k := ?_); rintro e0 W1 ⟨q, rfl, hw1⟩; refine ⟨_, rfl, ?_⟩; clear hs hw; intro a hs
  have hw : Has 0 w0 W1 (Cells q [.map (some m)] (Tryz.keysD_ren.t 23) :: MapOf m (kvOf d') :: Cells p [.map (some m)] 141 :: R) := hw1.perm (by repeat (first | exact List.Perm.refl _ | refine perm_pick (by repeat (first | exact Pick.hd | apply Pick.tl)) ?_))
  clear hw1
  repeat (first | (refine sxv hs hw ?_; clear hs; intro a hs) | refine sxc hs ?_ | (refine sxa hs hw ?_; clear hs hw; intro a b W hw hs) | (refine sxs hs hw ?_; clear hs hw; intro W hs hw) | ((with_reducible first | refine st_ptrSome hs (k := ?_) | refine st_ptrNone hs (k := ?_)); clear hs; intro a hs))
  refine st_call hs (hc := sorted_keys w0 _ q m d' _ hd' hw) (k := ?_); rintro e0 W2 ⟨sv, ks, rfl, hpk, hsr, hw1⟩; refine ⟨_, rfl, ?_⟩; clear hs hw; intro a hs; have hw := hw1; clear hw1
  have hpd : ks.Perm (d.map (·.1)) := hpk.trans (hp.map _)
  have hks : ks = d.map (·.1) := srt_unique hpd (srt_of_not (hpd.nodup_iff.2 hk) hsr) hd.srt.keys
  subst hks
  repeat (first | (refine sxv hs hw ?_; clear hs; intro a hs) | refine sxc hs ?_ | (refine sxa hs hw ?_; clear hs hw; intro a b W hw hs) | (refine sxs hs hw ?_; clear hs hw; intro W hs hw) | ((with_reducible first | refine st_ptrSome hs (k := ?_) | refine st_ptrNone hs (k := ?_)); clear hs; intro a hs))
  refine rt1 hs rfl rfl ⟨sv, rfl, ?_⟩
  have hw : Has 0 w0 W2 (Cells p [.map (some m)] 141 :: MapOf m (kvOf d') :: Own 9 1 sv (d.map (·.1)).length ((d.map (·.1)).map Value.string) :: R) := (hw.sub (List.Sublist.cons_cons _ (List.Sublist.cons _ (List.Sublist.refl _)))).perm (by repeat (first | exact List.Perm.refl _ | refine perm_pick (by repeat (first | exact Pick.hd | apply Pick.tl)) ?_))
  have hw := (docShut hw hp hk).perm (List.Perm.swap _ _ _)
  rwa [List.length_map, List.map_map] at hw
end Go.Proofs.YtmalklakaalaoaaGreatDoor.Sw

set_option linter.unusedVariables false
set_option maxRecDepth 10000
namespace Go.Proofs.YtmalklakaalaoaaGreatDoor.Sw
open Go.RowKit Go.Sx
set_option maxHeartbeats 8000000 in
theorem doc_Get (w0 W : World) (p : Nat) (d : Dm) (k : ByteArray) (R : List Res) (hw : Has 0 w0 W (DocAt p d :: R)) :
    Calls Tryz.prog 83 ⟨[.pointer (some ⟨p, 0, none⟩), .string k]⟩ W fun e W' => e = .returned (.tuple ⟨[.agg ⟨rawCells (getK d k)⟩, .bool (getK d k).isSome]⟩) ∧ Has 0 w0 W' (DocAt p d :: R) := by
  refine enter Tryz.func83 Tryz.ntmps83 rfl rfl fun a hs => ?_
  repeat (first | (refine sxv hs hw ?_; clear hs; intro a hs) | refine sxc hs ?_ | (refine sxa hs hw ?_; clear hs hw; intro a b W hw hs) | (refine sxs hs hw ?_; clear hs hw; intro W hs hw) | ((with_reducible first | refine st_ptrSome hs (k := ?_) | refine st_ptrNone hs (k := ?_)); clear hs; intro a hs))
  obtain ⟨b4, q4⟩ := nm1 hw; subst q4
  refine st_call hs (hc := doc_has w0 _ p d k _ (hw.perm (List.Perm.swap _ _ _))) (k := ?_); rintro e0 W1 ⟨rfl, hw1⟩; refine ⟨_, rfl, ?_⟩; clear hs hw; intro a hs; have hw := hw1; clear hw1
  cases hg : (getK d k).isSome with
  | false =>
    rw [hg] at hs
    have hn : getK d k = none := by simpa using hg
    repeat (first | (refine sxv hs hw ?_; clear hs; intro a hs) | refine sxc hs ?_ | (refine sxa hs hw ?_; clear hs hw; intro a b W hw hs) | (refine sxs hs hw ?_; clear hs hw; intro W hs hw) | ((with_reducible first | refine st_ptrSome hs (k := ?_) | refine st_ptrNone hs (k := ?_)); clear hs; intro a hs))
    refine rc2 hs rfl rfl hw (In.tl In.hd) rfl rfl ?_
    rw [hn]
    exact ⟨rfl, hw.sub (List.Sublist.cons_cons _ (List.Sublist.cons _ (List.Sublist.refl _)))⟩
  | true =>
    rw [hg] at hs
    obtain ⟨m, d', hp, hk, hw⟩ := docOpen hw
    repeat (first | (refine sxv hs hw ?_; clear hs; intro a hs) | refine sxc hs ?_ | (refine sxa hs hw ?_; clear hs hw; intro a b W hw hs) | (refine sxs hs hw ?_; clear hs hw; intro W hs hw) | ((with_reducible first | refine st_ptrSome hs (k := ?_) | refine st_ptrNone hs (k := ?_)); clear hs; intro a hs))
    refine st_lookup hs (hw := hw) (hz := zeroVal) (c := ?_); clear hs; intro a hs
    rw [dget_kv, getK_perm hp ((dKeys_perm hp).2 hk)] at hs
    repeat (first | (refine sxv hs hw ?_; clear hs; intro a hs) | refine sxc hs ?_ | (refine sxa hs hw ?_; clear hs hw; intro a b W hw hs) | (refine sxs hs hw ?_; clear hs hw; intro W hs hw) | ((with_reducible first | refine st_ptrSome hs (k := ?_) | refine st_ptrNone hs (k := ?_)); clear hs; intro a hs))
    refine st_call hs (hc := Raw_any (getK d k) _) (k := ?_); rintro e0 W1 ⟨rfl, hb⟩; refine ⟨_, rfl, ?_⟩; clear hs; intro a hs; replace hw := hw.below hb; clear hb
    repeat (first | (refine sxv hs hw ?_; clear hs; intro a hs) | refine sxc hs ?_ | (refine sxa hs hw ?_; clear hs hw; intro a b W hw hs) | (refine sxs hs hw ?_; clear hs hw; intro W hs hw) | ((with_reducible first | refine st_ptrSome hs (k := ?_) | refine st_ptrNone hs (k := ?_)); clear hs; intro a hs))
    refine rc2 hs rfl rfl hw (In.tl (In.tl In.hd)) rfl rfl ?_
    exact ⟨rfl, docShut (hw.sub (List.Sublist.cons_cons _ (List.Sublist.cons_cons _ (List.Sublist.cons _ (List.Sublist.refl _))))) hp hk⟩
end Go.Proofs.YtmalklakaalaoaaGreatDoor.Sw

set_option linter.unusedVariables false
set_option maxRecDepth 10000
namespace Go.Sx
open Go.RowKit
section
variable {P : Program} {ops : Array Oper} {rest : List Oper} {Q : Exit → Act → World → Prop} {a : Act} {n : Nat} {L : List (Nat × Value)} {W : World} {d : Nat} {T : TypeId} {p : String} {e : Array Edge}
end
theorem keepB {w W : World} {p : Fh → Prop} {b : Bool} (h : Has 0 w W ((if b = true then Ex (fun H => Fz H :: Fact ((fr w).le H ∧ p H) :: []) else Fz (fr w)) :: [])) : Below w.heap.size w W := by
  cases b with
  | false => exact h.endF In.hd (Fh.le.refl _)
  | true =>
    have h : Has 0 w W (Ex (fun H => Fz H :: Fact ((fr w).le H ∧ p H) :: []) :: []) := h
    obtain ⟨H, h⟩ := Has.open h
    have h : Has 0 w W (Fz H :: Fact ((fr w).le H ∧ p H) :: []) := h
    have h2 := h.told (In.tl In.hd)
    exact h.endF In.hd h2.1
inductive Sel : List Res → List Res → Prop
  | nil {L : List Res} : Sel [] L
  | refl (L : List Res) : Sel L L
  | cons {r : Res} {K L L' : List Res} : Pick r L L' → Sel K L' → Sel (r :: K) L
  | skip {r : Res} {K L : List Res} : Sel K L → Sel K (r :: L)
theorem Sel.perm {K L : List Res} (s : Sel K L) : ∃ M, L.Perm (K ++ M) := by
  induction s with
  | nil => exact ⟨_, List.Perm.refl _⟩
  | refl L => exact ⟨[], by rw [List.append_nil]⟩
  | cons p _ ih =>
    obtain ⟨M, h⟩ := ih
    exact ⟨M, perm_pick p h⟩
  | @skip r K L _ ih =>
    obtain ⟨M, h⟩ := ih
    exact ⟨r :: M, (h.cons r).trans List.perm_middle.symm⟩
theorem Has.sel {G : Nat} {w W : World} {K L : List Res} (h : Has G w W L) (s : Sel K L) : Has G w W K := by
  obtain ⟨M, hp⟩ := s.perm
  exact (h.perm hp).sub (List.sublist_append_left K M)
end Go.Sx

set_option linter.unusedVariables false
namespace Go.Sx
open Go.RowKit
theorem chH_at {α : Type} {Rr : α → List Value → Prop} {H : Fh} {sad : Option Addr} {scap n k : Nat} {l : List α} {xs : List Value} {i : Nat} {o : α} (hk : ∀ a c, Rr a c → c.length = k) (r : RdH H k (.slice sad n scap) n xs) (hc : Ch Rr l xs) (hn : l.length = n) (h : l[i]? = some o) :
    ∃ g off c, sad = some ⟨g, off, none⟩ ∧ Rr o c ∧ ∀ {G : Nat} {w0 W : World} {L : List Res}, Has G w0 W L → In (Fz H) L → ∀ j u, c[j]? = some u → W.cell? ⟨g, off + i * k + j, none⟩ = some u := by
  have hi : i < l.length := (List.getElem?_eq_some_iff.1 h).1
  obtain ⟨c, h1, h2, h3⟩ := hc.get hk h
  obtain ⟨_, ad, cap, e, h4, h5, h6⟩ := r
  injection e with e1 e2 e3
  subst e1
  rcases h6 with h6 | ⟨b, off, cs, T, z, rfl, hb, hcell⟩
  · omega
  · refine ⟨b, off, c, rfl, h1, fun hw hin j u hu => ?_⟩
    obtain ⟨F, hF, h7⟩ := hw.of_in hin
    unfold World.cell?
    rw [(h7 b _ hb).2, Nat.add_assoc]
    have : cs[off + (i * k + j)]? = some u := by
      refine hcell _ _ ?_
      rw [← h3, cut_eq, List.getElem?_take] at hu
      split at hu
      · rw [List.getElem?_drop] at hu; exact hu
      · cases hu
    simpa using this
theorem Has.thaw {G : Nat} {w W : World} {R : List Res} {H H' : Fh} (h : Has G w W (Fz H' :: R)) (hl : H.le H') : Has G w W (Fz H :: R) := by
  obtain ⟨F1, h1, h2, h3⟩ := h.has
  exact ⟨h.ext, h.glob, F1, h1, fun b o hb => h2 b o (hl b o hb), h3⟩
theorem chMap {α : Type} (f : α → Value) : ∀ l : List α, Ch (fun a c => c = [f a]) l (l.map f)
  | [] => rfl
  | a :: l => ⟨[f a], l.map f, rfl, rfl, chMap f l⟩
end Go.Sx

set_option linter.unusedVariables false
set_option maxRecDepth 10000
namespace Go.Proofs.YtmalklakaalaoaaGreatDoor.Sw
open Go.RowKit Go.Sx
-- pieces
set_option maxHeartbeats 4000000 in
theorem ref_Eq_self (k n : Int) (s : ByteArray) (w : World) :
    Calls Tryz.prog 84 ⟨[.agg ⟨[.int .i64 k, .int .i64 n, .string s]⟩, .agg ⟨[.int .i64 k, .int .i64 n, .string s]⟩]⟩ w fun e w' => e = .returned (.bool true) ∧ Below w.heap.size w w' := by
  have hw := Has.start (G := 0) (w := w) (Nat.zero_le _)
  refine enter Tryz.func84 Tryz.ntmps84 rfl rfl fun a hs => ?_
  repeat (first | (refine sxv hs hw ?_; clear hs; intro a hs) | refine sxc hs ?_ | (refine sxa hs hw ?_; clear hs hw; intro a b W hw hs) | (refine sxs hs hw ?_; clear hs hw; intro W hs hw) | ((with_reducible first | refine st_ptrSome hs (k := ?_) | refine st_ptrNone hs (k := ?_)); clear hs; intro a hs))
  rw [beq_self_eq_true] at hs
  repeat (first | (refine sxv hs hw ?_; clear hs; intro a hs) | refine sxc hs ?_ | (refine sxa hs hw ?_; clear hs hw; intro a b W hw hs) | (refine sxs hs hw ?_; clear hs hw; intro W hs hw) | ((with_reducible first | refine st_ptrSome hs (k := ?_) | refine st_ptrNone hs (k := ?_)); clear hs; intro a hs))
  rw [beq_self_eq_true] at hs
  repeat (first | (refine sxv hs hw ?_; clear hs; intro a hs) | refine sxc hs ?_ | (refine sxa hs hw ?_; clear hs hw; intro a b W hw hs) | (refine sxs hs hw ?_; clear hs hw; intro W hs hw) | ((with_reducible first | refine st_ptrSome hs (k := ?_) | refine st_ptrNone hs (k := ?_)); clear hs; intro a hs))
  rw [beq_self_eq_true] at hs
  repeat (first | (refine sxv hs hw ?_; clear hs; intro a hs) | refine sxc hs ?_ | (refine sxa hs hw ?_; clear hs hw; intro a b W hw hs) | (refine sxs hs hw ?_; clear hs hw; intro W hs hw) | ((with_reducible first | refine st_ptrSome hs (k := ?_) | refine st_ptrNone hs (k := ?_)); clear hs; intro a hs))
  exact rt1 hs rfl rfl ⟨rfl, hw.end (by repeat (first | exact In.hd | apply In.tl))⟩
theorem getK_at {d : Dm} (hk : dKeys d) {i : Nat} {o : ByteArray × DV} (h : d[i]? = some o) : getK d o.1 = some o.2 := (getK_mem hk).2 (List.mem_of_getElem? h)
set_option maxHeartbeats 8000000 in
theorem law6_Same (w0 W : World) (H : Fh) (p : Nat) (d : Dm) (dv : Value) (R : List Res) (hd : DocFine d) (r : DocH H dv d) (hw : Has 0 w0 W (DocAt p d :: Fz H :: R)) :
    Calls Tryz.prog 49 ⟨[.pointer (some ⟨p, 0, none⟩), .agg ⟨[dv]⟩]⟩ W fun e W' => e = .returned (.bool true) ∧ Has 0 w0 W' (DocAt p d :: Fz H :: R) := by
  obtain ⟨dad, dcap, rfl⟩ := r.slice
  have hl := hd.ok.len
  refine enter Tryz.func49 Tryz.ntmps49 rfl rfl fun a hs => ?_
  repeat (first | (refine sxv hs hw ?_; clear hs; intro a hs) | refine sxc hs ?_ | (refine sxa hs hw ?_; clear hs hw; intro a b W hw hs) | (refine sxs hs hw ?_; clear hs hw; intro W hs hw) | ((with_reducible first | refine st_ptrSome hs (k := ?_) | refine st_ptrNone hs (k := ?_)); clear hs; intro a hs))
  obtain ⟨b3, q3⟩ := nm1 hw; subst q3
  refine st_call hs (hc := doc_Keys w0 _ p d _ hd (hw.perm (List.Perm.swap _ _ _))) (k := ?_); rintro e0 W1 ⟨kv, rfl, hw1⟩; refine ⟨_, rfl, ?_⟩; clear hs hw; intro a hs
  have hw : Has 0 w0 W1 (Own 9 1 kv d.length (d.map fun x => Value.string x.1) :: Fz H :: Cells b3 [.slice dad d.length dcap] 32 :: DocAt p d :: R) := hw1.perm (by repeat (first | exact List.Perm.refl _ | refine perm_pick (by repeat (first | exact Pick.hd | apply Pick.tl)) ?_))
  clear hw1
  obtain ⟨H1, hle, hw2, rk⟩ := hw.freeze_own
  clear hw; have hw := hw2; clear hw2
  obtain ⟨kad, kcap, rfl⟩ := rk.slice
  have r1 := r.le hle
  repeat (first | (refine sxv hs hw ?_; clear hs; intro a hs) | refine sxc hs ?_ | (refine sxa hs hw ?_; clear hs hw; intro a b W hw hs) | (refine sxs hs hw ?_; clear hs hw; intro W hs hw) | ((with_reducible first | refine st_ptrSome hs (k := ?_) | refine st_ptrNone hs (k := ?_)); clear hs; intro a hs))
  rw [show (((d.length : Int)) != (d.length : Int)) = false from bne_self_eq_false _] at hs
  repeat (first | (refine sxv hs hw ?_; clear hs; intro a hs) | refine sxc hs ?_ | (refine sxa hs hw ?_; clear hs hw; intro a b W hw hs) | (refine sxs hs hw ?_; clear hs hw; intro W hs hw) | ((with_reducible first | refine st_ptrSome hs (k := ?_) | refine st_ptrNone hs (k := ?_)); clear hs; intro a hs))
  refine st_loop (σ := Nat) (fun i => [(0, .pointer (some ⟨p, 0, none⟩)), (3, .pointer (some ⟨b3, 0, none⟩)), (5, .slice kad d.length kcap), (6, .int .i64 (i : Int))]) (fun _ => DocAt p d :: Cells b3 [.slice dad d.length dcap] 32 :: Fz H1 :: R) (fun i => i ≤ d.length) (fun i => d.length - i) 0 (Nat.zero_le _) hs ⟨rfl, rfl, rfl, rfl, trivial⟩ (hw.perm (by repeat (first | exact List.Perm.refl _ | refine perm_pick (by repeat (first | exact Pick.hd | apply Pick.tl)) ?_))) ?_
  clear hs hw
  rintro i a W hi hs hw
  repeat (first | (refine sxv hs hw ?_; clear hs; intro a hs) | refine sxc hs ?_ | (refine sxa hs hw ?_; clear hs hw; intro a b W hw hs) | (refine sxs hs hw ?_; clear hs hw; intro W hs hw) | ((with_reducible first | refine st_ptrSome hs (k := ?_) | refine st_ptrNone hs (k := ?_)); clear hs; intro a hs))
  refine cd_split hs (kt := fun hcc => ?_) (kf := fun hcc => ?_)
  · have hi' : i < d.length := by simpa using hcc
    obtain ⟨o, hoi⟩ : ∃ o, d[i]? = some o := ⟨d[i], List.getElem?_eq_getElem hi'⟩
    have hgk := getK_at hd.ok.keys hoi
    obtain ⟨g1, f1, c1, rfl, rfl, hc1⟩ := chH_at (fun _ _ h => by rw [h]; rfl) rk (chMap (fun x : ByteArray × DV => Value.string x.1) d) rfl hoi
    obtain ⟨g2, f2, c2, rfl, rfl, hc2⟩ := chH_at pair_len r1 (chFlat pairCells d) rfl hoi
    repeat (first | (refine sxv hs hw ?_; clear hs; intro a hs) | refine sxc hs ?_ | (refine sxa hs hw ?_; clear hs hw; intro a b W hw hs) | (refine sxs hs hw ?_; clear hs hw; intro W hs hw) | ((with_reducible first | refine st_ptrSome hs (k := ?_) | refine st_ptrNone hs (k := ?_)); clear hs; intro a hs))
    refine st_index_at hs (z := [.string ⟨#[]⟩]) (h0 := by omega) (h1 := by omega) (c := ?_); clear hs; intro a hs
    repeat (first | (refine sxv hs hw ?_; clear hs; intro a hs) | refine sxc hs ?_ | (refine sxa hs hw ?_; clear hs hw; intro a b W hw hs) | (refine sxs hs hw ?_; clear hs hw; intro W hs hw) | ((with_reducible first | refine st_ptrSome hs (k := ?_) | refine st_ptrNone hs (k := ?_)); clear hs; intro a hs))
    refine st_load_at hs (hc := hc1 hw (by repeat (first | exact In.hd | apply In.tl)) 0 _ rfl) (c := ?_); clear hs; intro a hs
    repeat (first | (refine sxv hs hw ?_; clear hs; intro a hs) | refine sxc hs ?_ | (refine sxa hs hw ?_; clear hs hw; intro a b W hw hs) | (refine sxs hs hw ?_; clear hs hw; intro W hs hw) | ((with_reducible first | refine st_ptrSome hs (k := ?_) | refine st_ptrNone hs (k := ?_)); clear hs; intro a hs))
    refine st_call hs (hc := doc_Get w0 _ p d o.1 _ hw) (k := ?_); rintro e0 W1 ⟨rfl, hw1⟩; refine ⟨_, rfl, ?_⟩; clear hs hw; intro a hs; have hw := hw1; clear hw1
    rw [hgk, show (some o.2).isSome = true from rfl] at hs
    repeat (first | (refine sxv hs hw ?_; clear hs; intro a hs) | refine sxc hs ?_ | (refine sxa hs hw ?_; clear hs hw; intro a b W hw hs) | (refine sxs hs hw ?_; clear hs hw; intro W hs hw) | ((with_reducible first | refine st_ptrSome hs (k := ?_) | refine st_ptrNone hs (k := ?_)); clear hs; intro a hs))
    obtain ⟨b7, q7⟩ := nm1 hw; subst q7
    refine rg_draw (V := [.slice (some ⟨g1, f1, none⟩) d.length kcap, .int .i64 (i : Int), .pointer (some ⟨g1, f1 + i * 1, none⟩), .string o.1, .pointer (some ⟨b3, 0 + 0, none⟩), .slice (some ⟨g2, f2, none⟩) d.length dcap, .int .i64 (i : Int), .pointer (some ⟨g2, f2 + i * 4, none⟩), .pointer (some ⟨g2, f2 + i * 4 + 0, none⟩), .string o.1, .bool false, .bool false, .bool true, .bool false, .bool false, .bool false, .agg ⟨rawCells (some o.2)⟩, .pointer (some ⟨b3, 0 + 0, none⟩), .slice (some ⟨g2, f2, none⟩) d.length dcap, .int .i64 (i : Int), .pointer (some ⟨g2, f2 + i * 4, none⟩), .pointer (some ⟨g2, f2 + i * 4 + 1, none⟩), .agg ⟨rawCells (some o.2)⟩, .bool true, .bool false, .bool false])
      (Rs := fun D => Cells b7 (rawCells (some o.2)) 93 :: DocAt p d :: Cells b3 [.slice (some ⟨g2, f2, none⟩) d.length dcap] 32 :: Fz H1 :: R) hs hw (ho := ⟨?_, ?_, ?c2_c, ?c3_c, ?_, ?_, ?_, ?c7_c, ?_, ?c9_c, ?c10_c, ?_, ?_, ?_, ?_, ?_, ?_, ?_, ?_, ?_, ?c20_c, ?_, ?c22_c, ?c23_c, ?_, ?_, trivial⟩) (k := ?k_c)
    case c2_c =>
      intro LD D a W hcl hi hp hs hw
      refine st_index_at hs (z := [.string ⟨#[]⟩]) (h0 := by omega) (h1 := by omega) (c := ?_); clear hs; intro a hs
      repeat (first | (refine sxv hs hw ?_; clear hs; intro a hs) | refine sxc hs ?_ | (refine sxa hs hw ?_; clear hs hw; intro a b W hw hs) | (refine sxs hs hw ?_; clear hs hw; intro W hs hw) | ((with_reducible first | refine st_ptrSome hs (k := ?_) | refine st_ptrNone hs (k := ?_)); clear hs; intro a hs))
      exact ⟨hs, hw⟩
    case c3_c =>
      intro LD D a W hcl hi hp hs hw
      refine st_load_at hs (hc := hc1 hw (by repeat (first | exact In.hd | apply In.tl)) 0 _ rfl) (c := ?_); clear hs; intro a hs
      repeat (first | (refine sxv hs hw ?_; clear hs; intro a hs) | refine sxc hs ?_ | (refine sxa hs hw ?_; clear hs hw; intro a b W hw hs) | (refine sxs hs hw ?_; clear hs hw; intro W hs hw) | ((with_reducible first | refine st_ptrSome hs (k := ?_) | refine st_ptrNone hs (k := ?_)); clear hs; intro a hs))
      exact ⟨hs, hw⟩
    case c7_c =>
      intro LD D a W hcl hi hp hs hw
      refine st_index_at hs (z := [.string ⟨#[]⟩, .int .i64 0, .int .i64 0, .string ⟨#[]⟩]) (h0 := by omega) (h1 := by omega) (c := ?_); clear hs; intro a hs
      repeat (first | (refine sxv hs hw ?_; clear hs; intro a hs) | refine sxc hs ?_ | (refine sxa hs hw ?_; clear hs hw; intro a b W hw hs) | (refine sxs hs hw ?_; clear hs hw; intro W hs hw) | ((with_reducible first | refine st_ptrSome hs (k := ?_) | refine st_ptrNone hs (k := ?_)); clear hs; intro a hs))
      exact ⟨hs, hw⟩
    case c9_c =>
      intro LD D a W hcl hi hp hs hw
      refine st_load_at hs (hc := hc2 hw (by repeat (first | exact In.hd | apply In.tl)) 0 _ rfl) (c := ?_); clear hs; intro a hs
      repeat (first | (refine sxv hs hw ?_; clear hs; intro a hs) | refine sxc hs ?_ | (refine sxa hs hw ?_; clear hs hw; intro a b W hw hs) | (refine sxs hs hw ?_; clear hs hw; intro W hs hw) | ((with_reducible first | refine st_ptrSome hs (k := ?_) | refine st_ptrNone hs (k := ?_)); clear hs; intro a hs))
      exact ⟨hs, hw⟩
    case c10_c =>
      intro LD D a W hcl hi hp hs hw
      repeat (first | (refine sxv hs hw ?_; clear hs; intro a hs) | refine sxc hs ?_ | (refine sxa hs hw ?_; clear hs hw; intro a b W hw hs) | (refine sxs hs hw ?_; clear hs hw; intro W hs hw) | ((with_reducible first | refine st_ptrSome hs (k := ?_) | refine st_ptrNone hs (k := ?_)); clear hs; intro a hs))
      rw [beq_self_eq_true] at hs
      repeat (first | (refine sxv hs hw ?_; clear hs; intro a hs) | refine sxc hs ?_ | (refine sxa hs hw ?_; clear hs hw; intro a b W hw hs) | (refine sxs hs hw ?_; clear hs hw; intro W hs hw) | ((with_reducible first | refine st_ptrSome hs (k := ?_) | refine st_ptrNone hs (k := ?_)); clear hs; intro a hs))
      exact ⟨hs, hw⟩
    case c20_c =>
      intro LD D a W hcl hi hp hs hw
      repeat (first | (refine sxv hs hw ?_; clear hs; intro a hs) | refine sxc hs ?_ | (refine sxa hs hw ?_; clear hs hw; intro a b W hw hs) | (refine sxs hs hw ?_; clear hs hw; intro W hs hw) | ((with_reducible first | refine st_ptrSome hs (k := ?_) | refine st_ptrNone hs (k := ?_)); clear hs; intro a hs))
      refine st_index_at hs (z := [.string ⟨#[]⟩, .int .i64 0, .int .i64 0, .string ⟨#[]⟩]) (h0 := by omega) (h1 := by omega) (c := ?_); clear hs; intro a hs
      repeat (first | (refine sxv hs hw ?_; clear hs; intro a hs) | refine sxc hs ?_ | (refine sxa hs hw ?_; clear hs hw; intro a b W hw hs) | (refine sxs hs hw ?_; clear hs hw; intro W hs hw) | ((with_reducible first | refine st_ptrSome hs (k := ?_) | refine st_ptrNone hs (k := ?_)); clear hs; intro a hs))
      exact ⟨hs, hw⟩
    case c22_c =>
      intro LD D a W hcl hi hp hs hw
      repeat (first | (refine sxv hs hw ?_; clear hs; intro a hs) | refine sxc hs ?_ | (refine sxa hs hw ?_; clear hs hw; intro a b W hw hs) | (refine sxs hs hw ?_; clear hs hw; intro W hs hw) | ((with_reducible first | refine st_ptrSome hs (k := ?_) | refine st_ptrNone hs (k := ?_)); clear hs; intro a hs))
      refine st_load_ats hs (cs := rawCells (some o.2)) (hc := fun j u h => by rw [Nat.add_assoc _ 1 j, Nat.add_comm 1 j]; exact hc2 hw (by repeat (first | exact In.hd | apply In.tl)) (j + 1) u h) (hl := by rfl) (c := ?_); clear hs; intro a hs
      repeat (first | (refine sxv hs hw ?_; clear hs; intro a hs) | refine sxc hs ?_ | (refine sxa hs hw ?_; clear hs hw; intro a b W hw hs) | (refine sxs hs hw ?_; clear hs hw; intro W hs hw) | ((with_reducible first | refine st_ptrSome hs (k := ?_) | refine st_ptrNone hs (k := ?_)); clear hs; intro a hs))
      exact ⟨hs, hw⟩
    case c23_c =>
      intro LD D a W hcl hi hp hs hw
      repeat (first | (refine sxv hs hw ?_; clear hs; intro a hs) | refine sxc hs ?_ | (refine sxa hs hw ?_; clear hs hw; intro a b W hw hs) | (refine sxs hs hw ?_; clear hs hw; intro W hs hw) | ((with_reducible first | refine st_ptrSome hs (k := ?_) | refine st_ptrNone hs (k := ?_)); clear hs; intro a hs))
      refine st_call hs (hc := ref_Eq_self (kindOf (some o.2)) (intIn (some o.2)) (textIn (some o.2)) _) (k := ?_); rintro e0 W1 ⟨rfl, hb⟩; refine ⟨_, rfl, ?_⟩; clear hs; intro a hs; replace hw := hw.below hb; clear hb
      repeat (first | (refine sxv hs hw ?_; clear hs; intro a hs) | refine sxc hs ?_ | (refine sxa hs hw ?_; clear hs hw; intro a b W hw hs) | (refine sxs hs hw ?_; clear hs hw; intro W hs hw) | ((with_reducible first | refine st_ptrSome hs (k := ?_) | refine st_ptrNone hs (k := ?_)); clear hs; intro a hs))
      exact ⟨hs, hw⟩
    case k_c =>
      clear hs hw
      intro a W hs hw
      replace hw : Has 0 w0 W (Cells b7 (rawCells (some o.2)) 93 :: DocAt p d :: Cells b3 [.slice (some ⟨g2, f2, none⟩) d.length dcap] 32 :: Fz H1 :: R) := hw
      replace hs : Slots a 60 [(59, .bool false), (0, .pointer (some ⟨p, 0, none⟩)), (3, .pointer (some ⟨b3, 0, none⟩)), (5, .slice (some ⟨g1, f1, none⟩) d.length kcap), (6, .int .i64 (i : Int))] := hs.of ⟨rfl, rfl, rfl, rfl, rfl, trivial⟩
      repeat (first | (refine sxv hs hw ?_; clear hs; intro a hs) | refine sxc hs ?_ | (refine sxa hs hw ?_; clear hs hw; intro a b W hw hs) | (refine sxs hs hw ?_; clear hs hw; intro W hs hw) | ((with_reducible first | refine st_ptrSome hs (k := ?_) | refine st_ptrNone hs (k := ?_)); clear hs; intro a hs))
      exact st_again (i + 1) hs (hw.sub (List.Sublist.cons _ (List.Sublist.refl _))) hi' (by show d.length - (i + 1) < d.length - i; omega) ⟨rfl, rfl, rfl, int_eq (by show IntKind.i64.wrap ((i : Int) + 1) = ((i + 1 : Nat) : Int); rw [IntWalk.i64_in _ (by omega)]; omega), trivial⟩
    all_goals
      intro LD D a W hcl hi hp hs hw
      repeat (first | (refine sxv hs hw ?_; clear hs; intro a hs) | refine sxc hs ?_ | (refine sxa hs hw ?_; clear hs hw; intro a b W hw hs) | (refine sxs hs hw ?_; clear hs hw; intro W hs hw) | ((with_reducible first | refine st_ptrSome hs (k := ?_) | refine st_ptrNone hs (k := ?_)); clear hs; intro a hs))
      exact ⟨hs, hw⟩
  · repeat (first | (refine sxv hs hw ?_; clear hs; intro a hs) | refine sxc hs ?_ | (refine sxa hs hw ?_; clear hs hw; intro a b W hw hs) | (refine sxs hs hw ?_; clear hs hw; intro W hs hw) | ((with_reducible first | refine st_ptrSome hs (k := ?_) | refine st_ptrNone hs (k := ?_)); clear hs; intro a hs))
    refine rt1 hs rfl rfl ⟨rfl, ?_⟩
    have hw : Has 0 w0 _ (Fz H1 :: DocAt p d :: Cells b3 [.slice dad d.length dcap] 32 :: R) := hw.perm (by repeat (first | exact List.Perm.refl _ | refine perm_pick (by repeat (first | exact Pick.hd | apply Pick.tl)) ?_))
    have hw := hw.thaw hle
    have hw : Has 0 w0 _ (Cells b3 [.slice dad d.length dcap] 32 :: DocAt p d :: Fz H :: R) := hw.perm (by repeat (first | exact List.Perm.refl _ | refine perm_pick (by repeat (first | exact Pick.hd | apply Pick.tl)) ?_))
    exact hw.sub (List.Sublist.cons _ (List.Sublist.refl _))
end Go.Proofs.YtmalklakaalaoaaGreatDoor.Sw

set_option linter.unusedVariables false
set_option maxRecDepth 10000
namespace Go.Proofs.YtmalklakaalaoaaGreatDoor.Sw
open Go.RowKit Go.Sx
theorem pairs_len : ∀ {m : Dm}, (∀ p ∈ m, PairOk p) → (m.flatMap pairB).length ≤ m.length * 1000300
  | [], _ => by simp
  | p :: m, h => by
    have h1 := pairB_len (h p (by simp))
    have h2 := (h p (by simp)).key
    have h3 := pairs_len (m := m) fun q hq => h q (by simp [hq])
    rw [List.flatMap_cons, List.length_append, List.length_cons]
    omega
def docA (d : Dm) (i : Nat) : List UInt8 := Ph.putI (d.length : Int) ++ (d.take i).flatMap pairB
theorem docA_len {d : Dm} (h : DocOk d) (i : Nat) : (docA d i).length ≤ 60000000 := by
  have h1 := pairs_len (m := d.take i) fun q hq => h.all q (List.mem_of_mem_take hq)
  have h2 := Ph.putI_length_le (d.length : Int)
  have h3 := h.len
  have h4 : (d.take i).length ≤ 50 := by rw [List.length_take]; omega
  unfold docA
  rw [List.length_append]
  omega
theorem docA_all (d : Dm) : docA d d.length = docB d := by unfold docA docB; rw [List.take_length]
theorem docA_next {d : Dm} {i : Nat} {o : ByteArray × DV} (h : d[i]? = some o) : docA d (i + 1) = docA d i ++ Ph.putT o.1.data.toList ++ putR (kindOf (some o.2)) (intIn (some o.2)) (textIn (some o.2)) := by
  unfold docA
  rw [List.take_add_one, h, List.flatMap_append]
  simp [pairB, rawB]
theorem kind_i64 (v : DV) : -9223372036854775808 ≤ kindOf (some v) ∧ kindOf (some v) ≤ 9223372036854775807 := by
  rcases v with n | s
  · exact ⟨(by decide : (-9223372036854775808 : Int) ≤ 1), (by decide : (1 : Int) ≤ 9223372036854775807)⟩
  · exact ⟨(by decide : (-9223372036854775808 : Int) ≤ 2), (by decide : (2 : Int) ≤ 9223372036854775807)⟩
set_option maxHeartbeats 16000000 in
theorem doc_Encode (w0 W : World) (p : Nat) (d : Dm) (R : List Res) (hd : DocFine d) (hw : Has 0 w0 W (DocAt p d :: R)) :
    Calls Tryz.prog 68 ⟨[.pointer (some ⟨p, 0, none⟩)]⟩ W fun e W' => ∃ ad cap, e = .returned (.slice ad (docB d).length cap) ∧ Has 0 w0 W' (Sx.OwnB 5 (.slice ad (docB d).length cap) (docB d) :: DocAt p d :: R) := by
  have hl := hd.ok.len
  obtain ⟨m, d', hp, hk, hw⟩ := docOpen hw
  have hlen : d'.length = d.length := hp.length_eq
  have hlen' : (kvOf d').length = d'.length := by simp [kvOf]
  refine enter Tryz.func68 Tryz.ntmps68 rfl rfl fun a hs => ?_
  repeat (first | (refine sxv hs hw ?_; clear hs; intro a hs) | refine sxc hs ?_ | (refine sxa hs hw ?_; clear hs hw; intro a b W hw hs) | (refine sxs hs hw ?_; clear hs hw; intro W hs hw) | ((with_reducible first | refine st_ptrSome hs (k := ?_) | refine st_ptrNone hs (k := ?_)); clear hs; intro a hs))
  refine st_len_map hs (hw := hw) (c := ?_); clear hs; intro a hs
  rw [hlen', hlen] at hs
  repeat (first | (refine sxv hs hw ?_; clear hs; intro a hs) | refine sxc hs ?_ | (refine sxa hs hw ?_; clear hs hw; intro a b W hw hs) | (refine sxs hs hw ?_; clear hs hw; intro W hs hw) | ((with_reducible first | refine st_ptrSome hs (k := ?_) | refine st_ptrNone hs (k := ?_)); clear hs; intro a hs))
  have hw := hw.nilB 5
  refine st_call hs (hc := num_Put w0 _ (.slice none 0 0) [] (d.length : Int) _ (by omega) (by omega) (by simp) hw) (k := ?_); rintro e0 W1 ⟨ad, cap, rfl, hw1⟩; refine ⟨_, rfl, ?_⟩; clear hs hw; intro a hs; have hw := hw1; clear hw1
  rw [List.nil_append] at hs hw
  repeat (first | (refine sxv hs hw ?_; clear hs; intro a hs) | refine sxc hs ?_ | (refine sxa hs hw ?_; clear hs hw; intro a b W hw hs) | (refine sxs hs hw ?_; clear hs hw; intro W hs hw) | ((with_reducible first | refine st_ptrSome hs (k := ?_) | refine st_ptrNone hs (k := ?_)); clear hs; intro a hs))
  have hw : Has 0 w0 _ (Cells p [.map (some m)] 141 :: MapOf m (kvOf d') :: Sx.OwnB 5 (.slice ad (Ph.putI (d.length : Int)).length cap) (Ph.putI (d.length : Int)) :: R) := hw.perm (by repeat (first | exact List.Perm.refl _ | refine perm_pick (by repeat (first | exact Pick.hd | apply Pick.tl)) ?_))
  have hw := docShut hw hp hk
  clear hp hk hlen hlen'
  refine st_call hs (hc := doc_Keys w0 _ p d _ hd hw) (k := ?_); rintro e0 W1 ⟨kv, rfl, hw1⟩; refine ⟨_, rfl, ?_⟩; clear hs hw; intro a hs; have hw := hw1; clear hw1
  obtain ⟨kad, kcap, rfl⟩ : ∃ kad kcap, kv = .slice kad d.length kcap := by
    obtain ⟨_, ad, cap, e, _⟩ := hw.rd_own In.hd
    exact ⟨ad, cap, e⟩
  obtain ⟨m, d', hp, hk, hw⟩ := docOpen (hw.perm (List.Perm.swap _ _ _))
  repeat (first | (refine sxv hs hw ?_; clear hs; intro a hs) | refine sxc hs ?_ | (refine sxa hs hw ?_; clear hs hw; intro a b W hw hs) | (refine sxs hs hw ?_; clear hs hw; intro W hs hw) | ((with_reducible first | refine st_ptrSome hs (k := ?_) | refine st_ptrNone hs (k := ?_)); clear hs; intro a hs))
  refine st_loop (σ := Nat × Option Addr × Nat) (fun s => [(0, .pointer (some ⟨p, 0, none⟩)), (15, .slice kad d.length kcap), (16, .int .i64 (d.length : Int)), (17, .int .i64 (s.1 : Int)), (3, .slice s.2.1 (docA d s.1).length s.2.2)]) (fun s => Sx.OwnB 5 (.slice s.2.1 (docA d s.1).length s.2.2) (docA d s.1) :: Own 9 1 (.slice kad d.length kcap) d.length (d.map fun x => Value.string x.1) :: Cells p [.map (some m)] 141 :: MapOf m (kvOf d') :: R) (fun s => s.1 ≤ d.length) (fun s => d.length - s.1) (0, ad, cap) (Nat.zero_le _) hs ⟨rfl, rfl, rfl, rfl, by simp only [docA, List.take_zero, List.flatMap_nil, List.append_nil]; rfl, trivial⟩ (by
    have e0 : docA d 0 = Ph.putI (d.length : Int) := by simp [docA]
    simp only [e0]
    exact hw.perm (by repeat (first | exact List.Perm.refl _ | refine perm_pick (by repeat (first | exact Pick.hd | apply Pick.tl)) ?_))) ?_
  clear hs hw
  rintro ⟨i, oad, ocap⟩ a W hi hs hw
  simp only at hi hs hw
  repeat (first | (refine sxv hs hw ?_; clear hs; intro a hs) | refine sxc hs ?_ | (refine sxa hs hw ?_; clear hs hw; intro a b W hw hs) | (refine sxs hs hw ?_; clear hs hw; intro W hs hw) | ((with_reducible first | refine st_ptrSome hs (k := ?_) | refine st_ptrNone hs (k := ?_)); clear hs; intro a hs))
  refine cd_split hs (kt := fun hcc => ?_) (kf := fun hcc => ?_)
  · have hi' : i < d.length := by simpa using hcc
    obtain ⟨o, hoi⟩ : ∃ o, d[i]? = some o := ⟨d[i], List.getElem?_eq_getElem hi'⟩
    have hgk := getK_at hd.ok.keys hoi
    have hpo := hd.ok.all o (List.mem_of_getElem? hoi)
    have hrr := raw_range (k := o.1) (v := o.2) hpo
    have hkk := hpo.key
    have hki := kind_i64 o.2
    have hal := docA_len hd.ok i
    have hal2 := docA_len hd.ok (i + 1)
    have hnx := docA_next hoi
    rw [hnx] at hal2
    simp only [List.length_append] at hal2
    repeat (first | (refine sxv hs hw ?_; clear hs; intro a hs) | refine sxc hs ?_ | (refine sxa hs hw ?_; clear hs hw; intro a b W hw hs) | (refine sxs hs hw ?_; clear hs hw; intro W hs hw) | ((with_reducible first | refine st_ptrSome hs (k := ?_) | refine st_ptrNone hs (k := ?_)); clear hs; intro a hs))
    refine st_index_ch hs (r := hw.rd_own (In.tl In.hd)) (hk := fun _ _ h => by rw [h]; rfl) (ch := chMap (fun x : ByteArray × DV => Value.string x.1) d) (ho := hoi) (hlen := rfl) (c := ?_); clear hs; intro a g off c hc hcl hpc hlt hs
    subst hc
    repeat (first | (refine sxv hs hw ?_; clear hs; intro a hs) | refine sxc hs ?_ | (refine sxa hs hw ?_; clear hs hw; intro a b W hw hs) | (refine sxs hs hw ?_; clear hs hw; intro W hs hw) | ((with_reducible first | refine st_ptrSome hs (k := ?_) | refine st_ptrNone hs (k := ?_)); clear hs; intro a hs))
    refine st_load_at hs (hc := hpc 0 _ rfl) (c := ?_); clear hs hpc; intro a hs
    repeat (first | (refine sxv hs hw ?_; clear hs; intro a hs) | refine sxc hs ?_ | (refine sxa hs hw ?_; clear hs hw; intro a b W hw hs) | (refine sxs hs hw ?_; clear hs hw; intro W hs hw) | ((with_reducible first | refine st_ptrSome hs (k := ?_) | refine st_ptrNone hs (k := ?_)); clear hs; intro a hs))
    refine rg_drawU (σ := Option Addr × Nat) (V := fun u => [.slice oad (docA d i).length ocap, .string o.1, .slice (u 2).1 (docA d i ++ Ph.putT o.1.data.toList).length (u 2).2, .pointer (some ⟨p, 0, none⟩), .pointer (some ⟨p, 0, none⟩), .pointer (some ⟨p, 0 + 0, none⟩), .map (some m), .string o.1, .agg ⟨[vCell (some o.2)]⟩, .agg ⟨rawCells (some o.2)⟩, .slice (u 10).1 (docA d i ++ Ph.putT o.1.data.toList ++ putR (kindOf (some o.2)) (intIn (some o.2)) (textIn (some o.2))).length (u 10).2, .slice (u 11).1 (docA d i ++ Ph.putT o.1.data.toList ++ putR (kindOf (some o.2)) (intIn (some o.2)) (textIn (some o.2))).length (u 11).2])
      (Rs := fun u D => (if D 11 then Sx.OwnB 5 (.slice (u 11).1 (docA d i ++ Ph.putT o.1.data.toList ++ putR (kindOf (some o.2)) (intIn (some o.2)) (textIn (some o.2))).length (u 11).2) (docA d i ++ Ph.putT o.1.data.toList ++ putR (kindOf (some o.2)) (intIn (some o.2)) (textIn (some o.2))) else if D 10 then Sx.OwnB 5 (.slice (u 10).1 (docA d i ++ Ph.putT o.1.data.toList ++ putR (kindOf (some o.2)) (intIn (some o.2)) (textIn (some o.2))).length (u 10).2) (docA d i ++ Ph.putT o.1.data.toList ++ putR (kindOf (some o.2)) (intIn (some o.2)) (textIn (some o.2))) else if D 2 then Sx.OwnB 5 (.slice (u 2).1 (docA d i ++ Ph.putT o.1.data.toList).length (u 2).2) (docA d i ++ Ph.putT o.1.data.toList) else Sx.OwnB 5 (.slice oad (docA d i).length ocap) (docA d i)) :: Own 9 1 (.slice kad d.length kcap) d.length (d.map fun x => Value.string x.1) :: Cells p [.map (some m)] 141 :: MapOf m (kvOf d') :: R) (fun _ => (none, 0)) hs hw (hVu := ?vu_c) (ho := ⟨?_, ?_, ?c2_c, ?_, ?_, ?_, ?_, ?_, ?c8_c, ?c9_c, ?c10_c, ?c11_c, trivial⟩) (k := ?k_c)
    case vu_c =>
      intro u u' j h
      rcases j with _ | _ | _ | _ | _ | _ | _ | _ | _ | _ | _ | _ | j
      all_goals first | rfl | simp [h]
    case c2_c =>
      intro u LD D a W hcl hi hp hs hw
      have hA := Go.Sx.not_done hcl hi 10 (by kernel_rfl)
      have hB := Go.Sx.not_done hcl hA 11 (by kernel_rfl)
      simp only [hi, hA, hB, Bool.false_eq_true, if_false] at hw
      refine st_call hs (hc := num_PutText w0 _ _ (docA d i) o.1 _ (by omega) (by omega) hw) (k := ?_); rintro e0 W1 ⟨ad, cap, rfl, hw1⟩; refine ⟨_, rfl, ?_⟩; clear hs hw; intro a hs; have hw := hw1; clear hw1
      repeat (first | (refine sxv hs hw ?_; clear hs; intro a hs) | refine sxc hs ?_ | (refine sxa hs hw ?_; clear hs hw; intro a b W hw hs) | (refine sxs hs hw ?_; clear hs hw; intro W hs hw) | ((with_reducible first | refine st_ptrSome hs (k := ?_) | refine st_ptrNone hs (k := ?_)); clear hs; intro a hs))
      refine Or.inr ⟨(ad, cap), hs, ?_⟩
      show Has 0 w0 _ ((if (Nat.beq 11 2 || D 11) = true then _ else if (Nat.beq 10 2 || D 10) = true then _ else _) :: _)
      rw [hA, hB]
      exact hw
    case c8_c =>
      intro u LD D a W hcl hi hp hs hw
      refine st_lookup hs (hw := hw) (hz := zeroVal) (c := ?_); clear hs; intro a hs
      rw [dget_kv, getK_perm ‹d'.Perm d› ((dKeys_perm ‹d'.Perm d›).2 hk), hgk] at hs
      repeat (first | (refine sxv hs hw ?_; clear hs; intro a hs) | refine sxc hs ?_ | (refine sxa hs hw ?_; clear hs hw; intro a b W hw hs) | (refine sxs hs hw ?_; clear hs hw; intro W hs hw) | ((with_reducible first | refine st_ptrSome hs (k := ?_) | refine st_ptrNone hs (k := ?_)); clear hs; intro a hs))
      exact Or.inl ⟨hs, hw⟩
    case c9_c =>
      intro u LD D a W hcl hi hp hs hw
      refine st_call hs (hc := Raw_any (some o.2) _) (k := ?_); rintro e0 W1 ⟨rfl, hb⟩; refine ⟨_, rfl, ?_⟩; clear hs; intro a hs; replace hw := hw.below hb; clear hb
      repeat (first | (refine sxv hs hw ?_; clear hs; intro a hs) | refine sxc hs ?_ | (refine sxa hs hw ?_; clear hs hw; intro a b W hw hs) | (refine sxs hs hw ?_; clear hs hw; intro W hs hw) | ((with_reducible first | refine st_ptrSome hs (k := ?_) | refine st_ptrNone hs (k := ?_)); clear hs; intro a hs))
      exact Or.inl ⟨hs, hw⟩
    case c10_c =>
      intro u LD D a W hcl hi hp hs hw
      have hB := Go.Sx.not_done hcl hi 11 (by kernel_rfl)
      have h2 := Go.Sx.done hp 2 (by kernel_rfl)
      simp only [hi, h2, hB, Bool.false_eq_true, if_false, if_true] at hw
      refine st_call hs (hc := value_Put w0 _ _ (docA d i ++ Ph.putT o.1.data.toList) (kindOf (some o.2)) (intIn (some o.2)) (textIn (some o.2)) _ hki.1 hki.2 hrr.1.1 hrr.1.2 (by omega) (by rw [List.length_append]; omega) hw) (k := ?_); rintro e0 W1 ⟨ad, cap, rfl, hw1⟩; refine ⟨_, rfl, ?_⟩; clear hs hw; intro a hs; have hw := hw1; clear hw1
      repeat (first | (refine sxv hs hw ?_; clear hs; intro a hs) | refine sxc hs ?_ | (refine sxa hs hw ?_; clear hs hw; intro a b W hw hs) | (refine sxs hs hw ?_; clear hs hw; intro W hs hw) | ((with_reducible first | refine st_ptrSome hs (k := ?_) | refine st_ptrNone hs (k := ?_)); clear hs; intro a hs))
      refine Or.inr ⟨(ad, cap), hs, ?_⟩
      show Has 0 w0 _ ((if (Nat.beq 11 10 || D 11) = true then _ else _) :: _)
      rw [hB]
      exact hw
    case c11_c =>
      intro u LD D a W hcl hi hp hs hw
      have hA := Go.Sx.done hp 10 (by kernel_rfl)
      simp only [hi, hA, Bool.false_eq_true, if_false, if_true] at hw
      repeat (first | (refine sxv hs hw ?_; clear hs; intro a hs) | refine sxc hs ?_ | (refine sxa hs hw ?_; clear hs hw; intro a b W hw hs) | (refine sxs hs hw ?_; clear hs hw; intro W hs hw) | ((with_reducible first | refine st_ptrSome hs (k := ?_) | refine st_ptrNone hs (k := ?_)); clear hs; intro a hs))
      exact Or.inr ⟨u 10, hs, hw⟩
    case k_c =>
      clear hs hw
      intro u a W hs hw
      rw [← hnx] at hs
      simp only [← hnx] at hw
      replace hw : Has 0 w0 W (Sx.OwnB 5 (.slice (u 11).1 (docA d (i + 1)).length (u 11).2) (docA d (i + 1)) :: Own 9 1 (.slice kad d.length kcap) d.length (d.map fun x => Value.string x.1) :: Cells p [.map (some m)] 141 :: MapOf m (kvOf d') :: R) := hw
      replace hs : Slots a 34 [(0, .pointer (some ⟨p, 0, none⟩)), (15, .slice kad d.length kcap), (16, .int .i64 (d.length : Int)), (17, .int .i64 (i : Int)), (3, .slice (u 11).1 (docA d (i + 1)).length (u 11).2)] := hs.of ⟨rfl, rfl, rfl, rfl, rfl, trivial⟩
      generalize (u 11).1 = ad1 at *
      generalize (u 11).2 = cap1 at *
      clear u
      repeat (first | (refine sxv hs hw ?_; clear hs; intro a hs) | refine sxc hs ?_ | (refine sxa hs hw ?_; clear hs hw; intro a b W hw hs) | (refine sxs hs hw ?_; clear hs hw; intro W hs hw) | ((with_reducible first | refine st_ptrSome hs (k := ?_) | refine st_ptrNone hs (k := ?_)); clear hs; intro a hs))
      exact st_again (i + 1, ad1, cap1) hs hw hi' (by show d.length - (i + 1) < d.length - i; omega) ⟨rfl, rfl, rfl, int_eq (by show IntKind.i64.wrap ((i : Int) + 1) = ((i + 1 : Nat) : Int); rw [IntWalk.i64_in _ (by omega)]; omega), rfl, trivial⟩
    all_goals
      intro u LD D a W hcl hi hp hs hw
      repeat (first | (refine sxv hs hw ?_; clear hs; intro a hs) | refine sxc hs ?_ | (refine sxa hs hw ?_; clear hs hw; intro a b W hw hs) | (refine sxs hs hw ?_; clear hs hw; intro W hs hw) | ((with_reducible first | refine st_ptrSome hs (k := ?_) | refine st_ptrNone hs (k := ?_)); clear hs; intro a hs))
      exact Or.inl ⟨hs, hw⟩
  · have hi' : i = d.length := by have : ¬ i < d.length := by simpa using hcc
                                  omega
    subst hi'
    rw [docA_all] at hs hw
    repeat (first | (refine sxv hs hw ?_; clear hs; intro a hs) | refine sxc hs ?_ | (refine sxa hs hw ?_; clear hs hw; intro a b W hw hs) | (refine sxs hs hw ?_; clear hs hw; intro W hs hw) | ((with_reducible first | refine st_ptrSome hs (k := ?_) | refine st_ptrNone hs (k := ?_)); clear hs; intro a hs))
    refine rt1 hs rfl rfl ⟨_, _, rfl, ?_⟩
    have hw : Has 0 w0 _ (Cells p [.map (some m)] 141 :: MapOf m (kvOf d') :: Sx.OwnB 5 (.slice oad (docB d).length ocap) (docB d) :: Own 9 1 (.slice kad d.length kcap) d.length (d.map fun x => Value.string x.1) :: R) := hw.perm (by repeat (first | exact List.Perm.refl _ | refine perm_pick (by repeat (first | exact Pick.hd | apply Pick.tl)) ?_))
    exact ((docShut hw hp hk).sub (List.Sublist.cons_cons _ (List.Sublist.cons_cons _ (List.Sublist.cons _ (List.Sublist.refl _))))).swap2
end Go.Proofs.YtmalklakaalaoaaGreatDoor.Sw

set_option linter.unusedVariables false
set_option maxRecDepth 10000
namespace Go.Sx
open Go.RowKit
def CellsM (b : Nat) (cs : List Value) (T : TypeId) : Res where
  ok F W := F b ∧ W.heap[b]? = some (.cells ⟨cs⟩ T (cs.length, cs.length + 1))
  loc F W W' h := fun ⟨h1, h2⟩ => ⟨h1, (h b h1).trans h2⟩
section
variable {P : Program} {ops : Array Oper} {rest : List Oper} {Q : Exit → Act → World → Prop} {a : Act} {n G : Nat} {L : List (Nat × Value)} {w W W' : World} {R R' : List Res} {d b : Nat} {T S S' E : TypeId} {p : String} {e : Array Edge} {x y : Operand} {v : Value} {cs cs' : List Value} {s : ByteArray} {l : List UInt8}
theorem Has.blockM {R0 : List Res} (h : Has G w W R0) (i : In (CellsM b cs E) R0) : W.heap[b]? = some (.cells ⟨cs⟩ E (cs.length, cs.length + 1)) ∧ G ≤ b ∧ b < W.heap.size := by
  obtain ⟨F, h1, h2⟩ := h.of_in i
  exact ⟨h2.2, h1 b h2.1⟩
theorem cell_m {fr : Nat × Nat} (h : W.heap[b]? = some (.cells ⟨cs⟩ E fr)) (j : Nat) : W.cell? ⟨b, j, none⟩ = cs[j]? := by
  unfold World.cell?
  rw [h]
  simp
theorem st_bytes [t : StrTy P S] [sl : Sl P S' E] [u : IntTy P E .u8] (hs : Slots a n L) (hw : Has G w W R) (hl : s.size ≤ 1000000000) (hx : ev L x = some (.string s) := by with_unfolding_all exact rfl) (hd : Nat.blt d n = true := by with_unfolding_all exact rfl)
    (c : ∀ a' b cap ext W', Has G w W' (CellsM b (bys s.data.toList ++ ext) E :: R) → RdB W' (.slice (some ⟨b, 0, none⟩) s.data.toList.length cap) s.data.toList → Slots a' n ((d, .slice (some ⟨b, 0, none⟩) s.data.toList.length cap) :: L) → wpList P ops Q rest a' W') : wpList P ops Q (⟨some d, .convert S S' x, T, p, e, none⟩ :: rest) a W := by
  have hr := run_bytes_of_string W S S' E s t.out sl.out u.out
  have hge : s.size ≤ grownCap W s.size 0 E := grownCap_ge W s.size 0 E
  have hcm : grownCap W s.size 0 E ≤ maxLen := grownCap_le_maxLen W s.size 0 E (by unfold maxLen; omega)
  generalize grownCap W s.size 0 E = cap at *
  have hsz : s.data.toList.length = s.size := by rw [Array.length_toList]; rfl
  have hrow : bytesRow s cap = ⟨bys s.data.toList ++ List.replicate (cap - s.size) (Value.int .u8 0)⟩ := by
    unfold bytesRow bys
    apply Array.toList_inj.1
    simp
  rw [hrow] at hr
  have hnew := heap_alloc_new W.drew (.cells ⟨bys s.data.toList ++ List.replicate (cap - s.size) (Value.int .u8 0)⟩ E ((bys s.data.toList ++ List.replicate (cap - s.size) (Value.int .u8 0)).length, (bys s.data.toList ++ List.replicate (cap - s.size) (Value.int .u8 0)).length + 1))
  refine st_value hs hd (v := .slice (some ⟨W.heap.size, 0, none⟩) s.data.toList.length cap) (W' := W.drew.alloc (.cells ⟨bys s.data.toList ++ List.replicate (cap - s.size) (Value.int .u8 0)⟩ E ((bys s.data.toList ++ List.replicate (cap - s.size) (Value.int .u8 0)).length, (bys s.data.toList ++ List.replicate (cap - s.size) (Value.int .u8 0)).length + 1))) ?_ fun a' hs' => c a' W.heap.size cap (List.replicate (cap - s.size) (Value.int .u8 0)) _ ((hw.below (Below.refl _ _).drew).newObj ⟨rfl, hnew⟩) ?_ hs'
  · simp only [execOp, hs.ev hx, Sem.run_bind, hr, Result.andThen_ok, hsz]
    rfl
  · refine ⟨by simp, some ⟨W.heap.size, 0, none⟩, cap, rfl, by omega, by unfold maxLen at hcm; omega, .inr ⟨W.heap.size, 0, rfl, lt_of_block hnew, fun j u hj => ?_⟩⟩
    have hnew' : (W.drew.alloc (.cells ⟨bys s.data.toList ++ List.replicate (cap - s.size) (Value.int .u8 0)⟩ E ((bys s.data.toList ++ List.replicate (cap - s.size) (Value.int .u8 0)).length, (bys s.data.toList ++ List.replicate (cap - s.size) (Value.int .u8 0)).length + 1))).heap[W.heap.size]? = _ := hnew
    rw [cell_m hnew', Nat.zero_add]
    have hj2 := (List.getElem?_eq_some_iff.1 hj).1
    rw [List.getElem?_append_left hj2]; exact hj
end
end Go.Sx

set_option linter.unusedVariables false
set_option maxRecDepth 10000
namespace Go.Sx
theorem Has.freezeM {w W : World} {R : List Res} {H : Fh} {b n cap : Nat} {cs xs : List Value} {E : TypeId} (h : Has 0 w W (CellsM b cs E :: Fz H :: R)) (r : Rd W 1 (.slice (some ⟨b, 0, none⟩) n cap) n xs) : ∃ H', H.le H' ∧ Has 0 w W (Fz H' :: R) ∧ RdH H' 1 (.slice (some ⟨b, 0, none⟩) n cap) n xs := by
  have hb := (h.blockM In.hd).1
  obtain ⟨H', h1, h2, F, hF, h4⟩ := h.freeze (R' := [])
  obtain ⟨r1, ad, cp, e, r2, r3, r4⟩ := r
  injection e with e1 e2 e3
  subst e1 e3
  have hFb : F b := hF.1
  refine ⟨H', h1, h2, r1, _, _, rfl, r2, r3, r4.imp id ?_⟩
  rintro ⟨b', o, e, hlt, hc⟩
  injection e with e
  injection e with e1 e2 _
  subst e1 e2
  refine ⟨b, 0, ⟨cs⟩, E, _, rfl, h4 b _ hFb hb, fun j x hj => ?_⟩
  have := hc j x hj
  rw [cell_m hb] at this
  simpa using this
end Go.Sx
namespace Go.Proofs.YtmalklakaalaoaaGreatDoor.Sw
open Go.RowKit Go.Sx
-- pieces
set_option maxHeartbeats 8000000 in
theorem sl_Index (l : List Int) (v : Value) (x : Int) (W : World) (hl : l.length ≤ 1000) (r : Rd W 1 v l.length (l.map (Value.int .i64))) :
    Calls Tryz.prog 104 ⟨[v, .int .i64 x]⟩ W fun e W' => ∃ i : Int, e = .returned (.int .i64 i) ∧ (0 ≤ i ↔ x ∈ l) ∧ Below W.heap.size W W' := by
  have hw := Has.start (G := 0) (w := W) (Nat.zero_le _)
  obtain ⟨sad, scap, rfl⟩ : ∃ ad cap, v = .slice ad l.length cap := by obtain ⟨_, ad, cap, e, _⟩ := r; exact ⟨ad, cap, e⟩
  refine enter Tryz.func104 Tryz.ntmps104 rfl rfl fun a hs => ?_
  repeat (first | (refine sxv hs hw ?_; clear hs; intro a hs) | refine sxc hs ?_ | (refine sxa hs hw ?_; clear hs hw; intro a b W hw hs) | (refine sxs hs hw ?_; clear hs hw; intro W hs hw))
  refine st_loop (σ := Nat) (fun t => [(0, .slice sad l.length scap), (1, .int .i64 x), (7, .int .i64 (l.length : Int)), (8, .int .i64 (t : Int))]) (fun _ => Old W 0 :: []) (fun t => t ≤ l.length ∧ x ∉ l.take t) (fun t => l.length - t) 0 ⟨Nat.zero_le _, by simp⟩ hs ⟨rfl, rfl, rfl, rfl, trivial⟩ hw ?_
  clear hs hw
  rintro i a W2 ⟨hi, hn⟩ hs hw
  repeat (first | (refine sxv hs hw ?_; clear hs; intro a hs) | refine sxc hs ?_ | (refine sxa hs hw ?_; clear hs hw; intro a b W hw hs) | (refine sxs hs hw ?_; clear hs hw; intro W hs hw))
  refine cd_split hs (kt := fun hcc => ?_) (kf := fun hcc => ?_)
  · have hi' : i < l.length := by simpa using hcc
    obtain ⟨o, hoi⟩ : ∃ o, l[i]? = some o := ⟨l[i], List.getElem?_eq_getElem hi'⟩
    repeat (first | (refine sxv hs hw ?_; clear hs; intro a hs) | refine sxc hs ?_ | (refine sxa hs hw ?_; clear hs hw; intro a b W hw hs) | (refine sxs hs hw ?_; clear hs hw; intro W hs hw))
    refine st_index_ch hs (i := i) (r := hw.rd (by repeat (first | exact In.hd | apply In.tl)) hw.ext.size r) (hk := fun _ _ h => by rw [h]; rfl) (ch := chMap (Value.int .i64) l) (ho := hoi) (hlen := rfl) (c := ?_); clear hs; intro a g off c hc hcl hpc hlt hs
    subst hc
    refine st_load_at hs (hc := hpc 0 _ rfl) (c := ?_); clear hs hpc; intro a hs
    repeat (first | (refine sxv hs hw ?_; clear hs; intro a hs) | refine sxc hs ?_ | (refine sxa hs hw ?_; clear hs hw; intro a b W hw hs) | (refine sxs hs hw ?_; clear hs hw; intro W hs hw))
    cases he : (x == o) with
    | true =>
      rw [he] at hs
      repeat (first | (refine sxv hs hw ?_; clear hs; intro a hs) | refine sxc hs ?_ | (refine sxa hs hw ?_; clear hs hw; intro a b W hw hs) | (refine sxs hs hw ?_; clear hs hw; intro W hs hw))
      have : x = o := by simpa using he
      exact rt1 hs rfl rfl ⟨i, rfl, ⟨fun _ => this ▸ List.mem_of_getElem? hoi, fun _ => by omega⟩, hw.end (by repeat (first | exact In.hd | apply In.tl))⟩
    | false =>
      rw [he] at hs
      repeat (first | (refine sxv hs hw ?_; clear hs; intro a hs) | refine sxc hs ?_ | (refine sxa hs hw ?_; clear hs hw; intro a b W hw hs) | (refine sxs hs hw ?_; clear hs hw; intro W hs hw))
      have hne : x ≠ o := by simpa using he
      refine st_again (i + 1) hs hw ⟨hi', ?_⟩ (by show l.length - (i + 1) < l.length - i; omega) ⟨rfl, rfl, rfl, int_eq (by show IntKind.i64.wrap ((i : Int) + 1) = ((i + 1 : Nat) : Int); rw [IntWalk.i64_in _ (by omega)]; omega), trivial⟩
      rw [take_of hoi, List.mem_append, List.mem_singleton]
      rintro (h | h)
      · exact hn h
      · exact hne h
  · have hi' : i = l.length := by have : ¬ i < l.length := by simpa using hcc
                                  omega
    subst hi'
    rw [List.take_length] at hn
    repeat (first | (refine sxv hs hw ?_; clear hs; intro a hs) | refine sxc hs ?_ | (refine sxa hs hw ?_; clear hs hw; intro a b W hw hs) | (refine sxs hs hw ?_; clear hs hw; intro W hs hw))
    exact rt1 hs rfl rfl ⟨-1, rfl, ⟨fun h => absurd h (by decide), fun h => absurd h hn⟩, hw.end (by repeat (first | exact In.hd | apply In.tl))⟩
set_option maxHeartbeats 4000000 in
theorem sl_Contains (l : List Int) (v : Value) (x : Int) (W : World) (hl : l.length ≤ 1000) (r : Rd W 1 v l.length (l.map (Value.int .i64))) :
    Calls Tryz.prog 73 ⟨[v, .int .i64 x]⟩ W fun e W' => e = .returned (.bool (decide (x ∈ l))) ∧ Below W.heap.size W W' := by
  have hw := Has.start (G := 0) (w := W) (Nat.zero_le _)
  refine enter Tryz.func73 Tryz.ntmps73 rfl rfl fun a hs => ?_
  repeat (first | (refine sxv hs hw ?_; clear hs; intro a hs) | refine sxc hs ?_ | (refine sxa hs hw ?_; clear hs hw; intro a b W hw hs) | (refine sxs hs hw ?_; clear hs hw; intro W hs hw))
  refine st_call hs (hc := sl_Index l v x _ hl r) (k := ?_); rintro e0 W1 ⟨i, rfl, hi, hb⟩; refine ⟨_, rfl, ?_⟩; clear hs; intro a hs; replace hw := hw.below hb; clear hb
  repeat (first | (refine sxv hs hw ?_; clear hs; intro a hs) | refine sxc hs ?_ | (refine sxa hs hw ?_; clear hs hw; intro a b W hw hs) | (refine sxs hs hw ?_; clear hs hw; intro W hs hw))
  exact rt1 hs rfl rfl ⟨by rw [show decide (i ≥ 0) = decide (x ∈ l) from decide_eq_decide.2 hi], hw.end (by repeat (first | exact In.hd | apply In.tl))⟩
set_option maxHeartbeats 8000000 in
theorem foldr_num (w0 W : World) (H : Fh) (p : Nat) (sv : Value) (s : List UInt8 × Bool) (R : List Res) (i : In (Fz H) R) (r : RdH H 1 sv s.1.length (bys s.1)) (hw : Has 0 w0 W (Cells p [sv, .bool s.2] 129 :: R)) :
    Calls Tryz.prog 69 ⟨[.pointer (some ⟨p, 0, none⟩)]⟩ W fun e W' => ∃ sv', e = .returned (.int .i64 (Ph.getI s.1).1) ∧ RdH H 1 sv' (rdNum s).1.length (bys (rdNum s).1) ∧ Has 0 w0 W' (Cells p [sv', .bool (rdNum s).2] 129 :: R) := by
  obtain ⟨l, bad⟩ := s
  simp only at r hw
  obtain ⟨sad, scap, rfl⟩ := r.slice
  have hle := Ph.getI_le l
  have hlen := r.len
  refine enter Tryz.func69 Tryz.ntmps69 rfl rfl fun a hs => ?_
  repeat (first | (refine sxv hs hw ?_; clear hs; intro a hs) | refine sxc hs ?_ | (refine sxa hs hw ?_; clear hs hw; intro a b W hw hs) | (refine sxs hs hw ?_; clear hs hw; intro W hs hw) | ((with_reducible first | refine st_ptrSome hs (k := ?_) | refine st_ptrNone hs (k := ?_)); clear hs; intro a hs))
  refine st_call hs (hc := num_Get _ _ l (hw.rdH (In.tl i) r)) (k := ?_); rintro e0 W1 ⟨rfl, rfl⟩; refine ⟨_, rfl, ?_⟩; clear hs; intro a hs
  unfold rdNum tk
  simp only
  generalize Ph.getI l = g at *
  obtain ⟨n, k, er⟩ := g
  simp only at hle hs ⊢
  cases bad with
  | true =>
    repeat (first | (refine sxv hs hw ?_; clear hs; intro a hs) | refine sxc hs ?_ | (refine sxa hs hw ?_; clear hs hw; intro a b W hw hs) | (refine sxs hs hw ?_; clear hs hw; intro W hs hw) | ((with_reducible first | refine st_ptrSome hs (k := ?_) | refine st_ptrNone hs (k := ?_)); clear hs; intro a hs))
    exact rt1 hs rfl rfl ⟨_, rfl, r, hw⟩
  | false =>
  repeat (first | (refine sxv hs hw ?_; clear hs; intro a hs) | refine sxc hs ?_ | (refine sxa hs hw ?_; clear hs hw; intro a b W hw hs) | (refine sxs hs hw ?_; clear hs hw; intro W hs hw) | ((with_reducible first | refine st_ptrSome hs (k := ?_) | refine st_ptrNone hs (k := ?_)); clear hs; intro a hs))
  cases he : (er != 0) with
  | true =>
    rw [he] at hs hw
    repeat (first | (refine sxv hs hw ?_; clear hs; intro a hs) | refine sxc hs ?_ | (refine sxa hs hw ?_; clear hs hw; intro a b W hw hs) | (refine sxs hs hw ?_; clear hs hw; intro W hs hw) | ((with_reducible first | refine st_ptrSome hs (k := ?_) | refine st_ptrNone hs (k := ?_)); clear hs; intro a hs))
    exact rt1 hs rfl rfl ⟨_, rfl, r, hw⟩
  | false =>
    rw [he] at hs hw
    repeat (first | (refine sxv hs hw ?_; clear hs; intro a hs) | refine sxc hs ?_ | (refine sxa hs hw ?_; clear hs hw; intro a b W hw hs) | (refine sxs hs hw ?_; clear hs hw; intro W hs hw) | ((with_reducible first | refine st_ptrSome hs (k := ?_) | refine st_ptrNone hs (k := ?_)); clear hs; intro a hs))
    refine st_sliceH_lo hs (i := (k : Int)) (z := [.int .u8 0]) r (by omega) (by omega) (c := ?_); clear hs; intro a v1 r1 hs
    rw [Int.toNat_natCast, bys_drop, ← List.length_drop] at r1
    obtain ⟨ad1, cap1, rfl⟩ := r1.slice
    repeat (first | (refine sxv hs hw ?_; clear hs; intro a hs) | refine sxc hs ?_ | (refine sxa hs hw ?_; clear hs hw; intro a b W hw hs) | (refine sxs hs hw ?_; clear hs hw; intro W hs hw) | ((with_reducible first | refine st_ptrSome hs (k := ?_) | refine st_ptrNone hs (k := ?_)); clear hs; intro a hs))
    exact rt1 hs rfl rfl ⟨_, rfl, r1, hw⟩
set_option maxHeartbeats 8000000 in
theorem foldr_text (w0 W : World) (H : Fh) (p : Nat) (sv : Value) (s : List UInt8 × Bool) (R : List Res) (i : In (Fz H) R) (r : RdH H 1 sv s.1.length (bys s.1)) (hw : Has 0 w0 W (Cells p [sv, .bool s.2] 129 :: R)) :
    Calls Tryz.prog 71 ⟨[.pointer (some ⟨p, 0, none⟩)]⟩ W fun e W' => ∃ sv', e = .returned (.string ⟨(Ph.getT s.1).1.toArray⟩) ∧ RdH H 1 sv' (rdTxt s).1.length (bys (rdTxt s).1) ∧ Has 0 w0 W' (Cells p [sv', .bool (rdTxt s).2] 129 :: R) := by
  obtain ⟨l, bad⟩ := s
  simp only at r hw
  obtain ⟨sad, scap, rfl⟩ := r.slice
  have hle := getT_le l
  have hlen := r.len
  refine enter Tryz.func71 Tryz.ntmps71 rfl rfl fun a hs => ?_
  repeat (first | (refine sxv hs hw ?_; clear hs; intro a hs) | refine sxc hs ?_ | (refine sxa hs hw ?_; clear hs hw; intro a b W hw hs) | (refine sxs hs hw ?_; clear hs hw; intro W hs hw) | ((with_reducible first | refine st_ptrSome hs (k := ?_) | refine st_ptrNone hs (k := ?_)); clear hs; intro a hs))
  refine st_call hs (hc := num_GetText _ _ l (hw.rdH (In.tl i) r)) (k := ?_); rintro e0 W1 ⟨rfl, rfl⟩; refine ⟨_, rfl, ?_⟩; clear hs; intro a hs
  unfold rdTxt tk
  simp only
  generalize Ph.getT l = g at *
  obtain ⟨n, k, er⟩ := g
  simp only at hle hs ⊢
  cases bad with
  | true =>
    repeat (first | (refine sxv hs hw ?_; clear hs; intro a hs) | refine sxc hs ?_ | (refine sxa hs hw ?_; clear hs hw; intro a b W hw hs) | (refine sxs hs hw ?_; clear hs hw; intro W hs hw) | ((with_reducible first | refine st_ptrSome hs (k := ?_) | refine st_ptrNone hs (k := ?_)); clear hs; intro a hs))
    exact rt1 hs rfl rfl ⟨_, rfl, r, hw⟩
  | false =>
  repeat (first | (refine sxv hs hw ?_; clear hs; intro a hs) | refine sxc hs ?_ | (refine sxa hs hw ?_; clear hs hw; intro a b W hw hs) | (refine sxs hs hw ?_; clear hs hw; intro W hs hw) | ((with_reducible first | refine st_ptrSome hs (k := ?_) | refine st_ptrNone hs (k := ?_)); clear hs; intro a hs))
  cases he : (er != 0) with
  | true =>
    rw [he] at hs hw
    repeat (first | (refine sxv hs hw ?_; clear hs; intro a hs) | refine sxc hs ?_ | (refine sxa hs hw ?_; clear hs hw; intro a b W hw hs) | (refine sxs hs hw ?_; clear hs hw; intro W hs hw) | ((with_reducible first | refine st_ptrSome hs (k := ?_) | refine st_ptrNone hs (k := ?_)); clear hs; intro a hs))
    exact rt1 hs rfl rfl ⟨_, rfl, r, hw⟩
  | false =>
    rw [he] at hs hw
    repeat (first | (refine sxv hs hw ?_; clear hs; intro a hs) | refine sxc hs ?_ | (refine sxa hs hw ?_; clear hs hw; intro a b W hw hs) | (refine sxs hs hw ?_; clear hs hw; intro W hs hw) | ((with_reducible first | refine st_ptrSome hs (k := ?_) | refine st_ptrNone hs (k := ?_)); clear hs; intro a hs))
    refine st_sliceH_lo hs (i := (k : Int)) (z := [.int .u8 0]) r (by omega) (by omega) (c := ?_); clear hs; intro a v1 r1 hs
    rw [Int.toNat_natCast, bys_drop, ← List.length_drop] at r1
    obtain ⟨ad1, cap1, rfl⟩ := r1.slice
    repeat (first | (refine sxv hs hw ?_; clear hs; intro a hs) | refine sxc hs ?_ | (refine sxa hs hw ?_; clear hs hw; intro a b W hw hs) | (refine sxs hs hw ?_; clear hs hw; intro W hs hw) | ((with_reducible first | refine st_ptrSome hs (k := ?_) | refine st_ptrNone hs (k := ?_)); clear hs; intro a hs))
    exact rt1 hs rfl rfl ⟨_, rfl, r1, hw⟩
set_option maxHeartbeats 4000000 in
theorem fold_fine (e : Int) (W : World) : Calls Tryz.prog 72 ⟨[.int .i64 e]⟩ W fun r W' => r = .returned (.bool (fineE e)) ∧ Below W.heap.size W W' := by
  have hw := Has.start (G := 0) (w := W) (Nat.zero_le _)
  unfold fineE
  refine enter Tryz.func72 Tryz.ntmps72 rfl rfl fun a hs => ?_
  repeat (first | (refine sxv hs hw ?_; clear hs; intro a hs) | refine sxc hs ?_ | (refine sxa hs hw ?_; clear hs hw; intro a b W hw hs) | (refine sxs hs hw ?_; clear hs hw; intro W hs hw))
  cases c0 : (e == 0) with
  | true =>
    rw [c0] at hs
    repeat (first | (refine sxv hs hw ?_; clear hs; intro a hs) | refine sxc hs ?_ | (refine sxa hs hw ?_; clear hs hw; intro a b W hw hs) | (refine sxs hs hw ?_; clear hs hw; intro W hs hw))
    exact rt1 hs rfl rfl ⟨rfl, hw.end (by repeat (first | exact In.hd | apply In.tl))⟩
  | false =>
  rw [c0] at hs
  repeat (first | (refine sxv hs hw ?_; clear hs; intro a hs) | refine sxc hs ?_ | (refine sxa hs hw ?_; clear hs hw; intro a b W hw hs) | (refine sxs hs hw ?_; clear hs hw; intro W hs hw))
  cases c1 : (e == 6) with
  | true =>
    rw [c1] at hs
    repeat (first | (refine sxv hs hw ?_; clear hs; intro a hs) | refine sxc hs ?_ | (refine sxa hs hw ?_; clear hs hw; intro a b W hw hs) | (refine sxs hs hw ?_; clear hs hw; intro W hs hw))
    exact rt1 hs rfl rfl ⟨rfl, hw.end (by repeat (first | exact In.hd | apply In.tl))⟩
  | false =>
  rw [c1] at hs
  repeat (first | (refine sxv hs hw ?_; clear hs; intro a hs) | refine sxc hs ?_ | (refine sxa hs hw ?_; clear hs hw; intro a b W hw hs) | (refine sxs hs hw ?_; clear hs hw; intro W hs hw))
  cases c2 : (e == 7) with
  | true =>
    rw [c2] at hs
    repeat (first | (refine sxv hs hw ?_; clear hs; intro a hs) | refine sxc hs ?_ | (refine sxa hs hw ?_; clear hs hw; intro a b W hw hs) | (refine sxs hs hw ?_; clear hs hw; intro W hs hw))
    exact rt1 hs rfl rfl ⟨rfl, hw.end (by repeat (first | exact In.hd | apply In.tl))⟩
  | false =>
  rw [c2] at hs
  repeat (first | (refine sxv hs hw ?_; clear hs; intro a hs) | refine sxc hs ?_ | (refine sxa hs hw ?_; clear hs hw; intro a b W hw hs) | (refine sxs hs hw ?_; clear hs hw; intro W hs hw))
  cases c3 : (e == 8) with
  | true =>
    rw [c3] at hs
    repeat (first | (refine sxv hs hw ?_; clear hs; intro a hs) | refine sxc hs ?_ | (refine sxa hs hw ?_; clear hs hw; intro a b W hw hs) | (refine sxs hs hw ?_; clear hs hw; intro W hs hw))
    exact rt1 hs rfl rfl ⟨rfl, hw.end (by repeat (first | exact In.hd | apply In.tl))⟩
  | false =>
  rw [c3] at hs
  repeat (first | (refine sxv hs hw ?_; clear hs; intro a hs) | refine sxc hs ?_ | (refine sxa hs hw ?_; clear hs hw; intro a b W hw hs) | (refine sxs hs hw ?_; clear hs hw; intro W hs hw))
  exact rt1 hs rfl rfl ⟨by simp, hw.end (by repeat (first | exact In.hd | apply In.tl))⟩
end Go.Proofs.YtmalklakaalaoaaGreatDoor.Sw
