/-
  Texts of the proof, one behind the other (part 32).
-/
import Derived.Test.YtgpbngfehfbndaaGreatDoorM31
import Derived.Test.YtgpbngfehfbndaaGreatDoorChecked
import Derived.Test.YtgpbngfehfbndaaGreatDoorProg
set_option maxHeartbeats 16000000
set_option linter.unusedVariables false
set_option maxRecDepth 10000
namespace Go.Proofs.YtgpbngfehfbndaaGreatDoor.Sw
open Go.RowKit Go.Sx
section
variable {H H':Fh} {p pl:Nat} {pv pt mv:Value} {r:RaftD} {w0 W:World} {R L:List Res} {v:Value}
abbrev iX (r:RaftD) (x:Int):bS:={cR with kind:=1,to_:=x,ix:=r.l.last,lterm:=(r.l.term r.l.last).1}
theorem aCd (l:List Int):∀r:RaftD,(l.foldl (fun r x=>r.say (iX r x)) r).l=r.l∧(l.foldl (fun r x=>r.say (iX r x)) r).out.msgs.length=r.out.msgs.length+l.length:=by
 induction l with
 |nil=>intro r;exact ⟨rfl,rfl⟩
 |cons x l ih=>
  intro r;rw [List.foldl_cons];obtain ⟨h1,h2⟩:=ih (r.say (iX r x));refine ⟨h1,?_⟩;rw [h2];show (r.out.msgs ++ [_]).length+l.length=_;simp;omega
theorem aIJ (hl : r.out.msgs.length ≤ 800) (hw : Has 0 w0 W (aF H p r :: Fz H :: R)) :
    Calls Tryz.prog 78 ⟨[ptr p]⟩ W fun e W' => ∃ (H' : Fh) (x : Option Addr × Nat), e = .returned (.agg ⟨aU r.fire.2 (.slice x.1 r.fire.2.msgs.length x.2)⟩) ∧ H.le H' ∧ Has 0 w0 W' (aD H' (.slice x.1 r.fire.2.msgs.length x.2) r.fire.2.msgs :: aF H' p r.fire.1 :: Fz H' :: R) := by
  have h7 := oQ r.l r.l.last;refine enter Tryz.func78 Tryz.ntmps78 rfl rfl fun a hs => ?_;refine sc hs ?_;refine sn hs hw fun b4 a W hs hw => ?_;have hw : Has 0 w0 W (aF H p r :: Fz H :: aA b4 (aU bT (.slice none 0 0)) 103 :: R) := hw.pm;obtain ⟨pl, pv, pt, mv, hw⟩ := dG hw;refine sv hs hw fun a hs => ?_;refine aG hs (hc := (qR (l := r.l)).ok hw.rebase) (k := ?_);rintro e' W' ⟨xx, rfl, hw'⟩;refine ⟨_, rfl, fun a hs => ?_⟩;have hw := hw.trans hw';rw [show r.l.conf = r.l.confAt r.l.last from rfl] at hs hw;obtain ⟨c, hcc⟩ : ∃ c, c = (r.l.confAt r.l.last).1 := ⟨_, rfl⟩
  have hfire : r.fire = (match r.role == 2, r.heard with
   | true, _ => r.all
   | false, true => { r with heard := false }
   | false, false =>
     match has c r.id && decide (r.h.term < 1099511627776) with
     | false => r
     | true =>
       match lG (some ((jG c).yesD r.id).1) with
       | true => ({ r.hardD ⟨w64 (r.h.term + 1), r.id⟩ with role := 1, leader := 0, v := some ((jG c).yesD r.id).1 } : RaftD).lead
       | false => ({ r.hardD ⟨w64 (r.h.term + 1), r.id⟩ with role := 1, leader := 0, v := some ((jG c).yesD r.id).1 } : RaftD).others.foldl (fun r x => r.say (iX r x)) { r.hardD ⟨w64 (r.h.term + 1), r.id⟩ with role := 1, leader := 0, v := some ((jG c).yesD r.id).1 }).did := by rw [hcc]; rfl
  rw [← hcc] at hs hw h7;generalize (r.l.confAt r.l.last).2 = ci at *;clear hcc;obtain ⟨cv, hcv⟩ : ∃ cv, cv = Value.slice xx.1 c.length xx.2 := ⟨_, rfl⟩
  replace hs : Slots a 124 ((17, .tuple ⟨[.slice xx.1 c.length xx.2, .int .i64 ci]⟩) :: [(0, ptr p), (2, ptr b4)]) := hs.of ⟨rfl, rfl, rfl, trivial⟩;rw [← hcv] at hs;have hw : Has 0 w0 W' (aK p r pl pv pt mv :: aH pl r.l :: VoR pv r.v :: ToR pt r.t :: aD H mv r.out.msgs :: Fz H :: aN cv c :: aA b4 (aU bT (.slice none 0 0)) 103 :: R) := by rw [hcv]; exact hw.pm
  refine zE hs hw ?_; clear hs; intro a hs;refine sq ?_;replace hs : Slots a 124 [(0, ptr p), (2, ptr b4), (3, cv)] := hs.of ⟨rfl, rfl, rfl, trivial⟩;refine eW (M := fun a W => ∃ (H2 : Fh) (r2 : RaftD), H.le H2 ∧ r.fire = r2.did ∧ Slots a 124 [(0, ptr p), (2, ptr b4)] ∧ Has 0 w0 W (aF H2 p (r2) :: Fz H2 :: aN cv c :: aA b4 (aU bT (.slice none 0 0)) 103 :: R)) ?_ ?_
  · refine sx hs hw fun a W hs hw => ?_
    cases c1 : r.role == 2 with
    | true =>
      rw [c1] at hs hfire;have hw : Has 0 w0 W (aF H p (r) :: Fz H :: aN cv c :: aA b4 (aU bT (.slice none 0 0)) 103 :: R) := cG hw;refine sv hs hw fun a hs => ?_;refine aG hs (hc := uA (by omega) hw) (k := ?_);rintro e' W' ⟨rfl, H3, hle3, hw⟩;refine ⟨_, rfl, fun a hs => ?_⟩;refine sc hs ?_;exact ⟨H3, _, hle3, hfire, hs.of ⟨rfl, rfl, trivial⟩, hw⟩
    | false =>
    rw [c1] at hs hfire;refine sx hs hw fun a W hs hw => ?_;cases c2 : r.heard with
    | true =>
      rw [c2] at hs hfire;refine sx hs hw fun a W hs hw => ?_;exact ⟨H, { r with heard := false }, Fh.le.refl H, hfire, hs.of ⟨rfl, rfl, trivial⟩, cG (r := { r with heard := false }) hw⟩
    | false =>
    rw [c2] at hs hfire;refine sx hs hw fun a W hs hw => ?_;cases c3 : has c r.id with
    | false =>
      rw [c3] at hs hfire;refine sv hs hw fun a hs => ?_;exact ⟨H, r, Fh.le.refl H, hfire, hs.of ⟨rfl, rfl, trivial⟩, cG hw⟩
    | true =>
    rw [c3] at hs hfire;refine sx hs hw fun a W hs hw => ?_;cases c4 : decide (r.h.term < 1099511627776) with
    | false =>
      rw [c4] at hs hfire;refine sc hs ?_;exact ⟨H, r, Fh.le.refl H, hfire, hs.of ⟨rfl, rfl, trivial⟩, cG hw⟩
    | true =>
    rw [c4] at hs;replace hs : Slots a 124 [(0, ptr p), (2, ptr b4), (3, cv), (36, .bool true)] := hs.of ⟨rfl, rfl, rfl, rfl, trivial⟩;obtain ⟨r2, hr2⟩ : ∃ r2 : RaftD, r2 = r.hardD ⟨w64 (r.h.term + 1), r.id⟩ := ⟨_, rfl⟩
    obtain ⟨vo, hvo⟩ : ∃ vo, vo = ((jG c).yesD r.id).1 := ⟨_, rfl⟩
    obtain ⟨r4, hr4⟩ : ∃ r4 : RaftD, r4 = { r2 with role := 1, leader := 0, v := some vo } := ⟨_, rfl⟩
    have hfire : r.fire = (match lG (some vo) with | true => r4.lead | false => r4.others.foldl (fun r x => r.say (iX r x)) r4).did := by
      rw [hfire, c4, hr4, hvo, hr2]; rfl
    have hid : r2.id = r.id := by rw [hr2]; rfl
    have hrm : r2.out.msgs = r.out.msgs := by rw [hr2]; rfl
    rw [← hid] at hvo;refine zG hs ?_;refine bG [12] [.f 0 0, .f 0 0, .f 0 0, .f 0 0, .f 0 0, .f 0 0, .f 0 0, .f 0 0, .f 0 0, .f 0 0, .f 0 0, .f 0 0, .m 0] [.c0 _, .c0 _, .c0 _, .c0 _, .c0 _, .c0 _, .c0 _, .c0 _, .c0 _, .c0 _, .c0 _, .c0 _, .c1 (fun x => .tuple ⟨[]⟩)] (aK p r pl pv pt mv :: aH pl r.l :: VoR pv r.v :: ToR pt r.t :: aD H mv r.out.msgs :: Fz H :: aN cv c :: aA b4 (aU bT (.slice none 0 0)) 103 :: R) (fun x => aF H p (r2) :: Fz H :: aN cv c :: aA b4 (aU bT (.slice none 0 0)) 103 :: R) (fun x y => []) (fun x y z => []) (fun x y z t => []) hs hw ?kk ⟨drs, drs, drs, drs, drs, drs, drs, drs, drs, drs, drs, drs, ?m0, trivial⟩
    case m0 =>
      intro x y z t LD a W hs hw;have hw : Has 0 w0 W (aF H p (r) :: Fz H :: aN cv c :: aA b4 (aU bT (.slice none 0 0)) 103 :: R) := cG hw;refine cl hs (tV ⟨w64 (r.h.term + 1), r.id⟩ hw) fun a W hs hw => ?_;rw [← hr2] at hw;exact ⟨{}, hs, hw⟩
    case kk =>
    intro _ a W hs hw;replace hs : Slots a 124 [(0, ptr p), (2, ptr b4), (3, cv)] := hs.of ⟨rfl, rfl, rfl, trivial⟩;clear hr2;obtain ⟨pl, pv, pt, mv, hw⟩ := dG hw;refine sx hs hw fun a W hs hw => ?_;have hw : Has 0 w0 W (aN cv c :: aK p { r2 with role := 1, leader := 0 } pl pv pt mv :: aH pl r2.l :: VoR pv r2.v :: ToR pt r2.t :: aD H mv r2.out.msgs :: Fz H :: aA b4 (aU bT (.slice none 0 0)) 103 :: R) := hw.pm;refine sg hs hw (fun q a W hs hw => ?_) (g := aHD (l := c) (by omega));refine sx hs hw fun a W hs hw => ?_;have hw : Has 0 w0 W (gF q (jG c) :: aN cv c :: aK p { r2 with role := 1, leader := 0 } pl (ptr q) pt mv :: aH pl r2.l :: VoR pv r2.v :: ToR pt r2.t :: aD H mv r2.out.msgs :: Fz H :: aA b4 (aU bT (.slice none 0 0)) 103 :: R) := hw;replace hs : Slots a 124 [(0, ptr p), (2, ptr b4), (3, cv)] := hs.of ⟨rfl, rfl, rfl, trivial⟩;refine bG [8] [.f 0 0, .f 0 0, .f 0 0, .f 0 0, .f 0 0, .f 0 0, .f 0 0, .f 0 0, .m 0] [.c0 _, .c0 _, .c0 _, .c0 _, .c0 _, .c0 _, .c0 _, .c0 _, .c1 (fun x => .bool ((jG c).yesD r2.id).2)] (gF q (jG c) :: aN cv c :: aK p { r2 with role := 1, leader := 0 } pl (ptr q) pt mv :: aH pl r2.l :: VoR pv r2.v :: ToR pt r2.t :: aD H mv r2.out.msgs :: Fz H :: aA b4 (aU bT (.slice none 0 0)) 103 :: R) (fun x => gF q vo :: aN cv c :: aK p { r2 with role := 1, leader := 0 } pl (ptr q) pt mv :: aH pl r2.l :: VoR pv r2.v :: ToR pt r2.t :: aD H mv r2.out.msgs :: Fz H :: aA b4 (aU bT (.slice none 0 0)) 103 :: R) (fun x y => []) (fun x y z => []) (fun x y z t => []) hs hw ?kk ⟨drs, drs, drs, drs, drs, drs, drs, drs, ?m0, trivial⟩
    case m0 =>
      intro x y z t LD a W hs hw;refine cl hs ((aBw (v := jG c) (x := r2.id) (by show ([] : List Int).length ≤ 1000; decide)).ok hw) fun a W hs hw => ?_;rw [← hvo] at hw;exact ⟨{}, hs, hw⟩
    case kk =>
    intro _ a W hs hw;replace hs : Slots a 124 [(0, ptr p), (2, ptr b4), (3, cv)] := hs.of ⟨rfl, rfl, rfl, trivial⟩;clear hvo;have hw : Has 0 w0 W (VoR (ptr q) (some vo) :: aN cv c :: aK p { r2 with role := 1, leader := 0 } pl (ptr q) pt mv :: aH pl r2.l :: VoR pv r2.v :: ToR pt r2.t :: aD H mv r2.out.msgs :: Fz H :: aA b4 (aU bT (.slice none 0 0)) 103 :: R) := rE hw;have mid : ∀ {W}, Has 0 w0 W (VoR (ptr q) (some vo) :: aN cv c :: aK p { r2 with role := 1, leader := 0 } pl (ptr q) pt mv :: aH pl r2.l :: VoR pv r2.v :: ToR pt r2.t :: aD H mv r2.out.msgs :: Fz H :: aA b4 (aU bT (.slice none 0 0)) 103 :: R) → Has 0 w0 W (aF H p (r4) :: Fz H :: aN cv c :: aA b4 (aU bT (.slice none 0 0)) 103 :: R) := fun h => by
      rw [hr4];exact cG (r := { r2 with role := 1, leader := 0, v := some vo }) (h.sl)
    have hm4 : r4.out.msgs.length ≤ 800 := by rw [hr4]; show r2.out.msgs.length ≤ 800; rw [hrm]; exact hl
    refine sx hs hw fun a W hs hw => ?_;refine cl hs (yV hw) fun a W hs hw => ?_;cases c5 : lG (some vo) with
    | true =>
      rw [c5] at hs hfire;have hw := mid hw;refine sv hs hw fun a hs => ?_;refine aG hs (hc := yW (by omega) hw) (k := ?_);rintro e' W' ⟨rfl, H3, hle3, hw⟩;refine ⟨_, rfl, fun a hs => ?_⟩;refine sc hs ?_;exact ⟨H3, _, hle3, hfire, hs.of ⟨rfl, rfl, trivial⟩, hw⟩
    | false =>
    rw [c5] at hs hfire;have hw := mid hw;clear mid hr4;replace hs : Slots a 124 [(0, ptr p), (2, ptr b4), (88, .bool false)] := hs.of ⟨rfl, rfl, rfl, trivial⟩;obtain ⟨pl, pv, pt, mv, hw⟩ := dG hw;refine zG hs ?_;refine bG [8, 9] [.f 0 1, .f 0 1, .f 0 1, .f 0 1, .f 0 0, .f 0 0, .f 0 0, .f 0 0, .m 0, .m 1, .f 2 2, .f 2 2, .f 2 2, .f 2 2, .f 2 2] [.c0 _, .c0 _, .c0 _, .c0 _, .c0 _, .c0 _, .c0 _, .c0 _, .c1 (fun x => .int .i64 r4.l.last), .c2 (fun x y => .tuple ⟨[.int .i64 (r4.l.term r4.l.last).1, .bool (r4.l.term r4.l.last).2]⟩), .c2 _, .c2 _, .c2 _, .c2 _, .c2 _] (aK p r4 pl pv pt mv :: aH pl r4.l :: VoR pv r4.v :: ToR pt r4.t :: aD H mv r4.out.msgs :: Fz H :: aN cv c :: aA b4 (aU bT (.slice none 0 0)) 103 :: R) (fun x => aK p r4 pl pv pt mv :: aH pl r4.l :: VoR pv r4.v :: ToR pt r4.t :: aD H mv r4.out.msgs :: Fz H :: aN cv c :: aA b4 (aU bT (.slice none 0 0)) 103 :: R) (fun x y => aK p r4 pl pv pt mv :: aH pl r4.l :: VoR pv r4.v :: ToR pt r4.t :: aD H mv r4.out.msgs :: Fz H :: aN cv c :: aA b4 (aU bT (.slice none 0 0)) 103 :: R) (fun x y z => []) (fun x y z t => []) hs hw ?kk ⟨drs, drs, drs, drs, drs, drs, drs, drs, drm, drm, drs, drs, drs, drs, drs, trivial⟩
    case kk =>
    intro _ _ a W hs hw;replace hs : Slots a 124 [(0, ptr p), (2, ptr b4), (5, .int .i64 (r4.l.term r4.l.last).1)] := hs.of ⟨rfl, rfl, rfl, trivial⟩;have hw : Has 0 w0 W (aF H p (r4) :: Fz H :: aN cv c :: aA b4 (aU bT (.slice none 0 0)) 103 :: R) := cG hw;have h8 := aC7 r4;refine sv hs hw fun a hs => ?_;refine cle hs (aC3 hw) fun s a W _ hs hw => ?_;refine sv hs hw fun a hs => ?_;have hw : Has 0 w0 W (aF H p r4 :: aN (.slice s.1 r4.others.length s.2) r4.others :: Fz H :: aN cv c :: aA b4 (aU bT (.slice none 0 0)) 103 :: R) := hw.pm;have hall : ∀ i, ((r4.others.take i).foldl (fun r x => r.say (iX r x)) r4).out.msgs.length ≤ 1000 := fun i => by rw [(aCd _ r4).2, List.length_take]; omega
    have hlog : ∀ i, ((r4.others.take i).foldl (fun r x => r.say (iX r x)) r4).l = r4.l := fun i => (aCd _ r4).1;replace hfire : r.fire = (r4.others.foldl (fun r x => r.say (iX r x)) r4).did := hfire;generalize r4.others = o at *;obtain ⟨FF, hFF⟩ : ∃ FF : Nat → RaftD, FF = fun i => (o.take i).foldl (fun r x => r.say (iX r x)) r4 := ⟨_, rfl⟩
    have hF0 : FF 0 = r4 := by rw [hFF]; rfl
    have hFs : ∀ {i x}, o[i]? = some x → FF (i + 1) = (FF i).say (iX (FF i) x) := fun {i x} h => by rw [hFF]; exact aC8 (f := fun r x => RaftD.say r (iX r x)) (b := r4) h
    have hFe : ∀ {i}, o.length ≤ i → r.fire = (FF i).did := fun {i} h => by rw [hfire, hFF]; simp only []; rw [List.take_of_length_le h]
    replace hall : ∀ i, (FF i).out.msgs.length ≤ 1000 := fun i => by rw [hFF]; exact hall i
    replace hlog : ∀ i, (FF i).l = r4.l := fun i => by rw [hFF]; exact hlog i
    rw [← hF0] at hw;clear hfire hFF;refine bY (σ := Nat) (fun i => [(0, ptr p), (2, ptr b4), (5, .int .i64 (r4.l.term r4.l.last).1), (105, .slice s.1 o.length s.2), (106, .int .i64 (o.length : Int)), (107, .int .i64 (i : Int))]) (fun i => aF H p (FF i) :: aN (.slice s.1 o.length s.2) o :: Fz H :: aN cv c :: aA b4 (aU bT (.slice none 0 0)) 103 :: R) (fun i => i ≤ o.length) (fun i => o.length - i) 0 (Nat.zero_le _) hs ⟨rfl, rfl, rfl, rfl, rfl, rfl, trivial⟩ hw ?_;clear hs hw;intro i a W hi hs hw;refine sv hs hw fun a hs => ?_;refine cI hs (kt := fun hc => ?_) (kf := fun hc => ?_)
    · have hi' : i < o.length := by simpa using hc
      obtain ⟨x, ho, hd⟩ := dR hi';refine sc hs ?_;refine hQ hs (hw.rd_own (In.tl In.hd)) ho rfl fun a b f hs => ?_;obtain ⟨pl, pv, pt, mv, hw⟩ := dG hw;refine sx hs hw fun a W hs hw => ?_;have hw : Has 0 w0 W (aF H p (FF i) :: aN (.slice s.1 o.length s.2) o :: Fz H :: aN cv c :: aA b4 (aU bT (.slice none 0 0)) 103 :: R) := cG hw;have hask : iX (FF i) x = { cR with kind := 1, to_ := x, ix := (FF i).l.last, lterm := (r4.l.term r4.l.last).1 } := by unfold iX; rw [hlog]
      have hnx := hFs ho;rw [hask] at hnx;refine cl hs (fS { cR with kind := 1, to_ := x, ix := (FF i).l.last, lterm := (r4.l.term r4.l.last).1 } (.slice none 0 0) fX (by show (0 : Nat) ≤ 1000000; omega) (hall i) hw) fun a W hs hw => ?_;rw [← hnx] at hw;refine sv hs hw fun a hs => ?_;exact bQ (i + 1) hs hw hi' (by omega) ⟨rfl, rfl, rfl, rfl, rfl, bR (i1 (by omega)), trivial⟩
    · refine sc hs ?_
      exact ⟨H, FF i, Fh.le.refl H, hFe (by simp at hc; omega), hs.of ⟨rfl, rfl, trivial⟩, hw.sl⟩
  clear hs hw hfire;rintro a W ⟨H2, r2, hle, he, hs, hw⟩;refine sv hs hw fun a hs => ?_;refine cle hs (tW hw) fun s a W _ hs hw => ?_;refine sx hs hw fun a W hs hw => ?_;refine rc1 hs rfl rfl hw (by repeat (first | exact In.hd | apply In.tl)) rfl ⟨H2, s, ?_⟩;rw [he];exact ⟨rfl, hle, hw.sl⟩
end
end Go.Proofs.YtgpbngfehfbndaaGreatDoor.Sw
namespace Go.Sx
open Go.RowKit
section
variable {P:Program} {fn:Func} {C:Ending→World→Prop} {a:Act} {n G:Nat} {L:List (Nat×Value)} {w W:World} {R:List Res} {t b o:Nat} {T E:TypeId} {cs z:List Value}
theorem rG [u:Ty P T true z] {r r':Tmp} {v v':Value} (hs:Slots a n L) (hr:fn.results= #[.tmp r,.cell t T,.tmp r']) (hv:lk L t=some (.pointer (some ⟨b,o,none⟩)):=by with_unfolding_all exact rfl) (hw:Has G w W R) (hi:In (aA b cs E) R:=by repeat (first|exact In.hd|apply In.tl)) (hl:Nat.ble (o+z.length) cs.length=true:=by with_unfolding_all exact rfl) (hv2:lk L r=some v) (hv3:lk L r'=some v') (h:C (.returned (.tuple #[v,.agg ⟨cut cs o z.length⟩,v'])) W):bodyPost P fn C .ret a W:=by
 have h1:=pI u (hw.block hi).1 (Nat.le_of_ble_eq_true hl);refine rt hs ?_ h;have h2:=gS hs hv;have h3:=gS hs hv2;have h4:=gS hs hv3;simp only [Instr.loadAt,Instr.sureAddr,Sem.run_bind,Sem.run_pure,Result.andThen_ok] at h1;simp only [results,hr,List.mapM_toArray,List.mapM_cons,List.mapM_nil];simp [h2,h3,h4,asAddr,h1]
end
end Go.Sx
namespace Go.Proofs.YtgpbngfehfbndaaGreatDoor.Sw
open Go.RowKit Go.Sx
section
variable {H H':Fh} {p pl:Nat} {pv pt mv:Value} {r:RaftD} {w0 W:World} {R L:List Res} {v:Value}
theorem aCe (kind:Int) (s:ByteArray) (hsz:s.size≤1000000) (hl:r.out.msgs.length≤800) (hw:Has 0 w0 W (aF H p r::Fz H::R)):
  Calls Tryz.prog 114 ⟨[ptr p,.int .i64 kind,.string s]⟩ W fun e W'=>∃(H':Fh) (x:Option Addr×Nat),e= .returned (.tuple ⟨[.int .i64 (r.propose kind s).2.1,.agg ⟨aU (r.propose kind s).2.2.1 (.slice x.1 (r.propose kind s).2.2.1.msgs.length x.2)⟩,.int .i64 (r.propose kind s).2.2.2]⟩)∧H.le H'∧Has 0 w0 W' (aD H' (.slice x.1 (r.propose kind s).2.2.1.msgs.length x.2) (r.propose kind s).2.2.1.msgs::aF H' p (r.propose kind s).1::Fz H'::R):=by
 have h7:=oQ r.l r.l.last
 have hp:r.propose kind s=(if r.role≠2 then (r,0,bT,9)
  else if (kind≠2∧kind≠3)∨2500<(s.size:Int)∨(kind=3∧((dL s.data.toList).2=false∨oH (dL s.data.toList).1 (r.l.confAt r.l.last).1=false)) then (r,0,bT,1)
  else if kind=3∧(r.commit<(r.l.confAt r.l.last).2∨r.l.fits r.commit r.h.term=false) then (r,0,bT,10)
  else if 200≤((r.l.get r.l.first 200).length:Int) then (r,0,bT,5)
  else ((r.put kind s).1.move.all.did.1,(r.put kind s).2,(r.put kind s).1.move.all.did.2,0)):=rfl
 refine enter Tryz.func114 Tryz.ntmps114 rfl rfl fun a hs=>?_;refine sv hs hw fun a hs=>?_;refine sn hs hw fun b7 a W hs hw=>?_;have hw:Has 0 w0 W (aF H p r::Fz H::aA b7 (aU bT (.slice none 0 0)) 103::R):=hw.pm;obtain ⟨pl,pv,pt,mv,hw⟩:=dG hw;refine sv hs hw fun a hs=>?_;refine aG hs (hc:=(qR (l:=r.l)).ok hw.rebase) (k:=?_);rintro e' W' ⟨xx,rfl,hw'⟩;refine ⟨_,rfl,fun a hs=>?_⟩;have hw:=hw.trans hw';rw [show r.l.conf=r.l.confAt r.l.last from rfl] at hs hw;generalize (r.l.confAt r.l.last).1=c at *;generalize (r.l.confAt r.l.last).2=ci at *;obtain ⟨cv,hcv⟩:∃cv,cv=Value.slice xx.1 c.length xx.2:=⟨_,rfl⟩
 replace hs:Slots a 118 ((22,.tuple ⟨[.slice xx.1 c.length xx.2,.int .i64 ci]⟩):: [(0,ptr p),(1,.int .i64 kind),(2,.string s),(6,.int .i64 0),(7,ptr b7),(8,.int .i64 0)]):=hs.ot;rw [←hcv] at hs hw;refine sv hs hw fun a hs=>?_;refine aG hs (hc:=(tK (s:=s) hsz).ok hw.rebase) (k:=?_);rintro e' W'' ⟨yy,rfl,hw'⟩;refine ⟨_,rfl,fun a hs=>?_⟩;have hw:=hw.trans hw';obtain ⟨dv,hdv⟩:∃dv,dv=Value.slice yy.1 (dL s.data.toList).1.length yy.2:=⟨_,rfl⟩
 rw [←hdv] at hs hw;generalize dL s.data.toList=D at *;have hw:Has 0 w0 W'' (aK p r pl pv pt mv::aH pl r.l::VoR pv r.v::ToR pt r.t::aD H mv r.out.msgs::Fz H::aN cv c::aN dv D.1::aA b7 (aU bT (.slice none 0 0)) 103::R):=hw.pm;have fin0:∀{W},Has 0 w0 W (aK p r pl pv pt mv::aH pl r.l::VoR pv r.v::ToR pt r.t::aD H mv r.out.msgs::Fz H::aN cv c::aN dv D.1::aA b7 (aU bT (.slice none 0 0)) 103::R)→Has 0 w0 W (aD H (.slice none 0 0) []::aF H p r::Fz H::R):=fun h=>aCa (cG (h.sl));have fin1:∀{W},Has 0 w0 W (aK p r pl pv pt mv::aH pl r.l::VoR pv r.v::ToR pt r.t::aD H mv r.out.msgs::Fz H::aN cv c::aN dv D.1::aA b7 (aU bT (.slice none 0 0)) 103::R)→Has 0 w0 W (aF H p (r)::Fz H::aN cv c::aN dv D.1::aA b7 (aU bT (.slice none 0 0)) 103::R):=fun h=>cG h;replace hs:Slots a 118 ((27,.tuple ⟨[dv,.bool D.2]⟩):: [(0,ptr p),(1,.int .i64 kind),(2,.string s),(6,.int .i64 0),(7,ptr b7),(8,.int .i64 0),(9,cv),(10,.int .i64 ci)]):=hs.ot;clear hdv hcv hw';refine zE hs hw ?_;clear hs;intro a hs;refine sq ?_;replace hs:Slots a 118 [(0,ptr p),(1,.int .i64 kind),(2,.string s),(7,ptr b7),(9,cv),(10,.int .i64 ci),(11,dv),(12,.bool D.2)]:=hs.ot;refine eW (M:=fun a W=>(r.propose kind s=((r.put kind s).1.move.all.did.1,(r.put kind s).2,(r.put kind s).1.move.all.did.2,0))∧Slots a 118 [(0,ptr p),(1,.int .i64 kind),(2,.string s),(7,ptr b7)]∧Has 0 w0 W (aF H p (r)::Fz H::aN cv c::aN dv D.1::aA b7 (aU bT (.slice none 0 0)) 103::R)) ?_ ?_
 ·refine sx hs hw fun a W hs hw=>?_;cases c1:(r.role !=2) with
  |true=>
   rw [c1] at hs;rw [if_pos (by simpa using c1)] at hp;refine sx hs hw fun a W hs hw=>?_;refine rG hs rfl rfl hw inn rfl rfl rfl ⟨H,(none,0),?_⟩;rw [hp];exact ⟨rfl,Fh.le.refl H,fin0 hw⟩
  |false=>
  rw [c1] at hs;rw [if_neg (by simpa using c1)] at hp;replace hs:Slots a 118 [(30,.bool false),(0,ptr p),(1,.int .i64 kind),(2,.string s),(7,ptr b7),(9,cv),(10,.int .i64 ci),(11,dv),(12,.bool D.2)]:=hs.ot;refine sxc hs ?_;refine sq ?_;refine eW (M:=fun a W=>∃g:Bool,(g=true↔((kind≠2∧kind≠3)∨2500<(s.size:Int)∨(kind=3∧(D.2=false∨oH D.1 c=false))))∧Slots a 118 [(37,.bool g),(0,ptr p),(1,.int .i64 kind),(2,.string s),(7,ptr b7),(9,cv),(10,.int .i64 ci),(11,dv),(12,.bool D.2)]∧Has 0 w0 W (aK p r pl pv pt mv::aH pl r.l::VoR pv r.v::ToR pt r.t::aD H mv r.out.msgs::Fz H::aN cv c::aN dv D.1::aA b7 (aU bT (.slice none 0 0)) 103::R)) ?_ ?_
  ·by_cases k2:kind=2
   ·rw [k2] at hs;refine sv hs hw fun a hs=>?_;cases c2:decide ((s.size:Int) > 2500) with
    |true=>
     rw [c2] at hs;refine sv hs hw fun a hs=>?_;exact ⟨true,by have:=of_decide_eq_true c2;simp;omega,by rw [k2];exact hs.ot,hw⟩
    |false=>
     rw [c2] at hs;refine sv hs hw fun a hs=>?_;exact ⟨false,by have:=of_decide_eq_false c2;simp;omega,by rw [k2];exact hs.ot,hw⟩
   by_cases k3:kind=3
   ·rw [k3] at hs;refine sv hs hw fun a hs=>?_;cases c2:decide ((s.size:Int) > 2500) with
    |true=>
     rw [c2] at hs;refine sv hs hw fun a hs=>?_;exact ⟨true,by have:=of_decide_eq_true c2;simp;omega,by rw [k3];exact hs.ot,hw⟩
    |false=>
    rw [c2] at hs;have g2:=of_decide_eq_false c2;refine sv hs hw fun a hs=>?_;cases c3:D.2 with
    |false=>
     rw [c3] at hs;refine sv hs hw fun a hs=>?_;exact ⟨true,by simp;omega,by rw [k3];exact hs.ot,hw⟩
    |true=>
    rw [c3] at hs;refine sv hs hw fun a hs=>?_;refine cl hs ((aHh (l:=D.1) (l2:=c)).ok hw) fun a W hs hw=>?_;cases c4:oH D.1 c with
    |false=>
     rw [c4] at hs;refine sv hs hw fun a hs=>?_;exact ⟨true,by simp;omega,by rw [k3];exact hs.ot,hw⟩
    |true=>
     rw [c4] at hs;refine sv hs hw fun a hs=>?_;exact ⟨false,by simp;omega,by rw [k3];exact hs.ot,hw⟩
   ·refine sv hs hw fun a hs=>?_;rw [show (kind !=2)=true by simpa using k2] at hs;refine sv hs hw fun a hs=>?_;rw [show (kind !=3)=true by simpa using k3] at hs;refine sv hs hw fun a hs=>?_;exact ⟨true,by simp;omega,hs.ot,hw⟩
  clear hs hw;rintro a W ⟨g,hg,hs,hw⟩;cases g with
  |true=>
   rw [if_pos (hg.1 rfl)] at hp;refine sx hs hw fun a W hs hw=>?_;refine rG hs rfl rfl hw inn rfl rfl rfl ⟨H,(none,0),?_⟩;rw [hp];exact ⟨rfl,Fh.le.refl H,fin0 hw⟩
  |false=>
  rw [if_neg (fun h=>by have:=hg.2 h;cases this)] at hp;clear hg;refine sxc hs ?_;refine sq ?_;replace hs:Slots a 118 [(0,ptr p),(1,.int .i64 kind),(2,.string s),(7,ptr b7),(9,cv),(10,.int .i64 ci),(11,dv),(12,.bool D.2)]:=hs.ot;refine eW (M:=fun a W=>∃g:Bool,(g=true↔(kind=3∧(r.commit<ci∨r.l.fits r.commit r.h.term=false)))∧Slots a 118 [(64,.bool g),(0,ptr p),(1,.int .i64 kind),(2,.string s),(7,ptr b7),(9,cv),(10,.int .i64 ci),(11,dv),(12,.bool D.2)]∧Has 0 w0 W (aK p r pl pv pt mv::aH pl r.l::VoR pv r.v::ToR pt r.t::aD H mv r.out.msgs::Fz H::aN cv c::aN dv D.1::aA b7 (aU bT (.slice none 0 0)) 103::R)) ?_ ?_
  ·by_cases k3:kind=3
   ·rw [k3] at hs;cases c4:decide (ci > r.commit) with
    |true=>
     have g4:=of_decide_eq_true c4;refine bG [23] [.f 0 0,.f 0 0,.f 0 0,.f 0 0,.f 0 0,.f 0 0,.f 0 0,.f 0 0,.f 0 0,.f 0 0,.f 0 0,.f 0 0,.f 0 0,.f 0 0,.f 0 0,.f 0 0,.f 0 0,.f 0 0,.f 0 0,.f 0 0,.f 0 0,.f 0 0,.f 0 0,.m 0,.f 1 1,.f 1 1,.f 1 1,.f 1 1] [.c0 _,.c0 _,.c0 _,.c0 _,.c0 _,.c0 _,.c0 _,.c0 _,.c0 (.bool true),.c0 _,.c0 _,.c0 _,.c0 _,.c0 _,.c0 _,.c0 _,.c0 _,.c0 _,.c0 _,.c0 _,.c0 _,.c0 _,.c0 _,.c1 (fun x=>undef),.c1 _,.c1 _,.c1 _,.c1 _] (aK p r pl pv pt mv::aH pl r.l::VoR pv r.v::ToR pt r.t::aD H mv r.out.msgs::Fz H::aN cv c::aN dv D.1::aA b7 (aU bT (.slice none 0 0)) 103::R) (fun x=>aK p r pl pv pt mv::aH pl r.l::VoR pv r.v::ToR pt r.t::aD H mv r.out.msgs::Fz H::aN cv c::aN dv D.1::aA b7 (aU bT (.slice none 0 0)) 103::R) (fun x y=>[]) (fun x y z=>[]) (fun x y z t=>[]) hs hw ?kk ⟨drs,drs,drs,drs,drs,drs,drs,drs,?f8,drs,drs,drs,drs,drs,drs,drs,drs,drs,drs,drs,drs,drs,drs,drm,drs,drs,drs,drs,trivial⟩
     case f8=>
      refine ⟨?_,trivial,trivial,trivial,trivial⟩;intro x y z t LD a W hs hw;refine sv hs hw fun a hs=>?_;rw [c4] at hs;exact ⟨hs,hw⟩
     case kk=>
      intro _ a W hs hw;exact ⟨true,by simp;omega,by rw [k3];exact hs.ot,hw⟩
    |false=>
     have g4:=of_decide_eq_false c4;refine bG [23] [.f 0 0,.f 0 0,.f 0 0,.f 0 0,.f 0 0,.f 0 0,.f 0 0,.f 0 0,.f 0 0,.f 0 0,.f 0 0,.f 0 0,.f 0 0,.f 0 0,.f 0 0,.f 0 0,.f 0 0,.f 0 0,.f 0 0,.f 0 0,.f 0 0,.f 0 0,.f 0 0,.m 0,.f 1 1,.f 1 1,.f 1 1,.f 1 1] [.c0 _,.c0 _,.c0 _,.c0 _,.c0 _,.c0 _,.c0 _,.c0 _,.c0 (.bool false),.c0 _,.c0 _,.c0 _,.c0 _,.c0 _,.c0 _,.c0 _,.c0 _,.c0 _,.c0 _,.c0 _,.c0 _,.c0 _,.c0 _,.c1 (fun x=> .bool (r.l.fits r.commit r.h.term)),.c1 _,.c1 _,.c1 _,.c1 _] (aK p r pl pv pt mv::aH pl r.l::VoR pv r.v::ToR pt r.t::aD H mv r.out.msgs::Fz H::aN cv c::aN dv D.1::aA b7 (aU bT (.slice none 0 0)) 103::R) (fun x=>aK p r pl pv pt mv::aH pl r.l::VoR pv r.v::ToR pt r.t::aD H mv r.out.msgs::Fz H::aN cv c::aN dv D.1::aA b7 (aU bT (.slice none 0 0)) 103::R) (fun x y=>[]) (fun x y z=>[]) (fun x y z t=>[]) hs hw ?kk ⟨drs,drs,drs,drs,drs,drs,drs,drs,?f8,drs,drs,drs,drs,drs,drs,drs,drs,drs,drs,drs,drs,drs,drs,drm,drs,drs,drs,drs,trivial⟩
     case f8=>
      refine ⟨?_,trivial,trivial,trivial,trivial⟩;intro x y z t LD a W hs hw;refine sv hs hw fun a hs=>?_;rw [c4] at hs;exact ⟨hs,hw⟩
     case kk=>
      intro _ a W hs hw;exact ⟨!r.l.fits r.commit r.h.term,by cases r.l.fits r.commit r.h.term <;> simp <;> omega,by rw [k3];exact hs.ot,hw⟩
   ·refine bG [23] [.f 0 0,.f 0 0,.f 0 0,.f 0 0,.f 0 0,.f 0 0,.f 0 0,.f 0 0,.f 0 0,.f 0 0,.f 0 0,.f 0 0,.f 0 0,.f 0 0,.f 0 0,.f 0 0,.f 0 0,.f 0 0,.f 0 0,.f 0 0,.f 0 0,.f 0 0,.f 0 0,.m 0,.f 1 1,.f 1 1,.f 1 1,.f 1 1] [.c0 _,.c0 (.bool false),.c0 _,.c0 _,.c0 _,.c0 _,.c0 _,.c0 _,.c0 _,.c0 _,.c0 _,.c0 _,.c0 _,.c0 _,.c0 _,.c0 _,.c0 _,.c0 _,.c0 _,.c0 _,.c0 _,.c0 _,.c0 _,.c1 (fun x=>undef),.c1 _,.c1 _,.c1 _,.c1 _] (aK p r pl pv pt mv::aH pl r.l::VoR pv r.v::ToR pt r.t::aD H mv r.out.msgs::Fz H::aN cv c::aN dv D.1::aA b7 (aU bT (.slice none 0 0)) 103::R) (fun x=>aK p r pl pv pt mv::aH pl r.l::VoR pv r.v::ToR pt r.t::aD H mv r.out.msgs::Fz H::aN cv c::aN dv D.1::aA b7 (aU bT (.slice none 0 0)) 103::R) (fun x y=>[]) (fun x y z=>[]) (fun x y z t=>[]) hs hw ?kk ⟨drs,?f1,drs,drs,drs,drs,drs,drs,drs,drs,drs,drs,drs,drs,drs,drs,drs,drs,drs,drs,drs,drs,drs,drm,drs,drs,drs,drs,trivial⟩
    case f1=>
     refine ⟨?_,trivial,trivial,trivial,trivial⟩;intro x y z t LD a W hs hw;refine sv hs hw fun a hs=>?_;rw [show (kind == 3)=false by simpa using k3] at hs;exact ⟨hs,hw⟩
    case kk=>
     intro _ a W hs hw;exact ⟨false,by simp;omega,hs.ot,hw⟩
  clear hs hw;rintro a W ⟨g,hg,hs,hw⟩;cases g with
  |true=>
   rw [if_pos (hg.1 rfl)] at hp;refine sx hs hw fun a W hs hw=>?_;refine rG hs rfl rfl hw inn rfl rfl rfl ⟨H,(none,0),?_⟩;rw [hp];exact ⟨rfl,Fh.le.refl H,fin0 hw⟩
  |false=>
  rw [if_neg (fun h=>by have:=hg.2 h;cases this)] at hp;clear hg;refine sc hs ?_;refine bG [8,9] [.f 0 1,.f 0 1,.f 0 1,.f 0 1,.f 0 0,.f 0 0,.f 0 0,.f 0 0,.m 0,.m 1,.f 2 2,.f 2 2,.f 2 2] [.c0 _,.c0 _,.c0 _,.c0 _,.c0 _,.c0 _,.c0 _,.c0 _,.c1 (fun x=> .int .i64 r.l.first),.c2 (fun x y=> .slice y.ad (r.l.get r.l.first 200).length y.cap),.c2 _,.c2 _,.c2 _] (aK p r pl pv pt mv::aH pl r.l::VoR pv r.v::ToR pt r.t::aD H mv r.out.msgs::Fz H::aN cv c::aN dv D.1::aA b7 (aU bT (.slice none 0 0)) 103::R) (fun x=>aK p r pl pv pt mv::aH pl r.l::VoR pv r.v::ToR pt r.t::aD H mv r.out.msgs::Fz H::aN cv c::aN dv D.1::aA b7 (aU bT (.slice none 0 0)) 103::R) (fun x y=>aK p r pl pv pt mv::aH pl r.l::VoR pv r.v::ToR pt r.t::aD H mv r.out.msgs::Fz H::aN cv c::aN dv D.1::aA b7 (aU bT (.slice none 0 0)) 103::R) (fun x y z=>[]) (fun x y z t=>[]) hs hw ?kk ⟨drs,drs,drs,drs,drs,drs,drs,drs,drm,?m1,drs,drs,drs,trivial⟩
  case m1=>
   intro x y z t LD a W hs hw;refine sg hs hw (fun s a W hs hw=>?_) (g:=nL);exact ⟨{ad:=s.1,cap:=s.2},hs,hw.d1⟩
  case kk=>
  intro _ y a W hs hw;replace hs:Slots a 118 [(93,.bool (decide (((r.l.get r.l.first 200).length:Int)≥200))),(0,ptr p),(1,.int .i64 kind),(2,.string s),(7,ptr b7),(9,cv),(10,.int .i64 ci),(11,dv),(12,.bool D.2)]:=hs.ot;cases c5:decide (((r.l.get r.l.first 200).length:Int)≥200) with
  |true=>
   rw [c5] at hs;rw [if_pos (of_decide_eq_true c5)] at hp;refine sx hs hw fun a W hs hw=>?_;refine rG hs rfl rfl hw inn rfl rfl rfl ⟨H,(none,0),?_⟩;rw [hp];exact ⟨rfl,Fh.le.refl H,fin0 hw⟩
  |false=>
   rw [c5] at hs;rw [if_neg (of_decide_eq_false c5)] at hp;refine sc hs ?_;exact ⟨hp,hs.ot,fin1 hw⟩
 clear hs hw hp fin0 fin1;rintro a W ⟨hp,hs,hw⟩;refine sv hs hw fun a hs=>?_;refine cl hs (aC6 kind s hsz hw) fun a W hs hw=>?_;refine sv hs hw fun a hs=>?_;refine cl hs (uB hw) fun a W hs hw=>?_;refine sv hs hw fun a hs=>?_;refine aG hs (hc:=uA (by rw [uC,aC9];omega) hw) (k:=?_);rintro e' W' ⟨rfl,H3,hle3,hw⟩;refine ⟨_,rfl,fun a hs=>?_⟩;refine sv hs hw fun a hs=>?_;refine cle hs (tW hw) fun x a W _ hs hw=>?_;refine sx hs hw fun a W hs hw=>?_;refine rG hs rfl rfl hw inn rfl rfl rfl ⟨H3,x,?_⟩;rw [hp];exact ⟨rfl,hle3,hw.sl⟩
end
end Go.Proofs.YtgpbngfehfbndaaGreatDoor.Sw
