import Derived.Test.YtgpbngfehfbndaaGreatDoorV27
set_option maxHeartbeats 16000000
set_option linter.all false
set_option maxRecDepth 10000
namespace Go.Proofs.YtgpbngfehfbndaaGreatDoor.Sw
open Go.RowKit Go.Sx
section
variable {H H':Fh} {p pl:Nat} {pv pt mv:Value} {r:RaftD} {w0 W:World} {R L:List Res} {v:Value}
abbrev iT (r:RaftD) (x:Int):bF:={cM with kind:=1,to_:=x,ix:=r.l.last,lterm:=(r.l.term r.l.last).1}
theorem aBr (l:List Int):∀r:RaftD,(l.foldl (fun r x=>r.say (iT r x)) r).l=r.l∧(l.foldl (fun r x=>r.say (iT r x)) r).out.msgs.length=r.out.msgs.length+l.length:=by
 induction l with
 |nil=>intro r;exact ⟨rfl,rfl⟩
 |cons x l ih=>
  intro r;rw [List.foldl_cons];obtain ⟨h1,h2⟩:=ih (r.say (iT r x));refine ⟨h1,?_⟩;rw [h2];show (r.out.msgs ++ [_]).length+l.length=_;simp;omega
theorem aHS (hl : r.out.msgs.length ≤ 800) (hw : Has 0 w0 W (aE H p r :: Fz H :: R)) :
    Calls Tryz.prog 78 ⟨[ptr p]⟩ W fun e W' => ∃ (H' : Fh) (x : Option Addr × Nat), e = .returned (.agg ⟨aT r.fire.2 (.slice x.1 r.fire.2.msgs.length x.2)⟩) ∧ H.le H' ∧ Has 0 w0 W' (aD H' (.slice x.1 r.fire.2.msgs.length x.2) r.fire.2.msgs :: aE H' p r.fire.1 :: Fz H' :: R) := by
  have h7 := qM r.l r.l.last;refine en Tryz.func78 Tryz.ntmps78 fun a hs => ?_;refine sc hs ?_;refine sn hs hw fun b4 a W hs hw => ?_;have hw : Has 0 w0 W (aE H p r :: Fz H :: aA b4 (aT bW (.slice none 0 0)) 103 :: R) := hw.pm;obtain ⟨pl, pv, pt, mv, hw⟩ := dG hw;refine sv hs hw fun a hs => ?_;refine aH hs (hc := (sR (l := r.l)).ok hw.rebase) (k := ?_);rintro e' W' ⟨xx, rfl, hw'⟩;refine ⟨_, rfl, fun a hs => ?_⟩;have hw := hw.trans hw';rw [show r.l.conf = r.l.confAt r.l.last from rfl] at hs hw;obtain ⟨c, hcc⟩ : ∃ c, c = (r.l.confAt r.l.last).1 := ⟨_, rfl⟩
  have hfire : r.fire = (match r.role == 2, r.heard with
   | true, _ => r.all
   | false, true => { r with heard := false }
   | false, false =>
     match has c r.id && decide (r.h.term < 1099511627776) with
     | false => r
     | true =>
       match k7 (some ((jC c).yesD r.id).1) with
       | true => ({ r.hardD ⟨w64 (r.h.term + 1), r.id⟩ with role := 1, leader := 0, v := some ((jC c).yesD r.id).1 } : RaftD).lead
       | false => ({ r.hardD ⟨w64 (r.h.term + 1), r.id⟩ with role := 1, leader := 0, v := some ((jC c).yesD r.id).1 } : RaftD).others.foldl (fun r x => r.say (iT r x)) { r.hardD ⟨w64 (r.h.term + 1), r.id⟩ with role := 1, leader := 0, v := some ((jC c).yesD r.id).1 }).did := by rw [hcc]; rfl
  rw [← hcc] at hs hw h7;generalize (r.l.confAt r.l.last).2 = ci at *;clear hcc;obtain ⟨cv, hcv⟩ : ∃ cv, cv = Value.slice xx.1 c.length xx.2 := ⟨_, rfl⟩
  replace hs : Slots a 124 ((17, .tuple ⟨[.slice xx.1 c.length xx.2, .int .i64 ci]⟩) :: [(0, ptr p), (2, ptr b4)]) := hs.of ⟨rfl, rfl, rfl, trivial⟩;rw [← hcv] at hs;have hw : Has 0 w0 W' (aJ p r pl pv pt mv :: aG pl r.l :: VoR pv r.v :: ToR pt r.t :: aD H mv r.out.msgs :: Fz H :: aM cv c :: aA b4 (aT bW (.slice none 0 0)) 103 :: R) := by rw [hcv]; exact hw.pm
  refine zE hs hw ?_; clear hs; intro a hs;refine sq ?_;replace hs : Slots a 124 [(0, ptr p), (2, ptr b4), (3, cv)] := hs.of ⟨rfl, rfl, rfl, trivial⟩;refine fD (M := fun a W => ∃ (H2 : Fh) (r2 : RaftD), H.le H2 ∧ r.fire = r2.did ∧ Slots a 124 [(0, ptr p), (2, ptr b4)] ∧ Has 0 w0 W (aE H2 p (r2) :: Fz H2 :: aM cv c :: aA b4 (aT bW (.slice none 0 0)) 103 :: R)) ?_ ?_
  · refine sx hs hw fun a W hs hw => ?_
    cases c1 : r.role == 2 with
    | true =>
      rw [c1] at hs hfire;have hw : Has 0 w0 W (aE H p (r) :: Fz H :: aM cv c :: aA b4 (aT bW (.slice none 0 0)) 103 :: R) := cD hw;refine sv hs hw fun a hs => ?_;refine aH hs (hc := tC (by omega) hw) (k := ?_);rintro e' W' ⟨rfl, H3, hle3, hw⟩;refine ⟨_, rfl, fun a hs => ?_⟩;refine sc hs ?_;exact ⟨H3, _, hle3, hfire, hs.of ⟨rfl, rfl, trivial⟩, hw⟩
    | false =>
    rw [c1] at hs hfire;refine sx hs hw fun a W hs hw => ?_;cases c2 : r.heard with
    | true =>
      rw [c2] at hs hfire;refine sx hs hw fun a W hs hw => ?_;exact ⟨H, { r with heard := false }, Fh.le.refl H, hfire, hs.of ⟨rfl, rfl, trivial⟩, cD (r := { r with heard := false }) hw⟩
    | false =>
    rw [c2] at hs hfire;refine sx hs hw fun a W hs hw => ?_;cases c3 : has c r.id with
    | false =>
      rw [c3] at hs hfire;refine sv hs hw fun a hs => ?_;exact ⟨H, r, Fh.le.refl H, hfire, hs.of ⟨rfl, rfl, trivial⟩, cD hw⟩
    | true =>
    rw [c3] at hs hfire;refine sx hs hw fun a W hs hw => ?_;cases c4 : decide (r.h.term < 1099511627776) with
    | false =>
      rw [c4] at hs hfire;refine sc hs ?_;exact ⟨H, r, Fh.le.refl H, hfire, hs.of ⟨rfl, rfl, trivial⟩, cD hw⟩
    | true =>
    rw [c4] at hs;replace hs : Slots a 124 [(0, ptr p), (2, ptr b4), (3, cv), (36, .bool true)] := hs.of ⟨rfl, rfl, rfl, rfl, trivial⟩;obtain ⟨r2, hr2⟩ : ∃ r2 : RaftD, r2 = r.hardD ⟨w64 (r.h.term + 1), r.id⟩ := ⟨_, rfl⟩
    obtain ⟨vo, hvo⟩ : ∃ vo, vo = ((jC c).yesD r.id).1 := ⟨_, rfl⟩
    obtain ⟨r4, hr4⟩ : ∃ r4 : RaftD, r4 = { r2 with role := 1, leader := 0, v := some vo } := ⟨_, rfl⟩
    have hfire : r.fire = (match k7 (some vo) with | true => r4.lead | false => r4.others.foldl (fun r x => r.say (iT r x)) r4).did := by
      rw [hfire, c4, hr4, hvo, hr2]; rfl
    have hid : r2.id = r.id := by rw [hr2]; rfl
    have hrm : r2.out.msgs = r.out.msgs := by rw [hr2]; rfl
    rw [← hid] at hvo;refine zG hs ?_;refine bB [12] [.f 0 0, .f 0 0, .f 0 0, .f 0 0, .f 0 0, .f 0 0, .f 0 0, .f 0 0, .f 0 0, .f 0 0, .f 0 0, .f 0 0, .m 0] [.c0 _, .c0 _, .c0 _, .c0 _, .c0 _, .c0 _, .c0 _, .c0 _, .c0 _, .c0 _, .c0 _, .c0 _, .c1 (fun x => .tuple ⟨[]⟩)] (aJ p r pl pv pt mv :: aG pl r.l :: VoR pv r.v :: ToR pt r.t :: aD H mv r.out.msgs :: Fz H :: aM cv c :: aA b4 (aT bW (.slice none 0 0)) 103 :: R) (fun x => aE H p (r2) :: Fz H :: aM cv c :: aA b4 (aT bW (.slice none 0 0)) 103 :: R) (fun x y => []) (fun x y z => []) (fun x y z t => []) hs hw ?kk ⟨drs, drs, drs, drs, drs, drs, drs, drs, drs, drs, drs, drs, ?m0, trivial⟩
    case m0 =>
      intro x y z t LD a W hs hw;have hw : Has 0 w0 W (aE H p (r) :: Fz H :: aM cv c :: aA b4 (aT bW (.slice none 0 0)) 103 :: R) := cD hw;refine cl hs (s6 ⟨w64 (r.h.term + 1), r.id⟩ hw) fun a W hs hw => ?_;rw [← hr2] at hw;exact ⟨{}, hs, hw⟩
    case kk =>
    intro _ a W hs hw;replace hs : Slots a 124 [(0, ptr p), (2, ptr b4), (3, cv)] := hs.of ⟨rfl, rfl, rfl, trivial⟩;clear hr2;obtain ⟨pl, pv, pt, mv, hw⟩ := dG hw;refine sx hs hw fun a W hs hw => ?_;have hw : Has 0 w0 W (aM cv c :: aJ p { r2 with role := 1, leader := 0 } pl pv pt mv :: aG pl r2.l :: VoR pv r2.v :: ToR pt r2.t :: aD H mv r2.out.msgs :: Fz H :: aA b4 (aT bW (.slice none 0 0)) 103 :: R) := hw.pm;refine sg hs hw (fun q a W hs hw => ?_) (g := aGN (l := c) (by omega));refine sx hs hw fun a W hs hw => ?_;have hw : Has 0 w0 W (gA q (jC c) :: aM cv c :: aJ p { r2 with role := 1, leader := 0 } pl (ptr q) pt mv :: aG pl r2.l :: VoR pv r2.v :: ToR pt r2.t :: aD H mv r2.out.msgs :: Fz H :: aA b4 (aT bW (.slice none 0 0)) 103 :: R) := hw;replace hs : Slots a 124 [(0, ptr p), (2, ptr b4), (3, cv)] := hs.of ⟨rfl, rfl, rfl, trivial⟩;refine bB [8] [.f 0 0, .f 0 0, .f 0 0, .f 0 0, .f 0 0, .f 0 0, .f 0 0, .f 0 0, .m 0] [.c0 _, .c0 _, .c0 _, .c0 _, .c0 _, .c0 _, .c0 _, .c0 _, .c1 (fun x => .bool ((jC c).yesD r2.id).2)] (gA q (jC c) :: aM cv c :: aJ p { r2 with role := 1, leader := 0 } pl (ptr q) pt mv :: aG pl r2.l :: VoR pv r2.v :: ToR pt r2.t :: aD H mv r2.out.msgs :: Fz H :: aA b4 (aT bW (.slice none 0 0)) 103 :: R) (fun x => gA q vo :: aM cv c :: aJ p { r2 with role := 1, leader := 0 } pl (ptr q) pt mv :: aG pl r2.l :: VoR pv r2.v :: ToR pt r2.t :: aD H mv r2.out.msgs :: Fz H :: aA b4 (aT bW (.slice none 0 0)) 103 :: R) (fun x y => []) (fun x y z => []) (fun x y z t => []) hs hw ?kk ⟨drs, drs, drs, drs, drs, drs, drs, drs, ?m0, trivial⟩
    case m0 =>
      intro x y z t LD a W hs hw;refine cl hs ((aBK (v := jC c) (x := r2.id) (by show ([] : List Int).length ≤ 1000; decide)).ok hw) fun a W hs hw => ?_;rw [← hvo] at hw;exact ⟨{}, hs, hw⟩
    case kk =>
    intro _ a W hs hw;replace hs : Slots a 124 [(0, ptr p), (2, ptr b4), (3, cv)] := hs.of ⟨rfl, rfl, rfl, trivial⟩;clear hvo;have hw : Has 0 w0 W (VoR (ptr q) (some vo) :: aM cv c :: aJ p { r2 with role := 1, leader := 0 } pl (ptr q) pt mv :: aG pl r2.l :: VoR pv r2.v :: ToR pt r2.t :: aD H mv r2.out.msgs :: Fz H :: aA b4 (aT bW (.slice none 0 0)) 103 :: R) := qP hw;have mid : ∀ {W}, Has 0 w0 W (VoR (ptr q) (some vo) :: aM cv c :: aJ p { r2 with role := 1, leader := 0 } pl (ptr q) pt mv :: aG pl r2.l :: VoR pv r2.v :: ToR pt r2.t :: aD H mv r2.out.msgs :: Fz H :: aA b4 (aT bW (.slice none 0 0)) 103 :: R) → Has 0 w0 W (aE H p (r4) :: Fz H :: aM cv c :: aA b4 (aT bW (.slice none 0 0)) 103 :: R) := fun h => by
      rw [hr4];exact cD (r := { r2 with role := 1, leader := 0, v := some vo }) (h.sl)
    have hm4 : r4.out.msgs.length ≤ 800 := by rw [hr4]; show r2.out.msgs.length ≤ 800; rw [hrm]; exact hl
    refine sx hs hw fun a W hs hw => ?_;refine cl hs (xI hw) fun a W hs hw => ?_;cases c5 : k7 (some vo) with
    | true =>
      rw [c5] at hs hfire;have hw := mid hw;refine sv hs hw fun a hs => ?_;refine aH hs (hc := xJ (by omega) hw) (k := ?_);rintro e' W' ⟨rfl, H3, hle3, hw⟩;refine ⟨_, rfl, fun a hs => ?_⟩;refine sc hs ?_;exact ⟨H3, _, hle3, hfire, hs.of ⟨rfl, rfl, trivial⟩, hw⟩
    | false =>
    rw [c5] at hs hfire;have hw := mid hw;clear mid hr4;replace hs : Slots a 124 [(0, ptr p), (2, ptr b4), (88, .bool false)] := hs.of ⟨rfl, rfl, rfl, trivial⟩;obtain ⟨pl, pv, pt, mv, hw⟩ := dG hw;refine zG hs ?_;refine bB [8, 9] [.f 0 1, .f 0 1, .f 0 1, .f 0 1, .f 0 0, .f 0 0, .f 0 0, .f 0 0, .m 0, .m 1, .f 2 2, .f 2 2, .f 2 2, .f 2 2, .f 2 2] [.c0 _, .c0 _, .c0 _, .c0 _, .c0 _, .c0 _, .c0 _, .c0 _, .c1 (fun x => .int .i64 r4.l.last), .c2 (fun x y => .tuple ⟨[.int .i64 (r4.l.term r4.l.last).1, .bool (r4.l.term r4.l.last).2]⟩), .c2 _, .c2 _, .c2 _, .c2 _, .c2 _] (aJ p r4 pl pv pt mv :: aG pl r4.l :: VoR pv r4.v :: ToR pt r4.t :: aD H mv r4.out.msgs :: Fz H :: aM cv c :: aA b4 (aT bW (.slice none 0 0)) 103 :: R) (fun x => aJ p r4 pl pv pt mv :: aG pl r4.l :: VoR pv r4.v :: ToR pt r4.t :: aD H mv r4.out.msgs :: Fz H :: aM cv c :: aA b4 (aT bW (.slice none 0 0)) 103 :: R) (fun x y => aJ p r4 pl pv pt mv :: aG pl r4.l :: VoR pv r4.v :: ToR pt r4.t :: aD H mv r4.out.msgs :: Fz H :: aM cv c :: aA b4 (aT bW (.slice none 0 0)) 103 :: R) (fun x y z => []) (fun x y z t => []) hs hw ?kk ⟨drs, drs, drs, drs, drs, drs, drs, drs, drm, drm, drs, drs, drs, drs, drs, trivial⟩
    case kk =>
    intro _ _ a W hs hw;replace hs : Slots a 124 [(0, ptr p), (2, ptr b4), (5, .int .i64 (r4.l.term r4.l.last).1)] := hs.of ⟨rfl, rfl, rfl, trivial⟩;have hw : Has 0 w0 W (aE H p (r4) :: Fz H :: aM cv c :: aA b4 (aT bW (.slice none 0 0)) 103 :: R) := cD hw;have h8 := aBl r4;refine sv hs hw fun a hs => ?_;refine cle hs (aBg hw) fun s a W _ hs hw => ?_;refine sv hs hw fun a hs => ?_;have hw : Has 0 w0 W (aE H p r4 :: aM (.slice s.1 r4.others.length s.2) r4.others :: Fz H :: aM cv c :: aA b4 (aT bW (.slice none 0 0)) 103 :: R) := hw.pm;have hall : ∀ i, ((r4.others.take i).foldl (fun r x => r.say (iT r x)) r4).out.msgs.length ≤ 1000 := fun i => by rw [(aBr _ r4).2, List.length_take]; omega
    have hlog : ∀ i, ((r4.others.take i).foldl (fun r x => r.say (iT r x)) r4).l = r4.l := fun i => (aBr _ r4).1;replace hfire : r.fire = (r4.others.foldl (fun r x => r.say (iT r x)) r4).did := hfire;generalize r4.others = o at *;obtain ⟨FF, hFF⟩ : ∃ FF : Nat → RaftD, FF = fun i => (o.take i).foldl (fun r x => r.say (iT r x)) r4 := ⟨_, rfl⟩
    have hF0 : FF 0 = r4 := by rw [hFF]; rfl
    have hFs : ∀ {i x}, o[i]? = some x → FF (i + 1) = (FF i).say (iT (FF i) x) := fun {i x} h => by rw [hFF]; exact aBm (f := fun r x => RaftD.say r (iT r x)) (b := r4) h
    have hFe : ∀ {i}, o.length ≤ i → r.fire = (FF i).did := fun {i} h => by rw [hfire, hFF]; simp only []; rw [List.take_of_length_le h]
    replace hall : ∀ i, (FF i).out.msgs.length ≤ 1000 := fun i => by rw [hFF]; exact hall i
    replace hlog : ∀ i, (FF i).l = r4.l := fun i => by rw [hFF]; exact hlog i
    rw [← hF0] at hw;clear hfire hFF;refine bX (σ := Nat) (fun i => [(0, ptr p), (2, ptr b4), (5, .int .i64 (r4.l.term r4.l.last).1), (105, .slice s.1 o.length s.2), (106, .int .i64 (o.length : Int)), (107, .int .i64 (i : Int))]) (fun i => aE H p (FF i) :: aM (.slice s.1 o.length s.2) o :: Fz H :: aM cv c :: aA b4 (aT bW (.slice none 0 0)) 103 :: R) (fun i => i ≤ o.length) (fun i => o.length - i) 0 (Nat.zero_le _) hs ⟨rfl, rfl, rfl, rfl, rfl, rfl, trivial⟩ hw ?_;clear hs hw;intro i a W hi hs hw;refine sv hs hw fun a hs => ?_;refine cI hs (kt := fun hc => ?_) (kf := fun hc => ?_)
    · have hi' : i < o.length := by simpa using hc
      obtain ⟨x, ho, hd⟩ := dP hi';refine sc hs ?_;refine iI hs (hw.rd_own (In.tl In.hd)) ho rfl fun a b f hs => ?_;obtain ⟨pl, pv, pt, mv, hw⟩ := dG hw;refine sx hs hw fun a W hs hw => ?_;have hw : Has 0 w0 W (aE H p (FF i) :: aM (.slice s.1 o.length s.2) o :: Fz H :: aM cv c :: aA b4 (aT bW (.slice none 0 0)) 103 :: R) := cD hw;have hask : iT (FF i) x = { cM with kind := 1, to_ := x, ix := (FF i).l.last, lterm := (r4.l.term r4.l.last).1 } := by unfold iT; rw [hlog]
      have hnx := hFs ho;rw [hask] at hnx;refine cl hs (fO { cM with kind := 1, to_ := x, ix := (FF i).l.last, lterm := (r4.l.term r4.l.last).1 } (.slice none 0 0) fU (by show (0 : Nat) ≤ 1000000; omega) (hall i) hw) fun a W hs hw => ?_;rw [← hnx] at hw;refine sv hs hw fun a hs => ?_;exact bS (i + 1) hs hw hi' (by omega) ⟨rfl, rfl, rfl, rfl, rfl, bU (i1 (by omega)), trivial⟩
    · refine sc hs ?_
      exact ⟨H, FF i, Fh.le.refl H, hFe (by simp at hc; omega), hs.of ⟨rfl, rfl, trivial⟩, hw.sl⟩
  clear hs hw hfire;rintro a W ⟨H2, r2, hle, he, hs, hw⟩;refine sv hs hw fun a hs => ?_;refine cle hs (s7 hw) fun s a W _ hs hw => ?_;refine sx hs hw fun a W hs hw => ?_;refine rc1 hs rfl rfl hw (by repeat (first | exact In.hd | apply In.tl)) rfl ⟨H2, s, ?_⟩;rw [he];exact ⟨rfl, hle, hw.sl⟩
end
end Go.Proofs.YtgpbngfehfbndaaGreatDoor.Sw
namespace Go.Sx
open Go.RowKit
section
variable {P:Program} {fn:Func} {C:Ending→World→Prop} {a:Act} {n G:Nat} {L:List (Nat×Value)} {w W:World} {R:List Res} {t b o:Nat} {T E:TypeId} {cs z:List Value}
theorem qS [u:Ty P T true z] {r r':Tmp} {v v':Value} (hs:Slots a n L) (hr:fn.results= #[.tmp r,.cell t T,.tmp r']) (hv:lk L t=some (.pointer (some ⟨b,o,none⟩)):=by with_unfolding_all exact rfl) (hw:Has G w W R) (hi:In (aA b cs E) R:=by repeat (first|exact In.hd|apply In.tl)) (hl:Nat.ble (o+z.length) cs.length=true:=by with_unfolding_all exact rfl) (hv2:lk L r=some v) (hv3:lk L r'=some v') (h:C (.returned (.tuple #[v,.agg ⟨cut cs o z.length⟩,v'])) W):bodyPost P fn C .ret a W:=by
 have h1:=oU u (hw.block hi).1 (Nat.le_of_ble_eq_true hl);refine rt hs ?_ h;have h2:=fI hs hv;have h3:=fI hs hv2;have h4:=fI hs hv3;simp only [Instr.loadAt,Instr.sureAddr,Sem.run_bind,Sem.run_pure,Result.andThen_ok] at h1;simp only [results,hr,List.mapM_toArray,List.mapM_cons,List.mapM_nil];simp [h2,h3,h4,asAddr,h1]
end
end Go.Sx
namespace Go.Proofs.YtgpbngfehfbndaaGreatDoor.Sw
open Go.RowKit Go.Sx
section
variable {H H':Fh} {p pl:Nat} {pv pt mv:Value} {r:RaftD} {w0 W:World} {R L:List Res} {v:Value}
theorem aHV (kind:Int) (s:ByteArray) (hsz:s.size≤1000000) (hl:r.out.msgs.length≤800) (hw:Has 0 w0 W (aE H p r::Fz H::R)):
  Calls Tryz.prog 114 ⟨[ptr p,.int .i64 kind,.string s]⟩ W fun e W'=>∃(H':Fh) (x:Option Addr×Nat),e= .returned (.tuple ⟨[.int .i64 (r.propose kind s).2.1,.agg ⟨aT (r.propose kind s).2.2.1 (.slice x.1 (r.propose kind s).2.2.1.msgs.length x.2)⟩,.int .i64 (r.propose kind s).2.2.2]⟩)∧H.le H'∧Has 0 w0 W' (aD H' (.slice x.1 (r.propose kind s).2.2.1.msgs.length x.2) (r.propose kind s).2.2.1.msgs::aE H' p (r.propose kind s).1::Fz H'::R):=by
 have h7:=qM r.l r.l.last
 have hp:r.propose kind s=(if r.role≠2 then (r,0,bW,9)
  else if (kind≠2∧kind≠3)∨2500<(s.size:Int)∨(kind=3∧((dL s.data.toList).2=false∨nT (dL s.data.toList).1 (r.l.confAt r.l.last).1=false)) then (r,0,bW,1)
  else if kind=3∧(r.commit<(r.l.confAt r.l.last).2∨r.l.fits r.commit r.h.term=false) then (r,0,bW,10)
  else if 200≤((r.l.get r.l.first 200).length:Int) then (r,0,bW,5)
  else ((r.put kind s).1.move.all.did.1,(r.put kind s).2,(r.put kind s).1.move.all.did.2,0)):=rfl
 refine en Tryz.func114 Tryz.ntmps114 fun a hs=>?_;refine sv hs hw fun a hs=>?_;refine sn hs hw fun b7 a W hs hw=>?_;have hw:Has 0 w0 W (aE H p r::Fz H::aA b7 (aT bW (.slice none 0 0)) 103::R):=hw.pm;obtain ⟨pl,pv,pt,mv,hw⟩:=dG hw;refine sv hs hw fun a hs=>?_;refine aH hs (hc:=(sR (l:=r.l)).ok hw.rebase) (k:=?_);rintro e' W' ⟨xx,rfl,hw'⟩;refine ⟨_,rfl,fun a hs=>?_⟩;have hw:=hw.trans hw';rw [show r.l.conf=r.l.confAt r.l.last from rfl] at hs hw;generalize (r.l.confAt r.l.last).1=c at *;generalize (r.l.confAt r.l.last).2=ci at *;obtain ⟨cv,hcv⟩:∃cv,cv=Value.slice xx.1 c.length xx.2:=⟨_,rfl⟩
 replace hs:Slots a 118 ((22,.tuple ⟨[.slice xx.1 c.length xx.2,.int .i64 ci]⟩):: [(0,ptr p),(1,.int .i64 kind),(2,.string s),(6,.int .i64 0),(7,ptr b7),(8,.int .i64 0)]):=hs.ot;rw [←hcv] at hs hw;refine sv hs hw fun a hs=>?_;refine aH hs (hc:=(sP (s:=s) hsz).ok hw.rebase) (k:=?_);rintro e' W'' ⟨yy,rfl,hw'⟩;refine ⟨_,rfl,fun a hs=>?_⟩;have hw:=hw.trans hw';obtain ⟨dv,hdv⟩:∃dv,dv=Value.slice yy.1 (dL s.data.toList).1.length yy.2:=⟨_,rfl⟩
 rw [←hdv] at hs hw;generalize dL s.data.toList=D at *;have hw:Has 0 w0 W'' (aJ p r pl pv pt mv::aG pl r.l::VoR pv r.v::ToR pt r.t::aD H mv r.out.msgs::Fz H::aM cv c::aM dv D.1::aA b7 (aT bW (.slice none 0 0)) 103::R):=hw.pm;have fin0:∀{W},Has 0 w0 W (aJ p r pl pv pt mv::aG pl r.l::VoR pv r.v::ToR pt r.t::aD H mv r.out.msgs::Fz H::aM cv c::aM dv D.1::aA b7 (aT bW (.slice none 0 0)) 103::R)→Has 0 w0 W (aD H (.slice none 0 0) []::aE H p r::Fz H::R):=fun h=>aBo (cD (h.sl));have fin1:∀{W},Has 0 w0 W (aJ p r pl pv pt mv::aG pl r.l::VoR pv r.v::ToR pt r.t::aD H mv r.out.msgs::Fz H::aM cv c::aM dv D.1::aA b7 (aT bW (.slice none 0 0)) 103::R)→Has 0 w0 W (aE H p (r)::Fz H::aM cv c::aM dv D.1::aA b7 (aT bW (.slice none 0 0)) 103::R):=fun h=>cD h;replace hs:Slots a 118 ((27,.tuple ⟨[dv,.bool D.2]⟩):: [(0,ptr p),(1,.int .i64 kind),(2,.string s),(6,.int .i64 0),(7,ptr b7),(8,.int .i64 0),(9,cv),(10,.int .i64 ci)]):=hs.ot;clear hdv hcv hw';refine zE hs hw ?_;clear hs;intro a hs;refine sq ?_;replace hs:Slots a 118 [(0,ptr p),(1,.int .i64 kind),(2,.string s),(7,ptr b7),(9,cv),(10,.int .i64 ci),(11,dv),(12,.bool D.2)]:=hs.ot;refine fD (M:=fun a W=>(r.propose kind s=((r.put kind s).1.move.all.did.1,(r.put kind s).2,(r.put kind s).1.move.all.did.2,0))∧Slots a 118 [(0,ptr p),(1,.int .i64 kind),(2,.string s),(7,ptr b7)]∧Has 0 w0 W (aE H p (r)::Fz H::aM cv c::aM dv D.1::aA b7 (aT bW (.slice none 0 0)) 103::R)) ?_ ?_
 ·refine sx hs hw fun a W hs hw=>?_;cases c1:(r.role !=2) with
  |true=>
   rw [c1] at hs;rw [if_pos (by simpa using c1)] at hp;refine sx hs hw fun a W hs hw=>?_;refine qS hs rfl rfl hw inn rfl rfl rfl ⟨H,(none,0),?_⟩;rw [hp];exact ⟨rfl,Fh.le.refl H,fin0 hw⟩
  |false=>
  rw [c1] at hs;rw [if_neg (by simpa using c1)] at hp;replace hs:Slots a 118 [(30,.bool false),(0,ptr p),(1,.int .i64 kind),(2,.string s),(7,ptr b7),(9,cv),(10,.int .i64 ci),(11,dv),(12,.bool D.2)]:=hs.ot;refine sxc hs ?_;refine sq ?_;refine fD (M:=fun a W=>∃g:Bool,(g=true↔((kind≠2∧kind≠3)∨2500<(s.size:Int)∨(kind=3∧(D.2=false∨nT D.1 c=false))))∧Slots a 118 [(37,.bool g),(0,ptr p),(1,.int .i64 kind),(2,.string s),(7,ptr b7),(9,cv),(10,.int .i64 ci),(11,dv),(12,.bool D.2)]∧Has 0 w0 W (aJ p r pl pv pt mv::aG pl r.l::VoR pv r.v::ToR pt r.t::aD H mv r.out.msgs::Fz H::aM cv c::aM dv D.1::aA b7 (aT bW (.slice none 0 0)) 103::R)) ?_ ?_
  ·by_cases k2:kind=2
   ·rw [k2] at hs;refine sv hs hw fun a hs=>?_;cases c2:decide ((s.size:Int) > 2500) with
    |true=>
     rw [c2] at hs;refine sv hs hw fun a hs=>?_;exact ⟨true,by have:=of_decide_eq_true c2;simp;omega,by rw [k2];exact hs.ot,hw⟩
    |false=>
     rw [c2] at hs;refine sv hs hw fun a hs=>?_;exact ⟨false,by have:=of_decide_eq_false c2;simp;omega,by rw [k2];exact hs.ot,hw⟩
   by_cases k3:kind=3
   ·rw [k3] at hs;refine sv hs hw fun a hs=>?_;cases c2:decide ((s.size:Int) > 2500) with
    |true=>
     rw [c2] at hs;refine sv hs hw fun a hs=>?_;exact ⟨true,by have:=of_decide_eq_true c2;simp;omega,by rw [k3];exact hs.ot,hw⟩
    |false=>
    rw [c2] at hs;have g2:=of_decide_eq_false c2;refine sv hs hw fun a hs=>?_;cases c3:D.2 with
    |false=>
     rw [c3] at hs;refine sv hs hw fun a hs=>?_;exact ⟨true,by simp;omega,by rw [k3];exact hs.ot,hw⟩
    |true=>
    rw [c3] at hs;refine sv hs hw fun a hs=>?_;refine cl hs ((aGs (l:=D.1) (l2:=c)).ok hw) fun a W hs hw=>?_;cases c4:nT D.1 c with
    |false=>
     rw [c4] at hs;refine sv hs hw fun a hs=>?_;exact ⟨true,by simp;omega,by rw [k3];exact hs.ot,hw⟩
    |true=>
     rw [c4] at hs;refine sv hs hw fun a hs=>?_;exact ⟨false,by simp;omega,by rw [k3];exact hs.ot,hw⟩
   ·refine sv hs hw fun a hs=>?_;rw [show (kind !=2)=true by simpa using k2] at hs;refine sv hs hw fun a hs=>?_;rw [show (kind !=3)=true by simpa using k3] at hs;refine sv hs hw fun a hs=>?_;exact ⟨true,by simp;omega,hs.ot,hw⟩
  clear hs hw;rintro a W ⟨g,hg,hs,hw⟩;cases g with
  |true=>
   rw [if_pos (hg.1 rfl)] at hp;refine sx hs hw fun a W hs hw=>?_;refine qS hs rfl rfl hw inn rfl rfl rfl ⟨H,(none,0),?_⟩;rw [hp];exact ⟨rfl,Fh.le.refl H,fin0 hw⟩
  |false=>
  rw [if_neg (fun h=>by have:=hg.2 h;cases this)] at hp;clear hg;refine sxc hs ?_;refine sq ?_;replace hs:Slots a 118 [(0,ptr p),(1,.int .i64 kind),(2,.string s),(7,ptr b7),(9,cv),(10,.int .i64 ci),(11,dv),(12,.bool D.2)]:=hs.ot;refine fD (M:=fun a W=>∃g:Bool,(g=true↔(kind=3∧(r.commit<ci∨r.l.fits r.commit r.h.term=false)))∧Slots a 118 [(64,.bool g),(0,ptr p),(1,.int .i64 kind),(2,.string s),(7,ptr b7),(9,cv),(10,.int .i64 ci),(11,dv),(12,.bool D.2)]∧Has 0 w0 W (aJ p r pl pv pt mv::aG pl r.l::VoR pv r.v::ToR pt r.t::aD H mv r.out.msgs::Fz H::aM cv c::aM dv D.1::aA b7 (aT bW (.slice none 0 0)) 103::R)) ?_ ?_
  ·by_cases k3:kind=3
   ·rw [k3] at hs;cases c4:decide (ci > r.commit) with
    |true=>
     have g4:=of_decide_eq_true c4;refine bB [23] [.f 0 0,.f 0 0,.f 0 0,.f 0 0,.f 0 0,.f 0 0,.f 0 0,.f 0 0,.f 0 0,.f 0 0,.f 0 0,.f 0 0,.f 0 0,.f 0 0,.f 0 0,.f 0 0,.f 0 0,.f 0 0,.f 0 0,.f 0 0,.f 0 0,.f 0 0,.f 0 0,.m 0,.f 1 1,.f 1 1,.f 1 1,.f 1 1] [.c0 _,.c0 _,.c0 _,.c0 _,.c0 _,.c0 _,.c0 _,.c0 _,.c0 (.bool true),.c0 _,.c0 _,.c0 _,.c0 _,.c0 _,.c0 _,.c0 _,.c0 _,.c0 _,.c0 _,.c0 _,.c0 _,.c0 _,.c0 _,.c1 (fun x=>undef),.c1 _,.c1 _,.c1 _,.c1 _] (aJ p r pl pv pt mv::aG pl r.l::VoR pv r.v::ToR pt r.t::aD H mv r.out.msgs::Fz H::aM cv c::aM dv D.1::aA b7 (aT bW (.slice none 0 0)) 103::R) (fun x=>aJ p r pl pv pt mv::aG pl r.l::VoR pv r.v::ToR pt r.t::aD H mv r.out.msgs::Fz H::aM cv c::aM dv D.1::aA b7 (aT bW (.slice none 0 0)) 103::R) (fun x y=>[]) (fun x y z=>[]) (fun x y z t=>[]) hs hw ?kk ⟨drs,drs,drs,drs,drs,drs,drs,drs,?f8,drs,drs,drs,drs,drs,drs,drs,drs,drs,drs,drs,drs,drs,drs,drm,drs,drs,drs,drs,trivial⟩
     case f8=>
      refine ⟨?_,trivial,trivial,trivial,trivial⟩;intro x y z t LD a W hs hw;refine sv hs hw fun a hs=>?_;rw [c4] at hs;exact ⟨hs,hw⟩
     case kk=>
      intro _ a W hs hw;exact ⟨true,by simp;omega,by rw [k3];exact hs.ot,hw⟩
    |false=>
     have g4:=of_decide_eq_false c4;refine bB [23] [.f 0 0,.f 0 0,.f 0 0,.f 0 0,.f 0 0,.f 0 0,.f 0 0,.f 0 0,.f 0 0,.f 0 0,.f 0 0,.f 0 0,.f 0 0,.f 0 0,.f 0 0,.f 0 0,.f 0 0,.f 0 0,.f 0 0,.f 0 0,.f 0 0,.f 0 0,.f 0 0,.m 0,.f 1 1,.f 1 1,.f 1 1,.f 1 1] [.c0 _,.c0 _,.c0 _,.c0 _,.c0 _,.c0 _,.c0 _,.c0 _,.c0 (.bool false),.c0 _,.c0 _,.c0 _,.c0 _,.c0 _,.c0 _,.c0 _,.c0 _,.c0 _,.c0 _,.c0 _,.c0 _,.c0 _,.c0 _,.c1 (fun x=> .bool (r.l.fits r.commit r.h.term)),.c1 _,.c1 _,.c1 _,.c1 _] (aJ p r pl pv pt mv::aG pl r.l::VoR pv r.v::ToR pt r.t::aD H mv r.out.msgs::Fz H::aM cv c::aM dv D.1::aA b7 (aT bW (.slice none 0 0)) 103::R) (fun x=>aJ p r pl pv pt mv::aG pl r.l::VoR pv r.v::ToR pt r.t::aD H mv r.out.msgs::Fz H::aM cv c::aM dv D.1::aA b7 (aT bW (.slice none 0 0)) 103::R) (fun x y=>[]) (fun x y z=>[]) (fun x y z t=>[]) hs hw ?kk ⟨drs,drs,drs,drs,drs,drs,drs,drs,?f8,drs,drs,drs,drs,drs,drs,drs,drs,drs,drs,drs,drs,drs,drs,drm,drs,drs,drs,drs,trivial⟩
     case f8=>
      refine ⟨?_,trivial,trivial,trivial,trivial⟩;intro x y z t LD a W hs hw;refine sv hs hw fun a hs=>?_;rw [c4] at hs;exact ⟨hs,hw⟩
     case kk=>
      intro _ a W hs hw;exact ⟨!r.l.fits r.commit r.h.term,by cases r.l.fits r.commit r.h.term <;> simp <;> omega,by rw [k3];exact hs.ot,hw⟩
   ·refine bB [23] [.f 0 0,.f 0 0,.f 0 0,.f 0 0,.f 0 0,.f 0 0,.f 0 0,.f 0 0,.f 0 0,.f 0 0,.f 0 0,.f 0 0,.f 0 0,.f 0 0,.f 0 0,.f 0 0,.f 0 0,.f 0 0,.f 0 0,.f 0 0,.f 0 0,.f 0 0,.f 0 0,.m 0,.f 1 1,.f 1 1,.f 1 1,.f 1 1] [.c0 _,.c0 (.bool false),.c0 _,.c0 _,.c0 _,.c0 _,.c0 _,.c0 _,.c0 _,.c0 _,.c0 _,.c0 _,.c0 _,.c0 _,.c0 _,.c0 _,.c0 _,.c0 _,.c0 _,.c0 _,.c0 _,.c0 _,.c0 _,.c1 (fun x=>undef),.c1 _,.c1 _,.c1 _,.c1 _] (aJ p r pl pv pt mv::aG pl r.l::VoR pv r.v::ToR pt r.t::aD H mv r.out.msgs::Fz H::aM cv c::aM dv D.1::aA b7 (aT bW (.slice none 0 0)) 103::R) (fun x=>aJ p r pl pv pt mv::aG pl r.l::VoR pv r.v::ToR pt r.t::aD H mv r.out.msgs::Fz H::aM cv c::aM dv D.1::aA b7 (aT bW (.slice none 0 0)) 103::R) (fun x y=>[]) (fun x y z=>[]) (fun x y z t=>[]) hs hw ?kk ⟨drs,?f1,drs,drs,drs,drs,drs,drs,drs,drs,drs,drs,drs,drs,drs,drs,drs,drs,drs,drs,drs,drs,drs,drm,drs,drs,drs,drs,trivial⟩
    case f1=>
     refine ⟨?_,trivial,trivial,trivial,trivial⟩;intro x y z t LD a W hs hw;refine sv hs hw fun a hs=>?_;rw [show (kind == 3)=false by simpa using k3] at hs;exact ⟨hs,hw⟩
    case kk=>
     intro _ a W hs hw;exact ⟨false,by simp;omega,hs.ot,hw⟩
  clear hs hw;rintro a W ⟨g,hg,hs,hw⟩;cases g with
  |true=>
   rw [if_pos (hg.1 rfl)] at hp;refine sx hs hw fun a W hs hw=>?_;refine qS hs rfl rfl hw inn rfl rfl rfl ⟨H,(none,0),?_⟩;rw [hp];exact ⟨rfl,Fh.le.refl H,fin0 hw⟩
  |false=>
  rw [if_neg (fun h=>by have:=hg.2 h;cases this)] at hp;clear hg;refine sc hs ?_;refine bB [8,9] [.f 0 1,.f 0 1,.f 0 1,.f 0 1,.f 0 0,.f 0 0,.f 0 0,.f 0 0,.m 0,.m 1,.f 2 2,.f 2 2,.f 2 2] [.c0 _,.c0 _,.c0 _,.c0 _,.c0 _,.c0 _,.c0 _,.c0 _,.c1 (fun x=> .int .i64 r.l.first),.c2 (fun x y=> .slice y.ad (r.l.get r.l.first 200).length y.cap),.c2 _,.c2 _,.c2 _] (aJ p r pl pv pt mv::aG pl r.l::VoR pv r.v::ToR pt r.t::aD H mv r.out.msgs::Fz H::aM cv c::aM dv D.1::aA b7 (aT bW (.slice none 0 0)) 103::R) (fun x=>aJ p r pl pv pt mv::aG pl r.l::VoR pv r.v::ToR pt r.t::aD H mv r.out.msgs::Fz H::aM cv c::aM dv D.1::aA b7 (aT bW (.slice none 0 0)) 103::R) (fun x y=>aJ p r pl pv pt mv::aG pl r.l::VoR pv r.v::ToR pt r.t::aD H mv r.out.msgs::Fz H::aM cv c::aM dv D.1::aA b7 (aT bW (.slice none 0 0)) 103::R) (fun x y z=>[]) (fun x y z t=>[]) hs hw ?kk ⟨drs,drs,drs,drs,drs,drs,drs,drs,drm,?m1,drs,drs,drs,trivial⟩
  case m1=>
   intro x y z t LD a W hs hw;refine sg hs hw (fun s a W hs hw=>?_) (g:=mZ);exact ⟨{ad:=s.1,cap:=s.2},hs,hw.d1⟩
  case kk=>
  intro _ y a W hs hw;replace hs:Slots a 118 [(93,.bool (decide (((r.l.get r.l.first 200).length:Int)≥200))),(0,ptr p),(1,.int .i64 kind),(2,.string s),(7,ptr b7),(9,cv),(10,.int .i64 ci),(11,dv),(12,.bool D.2)]:=hs.ot;cases c5:decide (((r.l.get r.l.first 200).length:Int)≥200) with
  |true=>
   rw [c5] at hs;rw [if_pos (of_decide_eq_true c5)] at hp;refine sx hs hw fun a W hs hw=>?_;refine qS hs rfl rfl hw inn rfl rfl rfl ⟨H,(none,0),?_⟩;rw [hp];exact ⟨rfl,Fh.le.refl H,fin0 hw⟩
  |false=>
   rw [c5] at hs;rw [if_neg (of_decide_eq_false c5)] at hp;refine sc hs ?_;exact ⟨hp,hs.ot,fin1 hw⟩
 clear hs hw hp fin0 fin1;rintro a W ⟨hp,hs,hw⟩;refine sv hs hw fun a hs=>?_;refine cl hs (aBk kind s hsz hw) fun a W hs hw=>?_;refine sv hs hw fun a hs=>?_;refine cl hs (tD hw) fun a W hs hw=>?_;refine sv hs hw fun a hs=>?_;refine aH hs (hc:=tC (by rw [tE,aBn];omega) hw) (k:=?_);rintro e' W' ⟨rfl,H3,hle3,hw⟩;refine ⟨_,rfl,fun a hs=>?_⟩;refine sv hs hw fun a hs=>?_;refine cle hs (s7 hw) fun x a W _ hs hw=>?_;refine sx hs hw fun a W hs hw=>?_;refine qS hs rfl rfl hw inn rfl rfl rfl ⟨H3,x,?_⟩;rw [hp];exact ⟨rfl,hle3,hw.sl⟩
end
section
variable {H H':Fh} {p q pk pr pt:Nat} {s:cW} {w0 W:World} {R L:List Res} {d d':bM} {k k':dD} {o:fT}
abbrev aQ (p pk pr pt:Nat):Res:=aA p [ptr pk,ptr pr,ptr pt,.bool false] 98
theorem aBu (l:LogD) (i:Int) (n:Nat):(l.get i (n:Int)).length≤n:=by
 unfold LogD.get;split
 ·exact Nat.zero_le _
 ·rw [List.length_take];omega
theorem aHW (h:pX d s o=some (d',k')):o.snap=false∧∃d1 k1 d2 k2,(if o.hard=true then nV d s.k s.r.h else some (d,s.k))=some (d1,k1)∧(if 0<o.from_ then wO d1 k1 (s.r.l.get o.from_ 200) else some (d1,k1))=some (d2,k2)∧(if o.hard=true∨0<o.from_ then (pU d2).map (fun d=>(d,k2)) else some (d2,k2))=some (d',k'):=by
 unfold pX at h;split at h
 ·cases h
 ·rename_i hn;refine ⟨by simpa using hn,?_⟩;cases hh:o.hard <;> by_cases hf:0<o.from_ <;> simp only [hh,hf,Bool.false_eq_true,if_true,if_false,or_true,true_or,or_self,Option.bind_some,Option.bind_eq_some_iff,Option.some.injEq,Prod.exists,Option.bind_eq_bind] at h⊢
  ·obtain ⟨d2,k2,h2,h3⟩:=h;exact ⟨d,s.k,d2,k2,rfl,h2,h3⟩
  ·exact ⟨d,s.k,d,s.k,rfl,rfl,h⟩
  ·obtain ⟨d1,k1,h1,d2,k2,h2,h3⟩:=h;exact ⟨d1,k1,d2,k2,h1,h2,h3⟩
  ·obtain ⟨d1,k1,h1,h3⟩:=h;exact ⟨d1,k1,d1,k1,h1,rfl,h3⟩
theorem aHX {oad:Option Addr} {on ocap:Nat} (hk:pX d s o=some (d',k')) (hw:Has 0 w0 W (aQ p pk pr pt::aW pk q s.k::aE H pr s.r::aB nameS q d::R)):
  Calls Tryz.prog 123 ⟨[ptr p,.agg ⟨aT o (.slice oad on ocap)⟩]⟩ W fun e W'=>e= .returned (.int .i64 0)∧Has 0 w0 W' (aQ p pk pr pt::aW pk q k'::aE H pr s.r::aB nameS q d'::R):=by
 obtain ⟨hsn,d1,k1,d2,k2,h1,h2,h3⟩:=aHW hk;clear hk;refine en Tryz.func123 Tryz.ntmps123 fun a hs=>?_;refine sc hs ?_;refine sn hs hw fun b3 a W hs hw=>?_;have hw:Has 0 w0 W (aQ p pk pr pt::aW pk q (s.k)::aE H pr s.r::aB nameS q (d)::aA b3 (aT o (.slice oad on ocap)) 103::R):=hw.pm;refine zE hs hw ?_;clear hs;intro a hs;refine sq ?_;refine fD (M:=fun a W=>Slots a 101 [(0,ptr p),(3,ptr b3)]∧Has 0 w0 W (aQ p pk pr pt::aW pk q (k1)::aE H pr s.r::aB nameS q (d1)::aA b3 (aT o (.slice oad on ocap)) 103::R)) ?_ ?_
 ·refine sx hs hw fun a W hs hw=>?_;cases c1:o.hard with
  |false=>
   rw [c1] at h1 hs;have h1:some (d,s.k)=some (d1,k1):=h1;injection h1 with h1;injection h1 with e1 e2;subst e1 e2;refine sc hs ?_;exact ⟨hs.ot,hw⟩
  |true=>
   rw [c1] at h1 hs;have h1:nV d s.k s.r.h=some (d1,k1):=h1;refine zG hs ?_;refine bB [8,9] [.f 0 1,.f 0 1,.f 0 1,.f 0 1,.f 0 0,.f 0 0,.f 0 0,.f 0 0,.m 0,.m 1,.f 2 2] [.c0 _,.c0 _,.c0 _,.c0 _,.c0 _,.c0 _,.c0 _,.c0 _,.c1 (fun x=> .agg ⟨[.int .i64 s.r.h.term,.int .i64 s.r.h.vote]⟩),.c2 (fun x y=> .int .i64 0),.c2 _] (aQ p pk pr pt::aW pk q (s.k)::aE H pr s.r::aB nameS q (d)::aA b3 (aT o (.slice oad on ocap)) 103::R) (fun x=>aQ p pk pr pt::aW pk q (s.k)::aE H pr s.r::aB nameS q (d)::aA b3 (aT o (.slice oad on ocap)) 103::R) (fun x y=>aQ p pk pr pt::aW pk q (k1)::aE H pr s.r::aB nameS q (d1)::aA b3 (aT o (.slice oad on ocap)) 103::R) (fun x y z=>[]) (fun x y z t=>[]) hs hw ?kk ⟨drs,drs,drs,drs,drs,drs,drs,drs,?m0,?m1,drs,trivial⟩
   case m0=>
    intro x y z t LD a W hs hw;have hw:Has 0 w0 W (aE H pr s.r::aQ p pk pr pt::aW pk q s.k::aB nameS q d::aA b3 (aT o (.slice oad on ocap)) 103::R):=hw.pm;refine cl hs (aBs hw) fun a W hs hw=>?_;exact ⟨{},hs,hw.pm⟩
   case m1=>
    intro x y z t LD a W hs hw;have hw:Has 0 w0 W (aW pk q s.k::aB nameS q d::aQ p pk pr pt::aE H pr s.r::aA b3 (aT o (.slice oad on ocap)) 103::R):=hw.pm;refine cl hs (aG6 h1 hw) fun a W hs hw=>?_;exact ⟨{},hs,hw.pm⟩
   case kk=>
    intro _ _ a W hs hw;refine sv hs hw fun a hs=>?_;exact ⟨hs.ot,hw⟩
 clear hs hw;rintro a W ⟨hs,hw⟩;refine sx hs hw fun a W hs hw=>?_;rw [hsn] at hs;replace hs:Slots a 101 [(27,.bool false),(0,ptr p),(3,ptr b3)]:=hs.ot;refine zH hs ?_;refine sq ?_;refine fD (M:=fun a W=>Slots a 101 [(0,ptr p),(3,ptr b3)]∧Has 0 w0 W (aQ p pk pr pt::aW pk q (k2)::aE H pr s.r::aB nameS q (d2)::aA b3 (aT o (.slice oad on ocap)) 103::R)) ?_ ?_
 ·refine sx hs hw fun a W hs hw=>?_;cases c1:decide (o.from_ > 0) with
  |false=>
   rw [c1] at hs;rw [if_neg (of_decide_eq_false c1)] at h2;injection h2 with h2;injection h2 with e1 e2;subst e1 e2;refine sc hs ?_;exact ⟨hs.ot,hw⟩
  |true=>
   rw [c1] at hs;rw [if_pos (of_decide_eq_true c1)] at h2;have hw:Has 0 w0 W (aE H pr s.r::aQ p pk pr pt::aW pk q k1::aB nameS q d1::aA b3 (aT o (.slice oad on ocap)) 103::R):=hw.pm;obtain ⟨pl,pv,pu,mv,hw⟩:=dG hw;have hw:Has 0 w0 W (aQ p pk pr pt::aW pk q (k1)::aJ pr s.r pl pv pu mv::aG pl s.r.l::VoR pv s.r.v::ToR pu s.r.t::aD H mv s.r.out.msgs::aB nameS q (d1)::aA b3 (aT o (.slice oad on ocap)) 103::R):=hw.pm;have hgl:(s.r.l.get o.from_ 200).length≤200:=aBu s.r.l o.from_ 200;have hback:∀{W},Has 0 w0 W (aQ p pk pr pt::aW pk q (k2)::aJ pr s.r pl pv pu mv::aG pl s.r.l::VoR pv s.r.v::ToR pu s.r.t::aD H mv s.r.out.msgs::aB nameS q (d2)::aA b3 (aT o (.slice oad on ocap)) 103::R)→Has 0 w0 W (aQ p pk pr pt::aW pk q (k2)::aE H pr s.r::aB nameS q (d2)::aA b3 (aT o (.slice oad on ocap)) 103::R):=fun {W} h=>by
    have h:Has 0 w0 W (aE H pr s.r::aQ p pk pr pt::aW pk q k2::aB nameS q d2::aA b3 (aT o (.slice oad on ocap)) 103::R):=cD (h.pm);exact h.pm
   refine zG hs ?_;refine bB [8,11,12] [.f 0 2,.f 0 2,.f 0 2,.f 0 2,.f 0 0,.f 0 0,.f 0 0,.f 0 0,.m 0,.f 0 1,.f 0 1,.m 1,.m 2,.f 3 3] [.c0 _,.c0 _,.c0 _,.c0 _,.c0 _,.c0 _,.c0 _,.c0 _,.c1 (fun x=>ptr pl),.c0 _,.c0 _,.c2 (fun x y=> .slice y.ad (s.r.l.get o.from_ 200).length y.cap),.c3 (fun x y z=> .int .i64 0),.c3 _] (aQ p pk pr pt::aW pk q (k1)::aJ pr s.r pl pv pu mv::aG pl s.r.l::VoR pv s.r.v::ToR pu s.r.t::aD H mv s.r.out.msgs::aB nameS q (d1)::aA b3 (aT o (.slice oad on ocap)) 103::R) (fun x=>aQ p pk pr pt::aW pk q (k1)::aJ pr s.r pl pv pu mv::aG pl s.r.l::VoR pv s.r.v::ToR pu s.r.t::aD H mv s.r.out.msgs::aB nameS q (d1)::aA b3 (aT o (.slice oad on ocap)) 103::R) (fun x y=>bE (.slice y.ad (s.r.l.get o.from_ 200).length y.cap) (s.r.l.get o.from_ 200)::aQ p pk pr pt::aW pk q (k1)::aJ pr s.r pl pv pu mv::aG pl s.r.l::VoR pv s.r.v::ToR pu s.r.t::aD H mv s.r.out.msgs::aB nameS q (d1)::aA b3 (aT o (.slice oad on ocap)) 103::R) (fun x y z=>aQ p pk pr pt::aW pk q (k2)::aJ pr s.r pl pv pu mv::aG pl s.r.l::VoR pv s.r.v::ToR pu s.r.t::aD H mv s.r.out.msgs::aB nameS q (d2)::aA b3 (aT o (.slice oad on ocap)) 103::R) (fun x y z t=>[]) hs hw ?kk ⟨drs,drs,drs,drs,drs,drs,drs,drs,?m0,drs,drs,?m1,?m2,drs,trivial⟩
   case m0=>
    intro x y z t LD a W hs hw;have hw:Has 0 w0 W (aJ pr s.r pl pv pu mv::aQ p pk pr pt::aW pk q k1::aG pl s.r.l::VoR pv s.r.v::ToR pu s.r.t::aD H mv s.r.out.msgs::aB nameS q d1::aA b3 (aT o (.slice oad on ocap)) 103::R):=hw.pm;refine cl hs (qR hw) fun a W hs hw=>?_;exact ⟨{},hs,hw.pm⟩
   case m1=>
    intro x y z t LD a W hs hw;refine sg hs hw (fun s a W hs hw=>?_) (g:=mZ);exact ⟨{ad:=s.1,cap:=s.2},hs,hw⟩
   case m2=>
    intro x y z t LD a W hs hw;have hw:Has 0 w0 W (aW pk q k1::aB nameS q d1::bE (.slice y.ad (s.r.l.get o.from_ 200).length y.cap) (s.r.l.get o.from_ 200)::aQ p pk pr pt::aJ pr s.r pl pv pu mv::aG pl s.r.l::VoR pv s.r.v::ToR pu s.r.t::aD H mv s.r.out.msgs::aA b3 (aT o (.slice oad on ocap)) 103::R):=hw.pm;refine cl hs (aG7 _ _ (by omega) (fun h=>h.rd_own In.hd) h2 hw) fun a W hs hw=>?_;exact ⟨{},hs,hw.sl⟩
   case kk=>
    intro _ _ _ a W hs hw;refine sv hs hw fun a hs=>?_;exact ⟨hs.ot,hback hw⟩
 clear hs hw;rintro a W ⟨hs,hw⟩;refine sq ?_;refine sq ?_;refine fD (M:=fun a W=>∃g:Bool,(g=true↔(o.hard=true∨0<o.from_))∧Slots a 101 [(95,.bool g),(0,ptr p),(3,ptr b3)]∧Has 0 w0 W (aQ p pk pr pt::aW pk q (k2)::aE H pr s.r::aB nameS q (d2)::aA b3 (aT o (.slice oad on ocap)) 103::R)) ?_ ?_
 ·refine sx hs hw fun a W hs hw=>?_;cases c1:o.hard with
  |true=>
   rw [c1] at hs;refine sv hs hw fun a hs=>?_;exact ⟨true,by simp,hs.ot,hw⟩
  |false=>
   rw [c1] at hs;refine sv hs hw fun a hs=>?_;exact ⟨decide (o.from_ > 0),by simp,hs.ot,hw⟩
 clear hs hw;rintro a W ⟨g,hg,hs,hw⟩;cases g with
 |true=>
  rw [if_pos (hg.1 rfl),Option.map_eq_some_iff] at h3;obtain ⟨d3,h3,h4⟩:=h3;injection h4 with e1 e2;subst e1 e2;have hw:Has 0 w0 W (aW pk q k2::aQ p pk pr pt::aE H pr s.r::aB nameS q d2::aA b3 (aT o (.slice oad on ocap)) 103::R):=hw.pm;obtain ⟨hko,ad,cap,hw⟩:=qE hw;refine sv hs hw fun a hs=>?_;have hw:Has 0 w0 W (bO pk q k2.h k2.s (.slice ad k2.log.length cap) k2.size::aB nameS q d2::dE (.slice ad k2.log.length cap) k2.log::aQ p pk pr pt::aE H pr s.r::aA b3 (aT o (.slice oad on ocap)) 103::R):=hw.pm;refine cl hs (aG1 (by have:=hko.2.1;omega) h3 hw) fun a W hs hw=>?_;refine sv hs hw fun a hs=>?_;refine rt1 hs rfl rfl ⟨rfl,?_⟩;have hw:Has 0 w0 W (aW pk q k2::aB nameS q d3::aQ p pk pr pt::aE H pr s.r::aA b3 (aT o (.slice oad on ocap)) 103::R):=wZ (hw.pm) hko;exact hw.sl
 |false=>
  rw [if_neg (fun h=>by have:=hg.2 h;cases this)] at h3;injection h3 with h3;injection h3 with e1 e2;subst e1 e2;refine sv hs hw fun a hs=>?_;exact rt1 hs rfl rfl ⟨rfl,hw.sl⟩
end
end Go.Proofs.YtgpbngfehfbndaaGreatDoor.Sw
namespace Go.Sx
open Go.RowKit
class gZ (H H':Fh) (r:Res) (r':outParam Res):Prop where
 le:∀{w W:World} {R:List Res},H.le H'→Has 0 w W (r::R)→Has 0 w W (r'::R)
class tF (H H':Fh) (L:List Res) (L':outParam (List Res)):Prop where
 le:∀{w W:World} {R:List Res},H.le H'→Has 0 w W (L ++ R)→Has 0 w W (L' ++ R)
instance (priority:=low) (H H':Fh) (r:Res):gZ H H' r r:=⟨fun _ h=>h⟩
instance (priority:=low) (H H':Fh) (L:List Res):tF H H' L L:=⟨fun _ h=>h⟩
instance (H H':Fh) (r r':Res) (L L':List Res) [x:gZ H H' r r'] [y:tF H H' L L']:tF H H' (r::L) (r'::L'):=⟨fun {w W R} hl h=>by
 have h1:Has 0 w W (r'::(L ++ R)):=x.le hl h;have h2:Has 0 w W (L ++ (r'::R)):=h1.perm (List.perm_middle.symm)
 exact (y.le hl h2).perm List.perm_middle⟩
theorem Has.lz {w W:World} {H H':Fh} {L L':List Res} [y:tF H H' L L'] (h:Has 0 w W L) (hl:H.le H'):Has 0 w W L':=by
 have:=y.le (R:=[]) hl (by rw [List.append_nil];exact h);rwa [List.append_nil] at this
end Go.Sx
namespace Go.Proofs.YtgpbngfehfbndaaGreatDoor.Sw
open Go.RowKit Go.Sx
section
variable {H H':Fh} {p q pk pr pt:Nat} {s s':cW} {w0 W:World} {R L:List Res} {d d':bM} {k k':dD} {o:fT} {ms:List bF}
def cE (H:Fh) (p q:Nat) (s:cW):Res:=Ex fun x:Nat×Nat×Nat=>aQ p x.1 x.2.1 x.2.2::aW x.1 q s.k::aE H x.2.1 s.r::aN H x.2.2 s.t::bQ (kC s.r=true∧kB s.t=true):: []
theorem jF (h:Has 0 w0 W (aQ p pk pr pt::aW pk q s.k::aE H pr s.r::aN H pt s.t::R)) (h1:kC s.r=true) (h2:kB s.t=true):Has 0 w0 W (cE H p q s::R):=Has.shut (pk,pr,pt) ((h.fact (And.intro h1 h2)).pm)
theorem kI (h:Has 0 w0 W (cE H p q s::R)):kC s.r=true∧kB s.t=true∧∃pk pr pt,Has 0 w0 W (aQ p pk pr pt::aW pk q s.k::aE H pr s.r::aN H pt s.t::R):=by
 obtain ⟨⟨pk,pr,pt⟩,h⟩:=Has.open h;have h:Has 0 w0 W (aQ p pk pr pt::aW pk q s.k::aE H pr s.r::aN H pt s.t::bQ (kC s.r=true∧kB s.t=true)::R):=h;obtain ⟨h1,h2⟩:=h.told (In.tl (In.tl (In.tl (In.tl In.hd))));exact ⟨h1,h2,pk,pr,pt,h.sl⟩
theorem aBv (h:Has 0 w0 W (cE H p q s::R)) (hl:H.le H'):Has 0 w0 W (cE H' p q s::R):=by
 obtain ⟨h1,h2,pk,pr,pt,h⟩:=kI h;have h:=aBZ (h.pm:Has 0 w0 W (aE H pr s.r::aQ p pk pr pt::aW pk q s.k::aN H pt s.t::R)) hl;have h:=wN (h.pm:Has 0 w0 W (aN H pt s.t::aQ p pk pr pt::aW pk q s.k::aE H' pr s.r::R)) hl;exact jF (h.pm) h1 h2
instance (H H':Fh) (p:Nat) (f:dZ):gZ H H' (aU H p f) (aU H' p f):=⟨fun hl h=>j7 h hl⟩
instance (H H':Fh) (p:Nat) (f:dU):gZ H H' (aN H p f) (aN H' p f):=⟨fun hl h=>wN h hl⟩
instance (H H':Fh) (p:Nat) (f:fA):gZ H H' (aV H p f) (aV H' p f):=⟨fun hl h=>aAd h hl⟩
instance (H H':Fh) (v:Value) (l:List bF):gZ H H' (aD H v l) (aD H' v l):=⟨fun hl h=>xE h hl⟩
instance (H H':Fh) (p:Nat) (r:RaftD):gZ H H' (aE H p r) (aE H' p r):=⟨fun hl h=>aBZ h hl⟩
instance (H H':Fh) (p q:Nat) (s:cW):gZ H H' (cE H p q s) (cE H' p q s):=⟨fun hl h=>aBv h hl⟩
theorem aHY (t:dU) (e:bY):(eD t e).1.rows.length≤t.rows.length+1:=by
 unfold eD pN;split
 ·split
  ·split <;> simp
  ·exact Nat.le_succ _
 ·exact Nat.le_succ _
theorem aHZ {l:LogD} {i n:Int} {e:bY} (h:e∈l.get i n):e∈l.l:=by
 unfold LogD.get at h;split at h
 ·cases h
 ·exact List.mem_of_mem_drop (List.mem_of_mem_take h)
theorem aH0 {s':cW} (h:mU d s o=some (d',s',ms)):∃k',pX d s o=some (d',k')∧nW 300 s.r s.t=some s'.t∧s'=⟨k',s.r,s'.t⟩∧lX s'=true∧ms=o.msgs:=by
 unfold mU at h;simp only [Option.bind_eq_bind,Option.bind_eq_some_iff] at h;obtain ⟨⟨d1,k1⟩,h1,t1,h2,h3⟩:=h;split at h3
 ·rename_i hok;injection h3 with h3;injection h3 with e1 h3;injection h3 with e2 e3;subst e1 e2 e3;exact ⟨k1,h1,h2,rfl,hok,rfl⟩
 ·cases h3
theorem aBw {l:LogD} (h:kD l) {i n:Int}:∀e∈l.get i n,e.data.size≤1000000:=fun e he=>h.2.2.2.2 e (aHZ he)
theorem aBx {l:LogD} {pl:Nat} (h:Has 0 w0 W (aG pl l::R)):kD l:=(iQ h).1
theorem xK {oad:Option Addr} {ocap:Nat} (h:mU d s o=some (d',s',ms)) (hrows:s.t.rows.length≤1000) (hH:(fr w0).le H) (hT:Tabs w0) (hw:Has 0 w0 W (aQ p pk pr pt::aW pk q s.k::aE H pr s.r::aN H pt s.t::aB nameS q d::Fz H::aD (H) (.slice oad o.msgs.length ocap) o.msgs::R)):
  Calls Tryz.prog 71 ⟨[ptr p,.agg ⟨aT o (.slice oad o.msgs.length ocap)⟩]⟩ W fun e W'=>∃(v:Value) (H':Fh),e= .returned v∧H.le H'∧Has 0 w0 W' (aD H' v ms::cE H' p q s'::aB nameS q d'::Fz H'::R):=by
 obtain ⟨k',hk,hcu,hs',hok,rfl⟩:=aH0 h;obtain ⟨t',ht'⟩:∃t',t'=s'.t:=⟨_,rfl⟩
 rw [←ht'] at hcu hs';clear ht';subst hs';have hok1:kC s.r=true∧kB t'=true:=by
  unfold lX at hok;simp only [Bool.and_eq_true] at hok;exact hok.1
 clear h hok;refine en Tryz.func71 Tryz.ntmps71 fun a hs=>?_;refine sc hs ?_;refine sn hs hw fun b3 a W hs hw=>?_;have hw:Has 0 w0 W (aQ p pk pr pt::aW pk q s.k::aE H pr s.r::aB nameS q d::aN H pt s.t::Fz H::aD (H) (.slice oad o.msgs.length ocap) o.msgs::aA b3 (aT o (.slice oad o.msgs.length ocap)) 103::R):=hw.pm;refine sx hs hw fun a W hs hw=>?_;refine cl hs (aHX hk hw) fun a W hs hw=>?_;have hw:Has 0 w0 W (aN (H) pt (s.t)::Fz (H)::aE (H) pr s.r::aQ p pk pr pt::aW pk q k'::aB nameS q d'::aD (H) (.slice oad o.msgs.length ocap) o.msgs::aA b3 (aT o (.slice oad o.msgs.length ocap)) 103::R):=hw.pm;refine sv hs hw fun a hs=>?_;refine bX (σ:=Nat×dU×Fh) (fun u=>[(0,ptr p),(3,ptr b3)]) (fun u=>aN (u.2.2) pt (u.2.1)::Fz (u.2.2)::aE (u.2.2) pr s.r::aQ p pk pr pt::aW pk q k'::aB nameS q d'::aD (u.2.2) (.slice oad o.msgs.length ocap) o.msgs::aA b3 (aT o (.slice oad o.msgs.length ocap)) 103::R) (fun u=>nW u.1 s.r u.2.1=some t'∧u.2.1.rows.length+u.1≤1300∧H.le u.2.2) (fun u=>u.1) (300,s.t,H) ⟨hcu,by show s.t.rows.length+300≤1300;omega,Fh.le.refl H⟩ hs ⟨rfl,rfl,trivial⟩ hw ?_;clear hs hw hcu hk;rintro ⟨n,t,H2⟩ a W ⟨hcu,hr1,hle⟩ hs hw;simp only at hcu hr1 hle hs hw;obtain ⟨n,rfl⟩:∃m,n=m+1:=by cases n with|zero=>cases hcu|succ m=>exact ⟨m,rfl⟩
 have hcu:(if t.ix<s.r.commit then (match s.r.l.get (w64 (t.ix+1)) 1 with| []=>some t|e::_=>nW n s.r (eD t e).1) else some t)=some t':=hcu;refine zG hs ?_;refine bB [4,9] [.f 0 0,.f 0 0,.f 0 0,.f 0 0,.m 0,.f 0 1,.f 0 1,.f 0 1,.f 0 1,.m 1,.f 2 2] [.c0 _,.c0 _,.c0 _,.c0 _,.c1 (fun x=> .int .i64 t.ix),.c0 _,.c0 _,.c0 _,.c0 _,.c2 (fun x y=> .int .i64 s.r.commit),.c2 _] (aN (H2) pt (t)::Fz (H2)::aE (H2) pr s.r::aQ p pk pr pt::aW pk q k'::aB nameS q d'::aD (H2) (.slice oad o.msgs.length ocap) o.msgs::aA b3 (aT o (.slice oad o.msgs.length ocap)) 103::R) (fun x=>aN (H2) pt (t)::Fz (H2)::aE (H2) pr s.r::aQ p pk pr pt::aW pk q k'::aB nameS q d'::aD (H2) (.slice oad o.msgs.length ocap) o.msgs::aA b3 (aT o (.slice oad o.msgs.length ocap)) 103::R) (fun x y=>aN (H2) pt (t)::Fz (H2)::aE (H2) pr s.r::aQ p pk pr pt::aW pk q k'::aB nameS q d'::aD (H2) (.slice oad o.msgs.length ocap) o.msgs::aA b3 (aT o (.slice oad o.msgs.length ocap)) 103::R) (fun x y z=>[]) (fun x y z t=>[]) hs hw ?kk ⟨drs,drs,drs,drs,?m0,drs,drs,drs,drs,?m1,drs,trivial⟩
 case m0=>
  intro x y z u LD a W hs hw;refine cl hs (pO w0 _ H2 pt t _ hw) fun a W hs hw=>?_;exact ⟨{},hs,hw⟩
 case m1=>
  intro x y z u LD a W hs hw;have hw:Has 0 w0 W (aE H2 pr s.r::aN H2 pt t::Fz H2::aQ p pk pr pt::aW pk q k'::aB nameS q d'::aD (H2) (.slice oad o.msgs.length ocap) o.msgs::aA b3 (aT o (.slice oad o.msgs.length ocap)) 103::R):=hw.pm;refine cl hs (aHU hw) fun a W hs hw=>?_;exact ⟨{},hs,hw.pm⟩
 case kk=>
 intro _ _ a W hs hw;cases c1:decide (t.ix<s.r.commit) with
 |false=>
  rw [c1] at hs;rw [if_neg (of_decide_eq_false c1)] at hcu;injection hcu with hcu;subst hcu;refine sx hs hw fun a W hs hw=>?_;refine rt1 hs rfl rfl ⟨_,H2,rfl,hle,?_⟩;have hw:Has 0 w0 W (cE H2 p q ⟨k',s.r,t⟩::Fz H2::aB nameS q d'::aD (H2) (.slice oad o.msgs.length ocap) o.msgs::aA b3 (aT o (.slice oad o.msgs.length ocap)) 103::R):=jF (s:=⟨k',s.r,t⟩) (hw.pm) hok1.1 hok1.2;exact hw.sl
 |true=>
 rw [c1] at hs;rw [if_pos (of_decide_eq_true c1)] at hcu;replace hs:Slots a 49 [(23,.bool true),(0,ptr p),(3,ptr b3)]:=hs.ot;have hw:Has 0 w0 W (aE H2 pr s.r::aN H2 pt t::Fz H2::aQ p pk pr pt::aW pk q k'::aB nameS q d'::aD (H2) (.slice oad o.msgs.length ocap) o.msgs::aA b3 (aT o (.slice oad o.msgs.length ocap)) 103::R):=hw.pm;obtain ⟨pl,pv,pu,mv,hw⟩:=dG hw;have hlw:=aBw (aBx (hw.pm:Has 0 w0 W (aG pl s.r.l::aJ pr s.r pl pv pu mv::VoR pv s.r.v::ToR pu s.r.t::aD H2 mv s.r.out.msgs::aN H2 pt t::Fz H2::aQ p pk pr pt::aW pk q k'::aB nameS q d'::aD (H2) (.slice oad o.msgs.length ocap) o.msgs::aA b3 (aT o (.slice oad o.msgs.length ocap)) 103::R))) (i:=w64 (t.ix+1)) (n:=1);refine zG hs ?_;refine bB [4,9,11] [.f 0 0,.f 0 0,.f 0 0,.f 0 0,.m 0,.f 0 1,.f 0 1,.f 0 1,.f 0 1,.m 1,.f 2 2,.m 2,.f 3 3] [.c0 _,.c0 _,.c0 _,.c0 _,.c1 (fun x=>ptr pl),.c0 _,.c0 _,.c0 _,.c0 _,.c2 (fun x y=> .int .i64 t.ix),.c2 _,.c3 (fun x y z=> .slice z.ad (s.r.l.get (w64 (t.ix+1)) 1).length z.cap),.c3 _] (aJ pr s.r pl pv pu mv::aG pl s.r.l::VoR pv s.r.v::ToR pu s.r.t::aD (H2) mv s.r.out.msgs::aN (H2) pt (t)::Fz (H2)::aQ p pk pr pt::aW pk q k'::aB nameS q d'::aD (H2) (.slice oad o.msgs.length ocap) o.msgs::aA b3 (aT o (.slice oad o.msgs.length ocap)) 103::R) (fun x=>aJ pr s.r pl pv pu mv::aG pl s.r.l::VoR pv s.r.v::ToR pu s.r.t::aD (H2) mv s.r.out.msgs::aN (H2) pt (t)::Fz (H2)::aQ p pk pr pt::aW pk q k'::aB nameS q d'::aD (H2) (.slice oad o.msgs.length ocap) o.msgs::aA b3 (aT o (.slice oad o.msgs.length ocap)) 103::R) (fun x y=>aJ pr s.r pl pv pu mv::aG pl s.r.l::VoR pv s.r.v::ToR pu s.r.t::aD (H2) mv s.r.out.msgs::aN (H2) pt (t)::Fz (H2)::aQ p pk pr pt::aW pk q k'::aB nameS q d'::aD (H2) (.slice oad o.msgs.length ocap) o.msgs::aA b3 (aT o (.slice oad o.msgs.length ocap)) 103::R) (fun x y z=>bE (.slice z.ad (s.r.l.get (w64 (t.ix+1)) 1).length z.cap) (s.r.l.get (w64 (t.ix+1)) 1)::aJ pr s.r pl pv pu mv::aG pl s.r.l::VoR pv s.r.v::ToR pu s.r.t::aD (H2) mv s.r.out.msgs::aN (H2) pt (t)::Fz (H2)::aQ p pk pr pt::aW pk q k'::aB nameS q d'::aD (H2) (.slice oad o.msgs.length ocap) o.msgs::aA b3 (aT o (.slice oad o.msgs.length ocap)) 103::R) (fun x y z t=>[]) hs hw ?kk ⟨drs,drs,drs,drs,?m0,drs,drs,drs,drs,?m1,drs,?m2,drs,trivial⟩
 case m0=>
  intro x y z u LD a W hs hw;refine cl hs (qR hw) fun a W hs hw=>?_;exact ⟨{},hs,hw⟩
 case m1=>
  intro x y z u LD a W hs hw;have hw:Has 0 w0 W (aN H2 pt t::aJ pr s.r pl pv pu mv::aG pl s.r.l::VoR pv s.r.v::ToR pu s.r.t::aD H2 mv s.r.out.msgs::Fz H2::aQ p pk pr pt::aW pk q k'::aB nameS q d'::aD (H2) (.slice oad o.msgs.length ocap) o.msgs::aA b3 (aT o (.slice oad o.msgs.length ocap)) 103::R):=hw.pm;refine cl hs (pO w0 _ H2 pt t _ hw) fun a W hs hw=>?_;exact ⟨{},hs,hw.pm⟩
 case m2=>
  intro x y z u LD a W hs hw;refine sg hs hw (fun s a W hs hw=>?_) (g:=mZ);exact ⟨{ad:=s.1,cap:=s.2},hs,hw⟩
 case kk=>
 intro _ _ zz a W hs hw;obtain ⟨es,hes⟩:∃es,es=s.r.l.get (w64 (t.ix+1)) 1:=⟨_,rfl⟩
 rw [←hes] at hs hw hcu hlw;clear hes;replace hs:Slots a 49 [(0,ptr p),(3,ptr b3),(5,.slice zz.ad es.length zz.cap)]:=hs.ot;have hw:Has 0 w0 W (aE H2 pr s.r::bE (.slice zz.ad es.length zz.cap) es::aN H2 pt t::Fz H2::aQ p pk pr pt::aW pk q k'::aB nameS q d'::aD (H2) (.slice oad o.msgs.length ocap) o.msgs::aA b3 (aT o (.slice oad o.msgs.length ocap)) 103::R):=cD (hw.pm);obtain ⟨zad,hzad⟩:∃zad,zad=zz.ad:=⟨_,rfl⟩
 obtain ⟨zcap,hzcap⟩:∃zcap,zcap=zz.cap:=⟨_,rfl⟩
 rw [←hzad,←hzcap] at hs hw;clear hzad hzcap;have hw:Has 0 w0 W (bE (.slice zad es.length zcap) es::aN (H2) pt (t)::Fz (H2)::aE (H2) pr s.r::aQ p pk pr pt::aW pk q k'::aB nameS q d'::aD (H2) (.slice oad o.msgs.length ocap) o.msgs::aA b3 (aT o (.slice oad o.msgs.length ocap)) 103::R):=hw.pm;cases es with
 |nil=>
  have hcu:some t=some t':=hcu;injection hcu with hcu;subst hcu;refine sv hs hw fun a hs=>?_;refine rt1 hs rfl rfl ⟨_,H2,rfl,hle,?_⟩;have hw:Has 0 w0 W (cE H2 p q ⟨k',s.r,t⟩::Fz H2::aB nameS q d'::aD (H2) (.slice oad o.msgs.length ocap) o.msgs::aA b3 (aT o (.slice oad o.msgs.length ocap)) 103::R):=jF (s:=⟨k',s.r,t⟩) (hw.sl) hok1.1 hok1.2;exact hw.sl
 |cons e r=>
 have hcu:nW n s.r (eD t e).1=some t':=hcu;have hpos:0<(e::r).length:=Nat.succ_pos _;obtain ⟨b,off,cap,hv,_⟩:=jX (hw.rd_own In.hd) hpos;injection hv with hv1 _ hv2;subst hv1 hv2;have hk0:(0:Int)≤0:=by omega
 have hk1:(0:Int)<(((e::r).length:Nat):Int):=by omega
 have hed:=hlw e (List.mem_cons_self ..);have har:=aHY t e;refine sv hs hw fun a hs=>?_;rw [show ((((e::r).length:Nat):Int) == 0)=false by simp;omega] at hs;refine zG hs ?_;refine bB [7] [.f 0 0,.f 0 0,.f 0 0,.f 0 0,.f 0 0,.f 0 0,.f 0 0,.m 0] [.c0 _,.c0 _,.c0 _,.c0 _,.c0 _,.c0 _,.c0 (.agg ⟨bA e⟩),.c1 (fun x=>x.v)] (bE (.slice (some ⟨b,off,none⟩) (e::r).length zcap) (e::r)::aN (H2) pt (t)::Fz (H2)::aE (H2) pr s.r::aQ p pk pr pt::aW pk q k'::aB nameS q d'::aD (H2) (.slice oad o.msgs.length ocap) o.msgs::aA b3 (aT o (.slice oad o.msgs.length ocap)) 103::R) (fun x=>bE (.slice (some ⟨b,off,none⟩) (e::r).length zcap) (e::r)::aN x.H pt (eD t e).1::FzF x.H (H2.le x.H)::aE H2 pr s.r::aQ p pk pr pt::aW pk q k'::aB nameS q d'::aD (H2) (.slice oad o.msgs.length ocap) o.msgs::aA b3 (aT o (.slice oad o.msgs.length ocap)) 103::R) (fun x y=>[]) (fun x y z=>[]) (fun x y z t=>[]) hs hw ?kk ⟨drs,drs,drs,drs,drs,drs,?f6,?m0,trivial⟩
 case f6=>
  refine ⟨?_,trivial,trivial,trivial,trivial⟩;intro x y z u LD a W hs hw
  refine eC hs (z:=zEnt) (cs:=bA e) (hc:=fun j x hx=>kG (hw.rd_own In.hd) hpos j x (by
   rw [List.flatMap_cons,List.getElem?_append_left]
   ·exact hx
   ·exact (List.getElem?_eq_some_iff.1 hx).1)) (hl:=by rfl) (c:=fun a hs=>?_)
  exact ⟨hs,hw⟩
 case m0=>
  intro x y z u LD a W hs hw;have hw:Has 0 w0 W (aN H2 pt t::Fz H2::bE (.slice (some ⟨b,off,none⟩) (e::r).length zcap) (e::r)::aE H2 pr s.r::aQ p pk pr pt::aW pk q k'::aB nameS q d'::aD (H2) (.slice oad o.msgs.length ocap) o.msgs::aA b3 (aT o (.slice oad o.msgs.length ocap)) 103::R):=hw.pm;refine aH hs (hc:=aFw w0 _ H2 pt t e _ (by omega) hed (hH.trans hle) hT hw) (k:=?_);rintro e' W' ⟨sv',H3,rfl,hle3,_,hw⟩;refine ⟨_,rfl,fun a hs=>?_⟩;have hw:Has 0 w0 W' (Fz H3::aN H3 pt (eD t e).1::bE (.slice (some ⟨b,off,none⟩) (e::r).length zcap) (e::r)::aE H2 pr s.r::aQ p pk pr pt::aW pk q k'::aB nameS q d'::aD (H2) (.slice oad o.msgs.length ocap) o.msgs::aA b3 (aT o (.slice oad o.msgs.length ocap)) 103::R):=hw.pm;have hw:=hw.fzf hle3;exact ⟨{H:=H3,v:=_},hs,hw.pm⟩
 case kk=>
 intro x a W hs hw;have hw:Has 0 w0 W (FzF x.H (H2.le x.H)::aN x.H pt (eD t e).1::aE H2 pr s.r::aQ p pk pr pt::aW pk q k'::aB nameS q d'::aD (H2) (.slice oad o.msgs.length ocap) o.msgs::aA b3 (aT o (.slice oad o.msgs.length ocap)) 103::R):=hw.sl;obtain ⟨hle3,hw⟩:=hw.unfzf;have hw:=hw.lz hle3;have hw:Has 0 w0 W (aN (x.H) pt ((eD t e).1)::Fz (x.H)::aE (x.H) pr s.r::aQ p pk pr pt::aW pk q k'::aB nameS q d'::aD (x.H) (.slice oad o.msgs.length ocap) o.msgs::aA b3 (aT o (.slice oad o.msgs.length ocap)) 103::R):=hw.pm;refine sc hs ?_;exact bS (n,(eD t e).1,x.H) hs hw ⟨hcu,by show (eD t e).1.rows.length+n≤1300;omega,hle.trans hle3⟩ (by show n<n+1;omega) ⟨rfl,rfl,trivial⟩
end
section
variable {H H':Fh} {p q pk pr pt:Nat} {s s':cW} {w0 W:World} {R L:List Res} {d d':bM} {k k':dD} {o:fT} {ms:List bF}
theorem xL {r:RaftD} (h:kC r=true):r.out.msgs.length≤800∧∀o,r.v=some o→o.yes.length≤1000∧o.no.length≤1000:=by
 unfold kC at h;rw [Bool.and_eq_true,decide_eq_true_eq] at h;refine ⟨by omega,fun o ho=>?_⟩;rw [ho] at h;have h2:=h.2;simp only [Bool.and_eq_true,decide_eq_true_eq] at h2;omega
theorem oC {t:dU} (h:kB t=true):t.rows.length≤1000∧(∀r∈t.rows,lW r=true)∧∀x∈t.f.told,x.2.b.l.length≤8:=by
 unfold kB at h;simp only [Bool.and_eq_true,decide_eq_true_eq,List.all_eq_true] at h;exact ⟨h.1.1,h.1.2,h.2⟩
theorem xM (hw:Has 0 w0 W (aQ p pk pr pt::R)):Calls Tryz.prog 65 ⟨[ptr p]⟩ W fun e W'=>e= .returned (.bool false)∧Has 0 w0 W' (aQ p pk pr pt::R):=by
 refine en Tryz.func65 Tryz.ntmps65 fun a hs=>?_;refine sv hs hw fun a hs=>?_;exact rt1 hs rfl rfl ⟨rfl,hw⟩
theorem aH1 (h:aBB d s=some (d',s',ms)) (hH:(fr w0).le H) (hT:Tabs w0) (hw:Has 0 w0 W (cE H p q s::aB nameS q d::Fz H::R)):
  Calls Tryz.prog 46 ⟨[ptr p]⟩ W fun e W'=>∃(v:Value) (H':Fh),e= .returned v∧H.le H'∧Has 0 w0 W' (aD H' v ms::cE H' p q s'::aB nameS q d'::Fz H'::R):=by
 obtain ⟨h1,h2,pk,pr,pt,hw⟩:=kI hw;obtain ⟨hm,hv⟩:=xL h1;have ht:=oC h2;refine en Tryz.func46 Tryz.ntmps46 fun a hs=>?_;refine sv hs hw fun a hs=>?_;refine cl hs (xM hw) fun a W hs hw=>?_;refine sv hs hw fun a hs=>?_;have hw:Has 0 w0 W (aE H pr s.r::Fz H::aQ p pk pr pt::aW pk q s.k::aN H pt s.t::aB nameS q d::R):=hw.pm;refine aH hs (hc:=aHS hm hw) (k:=?_);rintro e' W' ⟨H1,x,rfl,hle1,hw⟩;refine ⟨_,rfl,fun a hs=>?_⟩;have hw:=hw.lz hle1;have hw:Has 0 w0 W' (aQ p pk pr pt::aW pk q s.k::aE H1 pr s.r.fire.1::aN H1 pt s.t::aB nameS q d::Fz H1::aD H1 (.slice x.1 s.r.fire.2.msgs.length x.2) s.r.fire.2.msgs::R):=hw.pm;refine aH hs (hc:=xK (s:={s with r:=s.r.fire.1}) h ht.1 (hH.trans hle1) hT hw) (k:=?_);rintro e' W' ⟨v,H2,rfl,hle2,hw⟩;refine ⟨_,rfl,fun a hs=>?_⟩;refine sv hs hw fun a hs=>?_;exact rt1 hs rfl rfl ⟨v,H2,rfl,hle1.trans hle2,hw⟩
theorem aBy (m:bF) (v:Value) (hm:fN H v m.es) (hc:m.snap.conf.size≤1000000) (h:sM d s m=some (d',s',ms)) (hH:(fr w0).le H) (hT:Tabs w0) (hw:Has 0 w0 W (cE H p q s::aB nameS q d::Fz H::R)):
  Calls Tryz.prog 49 ⟨[ptr p,.agg ⟨aF m v⟩]⟩ W fun e W'=>∃(v:Value) (H':Fh),e= .returned v∧H.le H'∧Has 0 w0 W' (aD H' v ms::cE H' p q s'::aB nameS q d'::Fz H'::R):=by
 obtain ⟨mad,mcap,rfl⟩:=hm.slice;obtain ⟨h1,h2,pk,pr,pt,hw⟩:=kI hw;obtain ⟨hmm,hv⟩:=xL h1;have ht:=oC h2;obtain ⟨h5,h⟩:m.kind≠5∧mU d {s with r:=(s.r.step m).1} (s.r.step m).2=some (d',s',ms):=by
  unfold sM at h;split at h
  ·cases h
  ·rename_i h5;exact ⟨h5,h⟩
 refine en Tryz.func49 Tryz.ntmps49 fun a hs=>?_;refine sc hs ?_;refine sn hs hw fun b3 a W hs hw=>?_;refine sv hs hw fun a hs=>?_;have hw:Has 0 w0 W (aQ p pk pr pt::aW pk q s.k::aE H pr s.r::aN H pt s.t::aB nameS q d::Fz H::aA b3 (aF m (.slice mad m.es.length mcap)) 38::R):=hw.pm;refine cl hs (xM hw) fun a W hs hw=>?_;refine zG hs ?_;refine bB [6,7] [.f 0 1,.f 0 0,.f 0 0,.f 0 0,.f 0 0,.f 0 0,.m 0,.m 1,.f 2 2] [.c0 _,.c0 _,.c0 _,.c0 _,.c0 _,.c0 _,.c1 (fun x=> .agg ⟨aT (s.r.step m).2 (.slice x.ad (s.r.step m).2.msgs.length x.cap)⟩),.c2 (fun x y=>y.v),.c2 _] (aQ p pk pr pt::aW pk q s.k::aE H pr s.r::aN H pt s.t::aB nameS q d::Fz H::aA b3 (aF m (.slice mad m.es.length mcap)) 38::R) (fun x=>FzF x.H (H.le x.H)::aD x.H (.slice x.ad (s.r.step m).2.msgs.length x.cap) (s.r.step m).2.msgs::aE x.H pr (s.r.step m).1::aQ p pk pr pt::aW pk q s.k::aN H pt s.t::aB nameS q d::aA b3 (aF m (.slice mad m.es.length mcap)) 38::R) (fun x y=>FzF y.H (H.le y.H)::aD y.H y.v ms::cE y.H p q s'::aB nameS q d'::aA b3 (aF m (.slice mad m.es.length mcap)) 38::R) (fun x y z=>[]) (fun x y z t=>[]) hs hw ?kk ⟨drs,drs,drs,drs,drs,drs,?m0,?m1,drs,trivial⟩
 case m0=>
  intro x y z u LD a W hs hw;have hw:Has 0 w0 W (aE H pr s.r::Fz H::aQ p pk pr pt::aW pk q s.k::aN H pt s.t::aB nameS q d::aA b3 (aF m (.slice mad m.es.length mcap)) 38::R):=hw.pm;refine aH hs (hc:=aHR m _ hm hc h5 hmm hv hw) (k:=?_);rintro e' W' ⟨H1,x1,rfl,hle1,hw⟩;refine ⟨_,rfl,fun a hs=>?_⟩;have hw:Has 0 w0 W' (Fz H1::aD H1 (.slice x1.1 (s.r.step m).2.msgs.length x1.2) (s.r.step m).2.msgs::aE H1 pr (s.r.step m).1::aQ p pk pr pt::aW pk q s.k::aN H pt s.t::aB nameS q d::aA b3 (aF m (.slice mad m.es.length mcap)) 38::R):=hw.pm;exact ⟨{H:=H1,ad:=x1.1,cap:=x1.2},hs,hw.fzf hle1⟩
 case m1=>
  intro x y z u LD a W hs hw;obtain ⟨hle1,hw⟩:=hw.unfzf;have hw:=hw.lz hle1;have hw:Has 0 w0 W (aQ p pk pr pt::aW pk q s.k::aE x.H pr (s.r.step m).1::aN x.H pt s.t::aB nameS q d::Fz x.H::aD x.H (.slice x.ad (s.r.step m).2.msgs.length x.cap) (s.r.step m).2.msgs::aA b3 (aF m (.slice mad m.es.length mcap)) 38::R):=hw.pm;refine aH hs (hc:=xK (s:={s with r:=(s.r.step m).1}) h ht.1 (hH.trans hle1) hT hw) (k:=?_);rintro e' W' ⟨v,H2,rfl,hle2,hw⟩;refine ⟨_,rfl,fun a hs=>?_⟩;have hw:Has 0 w0 W' (Fz H2::aD H2 v ms::cE H2 p q s'::aB nameS q d'::aA b3 (aF m (.slice mad m.es.length mcap)) 38::R):=hw.pm;exact ⟨{H:=H2,v:=v},hs,hw.fzf (hle1.trans hle2)⟩
 case kk=>
 intro _ y a W hs hw;have hw:Has 0 w0 W (FzF y.H (H.le y.H)::aD y.H y.v ms::cE y.H p q s'::aB nameS q d'::aA b3 (aF m (.slice mad m.es.length mcap)) 38::R):=hw;obtain ⟨hle,hw⟩:=hw.unfzf;refine sc hs ?_;exact rt1 hs rfl rfl ⟨y.v,y.H,rfl,hle,hw.sl⟩
end
end Go.Proofs.YtgpbngfehfbndaaGreatDoor.Sw
