/-
  Texts of the proof, one behind the other (part 38).
-/
import Derived.Test.YtgpbngfehfbndaaGreatDoorM34
import Derived.Test.YtgpbngfehfbndaaGreatDoorChecked
import Derived.Test.YtgpbngfehfbndaaGreatDoorProg
set_option maxHeartbeats 16000000
set_option linter.unusedVariables false
set_option maxRecDepth 100000
namespace Go.Proofs.YtgpbngfehfbndaaGreatDoor.Sw
open Go.RowKit Go.Sx
section
variable {H H':Fh} {p q ps:Nat} {w0 W:World} {R L:List Res} {u:cZ} {s:eL} {d d':bF} {ad:Option Addr} {cap:Nat} {xs:List Value}
abbrev uV:List Value:=[.int .i64 0,.int .i64 0,.slice none 0 0]
theorem aI1 (r:cF) {rad:Option Addr} {rcap:Nat} (hv:cL H (.slice rad r.b.l.length rcap) r.b.l) (hf:oW u) (hc:Ch (BatIn H) u.added xs) (i:In (Fz H) R) (hw:Has 0 w0 W (bJ p q u.c (.slice ad u.added.length cap) ps::Sx.Own 66 3 (.slice ad u.added.length cap) u.added.length xs::bA H ps u.s::R)):
  Calls Tryz.prog 251 ⟨[ptr p,.agg ⟨aJ r (.slice rad r.b.l.length rcap)⟩]⟩ W fun e W'=>e= .returned (.bool (fH u r))∧Has 0 w0 W' (bJ p q u.c (.slice ad u.added.length cap) ps::Sx.Own 66 3 (.slice ad u.added.length cap) u.added.length xs::bA H ps u.s::R):=by
 have hq:fH u r=(if r.b.c≠u.c then true else decide (r.b.q≥1) && decide (r.b.q≤(u.added.length:Int)) && eqL r.b.l (u.added.getD (r.b.q - 1).toNat ⟨0,0,[]⟩).l):=rfl;refine enter Tryz.func251 Tryz.ntmps251 rfl rfl fun a hs=>?_;refine sc hs ?_;refine sn hs hw fun b3 a W hs hw=>?_;have drop:∀{W},Has 0 w0 W (aA b3 (aJ r (.slice rad r.b.l.length rcap)) 68::bJ p q u.c (.slice ad u.added.length cap) ps::Sx.Own 66 3 (.slice ad u.added.length cap) u.added.length xs::bA H ps u.s::R)→Has 0 w0 W (bJ p q u.c (.slice ad u.added.length cap) ps::Sx.Own 66 3 (.slice ad u.added.length cap) u.added.length xs::bA H ps u.s::R):=fun h=>h.d1;have hw:Has 0 w0 W (aA b3 (aJ r (.slice rad r.b.l.length rcap)) 68::bJ p q u.c (.slice ad u.added.length cap) ps::Sx.Own 66 3 (.slice ad u.added.length cap) u.added.length xs::bA H ps u.s::R):=hw;refine zA hs hw ?_;clear hs;intro a hs;refine rgp [_,_,_,_,_,_,_,_] hs hw fun a W hs hw=>?_;cases c1:(r.b.c !=u.c) with
 |true=>
  rw [c1] at hs;rw [hq,if_pos (by simpa using c1)];refine sv hs hw fun a hs=>?_;exact rt1 hs rfl rfl ⟨rfl,drop hw⟩
 |false=>
 rw [c1] at hs;rw [hq,if_neg (by simpa using c1)];refine sc hs ?_;cases c2:decide (r.b.q≥1) with
 |false=>
  refine bG [30] [Sp.f 0 0,Sp.f 0 0,Sp.f 0 0,Sp.f 0 0,Sp.f 0 0,Sp.f 0 0,Sp.f 0 0,Sp.f 0 0,Sp.f 0 0,Sp.f 0 0,Sp.f 0 0,Sp.f 0 0,Sp.f 0 0,Sp.f 0 0,Sp.f 0 0,Sp.f 0 0,Sp.f 0 0,Sp.f 0 0,Sp.f 0 0,Sp.f 0 0,Sp.f 0 0,Sp.f 0 0,Sp.f 0 0,Sp.f 0 0,Sp.f 0 0,Sp.f 0 0,Sp.f 0 0,Sp.f 0 0,Sp.f 0 0,Sp.f 0 0,Sp.m 0,Sp.f 1 1,Sp.f 1 1] [En.c0 _,En.c0 _,En.c0 _,En.c0 (.bool false),En.c0 _,En.c0 _,En.c0 _,En.c0 _,En.c0 _,En.c0 _,En.c0 _,En.c0 _,En.c0 _,En.c0 _,En.c0 _,En.c0 _,En.c0 _,En.c0 _,En.c0 _,En.c0 _,En.c0 _,En.c0 _,En.c0 _,En.c0 _,En.c0 _,En.c0 _,En.c0 _,En.c0 _,En.c0 _,En.c0 _,En.c1 (fun x=>undef),En.c1 _,En.c1 _] (aA b3 (aJ r (.slice rad r.b.l.length rcap)) 68::bJ p q u.c (.slice ad u.added.length cap) ps::Sx.Own 66 3 (.slice ad u.added.length cap) u.added.length xs::bA H ps u.s::R) (fun x=>aA b3 (aJ r (.slice rad r.b.l.length rcap)) 68::bJ p q u.c (.slice ad u.added.length cap) ps::Sx.Own 66 3 (.slice ad u.added.length cap) u.added.length xs::bA H ps u.s::R) (fun x y=>[]) (fun x y z=>[]) (fun x y z t=>[]) hs hw ?kk ⟨drs,drs,drs,?f3,drs,drs,drs,drs,drs,drs,drs,drs,drs,drs,drs,drs,drs,drs,drs,drs,drs,drs,drs,drs,drs,drs,drs,drs,drs,drs,drm,drs,drs,trivial⟩
  case f3=>
   refine ⟨?_,trivial,trivial,trivial,trivial⟩;intro x y z t LD a W hs hw;refine sv hs hw fun a hs=>?_;rw [c2] at hs;exact ⟨hs,hw⟩
  case kk=>
   intro _ a W hs hw;refine sc hs ?_;exact rt1 hs rfl rfl ⟨rfl,drop hw⟩
 |true=>
 cases c3:decide (r.b.q≤(u.added.length:Int)) with
 |false=>
  refine bG [30] [Sp.f 0 0,Sp.f 0 0,Sp.f 0 0,Sp.f 0 0,Sp.f 0 0,Sp.f 0 0,Sp.f 0 0,Sp.f 0 0,Sp.f 0 0,Sp.f 0 0,Sp.f 0 0,Sp.f 0 0,Sp.f 0 0,Sp.f 0 0,Sp.f 0 0,Sp.f 0 0,Sp.f 0 0,Sp.f 0 0,Sp.f 0 0,Sp.f 0 0,Sp.f 0 0,Sp.f 0 0,Sp.f 0 0,Sp.f 0 0,Sp.f 0 0,Sp.f 0 0,Sp.f 0 0,Sp.f 0 0,Sp.f 0 0,Sp.f 0 0,Sp.m 0,Sp.f 1 1,Sp.f 1 1] [En.c0 _,En.c0 _,En.c0 _,En.c0 (.bool true),En.c0 _,En.c0 _,En.c0 _,En.c0 _,En.c0 _,En.c0 _,En.c0 _,En.c0 _,En.c0 _,En.c0 (.bool false),En.c0 _,En.c0 _,En.c0 _,En.c0 _,En.c0 _,En.c0 _,En.c0 _,En.c0 _,En.c0 _,En.c0 _,En.c0 _,En.c0 _,En.c0 _,En.c0 _,En.c0 _,En.c0 _,En.c1 (fun x=>undef),En.c1 _,En.c1 _] (aA b3 (aJ r (.slice rad r.b.l.length rcap)) 68::bJ p q u.c (.slice ad u.added.length cap) ps::Sx.Own 66 3 (.slice ad u.added.length cap) u.added.length xs::bA H ps u.s::R) (fun x=>aA b3 (aJ r (.slice rad r.b.l.length rcap)) 68::bJ p q u.c (.slice ad u.added.length cap) ps::Sx.Own 66 3 (.slice ad u.added.length cap) u.added.length xs::bA H ps u.s::R) (fun x y=>[]) (fun x y z=>[]) (fun x y z t=>[]) hs hw ?kk ⟨drs,drs,drs,?f3,drs,drs,drs,drs,drs,drs,drs,drs,drs,?f13,drs,drs,drs,drs,drs,drs,drs,drs,drs,drs,drs,drs,drs,drs,drs,drs,drm,drs,drs,trivial⟩
  case f3=>
   refine ⟨?_,trivial,trivial,trivial,trivial⟩;intro x y z t LD a W hs hw;refine sv hs hw fun a hs=>?_;rw [c2] at hs;exact ⟨hs,hw⟩
  case f13=>
   refine ⟨?_,trivial,trivial,trivial,trivial⟩;intro x y z t LD a W hs hw;refine sv hs hw fun a hs=>?_;rw [c3] at hs;exact ⟨hs,hw⟩
  case kk=>
   intro _ a W hs hw;refine sc hs ?_;exact rt1 hs rfl rfl ⟨rfl,drop hw⟩
 |true=>
 have g2:=of_decide_eq_true c2;have g3:=of_decide_eq_true c3;have hal:=hf.added.1;obtain ⟨I,hI⟩:∃I:Nat,r.b.q - 1=(I:Int):=⟨(r.b.q - 1).toNat,by omega⟩
 have hIl:I<u.added.length:=by omega
 obtain ⟨bt,hbt⟩:∃bt,u.added[I]? =some bt:=⟨_,List.getElem?_eq_getElem hIl⟩
 have hgd:u.added.getD (r.b.q - 1).toNat ⟨0,0,[]⟩=bt:=by
  rw [hI,Int.toNat_natCast,List.getD_eq_getElem?_getD,hbt];rfl
 obtain ⟨bc,⟨sv,rfl,hsv⟩,_,hcut⟩:=hc.get BatIn.len hbt;obtain ⟨sad,scap,rfl⟩:=hsv.slice;rw [hgd];obtain ⟨g,off,cap',hvv,_⟩:=jZ ((drop hw).rd_own (In.tl In.hd)) (by omega);injection hvv with hv1 _ hv2;subst hv1 hv2;have hI64:IntKind.i64.wrap (r.b.q - 1)=(I:Int):=by rw [IntWalk.i64_in _ (by omega)];exact hI
 have hcell:∀{W},Has 0 w0 W (aA b3 (aJ r (.slice rad r.b.l.length rcap)) 68::bJ p q u.c (.slice (some ⟨g,off,none⟩) u.added.length cap) ps::Sx.Own 66 3 (.slice (some ⟨g,off,none⟩) u.added.length cap) u.added.length xs::bA H ps u.s::R)→W.cell? ⟨g,off+I*3+2,none⟩=some (.slice sad bt.l.length scap):=fun h=>by
  rw [Nat.add_assoc];refine mI (h.rd_own (In.tl (In.tl In.hd))) (by omega) (I*3+2) _ ?_;have h9:=congrArg (fun t=>t[2]?) hcut;simp only [gG,List.getElem?_take,List.getElem?_drop] at h9;rw [if_pos (by omega)] at h9;exact h9
 refine bG [30] [Sp.f 0 0,Sp.f 0 0,Sp.f 0 0,Sp.f 0 0,Sp.f 0 0,Sp.f 0 0,Sp.f 0 0,Sp.f 0 0,Sp.f 0 0,Sp.f 0 0,Sp.f 0 0,Sp.f 0 0,Sp.f 0 0,Sp.f 0 0,Sp.f 0 0,Sp.f 0 0,Sp.f 0 0,Sp.f 0 0,Sp.f 0 0,Sp.f 0 0,Sp.f 0 0,Sp.f 0 0,Sp.f 0 0,Sp.f 0 0,Sp.f 0 0,Sp.f 0 0,Sp.f 0 0,Sp.f 0 0,Sp.f 0 0,Sp.f 0 0,Sp.m 0,Sp.f 1 1,Sp.f 1 1] [En.c0 _,En.c0 _,En.c0 _,En.c0 (.bool true),En.c0 _,En.c0 _,En.c0 _,En.c0 _,En.c0 _,En.c0 _,En.c0 _,En.c0 _,En.c0 _,En.c0 (.bool true),En.c0 _,En.c0 _,En.c0 _,En.c0 _,En.c0 _,En.c0 _,En.c0 _,En.c0 _,En.c0 _,En.c0 _,En.c0 _,En.c0 _,En.c0 (.int .i64 (I:Int)),En.c0 (.pointer (some ⟨g,off+I*3,none⟩)),En.c0 _,En.c0 (.slice sad bt.l.length scap),En.c1 (fun x=> .bool (eqL r.b.l bt.l)),En.c1 _,En.c1 _] (aA b3 (aJ r (.slice rad r.b.l.length rcap)) 68::bJ p q u.c (.slice (some ⟨g,off,none⟩) u.added.length cap) ps::Sx.Own 66 3 (.slice (some ⟨g,off,none⟩) u.added.length cap) u.added.length xs::bA H ps u.s::R) (fun x=>aA b3 (aJ r (.slice rad r.b.l.length rcap)) 68::bJ p q u.c (.slice (some ⟨g,off,none⟩) u.added.length cap) ps::Sx.Own 66 3 (.slice (some ⟨g,off,none⟩) u.added.length cap) u.added.length xs::bA H ps u.s::R) (fun x y=>[]) (fun x y z=>[]) (fun x y z t=>[]) hs hw ?kk ⟨drs,drs,drs,?f3,drs,drs,drs,drs,drs,drs,drs,drs,drs,?f13,drs,drs,drs,drs,drs,drs,drs,drs,drs,drs,drs,drs,?f26,?f27,drs,?f29,?m0,drs,drs,trivial⟩
 case f3=>
  refine ⟨?_,trivial,trivial,trivial,trivial⟩;intro x y z t LD a W hs hw;refine sv hs hw fun a hs=>?_;rw [c2] at hs;exact ⟨hs,hw⟩
 case f13=>
  refine ⟨?_,trivial,trivial,trivial,trivial⟩;intro x y z t LD a W hs hw;refine sv hs hw fun a hs=>?_;rw [c3] at hs;exact ⟨hs,hw⟩
 case f26=>
  refine ⟨?_,trivial,trivial,trivial,trivial⟩;intro x y z t LD a W hs hw;refine sv hs hw fun a hs=>?_;rw [hI64] at hs;exact ⟨hs,hw⟩
 case f27=>
  refine ⟨?_,trivial,trivial,trivial,trivial⟩;intro x y z t LD a W hs hw;refine sc hs ?_;refine eF hs (z:=uV) (g:=g) (o:=off) (k:=u.added.length) (i:=(I:Int)) (h0:=by omega) (h1:=by omega) (c:=fun a hs=>?_);exact ⟨hs,hw⟩
 case f29=>
  refine ⟨?_,trivial,trivial,trivial,trivial⟩;intro x y z t LD a W hs hw;refine sc hs ?_;refine eN hs (hc:=hcell hw) (c:=fun a hs=>?_);exact ⟨hs,hw⟩
 case m0=>
  intro x y z t LD a W hs hw;refine sc hs ?_;refine cb hs hw (aBY r.b.l _ bt.l _ W (hw.rdH (In.tl (In.tl (In.tl (In.tl i)))) hv) (hw.rdH (In.tl (In.tl (In.tl (In.tl i)))) hsv)) fun a W hs hw=>?_;exact ⟨{},hs,hw⟩
 case kk=>
  intro _ a W hs hw;refine sc hs ?_;exact rt1 hs rfl rfl ⟨rfl,hw.d1⟩
theorem aI2 (r:cF) {b2:Nat} {rad:Option Addr} {rcap:Nat} (hv:cL H (.slice rad r.b.l.length rcap) r.b.l) (hf:oW u) (hc:Ch (BatIn H) u.added xs) (i:In (Fz H) R) (hw:Has 0 w0 W (bJ p q u.c (.slice ad u.added.length cap) ps::Sx.Own 66 3 (.slice ad u.added.length cap) u.added.length xs::bA H ps u.s::aA b2 [ptr p] 114::R)):
  Calls Tryz.prog 250 ⟨[.agg ⟨aJ r (.slice rad r.b.l.length rcap)⟩,ptr b2]⟩ W fun e W'=>e= .returned (.bool (!fH u r))∧Has 0 w0 W' (bJ p q u.c (.slice ad u.added.length cap) ps::Sx.Own 66 3 (.slice ad u.added.length cap) u.added.length xs::bA H ps u.s::aA b2 [ptr p] 114::R):=by
 refine enter Tryz.func250 Tryz.ntmps250 rfl rfl fun a hs=>?_;refine sc hs ?_;refine sn hs hw fun b3 a W hs hw=>?_;refine sx hs hw fun a W hs hw=>?_;have hw:Has 0 w0 W (bJ p q u.c (.slice ad u.added.length cap) ps::Sx.Own 66 3 (.slice ad u.added.length cap) u.added.length xs::bA H ps u.s::aA b2 [ptr p] 114::aA b3 (aJ r (.slice rad r.b.l.length rcap)) 68::R):=hw.pm;refine cl hs (aI1 r hv hf hc (In.tl (In.tl i)) hw) fun a W hs hw=>?_;refine sv hs hw fun a hs=>?_;exact rt1 hs rfl rfl ⟨rfl,hw.sl⟩
theorem aI3 {b2:Nat} (rows:List cF) (v:Value) {ys:List Value} (hr:RdH H 5 v rows.length ys) (hys:Ch (RowIn H) rows ys) (hf:oW u) (hc:Ch (BatIn H) u.added xs) (i:In (Fz H) R) (hw:Has 0 w0 W (bJ p q u.c (.slice ad u.added.length cap) ps::Sx.Own 66 3 (.slice ad u.added.length cap) u.added.length xs::bA H ps u.s::aA b2 [ptr p] 114::R)):
  Calls Tryz.prog 249 ⟨[v,.func (.func 250) ⟨[]⟩ ⟨[ptr b2]⟩]⟩ W fun e W'=>e= .returned (.int .i64 (if (rows.takeWhile (fH u)).length<rows.length then ((rows.takeWhile (fH u)).length:Int) else -1))∧Has 0 w0 W' (bJ p q u.c (.slice ad u.added.length cap) ps::Sx.Own 66 3 (.slice ad u.added.length cap) u.added.length xs::bA H ps u.s::aA b2 [ptr p] 114::R):=by
 obtain ⟨sad,scap,rfl⟩:=hr.slice;have hlen:=hr.len;have i4:In (Fz H) (bJ p q u.c (.slice ad u.added.length cap) ps::Sx.Own 66 3 (.slice ad u.added.length cap) u.added.length xs::bA H ps u.s::aA b2 [ptr p] 114::R):=In.tl (In.tl (In.tl (In.tl i)));refine enter Tryz.func249 Tryz.ntmps249 rfl rfl fun a hs=>?_;refine sv hs hw fun a hs=>?_;refine bY (σ:=Nat) (fun j=>[(0,.slice sad rows.length scap),(1,.func (.func 250) ⟨[]⟩ ⟨[ptr b2]⟩),(7,.int .i64 (rows.length:Int)),(8,.int .i64 (j:Int))]) (fun _=>bJ p q u.c (.slice ad u.added.length cap) ps::Sx.Own 66 3 (.slice ad u.added.length cap) u.added.length xs::bA H ps u.s::aA b2 [ptr p] 114::R) (fun j=>j≤rows.length∧(rows.takeWhile (fH u)).length=j+((rows.drop j).takeWhile (fH u)).length) (fun j=>rows.length - j) 0 ⟨Nat.zero_le _,by simp⟩ hs ⟨rfl,rfl,rfl,rfl,trivial⟩ hw ?_;clear hs hw;rintro j a W ⟨hj,ha⟩ hs hw;refine sv hs hw fun a hs=>?_;refine cI hs (kt:=fun hcc=>?_) (kf:=fun hcc=>?_)
 ·have hj':j<rows.length:=by simpa using hcc
  obtain ⟨o,ho,hd⟩:=dR hj';rw [hd] at ha;refine sv hs hw fun a hs=>?_;refine gA hs (r:=hw.rdH i4 hr) (hk:=RowIn.len) (ch:=hys) (ho:=ho) (hlen:=rfl) (c:=fun a g off c hmc hcl hpc hlt hs=>?_);obtain ⟨sv,rfl,hsv⟩:=hmc;obtain ⟨oad,ocap,rfl⟩:=hsv.slice;refine eE hs (z:=zrc) (cs:=aJ o _) (hc:=hpc) (hl:=by rfl) (c:=fun a hs=>?_);refine sN hs (vs:=[.agg ⟨aJ o (.slice oad o.b.l.length ocap)⟩]) (cs:=[ptr b2]) (hf:=by kernel_rfl) (hc:=(show Calls Tryz.prog 250 ⟨[.agg ⟨aJ o (.slice oad o.b.l.length ocap)⟩] ++ [ptr b2]⟩ _ _ from aI2 o hsv hf hc i hw)) (k:=?_);rintro e0 W1 ⟨rfl,hw⟩;refine ⟨_,rfl,fun a hs=>?_⟩;cases hq:fH u o with
  |false=>
   rw [hq] at hs;have h9:(rows.takeWhile (fH u)).length=j:=by
    rw [ha,List.takeWhile_cons,hq];rfl
   refine sv hs hw fun a hs=>?_;exact rt1 hs rfl rfl ⟨by rw [h9,if_pos hj'],hw⟩
  |true=>
   rw [hq] at hs;refine sv hs hw fun a hs=>?_;refine bQ (j+1) hs hw ⟨hj',?_⟩ (by show rows.length - (j+1)<rows.length - j;omega) ⟨rfl,rfl,rfl,bR (i1 (by omega)),trivial⟩;rw [ha,List.takeWhile_cons,hq];simp;omega
 ·have h9:rows.drop j= []:=List.drop_eq_nil_of_le (by simp at hcc;omega);rw [h9] at ha;have hl9:rows.length≤(rows.takeWhile (fH u)).length:=by simp at hcc ha;omega
  refine sv hs hw fun a hs=>?_;exact rt1 hs rfl rfl ⟨by rw [if_neg (by omega)],hw⟩
end
end Go.Proofs.YtgpbngfehfbndaaGreatDoor.Sw
