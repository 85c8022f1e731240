/-
  Texts of the proof, one behind the other (part 47).
-/
import Derived.Test.YtgpbngfehfbndaaGreatDoorM46
import Derived.Test.YtgpbngfehfbndaaGreatDoorChecked
import Derived.Test.YtgpbngfehfbndaaGreatDoorProg
set_option maxHeartbeats 16000000
set_option linter.unusedVariables false
set_option maxRecDepth 10000
namespace Go.Proofs.YtgpbngfehfbndaaGreatDoor.Sw
open Go.RowKit Go.Sx
section
variable {w0 W:World} {R L:List Res} {H H':Fh} {p q:Nat} {k:WPt} {w w':bC} {t t':TD} {n m c id err:Int} {s:cN} {d d':bF}
theorem aDW {w:bC} {c:Int} (h:0<(iF w c).length):∃u,at? w.clients c=some u∧iF w c=u.s.l:=by
 unfold iF at h⊢;cases h2:at? w.clients c with
 |none=>simp only [h2] at h;exact absurd h (by simp)
 |some u=>exact ⟨u,rfl,rfl⟩
theorem aJ2:∀o∈[iG kN 1],OpOk o:=by
 intro o ho;rw [List.mem_singleton] at ho;subst ho;exact ⟨⟨by decide,by decide⟩,⟨by decide,by decide⟩,⟨by decide,by decide⟩,⟨by decide,by decide⟩,⟨by decide,by decide⟩,⟨by decide,by decide⟩,by decide,by decide,by decide⟩
theorem aJ3 (hH:(fr w0).le H) (hT:Tabs w0) (hw:Has 0 w0 W (Fz H::R)):
  Calls Tryz.prog 73 ⟨[]⟩ W fun e W'=>∃H':Fh,e= .returned (.bool true)∧H.le H'∧Has 0 w0 W' (Fz H'::R):=by
 obtain ⟨w,h1,he⟩:=Option.bind_eq_some_iff.1 aJ1;obtain ⟨⟨x,xe⟩,h2,he⟩:=Option.bind_eq_some_iff.1 he;obtain ⟨⟨y,yb⟩,h3,he⟩:=Option.bind_eq_some_iff.1 he;obtain ⟨⟨z,zb⟩,h4,he⟩:=Option.map_eq_some_iff.1 he;simp only [Bool.and_eq_true] at he;obtain ⟨⟨⟨g1,g2⟩,g3⟩,g4⟩:=he;subst g1 g3;have g2:(iF y 1).length=1:=by simpa using g2
 unfold uS at h2;cases c1:at? w.clients 1 with
 |none=>simp only [c1] at h2;cases h2
 |some u=>
 cases c2:at? w.cd 1 with
 |none=>simp only [c1,c2] at h2;cases h2
 |some d=>
 simp only [c1,c2] at h2;obtain ⟨⟨d3,u3,bt,e3⟩,h5,h6⟩:=Option.map_eq_some_iff.1 h2;injection h6 with h6 _;obtain ⟨uy,c3,c4⟩:=aDW (w:=y) (c:=1) (by omega);rw [c4] at g2;refine enter Tryz.func73 Tryz.ntmps73 rfl rfl fun a hs=>?_;refine sv hs hw fun a hs=>?_;refine aG hs (hc:=(show Calls Tryz.prog 43 ⟨[.int .i64 3,.int .i64 1]⟩ W _ from aDN (m:=3) (n:=1) (by omega) (by omega) h1 hH hT hw)) (k:=?_);rintro e' W ⟨p,H3,rfl,hle3,hw⟩;refine ⟨_,rfl,fun a hs=>?_⟩;obtain ⟨k,gv,hw⟩:=mN hw;refine sv hs hw fun a hs=>?_;refine cl hs (jL 1 hw) fun a W hs hw=>?_;unfold dQ at hs;rw [c1] at hs;refine sv hs hw fun a hs=>?_;refine cl hs (jL 1 hw) fun a W hs hw=>?_;unfold dQ at hs;rw [c1] at hs;refine sv hs hw fun a hs=>?_;refine sn hs hw fun b13 a W hs hw=>?_;have hw:Has 0 w0 W (aA b13 (bX (iG kN 1)) 55::Fz H3::aS p k::bB k w::aW k w::aZ k w::aX k w::aM (H3) k.pn w.n::aQ (H3) k.ps k.qs w.servers::aC nameS k.qs w.sd::aT H3 k.pc k.qc w.clients::aC nameQ k.qc w.cd::R):=hw.pm;obtain ⟨H4,hle4,hw,hop⟩:=hw.freeze_lit (m:=1) (sz:=9) rfl (by decide);have hw:=hw.lz hle4;obtain ⟨rc,re,tk,gv2⟩:=zK (w0:=w0) (p:=p) (k:=k) (w:=w) c1 c2;have hw:=tk (hw.pm:Has 0 w0 W (aS p k::bB k w::aW k w::aZ k w::aX k w::aM (H4) k.pn w.n::aQ (H4) k.ps k.qs w.servers::aC nameS k.qs w.sd::aT H4 k.pc k.qc w.clients::aC nameQ k.qc w.cd::Fz H4::R));have hw:Has 0 w0 W (cE H4 (k.pc 1) (k.qc 1) u::aB nameQ (k.qc 1) d::Fz H4::aS p k::bB k w::aW k w::aZ k w::aX k w::aM (H4) k.pn w.n::aQ (H4) k.ps k.qs w.servers::aC nameS k.qs w.sd::aT (H4) k.pc k.qc rc::aC nameQ k.qc re::R):=hw.pm;refine aG hs (hc:=aCt [iG kN 1] aJ2 (by decide) hop h5 (hH.trans (hle3.trans hle4)) hT hw) (k:=?_);rintro e' W ⟨mv,H5,rfl,hle5,hmv,hw⟩;refine ⟨_,rfl,fun a hs=>?_⟩;have hw:=hw.lz hle5;have hw:Has 0 w0 W (bH H5 p x::Fz H5::R):=by
  rw [←h6];exact eI (gv2 (hw.pm))
 refine sv hs hw fun a hs=>?_;refine aG hs (hc:=(show Calls Tryz.prog 53 ⟨[ptr p,.int .i64 12]⟩ W _ from aDT (n:=12) (by omega) h3 (hH.trans ((hle3.trans hle4).trans hle5)) hT hw)) (k:=?_);rintro e' W ⟨H6,rfl,hle6,hw⟩;refine ⟨_,rfl,fun a hs=>?_⟩;clear gv gv2 tk;obtain ⟨k2,gv,hw⟩:=mN hw;refine sv hs hw fun a hs=>?_;refine cl hs (jL 1 hw) fun a W hs hw=>?_;unfold dQ at hs;rw [c3] at hs;obtain ⟨rc2,tk,gv2⟩:=nR (w0:=w0) (p:=p) (k:=k2) (w:=y) c3;have hw:=tk (hw.pm:Has 0 w0 W (aS p k2::bB k2 y::aW k2 y::aZ k2 y::aX k2 y::aM (H6) k2.pn y.n::aQ (H6) k2.ps k2.qs y.servers::aC nameS k2.qs y.sd::aT H6 k2.pc k2.qc y.clients::aC nameQ k2.qc y.cd::Fz H6::R));have hw:Has 0 w0 W (cE H6 (k2.pc 1) (k2.qc 1) uy::Fz H6::aS p k2::bB k2 y::aW k2 y::aZ k2 y::aX k2 y::aM (H6) k2.pn y.n::aQ (H6) k2.ps k2.qs y.servers::aC nameS k2.qs y.sd::aT (H6) k2.pc k2.qc rc2::aC nameQ k2.qc y.cd::R):=hw.pm;refine sc hs ?_;refine aG hs (hc:=y8 hw) (k:=?_);rintro e' W ⟨rv,H7,rfl,hle7,⟨rys,hrr,_⟩,hw⟩;refine ⟨_,rfl,fun a hs=>?_⟩;obtain ⟨rad,rcap,rfl⟩:=hrr.slice;rw [g2] at hs;have hw:=hw.lz hle7;have hw:Has 0 w0 W (bH H7 p y::Fz H7::R):=eI (gv2 (hw.pm));refine sv hs hw fun a hs=>?_;refine aG hs (hc:=(show Calls Tryz.prog 62 ⟨[ptr p,.int .i64 10]⟩ W _ from zP (n:=10) (by omega) h4 (hH.trans ((((hle3.trans hle4).trans hle5).trans hle6).trans hle7)) hT hw)) (k:=?_);rintro e' W ⟨H8,rfl,hle8,hw⟩;refine ⟨_,rfl,fun a hs=>?_⟩;refine sv hs hw fun a hs=>?_;obtain ⟨k3,gv3,hw⟩:=rQ hw;refine cl hs (rM hw) fun a W hs hw=>?_;refine sc hs ?_;refine cl hs (nQ hw.swap2) fun a W hs hw=>?_;have hw:=gv3 hw.swap2;refine sv hs hw fun a hs=>?_;rw [vE,show z.n.isEmpty=true from g4] at hs;exact rt1 hs rfl rfl ⟨H8,rfl,((((hle3.trans hle4).trans hle5).trans hle6).trans hle7).trans hle8,hw.d1⟩
theorem aJ4 (hH:(fr w0).le H) (hT:Tabs w0) (hw:Has 0 w0 W (Fz H::R)):
  Calls Tryz.prog 42 ⟨[]⟩ W fun e W'=>∃H':Fh,e= .returned (.bool true)∧H.le H'∧Has 0 w0 W' (Fz H'::R):=by
 refine enter Tryz.func42 Tryz.ntmps42 rfl rfl fun a hs=>?_;refine sv hs hw fun a hs=>?_;refine aG hs (hc:=aJ3 hH hT hw) (k:=?_);rintro e' W ⟨H8,rfl,hle8,hw⟩;refine ⟨_,rfl,fun a hs=>?_⟩;refine sv hs hw fun a hs=>?_;exact rt1 hs rfl rfl ⟨H8,rfl,hle8,hw⟩
theorem vI (hH:(fr w0).le H) (hT:Tabs w0) (hw:Has 0 w0 W (Fz H::R)):
  Calls Tryz.prog 9 ⟨[]⟩ W fun e W'=>∃H':Fh,e= .returned (.bool true)∧H.le H'∧Has 0 w0 W' (Fz H'::R):=by
 refine enter Tryz.func9 Tryz.ntmps9 rfl rfl fun a hs=>?_;refine sv hs hw fun a hs=>?_;refine aG hs (hc:=aJ4 hH hT hw) (k:=?_);rintro e' W ⟨H8,rfl,hle8,hw⟩;refine ⟨_,rfl,fun a hs=>?_⟩;refine sv hs hw fun a hs=>?_;exact rt1 hs rfl rfl ⟨H8,rfl,hle8,hw⟩
end
end Go.Proofs.YtgpbngfehfbndaaGreatDoor.Sw
