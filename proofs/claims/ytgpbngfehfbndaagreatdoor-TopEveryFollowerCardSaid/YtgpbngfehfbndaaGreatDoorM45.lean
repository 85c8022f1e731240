/-
  Texts of the proof, one behind the other (part 45).
-/
import Derived.Test.YtgpbngfehfbndaaGreatDoorM43
import Derived.Test.YtgpbngfehfbndaaGreatDoorChecked
import Derived.Test.YtgpbngfehfbndaaGreatDoorProg
set_option maxHeartbeats 16000000
set_option linter.unusedVariables false
set_option maxRecDepth 10000
namespace Go.Proofs.YtgpbngfehfbndaaGreatDoor.Sw
open Go.RowKit Go.Sx
section
variable {w0 W:World} {R L:List Res} {H H':Fh} {p q:Nat} {k:WPt} {w w':bC} {u u':cZ} {c id err:Int} {s:cN} {d d':bF}
theorem mN:Has 0 w0 W (bH H p w::R)→∃k:WPt,(∀{W},Has 0 w0 W (aS p k::aW k w::aM H k.pn w.n::bB k w::aZ k w::aX k w::aQ H k.ps k.qs w.servers::aC nameS k.qs w.sd::aT H k.pc k.qc w.clients::aC nameQ k.qc w.cd::R)→Has 0 w0 W (bH H p w::R))∧Has 0 w0 W (aS p k::aW k w::aM H k.pn w.n::bB k w::aZ k w::aX k w::aQ H k.ps k.qs w.servers::aC nameS k.qs w.sd::aT H k.pc k.qc w.clients::aC nameQ k.qc w.cd::R):=by
 intro hw;obtain ⟨k,hw⟩:=j8 hw;exact ⟨k,fun g=>eI (g.pm),hw.pm⟩
theorem rR:Has 0 w0 W (bH H p w::R)→∃k:WPt,(∀{W},Has 0 w0 W (aS p k::bB k w::aM H k.pn w.n::aW k w::aZ k w::aX k w::aQ H k.ps k.qs w.servers::aC nameS k.qs w.sd::aT H k.pc k.qc w.clients::aC nameQ k.qc w.cd::R)→Has 0 w0 W (bH H p w::R))∧Has 0 w0 W (aS p k::bB k w::aM H k.pn w.n::aW k w::aZ k w::aX k w::aQ H k.ps k.qs w.servers::aC nameS k.qs w.sd::aT H k.pc k.qc w.clients::aC nameQ k.qc w.cd::R):=by
 intro hw;obtain ⟨k,hw⟩:=j8 hw;exact ⟨k,fun g=>eI (g.pm),hw.pm⟩
theorem aJP (id:Int) (hw:Has 0 w0 W (bH H p w::R)):
  Calls Tryz.prog 29 ⟨[ptr p,.int .i64 id]⟩ W fun e W'=>∃f:Int→Nat,e= .returned (dQ f w.clients id)∧True∧Has 0 w0 W' (bH H p w::R):=by
 obtain ⟨k,gv,hw⟩:=mN hw;refine (jL id hw).mono ?_;rintro e W ⟨rfl,hw⟩;exact ⟨k.pc,rfl,trivial,gv hw⟩
theorem aDP (id:Int) (hw:Has 0 w0 W (bH H p w::R)):
  Calls Tryz.prog 19 ⟨[ptr p,.int .i64 id]⟩ W fun e W'=>∃f:Int→Nat,e= .returned (dQ f w.servers id)∧True∧Has 0 w0 W' (bH H p w::R):=by
 obtain ⟨k,gv,hw⟩:=rR hw;refine (kX id hw).mono ?_;rintro e W ⟨rfl,hw⟩;exact ⟨k.ps,rfl,trivial,gv hw⟩
theorem aDQ {f:bC→Int→Int→Option (bC×Int)} {g:FuncId} (hg:callee Tryz.prog g=true) (hf:∀{W:World} {H:Fh} {w w':bC} {c s err:Int} {R:List Res},f w c s=some (w',err)→(fr w0).le H→Has 0 w0 W (bH H p w::Fz H::R)→Calls Tryz.prog g ⟨[ptr p,.int .i64 c,.int .i64 s]⟩ W fun e W'=>∃H':Fh,e= .returned (.int .i64 err)∧H.le H'∧Has 0 w0 W' (bH H' p w'::Fz H'::R))
  (hn:∀w c s,at? w.clients c=none∨at? w.servers s=none→f w c s=some (w,12)) (h:yZ f w=some w') (hH:(fr w0).le H) (hw:Has 0 w0 W (bH H p w::Fz H::R)):
  Calls Tryz.prog 169 ⟨[ptr p,.func (.func g) ⟨[ptr p]⟩ ⟨[]⟩]⟩ W fun e W'=>∃H':Fh,e= .returned (.tuple ⟨[]⟩)∧H.le H'∧Has 0 w0 W' (bH H' p w'::Fz H'::R):=by
 refine enter Tryz.func169 Tryz.ntmps169 rfl rfl fun a hs=>?_;refine sv hs hw fun a hs=>?_;refine bY (σ:=Nat×bC×Fh) (fun z=>[(0,ptr p),(1,.func (.func g) ⟨[ptr p]⟩ ⟨[]⟩),(4,.int .i64 ((z.1:Int)+1))]) (fun z=>bH z.2.2 p z.2.1::Fz z.2.2::R) (fun z=>z.1≤5∧H.le z.2.2∧uU f (5 - z.1) ((z.1:Int)+1) z.2.1=some w') (fun z=>5 - z.1) (0,w,H) ⟨Nat.zero_le _,Fh.le.refl H,h⟩ hs ⟨rfl,rfl,rfl,trivial⟩ hw ?_;clear hs hw h;rintro ⟨i,w2,H2⟩ a W ⟨hi,hle,h⟩ hs hw;simp only at hi hle h hs hw;refine sv hs hw fun a hs=>?_;refine cI hs (kt:=fun hcc=>?_) (kf:=fun hcc=>?_)
 ·have hi':i<5:=by have:=of_decide_eq_true hcc;omega
  rw [show 5 - i=(5 - (i+1))+1 by omega] at h;unfold uU at h;obtain ⟨w3,h1,h2⟩:=Option.bind_eq_some_iff.1 h;refine sv hs hw fun a hs=>?_;refine bY (σ:=Nat×bC×Fh) (fun z=>[(0,ptr p),(1,.func (.func g) ⟨[ptr p]⟩ ⟨[]⟩),(4,.int .i64 ((i:Int)+1)),(5,.int .i64 ((z.1:Int)+1))]) (fun z=>bH z.2.2 p z.2.1::Fz z.2.2::R) (fun z=>z.1≤7∧H.le z.2.2∧uT f ((i:Int)+1) (7 - z.1) ((z.1:Int)+1) z.2.1=some w3) (fun z=>7 - z.1) (0,w2,H2) ⟨Nat.zero_le _,hle,h1⟩ hs ⟨rfl,rfl,rfl,rfl,trivial⟩ hw ?_;clear hs hw h1 h hle hcc;rintro ⟨j,w4,H4⟩ a W ⟨hj,hle,h⟩ hs hw;simp only at hj hle h hs hw;refine sv hs hw fun a hs=>?_;refine cI hs (kt:=fun hcc=>?_) (kf:=fun hcc=>?_)
  ·have hj':j<7:=by have:=of_decide_eq_true hcc;omega
   rw [show 7 - j=(7 - (j+1))+1 by omega] at h;unfold uT at h;obtain ⟨⟨w5,er⟩,h3,h4⟩:=Option.bind_eq_some_iff.1 h;have hg2:((j:Int)+1+1)=((j+1:Nat):Int)+1:=by omega
   rw [hg2] at h4;refine sv hs hw fun a hs=>?_;refine cle hs (aJP _ hw) fun f1 a W _ hs hw=>?_;unfold dQ at hs;cases c1:at? w4.clients ((i:Int)+1) with
   |none=>
    rw [c1] at hs;rw [hn _ _ _ (.inl c1)] at h3;injection h3 with h3;injection h3 with e1 e2;subst e1;refine sv hs hw fun a hs=>?_;refine bQ (j+1,w4,H4) hs hw ⟨hj',hle,h4⟩ (by show 7 - (j+1)<7 - j;omega) ⟨rfl,rfl,rfl,bR (i2 (by omega)),trivial⟩
   |some u=>
   rw [c1] at hs;refine sv hs hw fun a hs=>?_;refine cle hs (aDP _ hw) fun f2 a W _ hs hw=>?_;unfold dQ at hs;cases c2:at? w4.servers ((j:Int)+1) with
   |none=>
    rw [c2] at hs;rw [hn _ _ _ (.inr c2)] at h3;injection h3 with h3;injection h3 with e1 e2;subst e1;refine sv hs hw fun a hs=>?_;refine bQ (j+1,w4,H4) hs hw ⟨hj',hle,h4⟩ (by show 7 - (j+1)<7 - j;omega) ⟨rfl,rfl,rfl,bR (i2 (by omega)),trivial⟩
   |some s=>
   rw [c2] at hs;refine sv hs hw fun a hs=>?_;refine aJO hs hg (show Calls Tryz.prog g ⟨[ptr p] ++ [.int .i64 ((i:Int)+1),.int .i64 ((j:Int)+1)]⟩ W _ from hf h3 (hH.trans hle) hw) (k:=?_);rintro e' W ⟨H5,rfl,hle5,hw⟩;refine ⟨_,rfl,fun a hs=>?_⟩;refine sv hs hw fun a hs=>?_;refine bQ (j+1,w5,H5) hs hw ⟨hj',hle.trans hle5,h4⟩ (by show 7 - (j+1)<7 - j;omega) ⟨rfl,rfl,rfl,bR (i2 (by omega)),trivial⟩
  ·have hj':j=7:=by have:=of_decide_eq_false hcc;omega
   rw [hj',Nat.sub_self] at h;injection h with h;subst h;have hg2:((i:Int)+1+1)=((i+1:Nat):Int)+1:=by omega
   rw [hg2] at h2;refine sv hs hw fun a hs=>?_;refine bQ (i+1,w4,H4) hs hw ⟨hi',hle,h2⟩ (by show 5 - (i+1)<5 - i;omega) ⟨rfl,rfl,bR (i2 (by omega)),trivial⟩
 ·have hi':i=5:=by have:=of_decide_eq_false hcc;omega
  rw [hi',Nat.sub_self] at h;injection h with h;subst h;refine sc hs ?_
  first
   |exact rt0 hs rfl ⟨H2,rfl,hle,hw⟩
   |exact cP hs rfl ⟨H2,rfl,hle,hw⟩
end
section
variable {w0 W:World} {R L:List Res} {H H':Fh} {p q:Nat} {k:WPt} {w w':bC} {u u':cZ} {c id err:Int} {s:cN} {d d':bF}
theorem aJQ (hw:Has 0 w0 W (cC H p q s::R)):∃pk pr pt pl pv po mv M,(∀{W R},Has 0 w0 W (aP p pk pr pt::aK pr s.r pl pv po mv::aH pl s.r.l::M::R)→Has 0 w0 W (cC H p q s::R))∧Has 0 w0 W (aP p pk pr pt::aK pr s.r pl pv po mv::aH pl s.r.l::M::R):=by
 obtain ⟨h1,h2,pk,pr,pt,hw⟩:=iY hw;have hw:Has 0 w0 W (aF H pr s.r::aP p pk pr pt::aV pk q s.k::aO H pt s.t::R):=hw.pm;obtain ⟨pl,pv,po,mv,hw⟩:=dG hw;refine ⟨pk,pr,pt,pl,pv,po,mv,eV [aV pk q s.k,VoR pv s.r.v,ToR po s.r.t,aD H mv s.r.out.msgs,aO H pt s.t],fun {W R} g=>?_,?_⟩
 ·have g:Has 0 w0 W (eV [aV pk q s.k,VoR pv s.r.v,ToR po s.r.t,aD H mv s.r.out.msgs,aO H pt s.t]::aP p pk pr pt::aK pr s.r pl pv po mv::aH pl s.r.l::R):=g.pm;have g:=lS g;have g:Has 0 w0 W (aK pr s.r pl pv po mv::aH pl s.r.l::VoR pv s.r.v::ToR po s.r.t::aD H mv s.r.out.msgs::aP p pk pr pt::aV pk q s.k::aO H pt s.t::R):=g.pm;have g:=cG g;exact gN (g.pm) h1 h2
 ·have g:Has 0 w0 W ([aV pk q s.k,VoR pv s.r.v,ToR po s.r.t,aD H mv s.r.out.msgs,aO H pt s.t] ++ aP p pk pr pt::aK pr s.r pl pv po mv::aH pl s.r.l::R):=hw.pm;exact (i0 g).pm
theorem zQ (hs:at? w.servers id=some s) (hw:Has 0 w0 W (aS p k::bB k w::aM H k.pn w.n::aW k w::aZ k w::aX k w::aQ H k.ps k.qs w.servers::aC nameS k.qs w.sd::aT H k.pc k.qc w.clients::aC nameQ k.qc w.cd::R)):∃M,(∀{W R},Has 0 w0 W (cC H (k.ps id) (k.qs id) s::M::R)→Has 0 w0 W (bH H p w::R))∧Has 0 w0 W (cC H (k.ps id) (k.qs id) s::M::R):=by
 obtain ⟨rs,a1,a2⟩:=lT (w0:=w0) hs;refine ⟨eV [aS p k,bB k w,aM H k.pn w.n,aW k w,aZ k w,aX k w,aQ H k.ps k.qs rs,aC nameS k.qs w.sd,aT H k.pc k.qc w.clients,aC nameQ k.qc w.cd],fun {W R} g=>?_,?_⟩
 ·have g:=lS g.swap2;have g:Has 0 w0 W (cC H (k.ps id) (k.qs id) s::aQ H k.ps k.qs rs::aS p k::bB k w::aW k w::aZ k w::aX k w::aM H k.pn w.n::aC nameS k.qs w.sd::aT H k.pc k.qc w.clients::aC nameQ k.qc w.cd::R):=g.pm;have g:Has 0 w0 W (aQ H k.ps k.qs (cK w.servers id s)::aS p k::bB k w::aW k w::aZ k w::aX k w::aM H k.pn w.n::aC nameS k.qs w.sd::aT H k.pc k.qc w.clients::aC nameQ k.qc w.cd::R):=a2 g;rw [rN hs] at g;exact eI (k:=k) (g.pm)
 ·have g:Has 0 w0 W (aQ H k.ps k.qs w.servers::aS p k::bB k w::aM H k.pn w.n::aW k w::aZ k w::aX k w::aC nameS k.qs w.sd::aT H k.pc k.qc w.clients::aC nameQ k.qc w.cd::R):=hw.pm;have g:Has 0 w0 W (cC H (k.ps id) (k.qs id) s::aQ H k.ps k.qs rs::aS p k::bB k w::aM H k.pn w.n::aW k w::aZ k w::aX k w::aC nameS k.qs w.sd::aT H k.pc k.qc w.clients::aC nameQ k.qc w.cd::R):=a1 g;have g:Has 0 w0 W ([aS p k,bB k w,aM H k.pn w.n,aW k w,aZ k w,aX k w,aQ H k.ps k.qs rs,aC nameS k.qs w.sd,aT H k.pc k.qc w.clients,aC nameQ k.qc w.cd] ++ cC H (k.ps id) (k.qs id) s::R):=g.pm;exact (i0 g).swap2
theorem aJR {α:Type} {l:List (Int×α)} {k:Int} {v:α} (h:at? l k=some v):(k,v)∈l:=by
 obtain ⟨l1,l2,e,_⟩:=oY h;rw [e];simp
theorem aDR (h:rH w=true) (hw:Has 0 w0 W (bH H p w::R)):
  Calls Tryz.prog 168 ⟨[ptr p]⟩ W fun e W'=>e= .returned (.tuple ⟨[]⟩)∧Has 0 w0 W' (bH H p w::R):=by
 refine enter Tryz.func168 Tryz.ntmps168 rfl rfl fun a hs=>?_;refine sv hs hw fun a hs=>?_;refine bY (σ:=Nat) (fun z=>[(0,ptr p),(2,.int .i64 ((z:Int)+1))]) (fun z=>bH H p w::R) (fun z=>z≤7) (fun z=>7 - z) 0 (Nat.zero_le _) hs ⟨rfl,rfl,trivial⟩ hw ?_;clear hs hw;rintro i a W hi hs hw;refine sv hs hw fun a hs=>?_;refine cI hs (kt:=fun hcc=>?_) (kf:=fun hcc=>?_)
 ·have hi':i<7:=by have:=of_decide_eq_true hcc;omega
  refine sv hs hw fun a hs=>?_;obtain ⟨k,gv,hw⟩:=rR hw;refine cl hs (kX _ hw) fun a W hs hw=>?_;unfold dQ at hs;cases c1:at? w.servers ((i:Int)+1) with
  |none=>
   rw [c1] at hs;refine sv hs hw fun a hs=>?_;refine bQ (i+1) hs (gv hw) hi' (by show 7 - (i+1)<7 - i;omega) ⟨rfl,bR (i2 (by omega)),trivial⟩
  |some s=>
   rw [c1] at hs;have hp:(s.r.l.get s.r.l.first 200).length≤100:=by
    have h9:=List.all_eq_true.1 h _ (aJR c1);exact of_decide_eq_true h9
   obtain ⟨M,gv2,hw⟩:=zQ c1 hw;obtain ⟨pk,pr,pt,pl,pv,po,mv,M2,gv3,hw⟩:=aJQ hw;refine sv hs hw fun a hs=>?_;refine cl hs (uI hw) fun a W hs hw=>?_;refine sc hs ?_;refine cl hs (oS hw.swap2) fun a W hs hw=>?_;refine sv hs hw fun a hs=>?_;refine cl hs (uI hw.swap2) fun a W hs hw=>?_;refine sc hs ?_;refine cl hs (oS hw.swap2) fun a W hs hw=>?_;have hw:=hw.swap2;refine sx hs hw fun a W hs hw=>?_;refine sg hs hw (fun x a W hs hw=>?_) (g:=nL);refine sv hs hw fun a hs=>?_;rw [show decide (((s.r.l.get s.r.l.first 200).length:Int) > 100)=false from decide_eq_false (by omega)] at hs;refine sv hs hw fun a hs=>?_;have hw:Has 0 w0 W (aP (k.ps ((i:Int)+1)) pk pr pt::aK pr s.r pl pv po mv::aH pl s.r.l::M2::M::R):=hw.sl;refine bQ (i+1) hs (gv2 (gv3 hw)) hi' (by show 7 - (i+1)<7 - i;omega) ⟨rfl,bR (i2 (by omega)),trivial⟩
 ·refine sc hs ?_
  first
   |exact rt0 hs rfl ⟨rfl,hw⟩
   |exact cP hs rfl ⟨rfl,hw⟩
end
section
variable {w0 W:World} {R L:List Res} {H H':Fh} {p q:Nat} {k:WPt} {w w':bC} {u u':cZ} {c id err:Int} {s:cN} {d d':bF}
theorem aJS (hw:Has 0 w0 W (bH H p w::Fz H::R)):
  Calls Tryz.prog 170 ⟨[ptr p]⟩ W fun e W'=>∃H':Fh,e= .returned (.bool (y0 w))∧H.le H'∧Has 0 w0 W' (bH H' p w::Fz H'::R):=by
 obtain ⟨b,h⟩:∃b,nO 5 1 0 w=b:=⟨_,rfl⟩
 rw [show y0 w=b from h];refine enter Tryz.func170 Tryz.ntmps170 rfl rfl fun a hs=>?_;refine sv hs hw fun a hs=>?_;refine bY (σ:=Nat×Int×Fh) (fun z=>[(0,ptr p),(3,.int .i64 z.2.1),(4,.int .i64 ((z.1:Int)+1))]) (fun z=>bH z.2.2 p w::Fz z.2.2::R) (fun z=>z.1≤5∧H.le z.2.2∧nO (5 - z.1) ((z.1:Int)+1) z.2.1 w=b) (fun z=>5 - z.1) (0,0,H) ⟨Nat.zero_le _,Fh.le.refl H,h⟩ hs ⟨rfl,rfl,rfl,trivial⟩ hw ?_;clear hs hw h;rintro ⟨i,at_,H2⟩ a W ⟨hi,hle,h⟩ hs hw;simp only at hi hle h hs hw;refine sv hs hw fun a hs=>?_;refine cI hs (kt:=fun hcc=>?_) (kf:=fun hcc=>?_)
 ·have hi':i<5:=by have:=of_decide_eq_true hcc;omega
  have hg2:((i:Int)+1+1)=((i+1:Nat):Int)+1:=by omega
  rw [show 5 - i=(5 - (i+1))+1 by omega] at h;unfold nO at h;rw [hg2] at h;refine sv hs hw fun a hs=>?_;obtain ⟨k,gv,hw⟩:=mN hw;refine cl hs (jL _ hw) fun a W hs hw=>?_;unfold dQ at hs;cases c1:at? w.clients ((i:Int)+1) with
  |none=>
   rw [c1] at hs;simp only [c1] at h;refine sv hs hw fun a hs=>?_;refine bQ (i+1,at_,H2) hs (gv hw) ⟨hi',hle,h⟩ (by show 5 - (i+1)<5 - i;omega) ⟨rfl,rfl,bR (i2 (by omega)),trivial⟩
  |some u=>
  rw [c1] at hs;simp only [c1] at h;clear gv;obtain ⟨rc,tk,gv⟩:=nR (w0:=w0) (p:=p) (k:=k) (w:=w) c1;have hw:=tk (hw.pm:Has 0 w0 W (aS p k::bB k w::aW k w::aZ k w::aX k w::aM (H2) k.pn w.n::aQ (H2) k.ps k.qs w.servers::aC nameS k.qs w.sd::aT H2 k.pc k.qc w.clients::aC nameQ k.qc w.cd::Fz H2::R));have hw:Has 0 w0 W (cE H2 (k.pc ((i:Int)+1)) (k.qc ((i:Int)+1)) u::Fz H2::aS p k::bB k w::aW k w::aZ k w::aX k w::aM (H2) k.pn w.n::aQ (H2) k.ps k.qs w.servers::aC nameS k.qs w.sd::aT (H2) k.pc k.qc rc::aC nameQ k.qc w.cd::R):=hw.pm;refine sv hs hw fun a hs=>?_;refine aG hs (hc:=y7 hw) (k:=?_);rintro e' W ⟨lv,H3,rfl,hle3,⟨ys,hr,_⟩,hw⟩;refine ⟨_,rfl,fun a hs=>?_⟩;have hw:=hw.lz hle3;obtain ⟨lad,lcap,rfl⟩:=hr.slice;refine sv hs hw fun a hs=>?_;have fin:∀{W},Has 0 w0 W (cE H3 (k.pc ((i:Int)+1)) (k.qc ((i:Int)+1)) u::Fz H3::aS p k::bB k w::aW k w::aZ k w::aX k w::aM (H3) k.pn w.n::aQ (H3) k.ps k.qs w.servers::aC nameS k.qs w.sd::aT (H3) k.pc k.qc rc::aC nameQ k.qc w.cd::R)→Has 0 w0 W (bH H3 p w::Fz H3::R):=fun {W} g=>by
   have g:Has 0 w0 W (cE H3 (k.pc ((i:Int)+1)) (k.qc ((i:Int)+1)) u::aS p k::bB k w::aW k w::aZ k w::aX k w::aM (H3) k.pn w.n::aQ (H3) k.ps k.qs w.servers::aC nameS k.qs w.sd::aT (H3) k.pc k.qc rc::aC nameQ k.qc w.cd::Fz H3::R):=g.pm;exact eI (gv g)
  have next:∀{W:World} {a:Act} {at2:Int},True:=fun {W a at2}=>trivial;clear next;cases c2:decide (((fI u).length:Int) > 0) with
  |true=>
   rw [c2] at hs;have g2:=of_decide_eq_true c2;rw [if_pos (.inl (by omega))] at h;subst h;refine sv hs hw fun a hs=>?_;exact rt1 hs rfl rfl ⟨H3,rfl,hle.trans hle3,fin hw⟩
  |false=>
  rw [c2] at hs;have g2:=of_decide_eq_false c2;refine sv hs hw fun a hs=>?_;cases c3:decide (at_ > 0) with
  |false=>
   rw [c3] at hs;have g3:=of_decide_eq_false c3;rw [if_neg (by rintro (g|⟨g,_⟩) <;> omega)] at h;refine sv hs hw fun a hs=>?_;refine cl hs (uW hw) fun a W hs hw=>?_;refine sv hs hw fun a hs=>?_;refine bQ (i+1,iZ u,H3) hs (fin hw) ⟨hi',hle.trans hle3,h⟩ (by show 5 - (i+1)<5 - i;omega) ⟨rfl,rfl,bR (i2 (by omega)),trivial⟩
  |true=>
  rw [c3] at hs;have g3:=of_decide_eq_true c3;refine sv hs hw fun a hs=>?_;refine cl hs (uW hw) fun a W hs hw=>?_;refine sv hs hw fun a hs=>?_;rw [show (iZ u !=at_)=!(iZ u == at_) from rfl] at hs;cases c4:iZ u == at_ with
  |false=>
   rw [c4] at hs;have g4:¬iZ u=at_:=by simpa using c4
   rw [if_pos (.inr ⟨g3,g4⟩)] at h;subst h;refine sv hs hw fun a hs=>?_;exact rt1 hs rfl rfl ⟨H3,rfl,hle.trans hle3,fin hw⟩
  |true=>
   rw [c4] at hs;have g4:iZ u=at_:=by simpa using c4
   rw [if_neg (by rintro (g|⟨_,g⟩);omega;exact g g4)] at h;refine sv hs hw fun a hs=>?_;refine cl hs (uW hw) fun a W hs hw=>?_;refine sv hs hw fun a hs=>?_;refine bQ (i+1,iZ u,H3) hs (fin hw) ⟨hi',hle.trans hle3,h⟩ (by show 5 - (i+1)<5 - i;omega) ⟨rfl,rfl,bR (i2 (by omega)),trivial⟩
 ·have hi':i=5:=by have:=of_decide_eq_false hcc;omega
  rw [hi',Nat.sub_self] at h;unfold nO at h;subst h;refine sv hs hw fun a hs=>?_;exact rt1 hs rfl rfl ⟨H2,rfl,hle,hw⟩
end
end Go.Proofs.YtgpbngfehfbndaaGreatDoor.Sw
