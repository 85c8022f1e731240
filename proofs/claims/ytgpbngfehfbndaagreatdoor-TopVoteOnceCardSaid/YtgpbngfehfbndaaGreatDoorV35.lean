import Derived.Test.YtgpbngfehfbndaaGreatDoorV33
set_option maxHeartbeats 16000000
set_option linter.all false
set_option maxRecDepth 10000
namespace Go.Proofs.YtgpbngfehfbndaaGreatDoor.Sw
open Go.RowKit Go.Sx
open Go.Proofs.Tryz (prog)
section
variable {w0 W:World} {R L:List Res} {H H':Fh} {p q:Nat} {k:WPt} {w w':bH} {u u':cZ} {c id err:Int} {s:cW} {d d':bM}
theorem uK:Has 0 w0 W (bJ H p w::R)→∃k:WPt,(∀{W},Has 0 w0 W (aR p k::aX k w::aL H k.pn w.n::bC k w::aZ k w::aY k w::aP H k.ps k.qs w.servers::aC nameS k.qs w.sd::aS H k.pc k.qc w.clients::aC nameQ k.qc w.cd::R)→Has 0 w0 W (bJ H p w::R))∧Has 0 w0 W (aR p k::aX k w::aL H k.pn w.n::bC k w::aZ k w::aY k w::aP H k.ps k.qs w.servers::aC nameS k.qs w.sd::aS H k.pc k.qc w.clients::aC nameQ k.qc w.cd::R):=by
 intro hw;obtain ⟨k,hw⟩:=iV hw;exact ⟨k,fun g=>eP (g.pm),hw.pm⟩
theorem yF:Has 0 w0 W (bJ H p w::R)→∃k:WPt,(∀{W},Has 0 w0 W (aR p k::bC k w::aL H k.pn w.n::aX k w::aZ k w::aY k w::aP H k.ps k.qs w.servers::aC nameS k.qs w.sd::aS H k.pc k.qc w.clients::aC nameQ k.qc w.cd::R)→Has 0 w0 W (bJ H p w::R))∧Has 0 w0 W (aR p k::bC k w::aL H k.pn w.n::aX k w::aZ k w::aY k w::aP H k.ps k.qs w.servers::aC nameS k.qs w.sd::aS H k.pc k.qc w.clients::aC nameQ k.qc w.cd::R):=by
 intro hw;obtain ⟨k,hw⟩:=iV hw;exact ⟨k,fun g=>eP (g.pm),hw.pm⟩
theorem aJA (id:Int) (hw:Has 0 w0 W (bJ H p w::R)):
  Calls prog 29 ⟨[ptr p,.int .i64 id]⟩ W fun e W'=>∃f:Int→Nat,e= .returned (dX f w.clients id)∧True∧Has 0 w0 W' (bJ H p w::R):=by
 obtain ⟨k,gv,hw⟩:=uK hw;refine (nD id hw).mono ?_;rintro e W ⟨rfl,hw⟩;exact ⟨k.pc,rfl,trivial,gv hw⟩
theorem aCq (id:Int) (hw:Has 0 w0 W (bJ H p w::R)):
  Calls prog 19 ⟨[ptr p,.int .i64 id]⟩ W fun e W'=>∃f:Int→Nat,e= .returned (dX f w.servers id)∧True∧Has 0 w0 W' (bJ H p w::R):=by
 obtain ⟨k,gv,hw⟩:=yF hw;refine (nC id hw).mono ?_;rintro e W ⟨rfl,hw⟩;exact ⟨k.ps,rfl,trivial,gv hw⟩
theorem aCr {f:bH→Int→Int→Option (bH×Int)} {g:FuncId} (hg:callee prog g=true) (hf:∀{W:World} {H:Fh} {w w':bH} {c s err:Int} {R:List Res},f w c s=some (w',err)→(fr w0).le H→Has 0 w0 W (bJ H p w::Fz H::R)→Calls prog g ⟨[ptr p,.int .i64 c,.int .i64 s]⟩ W fun e W'=>∃H':Fh,e= .returned (.int .i64 err)∧H.le H'∧Has 0 w0 W' (bJ H' p w'::Fz H'::R))
  (hn:∀w c s,at? w.clients c=none∨at? w.servers s=none→f w c s=some (w,12)) (h:xR f w=some w') (hH:(fr w0).le H) (hw:Has 0 w0 W (bJ H p w::Fz H::R)):
  Calls prog 169 ⟨[ptr p,.func (.func g) ⟨[ptr p]⟩ ⟨[]⟩]⟩ W fun e W'=>∃H':Fh,e= .returned (.tuple ⟨[]⟩)∧H.le H'∧Has 0 w0 W' (bJ H' p w'::Fz H'::R):=by
 refine en Tryz.func169 Tryz.ntmps169 fun a hs=>?_;refine sv hs hw fun a hs=>?_;refine bX (σ:=Nat×bH×Fh) (fun z=>[(0,ptr p),(1,.func (.func g) ⟨[ptr p]⟩ ⟨[]⟩),(4,.int .i64 ((z.1:Int)+1))]) (fun z=>bJ z.2.2 p z.2.1::Fz z.2.2::R) (fun z=>z.1≤5∧H.le z.2.2∧tP f (5 - z.1) ((z.1:Int)+1) z.2.1=some w') (fun z=>5 - z.1) (0,w,H) ⟨Nat.zero_le _,Fh.le.refl H,h⟩ hs ⟨rfl,rfl,rfl,trivial⟩ hw ?_;clear hs hw h;rintro ⟨i,w2,H2⟩ a W ⟨hi,hle,h⟩ hs hw;simp only at hi hle h hs hw;refine sv hs hw fun a hs=>?_;refine cI hs (kt:=fun hcc=>?_) (kf:=fun hcc=>?_)
 ·have hi':i<5:=by have:=of_decide_eq_true hcc;omega
  rw [show 5 - i=(5 - (i+1))+1 by omega] at h;unfold tP at h;obtain ⟨w3,h1,h2⟩:=Option.bind_eq_some_iff.1 h;refine sv hs hw fun a hs=>?_;refine bX (σ:=Nat×bH×Fh) (fun z=>[(0,ptr p),(1,.func (.func g) ⟨[ptr p]⟩ ⟨[]⟩),(4,.int .i64 ((i:Int)+1)),(5,.int .i64 ((z.1:Int)+1))]) (fun z=>bJ z.2.2 p z.2.1::Fz z.2.2::R) (fun z=>z.1≤7∧H.le z.2.2∧tO f ((i:Int)+1) (7 - z.1) ((z.1:Int)+1) z.2.1=some w3) (fun z=>7 - z.1) (0,w2,H2) ⟨Nat.zero_le _,hle,h1⟩ hs ⟨rfl,rfl,rfl,rfl,trivial⟩ hw ?_;clear hs hw h1 h hle hcc;rintro ⟨j,w4,H4⟩ a W ⟨hj,hle,h⟩ hs hw;simp only at hj hle h hs hw;refine sv hs hw fun a hs=>?_;refine cI hs (kt:=fun hcc=>?_) (kf:=fun hcc=>?_)
  ·have hj':j<7:=by have:=of_decide_eq_true hcc;omega
   rw [show 7 - j=(7 - (j+1))+1 by omega] at h;unfold tO at h;obtain ⟨⟨w5,er⟩,h3,h4⟩:=Option.bind_eq_some_iff.1 h;have hg2:((j:Int)+1+1)=((j+1:Nat):Int)+1:=by omega
   rw [hg2] at h4;refine sv hs hw fun a hs=>?_;refine cle hs (aJA _ hw) fun f1 a W _ hs hw=>?_;unfold dX at hs;cases c1:at? w4.clients ((i:Int)+1) with
   |none=>
    rw [c1] at hs;rw [hn _ _ _ (.inl c1)] at h3;injection h3 with h3;injection h3 with e1 e2;subst e1;refine sv hs hw fun a hs=>?_;refine bS (j+1,w4,H4) hs hw ⟨hj',hle,h4⟩ (by show 7 - (j+1)<7 - j;omega) ⟨rfl,rfl,rfl,bU (i2 (by omega)),trivial⟩
   |some u=>
   rw [c1] at hs;refine sv hs hw fun a hs=>?_;refine cle hs (aCq _ hw) fun f2 a W _ hs hw=>?_;unfold dX at hs;cases c2:at? w4.servers ((j:Int)+1) with
   |none=>
    rw [c2] at hs;rw [hn _ _ _ (.inr c2)] at h3;injection h3 with h3;injection h3 with e1 e2;subst e1;refine sv hs hw fun a hs=>?_;refine bS (j+1,w4,H4) hs hw ⟨hj',hle,h4⟩ (by show 7 - (j+1)<7 - j;omega) ⟨rfl,rfl,rfl,bU (i2 (by omega)),trivial⟩
   |some s=>
   rw [c2] at hs;refine sv hs hw fun a hs=>?_;refine aIz hs hg (show Calls prog g ⟨[ptr p] ++ [.int .i64 ((i:Int)+1),.int .i64 ((j:Int)+1)]⟩ W _ from hf h3 (hH.trans hle) hw) (k:=?_);rintro e' W ⟨H5,rfl,hle5,hw⟩;refine ⟨_,rfl,fun a hs=>?_⟩;refine sv hs hw fun a hs=>?_;refine bS (j+1,w5,H5) hs hw ⟨hj',hle.trans hle5,h4⟩ (by show 7 - (j+1)<7 - j;omega) ⟨rfl,rfl,rfl,bU (i2 (by omega)),trivial⟩
  ·have hj':j=7:=by have:=of_decide_eq_false hcc;omega
   rw [hj',Nat.sub_self] at h;injection h with h;subst h;have hg2:((i:Int)+1+1)=((i+1:Nat):Int)+1:=by omega
   rw [hg2] at h2;refine sv hs hw fun a hs=>?_;refine bS (i+1,w4,H4) hs hw ⟨hi',hle,h2⟩ (by show 5 - (i+1)<5 - i;omega) ⟨rfl,rfl,bU (i2 (by omega)),trivial⟩
 ·have hi':i=5:=by have:=of_decide_eq_false hcc;omega
  rw [hi',Nat.sub_self] at h;injection h with h;subst h;refine sc hs ?_
  first
   |exact rt0 hs rfl ⟨H2,rfl,hle,hw⟩
   |exact cO hs rfl ⟨H2,rfl,hle,hw⟩
end
section
variable {w0 W:World} {R L:List Res} {H H':Fh} {p q:Nat} {k:WPt} {w w':bH} {u u':cZ} {c id err:Int} {s:cW} {d d':bM}
theorem aJB (hw:Has 0 w0 W (cE H p q s::R)):∃pk pr pt pl pv po mv M,(∀{W R},Has 0 w0 W (aQ p pk pr pt::aJ pr s.r pl pv po mv::aG pl s.r.l::M::R)→Has 0 w0 W (cE H p q s::R))∧Has 0 w0 W (aQ p pk pr pt::aJ pr s.r pl pv po mv::aG pl s.r.l::M::R):=by
 obtain ⟨h1,h2,pk,pr,pt,hw⟩:=kI hw;have hw:Has 0 w0 W (aE H pr s.r::aQ p pk pr pt::aW pk q s.k::aN H pt s.t::R):=hw.pm;obtain ⟨pl,pv,po,mv,hw⟩:=dG hw;refine ⟨pk,pr,pt,pl,pv,po,mv,fH [aW pk q s.k,VoR pv s.r.v,ToR po s.r.t,aD H mv s.r.out.msgs,aN H pt s.t],fun {W R} g=>?_,?_⟩
 ·have g:Has 0 w0 W (fH [aW pk q s.k,VoR pv s.r.v,ToR po s.r.t,aD H mv s.r.out.msgs,aN H pt s.t]::aQ p pk pr pt::aJ pr s.r pl pv po mv::aG pl s.r.l::R):=g.pm;have g:=l7 g;have g:Has 0 w0 W (aJ pr s.r pl pv po mv::aG pl s.r.l::VoR pv s.r.v::ToR po s.r.t::aD H mv s.r.out.msgs::aQ p pk pr pt::aW pk q s.k::aN H pt s.t::R):=g.pm;have g:=cD g;exact jF (g.pm) h1 h2
 ·have g:Has 0 w0 W ([aW pk q s.k,VoR pv s.r.v,ToR po s.r.t,aD H mv s.r.out.msgs,aN H pt s.t] ++ aQ p pk pr pt::aJ pr s.r pl pv po mv::aG pl s.r.l::R):=hw.pm;exact (jH g).pm
theorem aJC (hs:at? w.servers id=some s) (hw:Has 0 w0 W (aR p k::bC k w::aL H k.pn w.n::aX k w::aZ k w::aY k w::aP H k.ps k.qs w.servers::aC nameS k.qs w.sd::aS H k.pc k.qc w.clients::aC nameQ k.qc w.cd::R)):∃M,(∀{W R},Has 0 w0 W (cE H (k.ps id) (k.qs id) s::M::R)→Has 0 w0 W (bJ H p w::R))∧Has 0 w0 W (cE H (k.ps id) (k.qs id) s::M::R):=by
 obtain ⟨rs,a1,a2⟩:=kM (w0:=w0) hs;refine ⟨fH [aR p k,bC k w,aL H k.pn w.n,aX k w,aZ k w,aY k w,aP H k.ps k.qs rs,aC nameS k.qs w.sd,aS H k.pc k.qc w.clients,aC nameQ k.qc w.cd],fun {W R} g=>?_,?_⟩
 ·have g:=l7 g.swap2;have g:Has 0 w0 W (cE H (k.ps id) (k.qs id) s::aP H k.ps k.qs rs::aR p k::bC k w::aX k w::aZ k w::aY k w::aL H k.pn w.n::aC nameS k.qs w.sd::aS H k.pc k.qc w.clients::aC nameQ k.qc w.cd::R):=g.pm;have g:Has 0 w0 W (aP H k.ps k.qs (cH w.servers id s)::aR p k::bC k w::aX k w::aZ k w::aY k w::aL H k.pn w.n::aC nameS k.qs w.sd::aS H k.pc k.qc w.clients::aC nameQ k.qc w.cd::R):=a2 g;rw [oO hs] at g;exact eP (k:=k) (g.pm)
 ·have g:Has 0 w0 W (aP H k.ps k.qs w.servers::aR p k::bC k w::aL H k.pn w.n::aX k w::aZ k w::aY k w::aC nameS k.qs w.sd::aS H k.pc k.qc w.clients::aC nameQ k.qc w.cd::R):=hw.pm;have g:Has 0 w0 W (cE H (k.ps id) (k.qs id) s::aP H k.ps k.qs rs::aR p k::bC k w::aL H k.pn w.n::aX k w::aZ k w::aY k w::aC nameS k.qs w.sd::aS H k.pc k.qc w.clients::aC nameQ k.qc w.cd::R):=a1 g;have g:Has 0 w0 W ([aR p k,bC k w,aL H k.pn w.n,aX k w,aZ k w,aY k w,aP H k.ps k.qs rs,aC nameS k.qs w.sd,aS H k.pc k.qc w.clients,aC nameQ k.qc w.cd] ++ cE H (k.ps id) (k.qs id) s::R):=g.pm;exact (jH g).swap2
theorem aJD {α:Type} {l:List (Int×α)} {k:Int} {v:α} (h:at? l k=some v):(k,v)∈l:=by
 obtain ⟨l1,l2,e,_⟩:=oH h;rw [e];simp
theorem aCs (h:qW w=true) (hw:Has 0 w0 W (bJ H p w::R)):
  Calls prog 168 ⟨[ptr p]⟩ W fun e W'=>e= .returned (.tuple ⟨[]⟩)∧Has 0 w0 W' (bJ H p w::R):=by
 refine en Tryz.func168 Tryz.ntmps168 fun a hs=>?_;refine sv hs hw fun a hs=>?_;refine bX (σ:=Nat) (fun z=>[(0,ptr p),(2,.int .i64 ((z:Int)+1))]) (fun z=>bJ H p w::R) (fun z=>z≤7) (fun z=>7 - z) 0 (Nat.zero_le _) hs ⟨rfl,rfl,trivial⟩ hw ?_;clear hs hw;rintro i a W hi hs hw;refine sv hs hw fun a hs=>?_;refine cI hs (kt:=fun hcc=>?_) (kf:=fun hcc=>?_)
 ·have hi':i<7:=by have:=of_decide_eq_true hcc;omega
  refine sv hs hw fun a hs=>?_;obtain ⟨k,gv,hw⟩:=yF hw;refine cl hs (nC _ hw) fun a W hs hw=>?_;unfold dX at hs;cases c1:at? w.servers ((i:Int)+1) with
  |none=>
   rw [c1] at hs;refine sv hs hw fun a hs=>?_;refine bS (i+1) hs (gv hw) hi' (by show 7 - (i+1)<7 - i;omega) ⟨rfl,bU (i2 (by omega)),trivial⟩
  |some s=>
   rw [c1] at hs;have hp:(s.r.l.get s.r.l.first 200).length≤100:=by
    have h9:=List.all_eq_true.1 h _ (aJD c1);exact of_decide_eq_true h9
   obtain ⟨M,gv2,hw⟩:=aJC c1 hw;obtain ⟨pk,pr,pt,pl,pv,po,mv,M2,gv3,hw⟩:=aJB hw;refine sv hs hw fun a hs=>?_;refine cl hs (xN hw) fun a W hs hw=>?_;refine sc hs ?_;refine cl hs (qR hw.swap2) fun a W hs hw=>?_;refine sv hs hw fun a hs=>?_;refine cl hs (xN hw.swap2) fun a W hs hw=>?_;refine sc hs ?_;refine cl hs (qR hw.swap2) fun a W hs hw=>?_;have hw:=hw.swap2;refine sx hs hw fun a W hs hw=>?_;refine sg hs hw (fun x a W hs hw=>?_) (g:=mZ);refine sv hs hw fun a hs=>?_;rw [show decide (((s.r.l.get s.r.l.first 200).length:Int) > 100)=false from decide_eq_false (by omega)] at hs;refine sv hs hw fun a hs=>?_;have hw:Has 0 w0 W (aQ (k.ps ((i:Int)+1)) pk pr pt::aJ pr s.r pl pv po mv::aG pl s.r.l::M2::M::R):=hw.sl;refine bS (i+1) hs (gv2 (gv3 hw)) hi' (by show 7 - (i+1)<7 - i;omega) ⟨rfl,bU (i2 (by omega)),trivial⟩
 ·refine sc hs ?_
  first
   |exact rt0 hs rfl ⟨rfl,hw⟩
   |exact cO hs rfl ⟨rfl,hw⟩
end
section
variable {w0 W:World} {R L:List Res} {H H':Fh} {p q:Nat} {k:WPt} {w w':bH} {u u':cZ} {c id err:Int} {s:cW} {d d':bM}
theorem aJE (hw:Has 0 w0 W (bJ H p w::Fz H::R)):
  Calls prog 170 ⟨[ptr p]⟩ W fun e W'=>∃H':Fh,e= .returned (.bool (xS w))∧H.le H'∧Has 0 w0 W' (bJ H' p w::Fz H'::R):=by
 obtain ⟨b,h⟩:∃b,m8 5 1 0 w=b:=⟨_,rfl⟩
 rw [show xS w=b from h];refine en Tryz.func170 Tryz.ntmps170 fun a hs=>?_;refine sv hs hw fun a hs=>?_;refine bX (σ:=Nat×Int×Fh) (fun z=>[(0,ptr p),(3,.int .i64 z.2.1),(4,.int .i64 ((z.1:Int)+1))]) (fun z=>bJ z.2.2 p w::Fz z.2.2::R) (fun z=>z.1≤5∧H.le z.2.2∧m8 (5 - z.1) ((z.1:Int)+1) z.2.1 w=b) (fun z=>5 - z.1) (0,0,H) ⟨Nat.zero_le _,Fh.le.refl H,h⟩ hs ⟨rfl,rfl,rfl,trivial⟩ hw ?_;clear hs hw h;rintro ⟨i,at_,H2⟩ a W ⟨hi,hle,h⟩ hs hw;simp only at hi hle h hs hw;refine sv hs hw fun a hs=>?_;refine cI hs (kt:=fun hcc=>?_) (kf:=fun hcc=>?_)
 ·have hi':i<5:=by have:=of_decide_eq_true hcc;omega
  have hg2:((i:Int)+1+1)=((i+1:Nat):Int)+1:=by omega
  rw [show 5 - i=(5 - (i+1))+1 by omega] at h;unfold m8 at h;rw [hg2] at h;refine sv hs hw fun a hs=>?_;obtain ⟨k,gv,hw⟩:=uK hw;refine cl hs (nD _ hw) fun a W hs hw=>?_;unfold dX at hs;cases c1:at? w.clients ((i:Int)+1) with
  |none=>
   rw [c1] at hs;simp only [c1] at h;refine sv hs hw fun a hs=>?_;refine bS (i+1,at_,H2) hs (gv hw) ⟨hi',hle,h⟩ (by show 5 - (i+1)<5 - i;omega) ⟨rfl,rfl,bU (i2 (by omega)),trivial⟩
  |some u=>
  rw [c1] at hs;simp only [c1] at h;clear gv;obtain ⟨rc,tk,gv⟩:=yA (w0:=w0) (p:=p) (k:=k) (w:=w) c1;have hw:=tk (hw.pm:Has 0 w0 W (aR p k::bC k w::aX k w::aZ k w::aY k w::aL (H2) k.pn w.n::aP (H2) k.ps k.qs w.servers::aC nameS k.qs w.sd::aS H2 k.pc k.qc w.clients::aC nameQ k.qc w.cd::Fz H2::R));have hw:Has 0 w0 W (cQ H2 (k.pc ((i:Int)+1)) (k.qc ((i:Int)+1)) u::Fz H2::aR p k::bC k w::aX k w::aZ k w::aY k w::aL (H2) k.pn w.n::aP (H2) k.ps k.qs w.servers::aC nameS k.qs w.sd::aS (H2) k.pc k.qc rc::aC nameQ k.qc w.cd::R):=hw.pm;refine sv hs hw fun a hs=>?_;refine aH hs (hc:=aCL hw) (k:=?_);rintro e' W ⟨lv,H3,rfl,hle3,⟨ys,hr,_⟩,hw⟩;refine ⟨_,rfl,fun a hs=>?_⟩;have hw:=hw.lz hle3;obtain ⟨lad,lcap,rfl⟩:=hr.slice;refine sv hs hw fun a hs=>?_;have fin:∀{W},Has 0 w0 W (cQ H3 (k.pc ((i:Int)+1)) (k.qc ((i:Int)+1)) u::Fz H3::aR p k::bC k w::aX k w::aZ k w::aY k w::aL (H3) k.pn w.n::aP (H3) k.ps k.qs w.servers::aC nameS k.qs w.sd::aS (H3) k.pc k.qc rc::aC nameQ k.qc w.cd::R)→Has 0 w0 W (bJ H3 p w::Fz H3::R):=fun {W} g=>by
   have g:Has 0 w0 W (cQ H3 (k.pc ((i:Int)+1)) (k.qc ((i:Int)+1)) u::aR p k::bC k w::aX k w::aZ k w::aY k w::aL (H3) k.pn w.n::aP (H3) k.ps k.qs w.servers::aC nameS k.qs w.sd::aS (H3) k.pc k.qc rc::aC nameQ k.qc w.cd::Fz H3::R):=g.pm;exact eP (gv g)
  have next:∀{W:World} {a:Act} {at2:Int},True:=fun {W a at2}=>trivial;clear next;cases c2:decide (((iD u).length:Int) > 0) with
  |true=>
   rw [c2] at hs;have g2:=of_decide_eq_true c2;rw [if_pos (.inl (by omega))] at h;subst h;refine sv hs hw fun a hs=>?_;exact rt1 hs rfl rfl ⟨H3,rfl,hle.trans hle3,fin hw⟩
  |false=>
  rw [c2] at hs;have g2:=of_decide_eq_false c2;refine sv hs hw fun a hs=>?_;cases c3:decide (at_ > 0) with
  |false=>
   rw [c3] at hs;have g3:=of_decide_eq_false c3;rw [if_neg (by rintro (g|⟨g,_⟩) <;> omega)] at h;refine sv hs hw fun a hs=>?_;refine cl hs (tR hw) fun a W hs hw=>?_;refine sv hs hw fun a hs=>?_;refine bS (i+1,iU u,H3) hs (fin hw) ⟨hi',hle.trans hle3,h⟩ (by show 5 - (i+1)<5 - i;omega) ⟨rfl,rfl,bU (i2 (by omega)),trivial⟩
  |true=>
  rw [c3] at hs;have g3:=of_decide_eq_true c3;refine sv hs hw fun a hs=>?_;refine cl hs (tR hw) fun a W hs hw=>?_;refine sv hs hw fun a hs=>?_;rw [show (iU u !=at_)=!(iU u == at_) from rfl] at hs;cases c4:iU u == at_ with
  |false=>
   rw [c4] at hs;have g4:¬iU u=at_:=by simpa using c4
   rw [if_pos (.inr ⟨g3,g4⟩)] at h;subst h;refine sv hs hw fun a hs=>?_;exact rt1 hs rfl rfl ⟨H3,rfl,hle.trans hle3,fin hw⟩
  |true=>
   rw [c4] at hs;have g4:iU u=at_:=by simpa using c4
   rw [if_neg (by rintro (g|⟨_,g⟩);omega;exact g g4)] at h;refine sv hs hw fun a hs=>?_;refine cl hs (tR hw) fun a W hs hw=>?_;refine sv hs hw fun a hs=>?_;refine bS (i+1,iU u,H3) hs (fin hw) ⟨hi',hle.trans hle3,h⟩ (by show 5 - (i+1)<5 - i;omega) ⟨rfl,rfl,bU (i2 (by omega)),trivial⟩
 ·have hi':i=5:=by have:=of_decide_eq_false hcc;omega
  rw [hi',Nat.sub_self] at h;unfold m8 at h;subst h;refine sv hs hw fun a hs=>?_;exact rt1 hs rfl rfl ⟨H2,rfl,hle,hw⟩
end
section
variable {w0 W:World} {R L:List Res} {H H':Fh} {p q:Nat} {k:WPt} {w w':bH} {u u':cZ} {c id err:Int} {s:cW} {d d':bM}
theorem aJF (w:bH) (c s:Int) (h:at? w.clients c=none∨at? w.servers s=none):qV w c s=some (w,12):=by
 unfold qV;rcases h with h|h
 ·rw [h]
 ·cases h2:at? w.clients c <;> simp only [h]
theorem aJG (w:bH) (c s:Int) (h:at? w.clients c=none∨at? w.servers s=none):oF w c s=some (w,12):=by
 unfold oF;rcases h with h|h
 ·rw [h]
 ·cases h2:at? w.clients c <;> simp only [h]
theorem aJH:callee prog 57=true:=by kernel_rfl
theorem aJI:callee prog 60=true:=by kernel_rfl
theorem aCt {b:Bool} (h:l0 5000 w=some (w',b)) (hH:(fr w0).le H) (hT:Tabs w0) (hw:Has 0 w0 W (bJ H p w::Fz H::R)):
  Calls prog 62 ⟨[ptr p,.int .i64 5000]⟩ W fun e W'=>∃H':Fh,e= .returned (.bool b)∧H.le H'∧Has 0 w0 W' (bJ H' p w'::Fz H'::R):=aCo (n:=5000) (by omega) h hH hT hw
theorem aJJ {b:Bool} (h:round w=some (w',b)) (hH:(fr w0).le H) (hT:Tabs w0) (hw:Has 0 w0 W (bJ H p w::Fz H::R)):
  Calls prog 95 ⟨[ptr p]⟩ W fun e W'=>∃H':Fh,e= .returned (.bool b)∧H.le H'∧Has 0 w0 W' (bJ H' p w'::Fz H'::R):=by
 unfold round at h;cases hp:qW w with
 |false=>rw [hp,if_neg (by simp)] at h;cases h
 |true=>
 rw [hp,if_pos rfl] at h;obtain ⟨w2,h1,h2⟩:=Option.bind_eq_some_iff.1 h;obtain ⟨w3,h3,h4⟩:=Option.map_eq_some_iff.1 h2;injection h4 with e1 e2;subst e1 e2;clear h h2;refine en Tryz.func95 Tryz.ntmps95 fun a hs=>?_;refine sv hs hw fun a hs=>?_;refine cl hs (aCs hp hw) fun a W hs hw=>?_;refine sv hs hw fun a hs=>?_;refine bX (σ:=Nat×bH×Fh) (fun z=>[(0,ptr p),(3,.int .i64 ((z.1:Int)+1))]) (fun z=>bJ z.2.2 p z.2.1::Fz z.2.2::R) (fun z=>z.1≤7∧H.le z.2.2∧qX (7 - z.1) ((z.1:Int)+1) z.2.1=some w2) (fun z=>7 - z.1) (0,w,H) ⟨Nat.zero_le _,Fh.le.refl H,h1⟩ hs ⟨rfl,rfl,trivial⟩ hw ?_;clear hs hw h1 hp;rintro ⟨i,w4,H2⟩ a W ⟨hi,hle,h⟩ hs hw;simp only at hi hle h hs hw;refine sv hs hw fun a hs=>?_;refine cI hs (kt:=fun hcc=>?_) (kf:=fun hcc=>?_)
 ·have hi':i<7:=by have:=of_decide_eq_true hcc;omega
  have hg2:((i:Int)+1+1)=((i+1:Nat):Int)+1:=by omega
  rw [show 7 - i=(7 - (i+1))+1 by omega] at h;unfold qX at h;rw [hg2] at h;refine sv hs hw fun a hs=>?_;refine cle hs (aCq _ hw) fun f1 a W _ hs hw=>?_;unfold dX at hs;cases c1:at? w4.servers ((i:Int)+1) with
  |none=>
   rw [c1] at hs;simp only [c1] at h;refine sv hs hw fun a hs=>?_;refine bS (i+1,w4,H2) hs hw ⟨hi',hle,h⟩ (by show 7 - (i+1)<7 - i;omega) ⟨rfl,bU (i2 (by omega)),trivial⟩
  |some s=>
  rw [c1] at hs;simp only [c1] at h;obtain ⟨⟨w5,er⟩,h1,h2⟩:=Option.bind_eq_some_iff.1 h;obtain ⟨⟨w6,b6⟩,h5,h6⟩:=Option.bind_eq_some_iff.1 h2;refine sv hs hw fun a hs=>?_;refine aH hs (hc:=xY h1 (hH.trans hle) hT hw) (k:=?_);rintro e' W ⟨H5,rfl,hle5,hw⟩;refine ⟨_,rfl,fun a hs=>?_⟩;refine sv hs hw fun a hs=>?_;refine aH hs (hc:=aCt h5 (hH.trans (hle.trans hle5)) hT hw) (k:=?_);rintro e' W ⟨H6,rfl,hle6,hw⟩;refine ⟨_,rfl,fun a hs=>?_⟩;refine sv hs hw fun a hs=>?_;refine bS (i+1,w6,H6) hs hw ⟨hi',(hle.trans hle5).trans hle6,h6⟩ (by show 7 - (i+1)<7 - i;omega) ⟨rfl,bU (i2 (by omega)),trivial⟩
 ·have hi':i=7:=by have:=of_decide_eq_false hcc;omega
  rw [hi',Nat.sub_self] at h;injection h with h;subst h;refine sv hs hw fun a hs=>?_;refine bX (σ:=Nat×bH×Fh) (fun z=>[(0,ptr p),(21,.int .i64 (z.1:Int))]) (fun z=>bJ z.2.2 p z.2.1::Fz z.2.2::R) (fun z=>z.1≤40∧H.le z.2.2∧mH (40 - z.1) z.2.1=some w3) (fun z=>40 - z.1) (0,w4,H2) ⟨Nat.zero_le _,hle,h3⟩ hs ⟨rfl,rfl,trivial⟩ hw ?_;clear hs hw h3 hle hcc;rintro ⟨j,w5,H5⟩ a W ⟨hj,hle,h⟩ hs hw;simp only at hj hle h hs hw;refine sv hs hw fun a hs=>?_;refine cI hs (kt:=fun hcc=>?_) (kf:=fun hcc=>?_)
  ·have hj':j<40:=by have:=of_decide_eq_true hcc;omega
   rw [show 40 - j=(40 - (j+1))+1 by omega] at h;unfold mH at h;obtain ⟨w6,h6,h⟩:=Option.bind_eq_some_iff.1 h;obtain ⟨⟨w7,b7⟩,h7,h⟩:=Option.bind_eq_some_iff.1 h;obtain ⟨w8,h8,h⟩:=Option.bind_eq_some_iff.1 h;cases hp:qW w8 with
   |false=>rw [hp,if_neg (by simp)] at h;cases h
   |true=>
   rw [hp,if_pos rfl] at h;refine sv hs hw fun a hs=>?_;refine aCp hs fun a hs=>?_;refine aH hs (hc:=aCr aJH (fun h hH hw=>aIo h hH hT hw) aJF h6 (hH.trans hle) hw) (k:=?_);rintro e' W ⟨H6,rfl,hle6,hw⟩;refine ⟨_,rfl,fun a hs=>?_⟩;refine sv hs hw fun a hs=>?_;refine aH hs (hc:=aCt h7 (hH.trans (hle.trans hle6)) hT hw) (k:=?_);rintro e' W ⟨H7,rfl,hle7,hw⟩;refine ⟨_,rfl,fun a hs=>?_⟩;refine sv hs hw fun a hs=>?_;refine aCp hs fun a hs=>?_;refine aH hs (hc:=aCr aJI (fun h hH hw=>aIm h hH hT hw) aJG h8 (hH.trans ((hle.trans hle6).trans hle7)) hw) (k:=?_);rintro e' W ⟨H8,rfl,hle8,hw⟩;refine ⟨_,rfl,fun a hs=>?_⟩;refine sv hs hw fun a hs=>?_;refine cl hs (aCs hp hw) fun a W hs hw=>?_;refine sv hs hw fun a hs=>?_;refine bS (j+1,w8,H8) hs hw ⟨hj',((hle.trans hle6).trans hle7).trans hle8,h⟩ (by show 40 - (j+1)<40 - j;omega) ⟨rfl,bU (i1 (by omega)),trivial⟩
  ·have hj':j=40:=by have:=of_decide_eq_false hcc;omega
   rw [hj',Nat.sub_self] at h;injection h with h;subst h;refine sv hs hw fun a hs=>?_;refine aH hs (hc:=aJE hw) (k:=?_);rintro e' W ⟨H6,rfl,hle6,hw⟩;refine ⟨_,rfl,fun a hs=>?_⟩;refine sv hs hw fun a hs=>?_;exact rt1 hs rfl rfl ⟨H6,rfl,hle.trans hle6,hw⟩
theorem aJK {n:Nat} {b:Bool} (hn:n≤40) (h:rest n w=some (w',b)) (hH:(fr w0).le H) (hT:Tabs w0) (hw:Has 0 w0 W (bJ H p w::Fz H::R)):
  Calls prog 53 ⟨[ptr p,.int .i64 (n:Int)]⟩ W fun e W'=>∃H':Fh,e= .returned (.bool b)∧H.le H'∧Has 0 w0 W' (bJ H' p w'::Fz H'::R):=by
 refine en Tryz.func53 Tryz.ntmps53 fun a hs=>?_;refine sv hs hw fun a hs=>?_;refine kU hs fun a hs=>?_;refine kT hs fun a hs=>?_;rw [show min (max (n:Int) 0) 40=(n:Int) by omega] at hs;refine sv hs hw fun a hs=>?_;refine bX (σ:=Nat×bH×Fh) (fun z=>[(0,ptr p),(7,.int .i64 (n:Int)),(8,.int .i64 (z.1:Int))]) (fun z=>bJ z.2.2 p z.2.1::Fz z.2.2::R) (fun z=>z.1≤n∧H.le z.2.2∧rest (n - z.1) z.2.1=some (w',b)) (fun z=>n - z.1) (0,w,H) ⟨Nat.zero_le _,Fh.le.refl H,h⟩ hs ⟨rfl,rfl,rfl,trivial⟩ hw ?_;clear hs hw h;rintro ⟨i,w2,H2⟩ a W ⟨hi,hle,h⟩ hs hw;simp only at hi hle h hs hw;refine sv hs hw fun a hs=>?_;refine cI hs (kt:=fun hcc=>?_) (kf:=fun hcc=>?_)
 ·have hi':i<n:=by simpa using hcc
  rw [show n - i=(n - (i+1))+1 by omega] at h;unfold rest at h;obtain ⟨⟨w3,b3⟩,h1,h2⟩:=Option.bind_eq_some_iff.1 h;refine sv hs hw fun a hs=>?_;refine aH hs (hc:=aJJ h1 (hH.trans hle) hT hw) (k:=?_);rintro e' W ⟨H3,rfl,hle3,hw⟩;refine ⟨_,rfl,fun a hs=>?_⟩;cases b3 with
  |true=>
   rw [if_pos rfl] at h2;injection h2 with h2;injection h2 with e1 e2;subst e1 e2;refine sv hs hw fun a hs=>?_;exact rt1 hs rfl rfl ⟨H3,rfl,hle.trans hle3,hw⟩
  |false=>
   rw [if_neg (by simp)] at h2;refine sv hs hw fun a hs=>?_;refine bS (i+1,w3,H3) hs hw ⟨hi',hle.trans hle3,h2⟩ (by show n - (i+1)<n - i;omega) ⟨rfl,rfl,bU (i1 (by omega)),trivial⟩
 ·have hi':i=n:=by simp at hcc;omega
  rw [hi',Nat.sub_self] at h;unfold rest at h;injection h with h;injection h with e1 e2;subst e1 e2;refine sv hs hw fun a hs=>?_;exact rt1 hs rfl rfl ⟨H2,rfl,hle,hw⟩
end
end Go.Proofs.YtgpbngfehfbndaaGreatDoor.Sw
