/-
  Texts of the proof, one behind the other (part 43).
-/
import Derived.Test.YtgpbngfehfbndaaGreatDoorM42
import Derived.Test.YtgpbngfehfbndaaGreatDoorChecked
import Derived.Test.YtgpbngfehfbndaaGreatDoorProg
set_option maxHeartbeats 16000000
set_option linter.unusedVariables false
set_option maxRecDepth 10000
namespace Go.Proofs.YtgpbngfehfbndaaGreatDoor.Sw
open Go.RowKit Go.Sx
section
variable {w0 W:World} {R L:List Res} {H H':Fh} {p q:Nat} {k:WPt} {w w':bC} {u u':cZ} {c id err:Int} {s:cN} {d d':bF}
theorem i2 {i:Nat} (h:i≤1000):IntKind.i64.wrap ((i:Int)+1+1)=((i+1:Nat):Int)+1:=by rw [IntWalk.i64_in _ (by omega)];omega
theorem rN {α:Type}:∀{l:List (Int×α)} {k:Int} {v:α},at? l k=some v→cK l k v=l
 | [],_,_,h=>by cases h
 |p::l,k,v,h=>by
  unfold at? at h;unfold cK;split at h
  ·rename_i h1;injection h with h;rw [if_pos h1,←h1,←h]
  ·rename_i h1;rw [if_neg h1,rN h]
theorem nR (hs:at? w.clients c=some u):∃rc:List (Int×cZ),(∀{H:Fh} {W R},Has 0 w0 W (aS p k::bB k w::aW k w::aZ k w::aX k w::aM (H) k.pn w.n::aQ (H) k.ps k.qs w.servers::aC nameS k.qs w.sd::aT (H) k.pc k.qc w.clients::aC nameQ k.qc w.cd::R)→Has 0 w0 W (cE H (k.pc c) (k.qc c) u::aS p k::bB k w::aW k w::aZ k w::aX k w::aM (H) k.pn w.n::aQ (H) k.ps k.qs w.servers::aC nameS k.qs w.sd::aT (H) k.pc k.qc rc::aC nameQ k.qc w.cd::R))∧∀{H:Fh} {W R},Has 0 w0 W (cE H (k.pc c) (k.qc c) u::aS p k::bB k w::aW k w::aZ k w::aX k w::aM (H) k.pn w.n::aQ (H) k.ps k.qs w.servers::aC nameS k.qs w.sd::aT (H) k.pc k.qc rc::aC nameQ k.qc w.cd::R)→Has 0 w0 W (aS p k::bB k w::aW k w::aZ k w::aX k w::aM (H) k.pn w.n::aQ (H) k.ps k.qs w.servers::aC nameS k.qs w.sd::aT (H) k.pc k.qc w.clients::aC nameQ k.qc w.cd::R):=by
 obtain ⟨rc,a1,a2⟩:=lT (w0:=w0) hs;refine ⟨rc,fun {H W R} hw=>?_,fun {H W R} hw=>?_⟩
 ·have hw:Has 0 w0 W (aT H k.pc k.qc w.clients::aS p k::bB k w::aW k w::aZ k w::aX k w::aM (H) k.pn w.n::aQ (H) k.ps k.qs w.servers::aC nameS k.qs w.sd::aC nameQ k.qc w.cd::R):=hw.pm;have hw:Has 0 w0 W (cE H (k.pc c) (k.qc c) u::aT H k.pc k.qc rc::aS p k::bB k w::aW k w::aZ k w::aX k w::aM (H) k.pn w.n::aQ (H) k.ps k.qs w.servers::aC nameS k.qs w.sd::aC nameQ k.qc w.cd::R):=a1 hw;exact hw.pm
 ·have hw:Has 0 w0 W (cE H (k.pc c) (k.qc c) u::aT H k.pc k.qc rc::aS p k::bB k w::aW k w::aZ k w::aX k w::aM (H) k.pn w.n::aQ (H) k.ps k.qs w.servers::aC nameS k.qs w.sd::aC nameQ k.qc w.cd::R):=hw.pm;have hw:Has 0 w0 W (aT H k.pc k.qc (cK w.clients c u)::aS p k::bB k w::aW k w::aZ k w::aX k w::aM (H) k.pn w.n::aQ (H) k.ps k.qs w.servers::aC nameS k.qs w.sd::aC nameQ k.qc w.cd::R):=a2 hw;rw [rN hs] at hw;exact hw.pm
theorem zK (hs:at? w.clients c=some u) (hd:at? w.cd c=some d):∃(rc:List (Int×cZ)) (re:List (Int×bF)),(∀{H:Fh} {W R},Has 0 w0 W (aS p k::bB k w::aW k w::aZ k w::aX k w::aM (H) k.pn w.n::aQ (H) k.ps k.qs w.servers::aC nameS k.qs w.sd::aT (H) k.pc k.qc w.clients::aC nameQ k.qc w.cd::R)→Has 0 w0 W (cE H (k.pc c) (k.qc c) u::aB nameQ (k.qc c) d::aS p k::bB k w::aW k w::aZ k w::aX k w::aM (H) k.pn w.n::aQ (H) k.ps k.qs w.servers::aC nameS k.qs w.sd::aT (H) k.pc k.qc rc::aC nameQ k.qc re::R))∧∀{H:Fh} {u':cZ} {d':bF} {W R},Has 0 w0 W (cE H (k.pc c) (k.qc c) u'::aB nameQ (k.qc c) d'::aS p k::bB k w::aW k w::aZ k w::aX k w::aM (H) k.pn w.n::aQ (H) k.ps k.qs w.servers::aC nameS k.qs w.sd::aT (H) k.pc k.qc rc::aC nameQ k.qc re::R)→Has 0 w0 W (aS p k::bB k ({w with clients:=cK w.clients c u',cd:=cK w.cd c d'}:bC)::aW k ({w with clients:=cK w.clients c u',cd:=cK w.cd c d'}:bC)::aZ k ({w with clients:=cK w.clients c u',cd:=cK w.cd c d'}:bC)::aX k ({w with clients:=cK w.clients c u',cd:=cK w.cd c d'}:bC)::aM H k.pn w.n::aQ H k.ps k.qs w.servers::aC nameS k.qs w.sd::aT H k.pc k.qc (cK w.clients c u')::aC nameQ k.qc (cK w.cd c d')::R):=by
 obtain ⟨rc,a1,a2⟩:=lT (w0:=w0) hs;obtain ⟨re,b1,b2⟩:=lT (w0:=w0) hd;refine ⟨rc,re,fun {H W R} hw=>?_,fun {H u' d' W R} hw=>?_⟩
 ·have hw:Has 0 w0 W (aT H k.pc k.qc w.clients::aS p k::bB k w::aW k w::aZ k w::aX k w::aM (H) k.pn w.n::aQ (H) k.ps k.qs w.servers::aC nameS k.qs w.sd::aC nameQ k.qc w.cd::R):=hw.pm;have hw:Has 0 w0 W (cE H (k.pc c) (k.qc c) u::aT H k.pc k.qc rc::aS p k::bB k w::aW k w::aZ k w::aX k w::aM (H) k.pn w.n::aQ (H) k.ps k.qs w.servers::aC nameS k.qs w.sd::aC nameQ k.qc w.cd::R):=a1 hw;have hw:Has 0 w0 W (aC nameQ k.qc w.cd::cE H (k.pc c) (k.qc c) u::aT H k.pc k.qc rc::aS p k::bB k w::aW k w::aZ k w::aX k w::aM (H) k.pn w.n::aQ (H) k.ps k.qs w.servers::aC nameS k.qs w.sd::R):=hw.pm;have hw:Has 0 w0 W (aB nameQ (k.qc c) d::aC nameQ k.qc re::cE H (k.pc c) (k.qc c) u::aT H k.pc k.qc rc::aS p k::bB k w::aW k w::aZ k w::aX k w::aM (H) k.pn w.n::aQ (H) k.ps k.qs w.servers::aC nameS k.qs w.sd::R):=b1 hw;exact hw.pm
 ·have hw:Has 0 w0 W (cE H (k.pc c) (k.qc c) u'::aT H k.pc k.qc rc::aB nameQ (k.qc c) d'::aC nameQ k.qc re::aS p k::bB k w::aW k w::aZ k w::aX k w::aM (H) k.pn w.n::aQ (H) k.ps k.qs w.servers::aC nameS k.qs w.sd::R):=hw.pm;have hw:Has 0 w0 W (aT H k.pc k.qc (cK w.clients c u')::aB nameQ (k.qc c) d'::aC nameQ k.qc re::aS p k::bB k w::aW k w::aZ k w::aX k w::aM (H) k.pn w.n::aQ (H) k.ps k.qs w.servers::aC nameS k.qs w.sd::R):=a2 hw;have hw:Has 0 w0 W (aB nameQ (k.qc c) d'::aC nameQ k.qc re::aT H k.pc k.qc (cK w.clients c u')::aS p k::bB k w::aW k w::aZ k w::aX k w::aM (H) k.pn w.n::aQ (H) k.ps k.qs w.servers::aC nameS k.qs w.sd::R):=hw.pm;have hw:Has 0 w0 W (aC nameQ k.qc (cK w.cd c d')::aT H k.pc k.qc (cK w.clients c u')::aS p k::bB k w::aW k w::aZ k w::aX k w::aM (H) k.pn w.n::aQ (H) k.ps k.qs w.servers::aC nameS k.qs w.sd::R):=b2 hw;have hw:Has 0 w0 W (aS p k::bB k w::aW k w::aZ k w::aX k w::aM (H) k.pn w.n::aQ (H) k.ps k.qs w.servers::aC nameS k.qs w.sd::aT H k.pc k.qc (cK w.clients c u')::aC nameQ k.qc (cK w.cd c d')::R):=hw.pm;show Has 0 w0 W (aS p k::bB k w::aR k.mc (kvs k.pc ((cK w.clients c u').map (·.1)))::aZ k w::aR k.me (kvs k.qc ((cK w.cd c d').map (·.1)))::_);rw [oZ hs,oZ hd];exact hw
theorem aDE {t:dU} {n:Int} (ht:t.rows.length≤1000∧(∀r∈t.rows,mG r=true)∧∀x∈t.f.told,x.2.b.l.length≤8):(gE t n 10).length≤1000∧∀r∈gE t n 10,jV r:=by
 unfold gE;split
 ·exact ⟨by simp,by simp⟩
 ·refine ⟨by rw [List.length_take,List.length_drop];omega,fun r hr=>(oT (ht.2.1 r (List.mem_of_mem_drop (List.mem_of_mem_take hr)))).1⟩
theorem aDF {sid:Int} (h:kU w c sid=some (w',err)) (hH:(fr w0).le H) (hT:Tabs w0) (hw:Has 0 w0 W (aS p k::bB k w::aW k w::aZ k w::aX k w::aM H k.pn w.n::aQ H k.ps k.qs w.servers::aC nameS k.qs w.sd::aT H k.pc k.qc w.clients::aC nameQ k.qc w.cd::Fz H::R)):
  Calls Tryz.prog 60 ⟨[ptr p,.int .i64 c,.int .i64 sid]⟩ W fun e W'=>∃H':Fh,e= .returned (.int .i64 err)∧H.le H'∧Has 0 w0 W' (aS p k::bB k w'::aW k w'::aZ k w'::aX k w'::aM H' k.pn w'.n::aQ H' k.ps k.qs w'.servers::aC nameS k.qs w'.sd::aT H' k.pc k.qc w'.clients::aC nameQ k.qc w'.cd::Fz H'::R):=by
 refine enter Tryz.func60 Tryz.ntmps60 rfl rfl fun a hs=>?_;refine sv hs hw fun a hs=>?_;have hw:Has 0 w0 W (aS p k::aW k w::bB k w::aZ k w::aX k w::aM H k.pn w.n::aQ H k.ps k.qs w.servers::aC nameS k.qs w.sd::aT H k.pc k.qc w.clients::aC nameQ k.qc w.cd::Fz H::R):=hw.pm;refine cl hs (jL c hw) fun a W hs hw=>?_;refine sv hs hw fun a hs=>?_;have hw:Has 0 w0 W (aS p k::bB k w::aW k w::aZ k w::aX k w::aM H k.pn w.n::aQ H k.ps k.qs w.servers::aC nameS k.qs w.sd::aT H k.pc k.qc w.clients::aC nameQ k.qc w.cd::Fz H::R):=hw.pm;refine cl hs (kX sid hw) fun a W hs hw=>?_;unfold kU at h;unfold dQ at hs;cases c1:at? w.clients c with
 |none=>
  simp only [c1] at h;rw [c1] at hs;injection h with h;injection h with e1 e2;subst e1 e2;refine sv hs hw fun a hs=>?_;exact rt1 hs rfl rfl ⟨H,rfl,Fh.le.refl H,hw⟩
 |some u=>
 rw [c1] at hs;cases c2:at? w.servers sid with
 |none=>
  simp only [c1,c2] at h;rw [c2] at hs;injection h with h;injection h with e1 e2;subst e1 e2;refine sv hs hw fun a hs=>?_;exact rt1 hs rfl rfl ⟨H,rfl,Fh.le.refl H,hw⟩
 |some s=>
 rw [c2] at hs;cases c3:at? w.cd c with
 |none=>simp only [c1,c2,c3] at h;cases h
 |some d=>
 simp only [c1,c2,c3] at h;obtain ⟨⟨d2,u2,n2,e2⟩,h1,h2⟩:=Option.map_eq_some_iff.1 h;injection h2 with e3 e4;subst e4;obtain ⟨rc,re,tk,gv⟩:=zK (w0:=w0) (p:=p) (k:=k) (w:=w) c1 c3;obtain ⟨rs,a1,a2⟩:=lT (w0:=w0) c2;have hw:=tk hw;refine sv hs hw fun a hs=>?_;refine cl hs (uW hw) fun a W hs hw=>?_;have hw:Has 0 w0 W (aQ H k.ps k.qs w.servers::Fz H::cE H (k.pc c) (k.qc c) u::aB nameQ (k.qc c) d::aS p k::bB k w::aW k w::aZ k w::aX k w::aM (H) k.pn w.n::aC nameS k.qs w.sd::aT (H) k.pc k.qc rc::aC nameQ k.qc re::R):=hw.pm;have hw:Has 0 w0 W (cC H (k.ps sid) (k.qs sid) s::aQ H k.ps k.qs rs::Fz H::cE H (k.pc c) (k.qc c) u::aB nameQ (k.qc c) d::aS p k::bB k w::aW k w::aZ k w::aX k w::aM (H) k.pn w.n::aC nameS k.qs w.sd::aT (H) k.pc k.qc rc::aC nameQ k.qc re::R):=a1 hw;have ht:=mJ (iY hw).2.1;have hw:Has 0 w0 W (cC H (k.ps sid) (k.qs sid) s::Fz H::aQ H k.ps k.qs rs::cE H (k.pc c) (k.qc c) u::aB nameQ (k.qc c) d::aS p k::bB k w::aW k w::aZ k w::aX k w::aM (H) k.pn w.n::aC nameS k.qs w.sd::aT (H) k.pc k.qc rc::aC nameQ k.qc re::R):=hw.pm;refine aG hs (hc:=aIV (iZ u) hw) (k:=?_);rintro e' W ⟨v',H3,rfl,hle3,hv3,hw⟩;refine ⟨_,rfl,fun a hs=>?_⟩;have hw:=hw.lz hle3;refine sv hs hw fun a hs=>?_;have hw:Has 0 w0 W (cC H3 (k.ps sid) (k.qs sid) s::aQ H3 k.ps k.qs rs::cE H3 (k.pc c) (k.qc c) u::aB nameQ (k.qc c) d::Fz H3::aS p k::bB k w::aW k w::aZ k w::aX k w::aM (H3) k.pn w.n::aC nameS k.qs w.sd::aT (H3) k.pc k.qc rc::aC nameQ k.qc re::R):=hw.pm;have hw:Has 0 w0 W (aQ H3 k.ps k.qs (cK w.servers sid s)::cE H3 (k.pc c) (k.qc c) u::aB nameQ (k.qc c) d::Fz H3::aS p k::bB k w::aW k w::aZ k w::aX k w::aM (H3) k.pn w.n::aC nameS k.qs w.sd::aT (H3) k.pc k.qc rc::aC nameQ k.qc re::R):=a2 hw;rw [rN c2] at hw;have hw:Has 0 w0 W (cE H3 (k.pc c) (k.qc c) u::aB nameQ (k.qc c) d::Fz H3::aQ H3 k.ps k.qs w.servers::aS p k::bB k w::aW k w::aZ k w::aX k w::aM (H3) k.pn w.n::aC nameS k.qs w.sd::aT (H3) k.pc k.qc rc::aC nameQ k.qc re::R):=hw.pm;refine aG hs (hc:=aIh (gE s.t (iZ u) 10) (aDE ht).1 (aDE ht).2 hv3 h1 (hH.trans hle3) hT hw) (k:=?_);rintro e' W ⟨H4,rfl,hle4,hw⟩;refine ⟨_,rfl,fun a hs=>?_⟩;have hw:=hw.lz hle4;refine sv hs hw fun a hs=>?_;refine rt1 hs rfl rfl ⟨H4,rfl,hle3.trans hle4,?_⟩;rw [←e3];have hw:Has 0 w0 W (cE H4 (k.pc c) (k.qc c) u2::aB nameQ (k.qc c) d2::aS p k::bB k w::aW k w::aZ k w::aX k w::aM (H4) k.pn w.n::aQ (H4) k.ps k.qs w.servers::aC nameS k.qs w.sd::aT (H4) k.pc k.qc rc::aC nameQ k.qc re::Fz H4::R):=hw.pm;exact gv hw
theorem aJF {sid:Int} (h:kU w c sid=some (w',err)) (hH:(fr w0).le H) (hT:Tabs w0) (hw:Has 0 w0 W (bH H p w::Fz H::R)):
  Calls Tryz.prog 60 ⟨[ptr p,.int .i64 c,.int .i64 sid]⟩ W fun e W'=>∃H':Fh,e= .returned (.int .i64 err)∧H.le H'∧Has 0 w0 W' (bH H' p w'::Fz H'::R):=by
 obtain ⟨k,hw⟩:=j8 hw;exact (aDF h hH hT hw).mono fun e W ⟨H',e1,hle,hw⟩=>⟨H',e1,hle,eI hw⟩
theorem aJG {u:cZ} (h:gO u=true):∀b∈fI u,nF b=true:=by
 unfold gO at h;simp only [Bool.and_eq_true,decide_eq_true_eq,List.all_eq_true] at h;exact fun b hb=>h.1.1.1.1.2 b (List.mem_of_mem_drop hb)
theorem zL (h:nN w c id=some (w',err)) (hH:(fr w0).le H) (hT:Tabs w0) (hw:Has 0 w0 W (bH H p w::Fz H::R)):
  Calls Tryz.prog 57 ⟨[ptr p,.int .i64 c,.int .i64 id]⟩ W fun e W'=>∃H':Fh,e= .returned (.int .i64 err)∧H.le H'∧Has 0 w0 W' (bH H' p w'::Fz H'::R):=by
 obtain ⟨k,hw⟩:=j8 hw;refine enter Tryz.func57 Tryz.ntmps57 rfl rfl fun a hs=>?_;refine sv hs hw fun a hs=>?_;have hw:Has 0 w0 W (aS p k::aW k w::bB k w::aZ k w::aX k w::aM H k.pn w.n::aQ H k.ps k.qs w.servers::aC nameS k.qs w.sd::aT H k.pc k.qc w.clients::aC nameQ k.qc w.cd::Fz H::R):=hw.pm;refine cl hs (jL c hw) fun a W hs hw=>?_;refine sv hs hw fun a hs=>?_;have hw:Has 0 w0 W (aS p k::bB k w::aW k w::aZ k w::aX k w::aM H k.pn w.n::aQ H k.ps k.qs w.servers::aC nameS k.qs w.sd::aT H k.pc k.qc w.clients::aC nameQ k.qc w.cd::Fz H::R):=hw.pm;refine cl hs (kX id hw) fun a W hs hw=>?_;unfold nN at h;unfold dQ at hs;cases c1:at? w.clients c with
 |none=>
  simp only [c1] at h;rw [c1] at hs;injection h with h;injection h with e1 e2;subst e1 e2;refine sv hs hw fun a hs=>?_;exact rt1 hs rfl rfl ⟨H,rfl,Fh.le.refl H,eI hw⟩
 |some u=>
 rw [c1] at hs;cases c2:at? w.servers id with
 |none=>
  simp only [c1,c2] at h;rw [c2] at hs;injection h with h;injection h with e1 e2;subst e1 e2;refine sv hs hw fun a hs=>?_;exact rt1 hs rfl rfl ⟨H,rfl,Fh.le.refl H,eI hw⟩
 |some s=>
 rw [c2] at hs;cases c3:at? w.sd id with
 |none=>simp only [c1,c2,c3] at h;cases h
 |some d=>
 simp only [c1,c2,c3] at h;obtain ⟨rc,tk,gv⟩:=nR (w0:=w0) (p:=p) (k:=k) (w:=w) c1;obtain ⟨rs,rd,tk2,gv2⟩:=vA (w0:=w0) (p:=p) (k:=k) (w:=w) c2 c3;have hw:=tk hw;have hbat:∀b∈fI u,nF b=true:=by
  obtain ⟨b,hw⟩:=lQ hw;exact aJG (kV hw.swap2).1
 refine sv hs hw fun a hs=>?_;have hw:Has 0 w0 W (cE H (k.pc c) (k.qc c) u::Fz H::aS p k::bB k w::aW k w::aZ k w::aX k w::aM (H) k.pn w.n::aQ (H) k.ps k.qs w.servers::aC nameS k.qs w.sd::aT (H) k.pc k.qc rc::aC nameQ k.qc w.cd::R):=hw.pm;refine aG hs (hc:=aJD hw) (k:=?_);rintro e' W ⟨mv,H3,rfl,hle3,hmv,hw⟩;refine ⟨_,rfl,fun a hs=>?_⟩;have hw:=hw.lz hle3;unfold u6 at hs hmv;cases c4:fI u with
 |nil=>
  rw [c4] at hs hmv h;obtain ⟨mad,mcap,rfl⟩:=hmv.slice;injection h with h;injection h with e1 e2;subst e1 e2;refine sv hs hw fun a hs=>?_;refine sn hs hw fun b9 a W hs hw=>?_;refine sx hs hw fun a W hs hw=>?_;refine rt1 hs rfl rfl ⟨H3,rfl,hle3,?_⟩;have hw:Has 0 w0 W (cE H3 (k.pc c) (k.qc c) u::aS p k::bB k w::aW k w::aZ k w::aX k w::aM (H3) k.pn w.n::aQ (H3) k.ps k.qs w.servers::aC nameS k.qs w.sd::aT (H3) k.pc k.qc rc::aC nameQ k.qc w.cd::Fz H3::R):=hw.sl;exact eI (gv hw)
 |cons b l=>
 rw [c4] at hs hmv h hbat;rw [show ((b::l).headD (⟨0,0,[]⟩:cU))=b from rfl] at hs hmv;rw [show (!(b::l).isEmpty)=true from rfl] at hs;have hb:=hbat b (by simp);obtain ⟨mad,mcap,rfl⟩:=hmv.slice;obtain ⟨⟨d2,s2,row,ms,e2⟩,h1,h2⟩:=Option.map_eq_some_iff.1 h;injection h2 with e3 e4;subst e4;refine sv hs hw fun a hs=>?_;refine sn hs hw fun b9 a W hs hw=>?_;refine sx hs hw fun a W hs hw=>?_;have hw:Has 0 w0 W (cE H3 (k.pc c) (k.qc c) u::aS p k::bB k w::aW k w::aZ k w::aX k w::aM (H3) k.pn w.n::aQ (H3) k.ps k.qs w.servers::aC nameS k.qs w.sd::aT (H3) k.pc k.qc rc::aC nameQ k.qc w.cd::aA b9 (aL b (.slice mad b.l.length mcap)) 66::Fz H3::R):=hw.pm;have hw:Has 0 w0 W (aS p k::bB k w::aW k w::aZ k w::aX k w::aM H3 k.pn w.n::aQ H3 k.ps k.qs w.servers::aC nameS k.qs w.sd::aT H3 k.pc k.qc w.clients::aC nameQ k.qc w.cd::aA b9 (aL b (.slice mad b.l.length mcap)) 66::Fz H3::R):=gv hw;have hw:=tk2 hw;have hw:Has 0 w0 W (cC H3 (k.ps id) (k.qs id) s::aB nameS (k.qs id) d::Fz H3::aA b9 (aL b (.slice mad b.l.length mcap)) 66::aS p k::bB k w::aW k w::aZ k w::aX k w::aM (H3) k.pn (w.n)::aQ (H3) k.ps k.qs rs::aC nameS k.qs rd::aT (H3) k.pc k.qc w.clients::aC nameQ k.qc w.cd::R):=hw.pm;refine aG hs (hc:=aIm b hb hmv h1 (hH.trans hle3) hT hw) (k:=?_);rintro e' W ⟨rad,rcap,v',H4,rfl,hle4,hw⟩;refine ⟨_,rfl,fun a hs=>?_⟩;have hw:=hw.lz hle4;refine sv hs hw fun a hs=>?_;refine sn hs hw fun b11 a W hs hw=>?_;refine sx hs hw fun a W hs hw=>?_;have hw:Has 0 w0 W (aS p k::aM H4 k.pn w.n::aD H4 v' ms::Fz H4::aA b11 (aJ row (.slice rad row.b.l.length rcap)) 68::aA b9 (aL b (.slice mad b.l.length mcap)) 66::cC H4 (k.ps id) (k.qs id) s2::aB nameS (k.qs id) d2::bB k w::aW k w::aZ k w::aX k w::aQ H4 k.ps k.qs rs::aC nameS k.qs rd::aT H4 k.pc k.qc w.clients::aC nameQ k.qc w.cd::R):=hw.pm;refine aG hs (hc:=u7 hw) (k:=?_);rintro e' W ⟨H5,rfl,hle5,hw⟩;refine ⟨_,rfl,fun a hs=>?_⟩;have hw:=hw.lz hle5;refine sv hs hw fun a hs=>?_;refine rt1 hs rfl rfl ⟨H5,rfl,(hle3.trans hle4).trans hle5,?_⟩;rw [←e3];have hw:Has 0 w0 W (cC (H5) (k.ps id) (k.qs id) (s2)::aB nameS (k.qs id) (d2)::aS p k::bB k w::aW k w::aZ k w::aX k w::aM (H5) k.pn ((iE w.n ms))::aQ (H5) k.ps k.qs rs::aC nameS k.qs rd::aT (H5) k.pc k.qc w.clients::aC nameQ k.qc w.cd::Fz H5::R):=hw.sl;exact gv2 hw
end
section
variable {α:Type} {w0 W:World} {R L:List Res} {H H':Fh} {p q b:Nat} {f g ps qs pc qc:Int→Nat}
def upd (f:Int→Nat) (k:Int) (b:Nat):Int→Nat:=fun x=>if x=k then b else f x
theorem mM (f:Int→Nat) (k:Int) (b:Nat):upd f k b k=b:=by unfold upd;rw [if_pos rfl]
theorem lU {k x:Int} (h:x≠k):upd f k b x=f x:=by unfold upd;rw [if_neg h]
theorem rO {k:Int}:∀{l:List Int},k∉l→gP (kvs f l) k (ptr b)=kvs (upd f k b) (l ++ [k])
 | [],_=>by show [(k,ptr b)]= [(k,ptr (upd f k b k))];rw [mM]
 |x::l,h=>by
  have h1:x≠k:=fun e=>h (by rw [e];simp);have h2:k∉l:=fun e=>h (by simp [e]);have ih:=rO h2;show (match ksI k x with|true=>_|false=>_)=_;rw [show ksI k x=false from by cases h9:ksI k x with|false=>rfl|true=>exact absurd (j6.1 h9).symm h1];show (x,ptr (f x))::gP (kvs f l) k (ptr b)=(x,ptr (upd f k b x))::kvs (upd f k b) (l ++ [k]);rw [ih,lU h1]
theorem aDG {x:Int}:∀{l:List Int},x∈l→j7 (kvs f l) x=some (ptr (f x))
 | [],h=>by cases h
 |y::l,h=>by
  show (match ksI x y with|true=>_|false=>_)=_;cases h9:ksI x y with
  |true=>rw [j6.1 h9]
  |false=>
   simp only [List.mem_cons] at h;rcases h with h|h
   ·rw [j6.2 h] at h9;cases h9
   ·exact aDG h
theorem zM {k:Int} {v:α}:∀{l:List (Int×α)},at? l k=none→cK l k v=l ++ [(k,v)]
 | [],_=>rfl
 |p::l,h=>by
  unfold at? at h;unfold cK;split at h
  ·cases h
  ·rename_i h1;rw [if_neg h1,zM h];rfl
theorem zN {k k':Int} {v:α} (hk:k'≠k):∀{l:List (Int×α)},at? (cK l k v) k'=at? l k'
 | []=>by show (if k=k' then _ else _)=_;rw [if_neg (Ne.symm hk)]
 |p::l=>by
  unfold cK;split
  ·rename_i h1;show (if k=k' then _ else at? l k')=(if p.1=k' then _ else at? l k');rw [if_neg (Ne.symm hk),if_neg (by rw [h1];exact Ne.symm hk)]
  ·show (if p.1=k' then _ else at? (cK l k v) k')=(if p.1=k' then _ else at? l k');rw [zN hk]
theorem aDH {k:Int}:∀{l:List (Int×α)},at? l k=none→k∉l.map (·.1)
 | [],_=>by simp
 |p::l,h=>by
  unfold at? at h;split at h
  ·cases h
  ·rename_i h1;have:=aDH h;simp only [List.map_cons,List.mem_cons,not_or];exact ⟨Ne.symm h1,this⟩
theorem zO {F G:Int×α→Res} {l:List (Int×α)} {x:Int×α} (hl:∀y∈l,F y=G y) (h:Has 0 w0 W (G x::eV (l.map F)::R)):Has 0 w0 W (eV ((l ++ [x]).map G)::R):=by
 have h:=lS h.swap2;rw [List.map_congr_left hl] at h;refine i0 ?_;rw [List.map_append,List.append_assoc];exact h
theorem aDI {nm:ByteArray} {k:Int} {d:bF} {l:List (Int×bF)} (hk:k∉l.map (·.1)) (h:Has 0 w0 W (aB nm b d::aC nm f l::R)):Has 0 w0 W (aC nm (upd f k b) (l ++ [(k,d)])::R):=by
 refine zO (F:=fun x=>aB nm (f x.1) x.2) (G:=fun x=>aB nm (upd f k b x.1) x.2) (x:=(k,d)) (fun y hy=>?_) ?_
 ·show aB nm (f y.1) y.2=aB nm (upd f k b y.1) y.2;rw [lU (fun e=>hk (by rw [←e];exact List.mem_map_of_mem hy))]
 ·show Has 0 w0 W (aB nm (upd f k b k) d::aC nm f l::R);rw [mM];exact h
theorem aJH {k:Int} {s:cN} {l:List (Int×cN)} (hk:k∉l.map (·.1)) (h:Has 0 w0 W (cC H b (qs k) s::aQ H ps qs l::R)):Has 0 w0 W (aQ H (upd ps k b) qs (l ++ [(k,s)])::R):=by
 refine zO (F:=fun x=>cC H (ps x.1) (qs x.1) x.2) (G:=fun x=>cC H (upd ps k b x.1) (qs x.1) x.2) (x:=(k,s)) (fun y hy=>?_) ?_
 ·show cC H (ps y.1) (qs y.1) y.2=cC H (upd ps k b y.1) (qs y.1) y.2;rw [lU (fun e=>hk (by rw [←e];exact List.mem_map_of_mem hy))]
 ·show Has 0 w0 W (cC H (upd ps k b k) (qs k) s::aQ H ps qs l::R);rw [mM];exact h
theorem aJI {k:Int} {c:Nat} {u:cZ} {l:List (Int×cZ)} (hk:k∉l.map (·.1)) (h:Has 0 w0 W (cE H b c u::aT H pc qc l::R)):Has 0 w0 W (aT H (upd pc k b) (upd qc k c) (l ++ [(k,u)])::R):=by
 refine zO (F:=fun x=>cE H (pc x.1) (qc x.1) x.2) (G:=fun x=>cE H (upd pc k b x.1) (upd qc k c x.1) x.2) (x:=(k,u)) (fun y hy=>?_) ?_
 ·show cE H (pc y.1) (qc y.1) y.2=cE H (upd pc k b y.1) (upd qc k c y.1) y.2;have hne:y.1≠k:=fun e=>hk (by rw [←e];exact List.mem_map_of_mem hy);rw [lU hne,lU hne]
 ·show Has 0 w0 W (cE H (upd pc k b k) (upd qc k c k) u::aT H pc qc l::R);rw [mM,mM];exact h
theorem vB:∀(n:Nat) (k:Int),bE (n+1) k=bE n k ++ [k+n]
 |0,k=>by simp [bE]
 |n+1,k=>by
  have:=vB n (k+1);rw [bE,this,bE,List.cons_append];congr 3;omega
theorem vC:∀{n:Nat} {k x:Int},x∈bE n k→k≤x∧x<k+n
 |0,k,x,h=>by cases h
 |n+1,k,x,h=>by
  simp only [bE,List.mem_cons] at h;rcases h with h|h
  ·omega
  ·have:=vC h;omega
theorem vD:∀(n:Nat) (k:Int),(bE n k).length=n
 |0,_=>rfl
 |n+1,k=>by show (bE n (k+1)).length+1=n+1;rw [vD]
theorem aDJ (n:Nat) (k:Int):k+n∉bE n k:=fun h=>by have:=vC h;omega
theorem aDK:∀(n:Nat) (k:Int),(bE n k).Nodup
 |0,_=>List.nodup_nil
 |n+1,k=>List.nodup_cons.2 ⟨fun h=>by have:=vC h;omega,aDK n (k+1)⟩
theorem aDL {F:Int→α}:∀{n:Nat} {k x:Int},x∈bE n k→at? ((bE n k).map fun c=>(c,F c)) x=some (F x)
 |0,k,x,h=>by cases h
 |n+1,k,x,h=>by
  show (if k=x then some (F k) else at? ((bE n (k+1)).map fun c=>(c,F c)) x)=_
  by_cases h1:k=x
  ·rw [if_pos h1,h1]
  ·rw [if_neg h1];simp only [bE,List.mem_cons] at h;rcases h with h|h
   ·exact absurd h.symm h1
   ·exact aDL h
theorem aDM {all:List Int}:∀{l:List Int} {w w':bC},oV all l w=some w'→w'.clients=w.clients∧w'.cd=w.cd∧w'.n=w.n
 | [],w,w',h=>by injection h with h;subst h;exact ⟨rfl,rfl,rfl⟩
 |id::l,w,w',h=>by
  unfold oV at h;obtain ⟨x,h1,h2⟩:=Option.bind_eq_some_iff.1 h;have h3:=aDM (w:={w with servers:=cK w.servers id x.2,sd:=cK w.sd id x.1}) h2;exact h3
theorem aJJ {i:Nat} (h:i<5):gO (eH ((i:Int)+1))=true:=by
 have:i=0∨i=1∨i=2∨i=3∨i=4:=by omega
 rcases this with rfl|rfl|rfl|rfl|rfl <;> rfl
theorem aJK {n:Nat} (h1:1≤n) (h:n≤7):cV (bE n 1)=true:=by
 have:n=1∨n=2∨n=3∨n=4∨n=5∨n=6∨n=7:=by omega
 rcases this with rfl|rfl|rfl|rfl|rfl|rfl|rfl <;> rfl
end
section
variable {w0 W:World} {R L:List Res} {H H':Fh} {p q:Nat} {k:WPt} {w w':bC} {u u':cZ} {c id err:Int} {s:cN} {d d':bF}
theorem vE (n:List bS):(((n.length:Nat):Int) == 0)=n.isEmpty:=by
 cases n with
 |nil=>rfl
 |cons a l=>simp;omega
theorem rQ:Has 0 w0 W (bH H p w::R)→∃k:WPt,(∀{W},Has 0 w0 W (aS p k::aM H k.pn w.n::bB k w::aW k w::aZ k w::aX k w::aQ H k.ps k.qs w.servers::aC nameS k.qs w.sd::aT H k.pc k.qc w.clients::aC nameQ k.qc w.cd::R)→Has 0 w0 W (bH H p w::R))∧Has 0 w0 W (aS p k::aM H k.pn w.n::bB k w::aW k w::aZ k w::aX k w::aQ H k.ps k.qs w.servers::aC nameS k.qs w.sd::aT H k.pc k.qc w.clients::aC nameQ k.qc w.cd::R):=by
 intro hw;obtain ⟨k,hw⟩:=j8 hw;exact ⟨k,fun g=>eI (g.pm),hw.pm⟩
theorem zP {n:Nat} {b:Bool} (hn:n≤20000) (h:lO n w=some (w',b)) (hH:(fr w0).le H) (hT:Tabs w0) (hw:Has 0 w0 W (bH H p w::Fz H::R)):
  Calls Tryz.prog 62 ⟨[ptr p,.int .i64 (n:Int)]⟩ W fun e W'=>∃H':Fh,e= .returned (.bool b)∧H.le H'∧Has 0 w0 W' (bH H' p w'::Fz H'::R):=by
 refine enter Tryz.func62 Tryz.ntmps62 rfl rfl fun a hs=>?_;refine sv hs hw fun a hs=>?_;refine k9 hs fun a hs=>?_;refine k8 hs fun a hs=>?_;rw [show min (max (n:Int) 0) 20000=(n:Int) by omega] at hs;refine sv hs hw fun a hs=>?_;refine bY (σ:=Nat×bC×Fh) (fun z=>[(0,ptr p),(7,.int .i64 (n:Int)),(8,.int .i64 (z.1:Int))]) (fun z=>bH z.2.2 p z.2.1::Fz z.2.2::R) (fun z=>z.1≤n∧H.le z.2.2∧lO (n - z.1) z.2.1=some (w',b)) (fun z=>n - z.1) (0,w,H) ⟨Nat.zero_le _,Fh.le.refl H,h⟩ hs ⟨rfl,rfl,rfl,trivial⟩ hw ?_;clear hs hw h;rintro ⟨i,w2,H2⟩ a W ⟨hi,hle,h⟩ hs hw;simp only at hi hle h hs hw;refine sv hs hw fun a hs=>?_;refine cI hs (kt:=fun hcc=>?_) (kf:=fun hcc=>?_)
 ·have hi':i<n:=by simpa using hcc
  refine sv hs hw fun a hs=>?_;obtain ⟨k,gv,hw⟩:=rQ hw;refine cl hs (rM hw) fun a W hs hw=>?_;refine cl hs (nQ hw.swap2) fun a W hs hw=>?_;have hw:=gv hw.swap2;refine sv hs hw fun a hs=>?_;rw [vE] at hs;rw [show n - i=(n - (i+1))+1 by omega] at h;unfold lO at h;cases hn9:w2.n with
  |nil=>
   simp only [hn9] at h;injection h with h;injection h with e1 e2;subst e1 e2;rw [hn9] at hs;refine sv hs hw fun a hs=>?_;obtain ⟨k,gv,hw⟩:=rQ hw;refine cl hs (rM hw) fun a W hs hw=>?_;refine cl hs (nQ hw.swap2) fun a W hs hw=>?_;have hw:=gv hw.swap2;refine sv hs hw fun a hs=>?_;rw [vE,hn9] at hs;exact rt1 hs rfl rfl ⟨H2,rfl,hle,hw⟩
  |cons m ms=>
   simp only [hn9] at h;obtain ⟨w3,h1,h2⟩:=Option.bind_eq_some_iff.1 h;rw [hn9] at hs;rw [show (m::ms).isEmpty=false from rfl] at hs;refine sv hs hw fun a hs=>?_;refine aG hs (hc:=aDD hn9 h1 (hH.trans hle) hT hw) (k:=?_);rintro e' W ⟨H3,rfl,hle3,hw⟩;refine ⟨_,rfl,fun a hs=>?_⟩;refine sv hs hw fun a hs=>?_;refine bQ (i+1,w3,H3) hs hw ⟨hi',hle.trans hle3,h2⟩ (by show n - (i+1)<n - i;omega) ⟨rfl,rfl,bR (i1 (by omega)),trivial⟩
 ·have hi':i=n:=by simp at hcc;omega
  rw [hi',Nat.sub_self] at h;injection h with h;injection h with e1 e2;subst e1 e2;refine sv hs hw fun a hs=>?_;obtain ⟨k,gv,hw⟩:=rQ hw;refine cl hs (rM hw) fun a W hs hw=>?_;refine cl hs (nQ hw.swap2) fun a W hs hw=>?_;have hw:=gv hw.swap2;refine sv hs hw fun a hs=>?_;rw [vE] at hs;exact rt1 hs rfl rfl ⟨H2,rfl,hle,hw⟩
end
end Go.Proofs.YtgpbngfehfbndaaGreatDoor.Sw
