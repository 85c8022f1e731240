/-
  Texts of the proof, one behind the other (part 51).
-/
import Derived.Test.YtgpbngfehfbndaaGreatDoorM48
import Derived.Test.YtgpbngfehfbndaaGreatDoorM49
import Derived.Test.YtgpbngfehfbndaaGreatDoorChecked
import Derived.Test.YtgpbngfehfbndaaGreatDoorProg
set_option maxHeartbeats 16000000
set_option linter.unusedVariables false
set_option maxRecDepth 10000
namespace Go.Proofs.YtgpbngfehfbndaaGreatDoor.Sw
open Go.RowKit Go.Sx
def kY:Nat→TD→Int→Int→Option TD
 |0,t,_,_=>some t
 |k+1,t,c,s=>(kU t.w c s).bind fun x=>if (iF x.1 c).length=(iF t.w c).length then some (jM t x) else kY k (jM t x) c s
def mP (t:TD) (c:Int) (k:ByteArray) (n:Int):Bool:=match at? t.w.clients c with|none=>false|some q=>match dD q.s.f.d k with|some (.inl x)=>x == n|_=>false
section
variable {w0 W:World} {R L:List Res} {H H':Fh} {p q:Nat} {k:WPt} {w w':bC} {t t':TD} {n m c id err:Int} {s:cN} {d d':bF}
theorem zW (key:ByteArray) (x:Int) (hw:Has 0 w0 W R):Calls Tryz.prog 32 ⟨[.string key,.int .i64 x]⟩ W fun e W'=>e= .returned (.agg ⟨bX (iG key x)⟩)∧Has 0 w0 W' R:=by
 refine enter Tryz.func32 Tryz.ntmps32 rfl rfl fun a hs=>?_;refine sc hs ?_;refine sn hs hw fun b a W hs hw=>?_;refine sx hs hw fun a W hs hw=>?_;exact rc1 hs rfl rfl hw inn rfl ⟨rfl,hw.d1⟩
theorem rZ (key:ByteArray) (x:Int) (hH:(fr w0).le H) (hT:Tabs w0) (hw:Has 0 w0 W (dA H p n m t::Fz H::R)):
  Calls Tryz.prog 34 ⟨[ptr p,.int .i64 c,.string key,.int .i64 x]⟩ W fun e W'=>∃H':Fh,e= .returned (.bool (mP t c key x))∧H.le H'∧Has 0 w0 W' (dA H' p n m t::Fz H'::R):=by
 obtain ⟨pw,hw⟩:=fJ hw;obtain ⟨k,gv,hw⟩:=mN hw.swap2;refine enter Tryz.func34 Tryz.ntmps34 rfl rfl fun a hs=>?_;refine sv hs hw fun a hs=>?_;refine cl hs (jL c hw) fun a W hs hw=>?_;unfold dQ at hs;obtain ⟨bb,hbb⟩:∃bb,bb=mP t c key x:=⟨_,rfl⟩
 rw [←hbb];unfold mP at hbb;cases c1:at? t.w.clients c with
 |none=>
  rw [c1] at hs;simp only [c1] at hbb;subst hbb;refine sv hs hw fun a hs=>?_;exact rt1 hs rfl rfl ⟨H,rfl,Fh.le.refl H,eJ (gv hw).swap2⟩
 |some u=>
 rw [c1] at hs;simp only [c1] at hbb;obtain ⟨rc,tk,gv2⟩:=nR (w0:=w0) (p:=pw) (k:=k) (w:=t.w) c1;refine sv hs hw fun a hs=>?_;have hw:=tk (hw.pm:Has 0 w0 W (aS pw k::bB k t.w::aW k t.w::aZ k t.w::aX k t.w::aM (H) k.pn t.w.n::aQ (H) k.ps k.qs t.w.servers::aC nameS k.qs t.w.sd::aT H k.pc k.qc t.w.clients::aC nameQ k.qc t.w.cd::cH p pw n m t.ok::Fz H::R));have hw:Has 0 w0 W (cE H (k.pc c) (k.qc c) u::Fz H::aS pw k::bB k t.w::aW k t.w::aZ k t.w::aX k t.w::aM (H) k.pn t.w.n::aQ (H) k.ps k.qs t.w.servers::aC nameS k.qs t.w.sd::aT (H) k.pc k.qc rc::aC nameQ k.qc t.w.cd::cH p pw n m t.ok::R):=hw.pm;refine cle hs (aDX hw) fun pd a W _ hs hw=>?_;obtain ⟨H3,hle3,hH3⟩:∃H3,H.le H3∧H3=H:=⟨H,Fh.le.refl H,rfl⟩
 subst hH3;refine sv hs hw fun a hs=>?_;refine cl hs (aDZ w0 W pd _ key _ hw) fun a W hs hw=>?_;refine sv hs hw fun a hs=>?_;refine sn hs hw fun b10 a W hs hw=>?_;refine sx hs hw fun a W hs hw=>?_;have fin:∀{W:World} {cs:List Value},Has 0 w0 W (aA b10 cs 53::bL pd (u.s.f.d)::cE H3 (k.pc c) (k.qc c) u::Fz H3::aS pw k::bB k t.w::aW k t.w::aZ k t.w::aX k t.w::aM (H3) k.pn t.w.n::aQ (H3) k.ps k.qs t.w.servers::aC nameS k.qs t.w.sd::aT (H3) k.pc k.qc rc::aC nameQ k.qc t.w.cd::cH p pw n m t.ok::R)→Has 0 w0 W (dA H3 p n m t::Fz H3::R):=fun {W cs} g=>by
  have g:Has 0 w0 W (cE H3 (k.pc c) (k.qc c) u::aS pw k::bB k t.w::aW k t.w::aZ k t.w::aX k t.w::aM (H3) k.pn t.w.n::aQ (H3) k.ps k.qs t.w.servers::aC nameS k.qs t.w.sd::aT (H3) k.pc k.qc rc::aC nameQ k.qc t.w.cd::cH p pw n m t.ok::Fz H3::R):=g.sl;have g:=eI (gv2 g);exact eJ g.swap2
 cases c2:dD (u.s.f.d) key with
 |none=>
  rw [c2] at hs hw;simp only [c2] at hbb;subst hbb;refine sv hs hw fun a hs=>?_;exact rt1 hs rfl rfl ⟨H3,rfl,hle3,fin hw⟩
 |some r=>
  rw [c2] at hs hw;rw [show (some r).isSome=true from rfl] at hs;cases r with
  |inr s=>
   rw [show rV (some (.inr s))= [.int .i64 2,.int .i64 0,.string s] from rfl] at hs hw;simp only [c2] at hbb;subst hbb;refine sv hs hw fun a hs=>?_;exact rt1 hs rfl rfl ⟨H3,rfl,hle3,fin hw⟩
  |inl y=>
   rw [show rV (some (.inl y))= [.int .i64 1,.int .i64 y,.string ⟨#[]⟩] from rfl] at hs hw;simp only [c2] at hbb;subst hbb;refine sv hs hw fun a hs=>?_;exact rt1 hs rfl rfl ⟨H3,rfl,hle3,fin hw⟩
end
section
variable {w0 W:World} {R L:List Res} {H H':Fh} {p q:Nat} {k:WPt} {w w':bC} {t t':TD} {n m c id err:Int} {s:cN} {d d':bF}
theorem nT:∀{k:Nat} {t:TD},kY k t c id=some t'→t'.ok=true→t.ok=true
 |0,t,h,ho=>by injection h with h;rw [h];exact ho
 |k+1,t,h,ho=>by
  unfold kY at h;obtain ⟨x,h1,h2⟩:=Option.bind_eq_some_iff.1 h;split at h2
  ·injection h2 with h2;subst h2;have:(t.ok && x.2 == 0)=true:=ho;exact (Bool.and_eq_true_iff.1 this).1
  ·have:(t.ok && x.2 == 0)=true:=nT h2 ho;exact (Bool.and_eq_true_iff.1 this).1
theorem aD6 {pw:Nat} {u:cZ} (c1:at? w.clients c=some u) (hw:Has 0 w0 W (aS pw k::aW k w::aM H k.pn w.n::bB k w::aZ k w::aX k w::aQ H k.ps k.qs w.servers::aC nameS k.qs w.sd::aT H k.pc k.qc w.clients::aC nameQ k.qc w.cd::Fz H::R)):
  Calls Tryz.prog 30 ⟨[ptr (k.pc c)]⟩ W fun e W'=>∃(ad:Option Addr) (cap:Nat) (H':Fh),e= .returned (.slice ad u.s.l.length cap)∧H.le H'∧Has 0 w0 W' (aS pw k::aW k w::aM H' k.pn w.n::bB k w::aZ k w::aX k w::aQ H' k.ps k.qs w.servers::aC nameS k.qs w.sd::aT H' k.pc k.qc w.clients::aC nameQ k.qc w.cd::Fz H'::R):=by
 obtain ⟨rc,tk,gv⟩:=nR (w0:=w0) (p:=pw) (k:=k) (w:=w) c1;have hw:=tk (hw.pm:Has 0 w0 W (aS pw k::bB k w::aW k w::aZ k w::aX k w::aM (H) k.pn w.n::aQ (H) k.ps k.qs w.servers::aC nameS k.qs w.sd::aT H k.pc k.qc w.clients::aC nameQ k.qc w.cd::Fz H::R));have hw:Has 0 w0 W (cE H (k.pc c) (k.qc c) u::Fz H::aS pw k::bB k w::aW k w::aZ k w::aX k w::aM (H) k.pn w.n::aQ (H) k.ps k.qs w.servers::aC nameS k.qs w.sd::aT (H) k.pc k.qc rc::aC nameQ k.qc w.cd::R):=hw.pm;refine (y8 hw).mono ?_;rintro e W ⟨v,H3,rfl,hle3,⟨ys,hr,_⟩,hw⟩;obtain ⟨ad,cap,rfl⟩:=hr.slice;have hw:=hw.lz hle3;have hw:Has 0 w0 W (cE H3 (k.pc c) (k.qc c) u::aS pw k::bB k w::aW k w::aZ k w::aX k w::aM (H3) k.pn w.n::aQ (H3) k.ps k.qs w.servers::aC nameS k.qs w.sd::aT (H3) k.pc k.qc rc::aC nameQ k.qc w.cd::Fz H3::R):=hw.pm;exact ⟨ad,cap,H3,rfl,hle3,(gv hw).pm⟩
theorem aD7 {α:Type} {k:Int} {v:α}:∀{l:List (Int×α)},at? (cK l k v) k=some v
 | []=>by show (if k=k then _ else _)=_;rw [if_pos rfl]
 |p::l=>by
  unfold cK;split
  ·show (if k=k then _ else _)=_;rw [if_pos rfl]
  ·rename_i h1;show (if p.1=k then _ else at? (cK l k v) k)=_;rw [if_neg h1,aD7]
theorem aJb {u:cZ} (c1:at? w.clients c=some u) (h:kU w c id=some (w',err)):∃u',at? w'.clients c=some u':=by
 unfold kU at h;cases c2:at? w.servers id with
 |none=>
  simp only [c1,c2] at h;injection h with h;injection h with e1 e2;exact ⟨u,by rw [←e1];exact c1⟩
 |some s=>
 cases c3:at? w.cd c with
 |none=>simp only [c1,c2,c3] at h;cases h
 |some d=>
 simp only [c1,c2,c3] at h;obtain ⟨x,h1,h2⟩:=Option.map_eq_some_iff.1 h;injection h2 with e3 e4;exact ⟨x.2.1,by rw [←e3];exact aD7⟩
theorem aD8 {u:cZ} (c1:at? w.clients c=some u):iF w c=u.s.l:=by unfold iF;rw [c1]
theorem zX (h:kY 100 t c id=some t') (hok:t'.ok=true) (hH:(fr w0).le H) (hT:Tabs w0) (hw:Has 0 w0 W (dA H p n m t::Fz H::R)):
  Calls Tryz.prog 33 ⟨[ptr p,.int .i64 c,.int .i64 id]⟩ W fun e W'=>∃H':Fh,e= .returned (.tuple ⟨[]⟩)∧H.le H'∧Has 0 w0 W' (dA H' p n m t'::Fz H'::R):=by
 refine enter Tryz.func33 Tryz.ntmps33 rfl rfl fun a hs=>?_;refine sv hs hw fun a hs=>?_;refine bY (σ:=Nat×TD×Fh) (fun z=>[(0,ptr p),(1,.int .i64 c),(2,.int .i64 id),(6,.int .i64 (z.1:Int))]) (fun z=>dA z.2.2 p n m z.2.1::Fz z.2.2::R) (fun z=>z.1≤100∧H.le z.2.2∧kY (100 - z.1) z.2.1 c id=some t') (fun z=>100 - z.1) (0,t,H) ⟨Nat.zero_le _,Fh.le.refl H,h⟩ hs ⟨rfl,rfl,rfl,rfl,trivial⟩ hw ?_;clear hs hw h;rintro ⟨i,t2,H2⟩ a W ⟨hi,hle,h⟩ hs hw;simp only at hi hle h hs hw;have hok2:=nT h hok;refine sv hs hw fun a hs=>?_;refine cI hs (kt:=fun hcc=>?_) (kf:=fun hcc=>?_)
 ·have hi':i<100:=by have:=of_decide_eq_true hcc;omega
  rw [show 100 - i=(100 - (i+1))+1 by omega] at h;unfold kY at h;obtain ⟨⟨w3,e3⟩,h1,h2⟩:=Option.bind_eq_some_iff.1 h;simp only at h2;obtain ⟨pw,hw⟩:=fJ hw;rw [hok2] at hw;obtain ⟨k,hw⟩:=j8 hw.swap2;have hw:Has 0 w0 W (aS pw k::aW k (t2.w)::aM (H2) k.pn (t2.w).n::bB k (t2.w)::aZ k (t2.w)::aX k (t2.w)::aQ (H2) k.ps k.qs (t2.w).servers::aC nameS k.qs (t2.w).sd::aT (H2) k.pc k.qc (t2.w).clients::aC nameQ k.qc (t2.w).cd::Fz H2::cH p pw n m true::R):=hw.pm;refine sv hs hw fun a hs=>?_;refine cl hs (jL c hw) fun a W hs hw=>?_;unfold dQ at hs;cases c1:at? t2.w.clients c with
  |none=>
   exfalso;unfold kU at h1;simp only [c1] at h1;injection h1 with h1;injection h1 with e1 e2;subst e1 e2;rw [if_pos rfl] at h2;injection h2 with h2;rw [←h2] at hok;have:(t2.ok && (12:Int) == 0)=true:=hok;rw [hok2] at this;exact absurd this (by decide)
  |some u=>
  rw [c1] at hs;obtain ⟨u3,c3⟩:=aJb c1 h1;rw [aD8 c1,aD8 c3] at h2;refine sv hs hw fun a hs=>?_;refine aG hs (hc:=aD6 c1 hw) (k:=?_);rintro e' W ⟨ad3,cap3,H3,rfl,hle3,hw⟩;refine ⟨_,rfl,fun a hs=>?_⟩;have hH3:=hH.trans (hle.trans hle3);refine sv hs hw fun a hs=>?_;have hw:Has 0 w0 W (aS pw k::bB k (t2.w)::aW k (t2.w)::aZ k (t2.w)::aX k (t2.w)::aM (H3) k.pn (t2.w).n::aQ (H3) k.ps k.qs (t2.w).servers::aC nameS k.qs (t2.w).sd::aT (H3) k.pc k.qc (t2.w).clients::aC nameQ k.qc (t2.w).cd::Fz H3::cH p pw n m true::R):=hw.pm;refine aG hs (hc:=aDF h1 hH3 hT hw) (k:=?_);rintro e' W ⟨H4,rfl,hle4,hw⟩;refine ⟨_,rfl,fun a hs=>?_⟩;have hw:Has 0 w0 W (cH p pw n m true::aS pw k::aW k (w3)::aM (H4) k.pn (w3).n::bB k (w3)::aZ k (w3)::aX k (w3)::aQ (H4) k.ps k.qs (w3).servers::aC nameS k.qs (w3).sd::aT (H4) k.pc k.qc (w3).clients::aC nameQ k.qc (w3).cd::Fz H4::R):=hw.pm;refine cl hs (rT hw) fun a W hs hw=>?_;have hw:Has 0 w0 W (aS pw k::aW k (w3)::aM (H4) k.pn (w3).n::bB k (w3)::aZ k (w3)::aX k (w3)::aQ (H4) k.ps k.qs (w3).servers::aC nameS k.qs (w3).sd::aT (H4) k.pc k.qc (w3).clients::aC nameQ k.qc (w3).cd::Fz H4::cH p pw n m (e3 == 0)::R):=hw.pm;refine sv hs hw fun a hs=>?_;refine aG hs (hc:=aD6 c3 hw) (k:=?_);rintro e' W ⟨ad5,cap5,H5,rfl,hle5,hw⟩;refine ⟨_,rfl,fun a hs=>?_⟩;have hle':=((hle.trans hle3).trans hle4).trans hle5;have hw:Has 0 w0 W (aS pw k::bB k (w3)::aW k (w3)::aZ k (w3)::aX k (w3)::aM (H5) k.pn (w3).n::aQ (H5) k.ps k.qs (w3).servers::aC nameS k.qs (w3).sd::aT (H5) k.pc k.qc (w3).clients::aC nameQ k.qc (w3).cd::Fz H5::cH p pw n m (e3 == 0)::R):=hw.pm;have hw:Has 0 w0 W (cH p pw n m (e3 == 0)::bH H5 pw w3::Fz H5::R):=(eI hw).pm;have hw:Has 0 w0 W (dA H5 p n m ⟨w3,e3 == 0⟩::Fz H5::R):=eJ (t:=⟨w3,e3 == 0⟩) hw;have hm:jM t2 (w3,e3)=⟨w3,e3 == 0⟩:=by unfold jM;rw [hok2];rfl
  rw [hm] at h2;refine sv hs hw fun a hs=>?_;refine cI hs (kt:=fun hcc=>?_) (kf:=fun hcc=>?_)
  ·have he:u3.s.l.length=u.s.l.length:=by have:=eq_of_beq hcc;omega
   rw [if_pos he] at h2;injection h2 with h2;rw [h2] at hw;refine sc hs ?_;exact rt0 hs rfl ⟨H5,rfl,hle',hw⟩
  ·have he:¬u3.s.l.length=u.s.l.length:=fun h9=>by rw [h9] at hcc;simp at hcc
   rw [if_neg he] at h2;refine sv hs hw fun a hs=>?_;refine bQ (i+1,⟨w3,e3 == 0⟩,H5) hs hw ⟨hi',hle',h2⟩ (by show 100 - (i+1)<100 - i;omega) ⟨rfl,rfl,rfl,bR (i1 (by omega)),trivial⟩
 ·have hi':i=100:=by have:=of_decide_eq_false hcc;omega
  rw [hi',Nat.sub_self] at h;unfold kY at h;injection h with h;subst h;refine sc hs ?_
  first
   |exact rt0 hs rfl ⟨H2,rfl,hle,hw⟩
   |exact cP hs rfl ⟨H2,rfl,hle,hw⟩
end
section
variable {w0 W:World} {R L:List Res} {H H':Fh} {p q:Nat} {k:WPt} {w w':bC} {t t':TD} {n m c id err:Int} {s:cN} {d d':bF}
theorem aD9 {x k:Int} (hk:0<k) (hk2:k≤1000) (hw:Has 0 w0 W R):
  Calls Tryz.prog 31 ⟨[.int .i64 x,.int .i64 k]⟩ W fun e W'=>∃r:Nat,e= .returned (.int .i64 (r:Int))∧(r:Int)<k∧Has 0 w0 W' R:=by
 have h1:=Int.tmod_lt_of_pos x hk;have h2: -k<x.tmod k:=by have:=Int.lt_tmod_of_pos x hk;omega
 have hz:(k == 0)=false:=by simp;omega
 refine enter Tryz.func31 Tryz.ntmps31 rfl rfl fun a hs=>?_;refine sv hs hw fun a hs=>?_;refine wD hs (hne:=hz) (k:=fun a hs=>?_);refine sv hs hw fun a hs=>?_;refine cI hs (kt:=fun hcc=>?_) (kf:=fun hcc=>?_)
 ·have h3:=of_decide_eq_true hcc;refine sv hs hw fun a hs=>?_;rw [show IntKind.i64.wrap (0 - x.tmod k)=((-(x.tmod k)).toNat:Int) by rw [IntWalk.i64_in _ (by omega)];omega] at hs;exact rt1 hs rfl rfl ⟨_,rfl,by omega,hw⟩
 ·have h3:=of_decide_eq_false hcc;refine sv hs hw fun a hs=>?_;rw [show x.tmod k=((x.tmod k).toNat:Int) by omega] at hs;exact rt1 hs rfl rfl ⟨_,rfl,by omega,hw⟩
theorem zY {l:List OpD} (h:l.all tH=true):∀o∈l,OpOk o:=by
 intro o ho;have h1:=List.all_eq_true.1 h o ho;unfold tH gY at h1;simp only [Bool.and_eq_true,decide_eq_true_eq] at h1;obtain ⟨⟨⟨⟨⟨⟨⟨⟨a1,a2⟩,a3⟩,a4⟩,a5⟩,a6⟩,a7⟩,a8⟩,a9⟩:=h1;exact ⟨a1,a2,a3,a4,a5,a6,a7,a8,a9⟩
end
end Go.Proofs.YtgpbngfehfbndaaGreatDoor.Sw
