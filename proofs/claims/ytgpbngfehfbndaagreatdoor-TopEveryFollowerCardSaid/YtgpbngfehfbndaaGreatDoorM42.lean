/-
  Texts of the proof, one behind the other (part 42).
-/
import Derived.Test.YtgpbngfehfbndaaGreatDoorM37
import Derived.Test.YtgpbngfehfbndaaGreatDoorM39
import Derived.Test.YtgpbngfehfbndaaGreatDoorM41
import Derived.Test.YtgpbngfehfbndaaGreatDoorChecked
import Derived.Test.YtgpbngfehfbndaaGreatDoorProg
set_option maxHeartbeats 16000000
set_option linter.unusedVariables false
set_option maxRecDepth 10000
namespace Go.Proofs.YtgpbngfehfbndaaGreatDoor.Sw
open Go.RowKit Go.Sx
section
variable {α:Type} {w0 W:World} {R L:List Res} {H H':Fh}
def eV (L:List Res):Res:=Ex fun _:Unit=>L
theorem i0 (h:Has 0 w0 W (L ++ R)):Has 0 w0 W (eV L::R):=Has.shut (Ls:=fun _:Unit=>L) () h
theorem lS (h:Has 0 w0 W (eV L::R)):Has 0 w0 W (L ++ R):=by
 obtain ⟨_,h⟩:=Has.open h;exact h
theorem oY:∀{l:List (Int×α)} {k:Int} {v:α},at? l k=some v→∃l1 l2,l=l1 ++ (k,v)::l2∧(∀v',cK l k v'=l1 ++ (k,v')::l2)
 | [],_,_,h=>by cases h
 |p::l,k,v,h=>by
  unfold at? at h;split at h
  ·rename_i h1;injection h with h;refine ⟨[],l,by rw [←h1,←h];rfl,fun v'=>?_⟩;unfold cK;rw [if_pos h1];rfl
  ·rename_i h1;obtain ⟨l1,l2,e1,e2⟩:=oY h;refine ⟨p::l1,l2,by rw [e1];rfl,fun v'=>?_⟩;unfold cK;rw [if_neg h1,e2];rfl
theorem oZ {l:List (Int×α)} {k:Int} {v v':α} (h:at? l k=some v):(cK l k v').map (·.1)=l.map (·.1):=by
 obtain ⟨l1,l2,e1,e2⟩:=oY h;rw [e2,e1];simp
theorem aDA {f g:Int×α→Res} (hf:∀{W R} x,Has 0 w0 W (f x::R)→Has 0 w0 W (g x::R)):∀{l:List (Int×α)} {R:List Res},Has 0 w0 W (l.map f ++ R)→Has 0 w0 W (l.map g ++ R)
 | [],_,h=>h
 |x::l,R,h=>by
  have h:=hf x h;have h:Has 0 w0 W (l.map f ++ g x::R):=h.perm List.perm_middle.symm;exact (aDA hf h).perm List.perm_middle
theorem aDB {l:List (Int×α)} {f g:Int×α→Res} (hf:∀{W R} x,Has 0 w0 W (f x::R)→Has 0 w0 W (g x::R)) (h:Has 0 w0 W (eV (l.map f)::R)):Has 0 w0 W (eV (l.map g)::R):=i0 (aDA hf (lS h))
structure WPt where
 ms:Nat
 mc:Nat
 md:Nat
 me:Nat
 pn:Nat
 ps:Int→Nat
 pc:Int→Nat
 qs:Int→Nat
 qc:Int→Nat
abbrev aS (p:Nat) (k:WPt):Res:=aA p [.map (some k.ms),.map (some k.mc),.map (some k.md),.map (some k.me),ptr k.pn] 86
def kvs (f:Int→Nat) (l:List Int):KVI:=l.map fun x=>(x,ptr (f x))
def aQ (H:Fh) (ps qs:Int→Nat) (l:List (Int×cN)):Res:=eV (l.map fun x=>cC H (ps x.1) (qs x.1) x.2)
def aT (H:Fh) (pc qc:Int→Nat) (l:List (Int×cZ)):Res:=eV (l.map fun x=>cE H (pc x.1) (qc x.1) x.2)
def aC (nm:ByteArray) (q:Int→Nat) (l:List (Int×bF)):Res:=eV (l.map fun x=>aB nm (q x.1) x.2)
instance (H H':Fh) (f g:Int→Nat) (l:List (Int×cN)):g0 H H' (aQ H f g l) (aQ H' f g l):=⟨fun hl h=>aDB (fun x h=>aCg h hl) h⟩
instance (H H':Fh) (f g:Int→Nat) (l:List (Int×cZ)):g0 H H' (aT H f g l) (aT H' f g l):=⟨fun hl h=>aDB (fun x h=>aCs h hl) h⟩
def dQ {α:Type} (f:Int→Nat) (l:List (Int×α)) (k:Int):Value:=match at? l k with|some _=>ptr (f k)|none=> .pointer none
theorem o0 {f:Int→Nat} {k:Int}:∀{l:List (Int×α)},(j7 (kvs f (l.map (·.1))) k).getD (.pointer none)=dQ f l k
 | []=>rfl
 |p::l=>by
  have ih:=o0 (f:=f) (k:=k) (l:=l);unfold dQ at ih⊢;simp only [List.map_cons,kvs,j7,at?]
  by_cases h:p.1=k
  ·rw [show ksI k p.1=true from j6.2 h.symm,if_pos h,h];rfl
  ·rw [show ksI k p.1=false from by cases h9:ksI k p.1 with|false=>rfl|true=>exact absurd (j6.1 h9).symm h,if_neg h];exact ih
instance mpServ:MpI Tryz.prog 82 3 46:=⟨by kernel_rfl,by kernel_rfl⟩
instance mpCli:MpI Tryz.prog 83 3 61:=⟨by kernel_rfl,by kernel_rfl⟩
instance mpDiskI:MpI Tryz.prog 84 3 91:=⟨by kernel_rfl,by kernel_rfl⟩
theorem aDC (W:World):(zeroValue 46).run Tryz.prog W= .ok (.pointer none) W:=by kernel_rfl
theorem aJB (W:World):(zeroValue 61).run Tryz.prog W= .ok (.pointer none) W:=by kernel_rfl
theorem zI (W:World):(zeroValue 91).run Tryz.prog W= .ok (.pointer none) W:=by kernel_rfl
variable {p:Nat} {k:WPt} {w:bC}
abbrev bB (k:WPt) (w:bC):Res:=aR k.ms (kvs k.ps (w.servers.map (·.1)))
abbrev aW (k:WPt) (w:bC):Res:=aR k.mc (kvs k.pc (w.clients.map (·.1)))
abbrev aZ (k:WPt) (w:bC):Res:=aR k.md (kvs k.qs (w.sd.map (·.1)))
abbrev aX (k:WPt) (w:bC):Res:=aR k.me (kvs k.qc (w.cd.map (·.1)))
def bH (H:Fh) (p:Nat) (w:bC):Res:=Ex fun k:WPt=>aS p k::bB k w::aW k w::aZ k w::aX k w::aM H k.pn w.n::aQ H k.ps k.qs w.servers::aC nameS k.qs w.sd::aT H k.pc k.qc w.clients::aC nameQ k.qc w.cd:: []
theorem j8 (h:Has 0 w0 W (bH H p w::R)):∃k,Has 0 w0 W (aS p k::bB k w::aW k w::aZ k w::aX k w::aM H k.pn w.n::aQ H k.ps k.qs w.servers::aC nameS k.qs w.sd::aT H k.pc k.qc w.clients::aC nameQ k.qc w.cd::R):=Has.open h
theorem eI (h:Has 0 w0 W (aS p k::bB k w::aW k w::aZ k w::aX k w::aM H k.pn w.n::aQ H k.ps k.qs w.servers::aC nameS k.qs w.sd::aT H k.pc k.qc w.clients::aC nameQ k.qc w.cd::R)):Has 0 w0 W (bH H p w::R):=Has.shut k h
theorem aJC (h:Has 0 w0 W (bH H p w::R)) (hl:H.le H'):Has 0 w0 W (bH H' p w::R):=by
 obtain ⟨k,h⟩:=j8 h;exact eI (h.lz hl)
instance (H H':Fh) (p:Nat) (w:bC):g0 H H' (bH H p w) (bH H' p w):=⟨fun hl h=>aJC h hl⟩
theorem kX (id:Int) (hw:Has 0 w0 W (aS p k::bB k w::R)):
  Calls Tryz.prog 19 ⟨[ptr p,.int .i64 id]⟩ W fun e W'=>e= .returned (dQ k.ps w.servers id)∧Has 0 w0 W' (aS p k::bB k w::R):=by
 refine enter Tryz.func19 Tryz.ntmps19 rfl rfl fun a hs=>?_;refine sv hs hw fun a hs=>?_;refine oX hs (hw:=hw) (hz:=aDC) (c:=fun a hs=>?_);rw [o0] at hs;refine sv hs hw fun a hs=>?_;exact rt1 hs rfl rfl ⟨rfl,hw⟩
theorem jL (id:Int) (hw:Has 0 w0 W (aS p k::aW k w::R)):
  Calls Tryz.prog 29 ⟨[ptr p,.int .i64 id]⟩ W fun e W'=>e= .returned (dQ k.pc w.clients id)∧Has 0 w0 W' (aS p k::aW k w::R):=by
 refine enter Tryz.func29 Tryz.ntmps29 rfl rfl fun a hs=>?_;refine sv hs hw fun a hs=>?_;refine oX hs (hw:=hw) (hz:=aJB) (c:=fun a hs=>?_);rw [o0] at hs;refine sv hs hw fun a hs=>?_;exact rt1 hs rfl rfl ⟨rfl,hw⟩
theorem rM (hw:Has 0 w0 W (aS p k::R)):
  Calls Tryz.prog 13 ⟨[ptr p]⟩ W fun e W'=>e= .returned (ptr k.pn)∧Has 0 w0 W' (aS p k::R):=by
 refine enter Tryz.func13 Tryz.ntmps13 rfl rfl fun a hs=>?_;refine sv hs hw fun a hs=>?_;exact rt1 hs rfl rfl ⟨rfl,hw⟩
end
section
variable {w0 W:World} {R L:List Res} {H H':Fh} {p q:Nat} {k:WPt} {w:bC} {u:cZ}
def u6 (u:cZ):cU:=(fI u).headD ⟨0,0,[]⟩
theorem aJD (hw:Has 0 w0 W (cE H p q u::Fz H::R)):
  Calls Tryz.prog 101 ⟨[ptr p]⟩ W fun e W'=>∃(v:Value) (H':Fh),e= .returned (.tuple ⟨[.agg ⟨aL (u6 u) v⟩,.bool (!(fI u).isEmpty)]⟩)∧H.le H'∧cL H' v (u6 u).l∧Has 0 w0 W' (cE H' p q u::Fz H'::R):=by
 refine enter Tryz.func101 Tryz.ntmps101 rfl rfl fun a hs=>?_;refine sc hs ?_;refine sn hs hw fun b2 a W hs hw=>?_;refine sv hs hw fun a hs=>?_;have hw:Has 0 w0 W (cE H p q u::Fz H::aA b2 (aL ⟨0,0,[]⟩ (.slice none 0 0)) 66::R):=hw.pm;refine aG hs (hc:=y7 hw) (k:=?_);rintro e' W ⟨lv,H3,rfl,hle3,⟨ys,hr,hch⟩,hw⟩;refine ⟨_,rfl,fun a hs=>?_⟩;obtain ⟨lad,lcap,rfl⟩:=hr.slice;refine sv hs hw fun a hs=>?_;unfold u6;obtain ⟨l,hl⟩:∃l,l=fI u:=⟨_,rfl⟩
 rw [←hl] at hs hr hch⊢;cases l with
 |nil=>
  rw [show (((([]:List cU).length:Nat):Int) == 0)=true from rfl] at hs;refine sx hs hw fun a W hs hw=>?_;refine rc2 hs rfl rfl hw inn rfl rfl ⟨_,H3,rfl,hle3,kL H3,hw.sl⟩
 |cons b l=>
  rw [show ((((b::l).length:Nat):Int) == 0)=false from by simp;omega] at hs;refine sv hs hw fun a hs=>?_;refine gA hs (r:=hw.rdH (In.tl In.hd) hr) (hk:=BatIn.len) (ch:=hch) (i:=0) (ho:=rfl) (hlen:=rfl) (c:=fun a g off c hmc hcl9 hpc hlt hs=>?_);obtain ⟨sv9,rfl,hsv⟩:=hmc;obtain ⟨oad,ocap,rfl⟩:=hsv.slice;refine eE hs (z:=uV) (cs:=aL b _) (hc:=hpc) (hl:=by rfl) (c:=fun a hs=>?_);refine sx hs hw fun a W hs hw=>?_;exact rc2 hs rfl rfl hw inn rfl rfl ⟨_,H3,rfl,hle3,hsv,hw.sl⟩
theorem aJE (n l:List bS) (m:bS):iE n (l ++ [m])=oU (iE n l) m:=by unfold iE;rw [List.foldl_append];rfl
theorem u7 {n ms:List bS} {lv:Value} (hw:Has 0 w0 W (aS p k::aM H k.pn n::aD H lv ms::Fz H::R)):
  Calls Tryz.prog 45 ⟨[ptr p,lv]⟩ W fun e W'=>∃H':Fh,e= .returned (.tuple ⟨[]⟩)∧H.le H'∧Has 0 w0 W' (aS p k::aM H' k.pn (iE n ms)::Fz H'::R):=by
 obtain ⟨lad,lcap,xs,rfl,hch,hw⟩:=q9 (hw.sl:Has 0 w0 W (aD H lv ms::aS p k::aM H k.pn n::Fz H::R));obtain ⟨lv,hlv⟩:∃lv,lv=Value.slice lad ms.length lcap:=⟨_,rfl⟩
 rw [←hlv] at hw;have hlen:=(hw.rd_own In.hd).len;refine enter Tryz.func45 Tryz.ntmps45 rfl rfl fun a hs=>?_;refine sv hs hw fun a hs=>?_;rw [←hlv] at hs;refine bY (σ:=Nat×Fh) (fun z=>[(0,ptr p),(6,lv),(7,.int .i64 (ms.length:Int)),(8,.int .i64 (z.1:Int))]) (fun z=>Sx.Own 38 13 lv ms.length xs::aS p k::aM z.2 k.pn (iE n (ms.take z.1))::Fz z.2::R) (fun z=>z.1≤ms.length∧H.le z.2) (fun z=>ms.length - z.1) (0,H) ⟨Nat.zero_le _,Fh.le.refl H⟩ hs ⟨rfl,rfl,rfl,rfl,trivial⟩ hw ?_;clear hs hw;rintro ⟨i,H2⟩ a W ⟨hi,hle⟩ hs hw;simp only at hi hle hs hw;refine sv hs hw fun a hs=>?_;refine cI hs (kt:=fun hcc=>?_) (kf:=fun hcc=>?_)
 ·have hi':i<ms.length:=by simpa using hcc
  obtain ⟨o,ho9,hd⟩:=dR hi';refine sc hs ?_;refine gA hs (r:=hw.rd_own In.hd) (hk:=MsgIn.len) (ch:=hch) (ho:=ho9) (hlen:=rfl) (c:=fun a g off c hmc hcl9 hpc hlt hs=>?_);obtain ⟨ov,rfl,hov,hoc⟩:=hmc;have hov2:=hov.le hle;obtain ⟨oad,ocap,rfl⟩:=hov2.slice;obtain ⟨ov,hov9⟩:∃ov,ov=Value.slice oad o.es.length ocap:=⟨_,rfl⟩
  refine eE hs (z:=aI cR (.slice none 0 0)) (cs:=aI o _) (hc:=hpc) (hl:=by rfl) (c:=fun a hs=>?_);refine sn hs hw fun b5 a W hs hw=>?_;refine sx hs hw fun a W hs hw=>?_;refine bG [5] [.f 0 0,.f 0 0,.f 0 0,.f 0 0,.f 0 0,.m 0] [.c0 _,.c0 _,.c0 _,.c0 _,.c0 _,.c1 (fun x=>x.v)] (aA b5 (aI o (.slice oad o.es.length ocap)) 38::Sx.Own 38 13 lv ms.length xs::aS p k::aM H2 k.pn (iE n (ms.take i))::Fz H2::R) (fun x=>FzF x.H (Fh.le H2 x.H)::aA b5 (aI o (.slice oad o.es.length ocap)) 38::Sx.Own 38 13 lv ms.length xs::aS p k::aM x.H k.pn (iE n (ms.take (i+1)))::R) (fun x y=>[]) (fun x y z=>[]) (fun x y z t=>[]) hs hw ?kk ⟨drs,drs,drs,drs,drs,?m0,trivial⟩
  case m0=>
   intro x y z t LD a W hs hw;have hw:Has 0 w0 W (aM H2 k.pn (iE n (ms.take i))::Fz H2::aA b5 (aI o (.slice oad o.es.length ocap)) 38::Sx.Own 38 13 lv ms.length xs::aS p k::R):=hw.pm;refine aG hs (hc:=aIu o _ hov2 hoc hw) (k:=?_);rintro e' W' ⟨b,H3,rfl,hle3,hw⟩;refine ⟨_,rfl,fun a hs=>?_⟩;rw [←aJE,←gB ho9] at hw;have hw:Has 0 w0 W' (Fz H3::aA b5 (aI o (.slice oad o.es.length ocap)) 38::Sx.Own 38 13 lv ms.length xs::aS p k::aM H3 k.pn (iE n (ms.take (i+1)))::R):=hw.pm;exact ⟨{v:= .bool b,H:=H3},hs,hw.fzf hle3⟩
  case kk=>
  intro x a W hs hw;obtain ⟨hle3,hw⟩:=hw.unfzf;refine sv hs hw fun a hs=>?_;refine bQ (i+1,x.H) hs (hw.sl) ⟨hi',hle.trans hle3⟩ (by show ms.length - (i+1)<ms.length - i;omega) ⟨rfl,rfl,rfl,bR (i1 (by omega)),trivial⟩
 ·have h9:ms.take i=ms:=List.take_of_length_le (by simp at hcc;omega);rw [h9] at hw;refine sc hs ?_
  first
   |exact rt0 hs rfl ⟨H2,rfl,hle,hw.d1⟩
   |exact cP hs rfl ⟨H2,rfl,hle,hw.d1⟩
end
section
variable {w0 W:World} {R L:List Res} {H H':Fh} {p q:Nat} {k:WPt} {w w':bC} {u:cZ} {id err:Int} {s:cN} {d:bF}
theorem lT {α:Type} {l:List (Int×α)} {k:Int} {v:α} (h:at? l k=some v):∃r:List (Int×α),(∀{f:Int×α→Res} {W R},Has 0 w0 W (eV (l.map f)::R)→Has 0 w0 W (f (k,v)::eV (r.map f)::R))∧∀{f:Int×α→Res} {W R v'},Has 0 w0 W (f (k,v')::eV (r.map f)::R)→Has 0 w0 W (eV ((cK l k v').map f)::R):=by
 obtain ⟨l1,l2,e1,e2⟩:=oY h;refine ⟨l1 ++ l2,fun {f W R} hw=>?_,fun {f W R v'} hw=>?_⟩
 ·have hw:=lS hw;rw [e1,List.map_append,List.map_cons,List.append_assoc,List.cons_append] at hw;have hw:Has 0 w0 W ((l1 ++ l2).map f ++ f (k,v)::R):=by
   rw [List.map_append,List.append_assoc];refine hw.perm ?_;refine List.Perm.append_left _ ?_;exact List.perm_middle.symm
  exact (i0 hw).swap2
 ·have hw:=lS hw.swap2;refine i0 ?_;rw [e2,List.map_append,List.map_cons,List.append_assoc,List.cons_append];rw [List.map_append,List.append_assoc] at hw;refine hw.perm ?_;refine List.Perm.append_left _ ?_;exact List.perm_middle
theorem vA (hs:at? w.servers id=some s) (hd:at? w.sd id=some d):∃rs rd,(∀{H:Fh} {n:List bS} {W R},Has 0 w0 W (aS p k::bB k w::aW k w::aZ k w::aX k w::aM (H) k.pn (n)::aQ (H) k.ps k.qs w.servers::aC nameS k.qs w.sd::aT (H) k.pc k.qc w.clients::aC nameQ k.qc w.cd::R)→Has 0 w0 W (cC (H) (k.ps id) (k.qs id) (s)::aB nameS (k.qs id) (d)::aS p k::bB k w::aW k w::aZ k w::aX k w::aM (H) k.pn (n)::aQ (H) k.ps k.qs rs::aC nameS k.qs rd::aT (H) k.pc k.qc w.clients::aC nameQ k.qc w.cd::R))∧∀{H:Fh} {n:List bS} {s':cN} {d':bF} {W R},Has 0 w0 W (cC (H) (k.ps id) (k.qs id) (s')::aB nameS (k.qs id) (d')::aS p k::bB k w::aW k w::aZ k w::aX k w::aM (H) k.pn (n)::aQ (H) k.ps k.qs rs::aC nameS k.qs rd::aT (H) k.pc k.qc w.clients::aC nameQ k.qc w.cd::R)→Has 0 w0 W (bH H p {w with servers:=cK w.servers id s',sd:=cK w.sd id d',n:=n}::R):=by
 obtain ⟨rs,a1,a2⟩:=lT (w0:=w0) hs;obtain ⟨rd,b1,b2⟩:=lT (w0:=w0) hd;refine ⟨rs,rd,fun {H n W R} hw=>?_,fun {H n s' d' W R} hw=>?_⟩
 ·have hw:Has 0 w0 W (aQ H k.ps k.qs w.servers::aS p k::bB k w::aW k w::aZ k w::aX k w::aM H k.pn n::aC nameS k.qs w.sd::aT H k.pc k.qc w.clients::aC nameQ k.qc w.cd::R):=hw.pm;have hw:Has 0 w0 W (cC H (k.ps id) (k.qs id) s::aQ H k.ps k.qs rs::aS p k::bB k w::aW k w::aZ k w::aX k w::aM H k.pn n::aC nameS k.qs w.sd::aT H k.pc k.qc w.clients::aC nameQ k.qc w.cd::R):=a1 hw;have hw:Has 0 w0 W (aC nameS k.qs w.sd::cC H (k.ps id) (k.qs id) s::aQ H k.ps k.qs rs::aS p k::bB k w::aW k w::aZ k w::aX k w::aM H k.pn n::aT H k.pc k.qc w.clients::aC nameQ k.qc w.cd::R):=hw.pm;have hw:Has 0 w0 W (aB nameS (k.qs id) d::aC nameS k.qs rd::cC H (k.ps id) (k.qs id) s::aQ H k.ps k.qs rs::aS p k::bB k w::aW k w::aZ k w::aX k w::aM H k.pn n::aT H k.pc k.qc w.clients::aC nameQ k.qc w.cd::R):=b1 hw;exact hw.pm
 ·have hw:Has 0 w0 W (cC H (k.ps id) (k.qs id) s'::aQ H k.ps k.qs rs::aB nameS (k.qs id) d'::aC nameS k.qs rd::aS p k::bB k w::aW k w::aZ k w::aX k w::aM H k.pn n::aT H k.pc k.qc w.clients::aC nameQ k.qc w.cd::R):=hw.pm;have hw:Has 0 w0 W (aQ H k.ps k.qs (cK w.servers id s')::aB nameS (k.qs id) d'::aC nameS k.qs rd::aS p k::bB k w::aW k w::aZ k w::aX k w::aM H k.pn n::aT H k.pc k.qc w.clients::aC nameQ k.qc w.cd::R):=a2 hw;have hw:Has 0 w0 W (aB nameS (k.qs id) d'::aC nameS k.qs rd::aQ H k.ps k.qs (cK w.servers id s')::aS p k::bB k w::aW k w::aZ k w::aX k w::aM H k.pn n::aT H k.pc k.qc w.clients::aC nameQ k.qc w.cd::R):=hw.pm;have hw:Has 0 w0 W (aC nameS k.qs (cK w.sd id d')::aQ H k.ps k.qs (cK w.servers id s')::aS p k::bB k w::aW k w::aZ k w::aX k w::aM H k.pn n::aT H k.pc k.qc w.clients::aC nameQ k.qc w.cd::R):=b2 hw;have hw:Has 0 w0 W (aS p k::bB k w::aW k w::aZ k w::aX k w::aM H k.pn n::aQ H k.ps k.qs (cK w.servers id s')::aC nameS k.qs (cK w.sd id d')::aT H k.pc k.qc w.clients::aC nameQ k.qc w.cd::R):=hw.pm;refine eI (k:=k) ?_;show Has 0 w0 W (aS p k::aR k.ms (kvs k.ps ((cK w.servers id s').map (·.1)))::aW k w::aR k.md (kvs k.qs ((cK w.sd id d').map (·.1)))::_);rw [oZ hs,oZ hd];exact hw
theorem zJ (h:nM w id=some (w',err)) (hH:(fr w0).le H) (hT:Tabs w0) (hw:Has 0 w0 W (bH H p w::Fz H::R)):
  Calls Tryz.prog 12 ⟨[ptr p,.int .i64 id]⟩ W fun e W'=>∃H':Fh,e= .returned (.int .i64 err)∧H.le H'∧Has 0 w0 W' (bH H' p w'::Fz H'::R):=by
 obtain ⟨k,hw⟩:=j8 hw;refine enter Tryz.func12 Tryz.ntmps12 rfl rfl fun a hs=>?_;refine sv hs hw fun a hs=>?_;refine cl hs (kX id hw) fun a W hs hw=>?_;unfold nM at h;unfold dQ at hs;cases c1:at? w.servers id with
 |none=>
  rw [c1] at hs h;injection h with h;injection h with e1 e2;subst e1 e2;refine sv hs hw fun a hs=>?_;exact rt1 hs rfl rfl ⟨H,rfl,Fh.le.refl H,eI hw⟩
 |some s=>
 rw [c1] at hs h;cases c2:at? w.sd id with
 |none=>rw [c2] at h;cases h
 |some d=>
 rw [c2] at h;obtain ⟨⟨d2,s2,ms⟩,h1,h2⟩:=Option.map_eq_some_iff.1 h;injection h2 with e1 e2;subst e2;obtain ⟨rs,rd,tk,gv⟩:=vA (w0:=w0) (p:=p) (k:=k) (w:=w) c1 c2;refine sv hs hw fun a hs=>?_;have hw:=tk hw;refine cl hs (aIU hw) fun a W hs hw=>?_;refine sx hs hw fun a W hs hw=>?_;have hw:Has 0 w0 W (cC H (k.ps id) (k.qs id) s::aB nameS (k.qs id) d::Fz H::aS p k::bB k w::aW k w::aZ k w::aX k w::aM (H) k.pn (w.n)::aQ (H) k.ps k.qs rs::aC nameS k.qs rd::aT (H) k.pc k.qc w.clients::aC nameQ k.qc w.cd::R):=hw.pm;refine aG hs (hc:=aIS h1 hH hT hw) (k:=?_);rintro e' W ⟨v',H3,rfl,hle3,hw⟩;refine ⟨_,rfl,fun a hs=>?_⟩;have hw:=hw.lz hle3;have hw:Has 0 w0 W (aS p k::aM H3 k.pn w.n::aD H3 v' ms::Fz H3::cC H3 (k.ps id) (k.qs id) s2::aB nameS (k.qs id) d2::bB k w::aW k w::aZ k w::aX k w::aQ H3 k.ps k.qs rs::aC nameS k.qs rd::aT H3 k.pc k.qc w.clients::aC nameQ k.qc w.cd::R):=hw.pm;refine aG hs (hc:=u7 hw) (k:=?_);rintro e' W ⟨H4,rfl,hle4,hw⟩;refine ⟨_,rfl,fun a hs=>?_⟩;have hw:=hw.lz hle4;refine sv hs hw fun a hs=>?_;refine rt1 hs rfl rfl ⟨H4,rfl,hle3.trans hle4,?_⟩;rw [←e1];have hw:Has 0 w0 W (cC (H4) (k.ps id) (k.qs id) (s2)::aB nameS (k.qs id) (d2)::aS p k::bB k w::aW k w::aZ k w::aX k w::aM (H4) k.pn ((iE w.n ms))::aQ (H4) k.ps k.qs rs::aC nameS k.qs rd::aT (H4) k.pc k.qc w.clients::aC nameQ k.qc w.cd::Fz H4::R):=hw.pm;exact gv hw
theorem aDD {m:bS} {n:List bS} (hn:w.n=m::n) (h:uR w=some w') (hH:(fr w0).le H) (hT:Tabs w0) (hw:Has 0 w0 W (bH H p w::Fz H::R)):
  Calls Tryz.prog 16 ⟨[ptr p,.int .i64 0,.bool false]⟩ W fun e W'=>∃H':Fh,e= .returned (.int .i64 0)∧H.le H'∧Has 0 w0 W' (bH H' p w'::Fz H'::R):=by
 obtain ⟨k,hw⟩:=j8 hw;refine enter Tryz.func16 Tryz.ntmps16 rfl rfl fun a hs=>?_;refine sv hs hw fun a hs=>?_;rw [hn] at hw;have hw:Has 0 w0 W (aM H k.pn (m::n)::Fz H::aS p k::bB k w::aW k w::aZ k w::aX k w::aQ H k.ps k.qs w.servers::aC nameS k.qs w.sd::aT H k.pc k.qc w.clients::aC nameQ k.qc w.cd::R):=hw.pm;refine aG hs (hc:=aIt hw) (k:=?_);rintro e' W ⟨mv,H3,rfl,hle3,hmv,hmc,hw⟩;refine ⟨_,rfl,fun a hs=>?_⟩;obtain ⟨mad,mcap,rfl⟩:=hmv.slice;have hw:=hw.lz hle3;refine sv hs hw fun a hs=>?_;refine sn hs hw fun b7 a W hs hw=>?_;refine sx hs hw fun a W hs hw=>?_;have hw:Has 0 w0 W (aM H3 k.pn (m::n)::aA b7 (aI m (.slice mad m.es.length mcap)) 38::Fz H3::aS p k::bB k w::aW k w::aZ k w::aX k w::aQ H3 k.ps k.qs w.servers::aC nameS k.qs w.sd::aT H3 k.pc k.qc w.clients::aC nameQ k.qc w.cd::R):=hw.pm;refine cl hs (aIw hw) fun a W hs hw=>?_;have hw:Has 0 w0 W (aA b7 (aI m (.slice mad m.es.length mcap)) 38::aS p k::bB k w::aW k w::aZ k w::aX k w::aM H3 k.pn (n)::aQ H3 k.ps k.qs w.servers::aC nameS k.qs w.sd::aT H3 k.pc k.qc w.clients::aC nameQ k.qc w.cd::Fz H3::R):=hw.pm;refine zG hs ?_;refine bG [] [.f 0 0,.f 0 0,.f 0 0,.f 0 0,.f 0 0,.f 0 0,.f 0 0,.f 0 0] [.c0 _,.c0 _,.c0 _,.c0 _,.c0 _,.c0 _,.c0 (dQ k.ps w.servers m.to_),.c0 (dQ k.ps w.servers m.to_)] (aA b7 (aI m (.slice mad m.es.length mcap)) 38::aS p k::bB k w::aW k w::aZ k w::aX k w::aM H3 k.pn (n)::aQ H3 k.ps k.qs w.servers::aC nameS k.qs w.sd::aT H3 k.pc k.qc w.clients::aC nameQ k.qc w.cd::Fz H3::R) (fun x=>[]) (fun x y=>[]) (fun x y z=>[]) (fun x y z t=>[]) hs hw ?kk ⟨drs,drs,drs,drs,drs,drs,?f6,?f7,trivial⟩
 case f6=>
  refine ⟨?_,trivial,trivial,trivial,trivial⟩;intro x y z t LD a W hs hw;refine oX hs (hw:=hw) (hz:=aDC) (c:=fun a hs=>?_);rw [o0] at hs;exact ⟨hs,hw⟩
 case f7=>
  refine ⟨?_,trivial,trivial,trivial,trivial⟩;intro x y z t LD a W hs hw;refine sv hs hw fun a hs=>?_;exact ⟨hs,hw⟩
 case kk=>
 intro a W hs hw;unfold uR at h;rw [hn] at h;unfold dQ at hs;cases c1:at? w.servers m.to_ with
 |none=>
  rw [c1] at hs;simp only [c1] at h;injection h with h;subst h;refine sv hs hw fun a hs=>?_;refine rt1 hs rfl rfl ⟨H3,rfl,hle3,?_⟩;have hw:Has 0 w0 W (aS p k::bB k w::aW k w::aZ k w::aX k w::aM H3 k.pn (n)::aQ H3 k.ps k.qs w.servers::aC nameS k.qs w.sd::aT H3 k.pc k.qc w.clients::aC nameQ k.qc w.cd::Fz H3::R):=hw.d1;exact eI (w:={w with n:=n}) hw
 |some s=>
 rw [c1] at hs;cases c2:at? w.sd m.to_ with
 |none=>simp only [c1,c2] at h;cases h
 |some d=>
 simp only [c1,c2] at h;obtain ⟨⟨d2,s2,ms⟩,h1,h2⟩:=Option.map_eq_some_iff.1 h;subst h2;obtain ⟨id,hid⟩:∃id,id=m.to_:=⟨_,rfl⟩
 rw [←hid] at c1 c2 hs⊢;obtain ⟨rs,rd,tk,gv⟩:=vA (w0:=w0) (p:=p) (k:=k) (w:=w) c1 c2;refine sx hs hw fun a W hs hw=>?_;have hw:Has 0 w0 W (aS p k::bB k w::aW k w::aZ k w::aX k w::aM H3 k.pn (n)::aQ H3 k.ps k.qs w.servers::aC nameS k.qs w.sd::aT H3 k.pc k.qc w.clients::aC nameQ k.qc w.cd::aA b7 (aI m (.slice mad m.es.length mcap)) 38::Fz H3::R):=hw.pm;have hw:=tk hw;have hw:Has 0 w0 W (cC H3 (k.ps id) (k.qs id) s::aB nameS (k.qs id) d::Fz H3::aA b7 (aI m (.slice mad m.es.length mcap)) 38::aS p k::bB k w::aW k w::aZ k w::aX k w::aM (H3) k.pn (n)::aQ (H3) k.ps k.qs rs::aC nameS k.qs rd::aT (H3) k.pc k.qc w.clients::aC nameQ k.qc w.cd::R):=hw.pm;refine aG hs (hc:=aIT m _ hmv hmc h1 (hH.trans hle3) hT hw) (k:=?_);rintro e' W ⟨v',H4,rfl,hle4,hw⟩;refine ⟨_,rfl,fun a hs=>?_⟩;have hw:=hw.lz hle4;have hw:Has 0 w0 W (aS p k::aM H4 k.pn n::aD H4 v' ms::Fz H4::aA b7 (aI m (.slice mad m.es.length mcap)) 38::cC H4 (k.ps id) (k.qs id) s2::aB nameS (k.qs id) d2::bB k w::aW k w::aZ k w::aX k w::aQ H4 k.ps k.qs rs::aC nameS k.qs rd::aT H4 k.pc k.qc w.clients::aC nameQ k.qc w.cd::R):=hw.pm;refine aG hs (hc:=u7 hw) (k:=?_);rintro e' W ⟨H5,rfl,hle5,hw⟩;refine ⟨_,rfl,fun a hs=>?_⟩;have hw:=hw.lz hle5;refine sv hs hw fun a hs=>?_;refine rt1 hs rfl rfl ⟨H5,rfl,(hle3.trans hle4).trans hle5,?_⟩;have hw:Has 0 w0 W (cC (H5) (k.ps id) (k.qs id) (s2)::aB nameS (k.qs id) (d2)::aS p k::bB k w::aW k w::aZ k w::aX k w::aM (H5) k.pn ((iE n ms))::aQ (H5) k.ps k.qs rs::aC nameS k.qs rd::aT (H5) k.pc k.qc w.clients::aC nameQ k.qc w.cd::Fz H5::R):=hw.sl;exact gv hw
end
end Go.Proofs.YtgpbngfehfbndaaGreatDoor.Sw
