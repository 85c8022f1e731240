/-
  Texts of the proof, one behind the other (part 10).
-/
import Derived.Test.YtgpbngfehfbndaaGreatDoorM2
import Derived.Test.YtgpbngfehfbndaaGreatDoorM3
import Derived.Test.YtgpbngfehfbndaaGreatDoorM5
import Derived.Test.YtgpbngfehfbndaaGreatDoorM7
import Derived.Test.YtgpbngfehfbndaaGreatDoorM8
import Derived.Test.YtgpbngfehfbndaaGreatDoorM9
set_option maxHeartbeats 16000000
set_option linter.unusedVariables false
set_option maxRecDepth 10000
namespace Go.Proofs.YtgpbngfehfbndaaGreatDoor.Sw
open Go.RowKit Go.Sx
section
variable {α:Type} {w0 W:World} {R L:List Res} {H H':Fh}
def fQ (L:List Res):Res:=Ex fun _:Unit=>L
theorem jN (h:Has 0 w0 W (L ++ R)):Has 0 w0 W (fQ L::R):=Has.shut (Ls:=fun _:Unit=>L) () h
theorem mX (h:Has 0 w0 W (fQ L::R)):Has 0 w0 W (L ++ R):=by
 obtain ⟨_,h⟩:=Has.open h
 exact h
theorem tS:∀{l:List (Int×α)} {k:Int} {v:α},at? l k=some v→∃l1 l2,l=l1 ++ (k,v)::l2∧(∀v',cL l k v'=l1 ++ (k,v')::l2)
 | [],_,_,h=>by cases h
 |p::l,k,v,h=>by
  unfold at? at h
  split at h
  ·rename_i h1
   injection h with h
   refine ⟨[],l,by rw [←h1,←h];rfl,fun v'=>?_⟩
   unfold cL
   rw [if_pos h1];rfl
  ·rename_i h1
   obtain ⟨l1,l2,e1,e2⟩:=tS h
   refine ⟨p::l1,l2,by rw [e1];rfl,fun v'=>?_⟩
   unfold cL
   rw [if_neg h1,e2];rfl
theorem qT {l:List (Int×α)} {k:Int} {v v':α} (h:at? l k=some v):(cL l k v').map (·.1)=l.map (·.1):=by
 obtain ⟨l1,l2,e1,e2⟩:=tS h
 rw [e2,e1];simp
theorem aCT {f g:Int×α→Res} (hf:∀{W R} x,Has 0 w0 W (f x::R)→Has 0 w0 W (g x::R)):∀{l:List (Int×α)} {R:List Res},Has 0 w0 W (l.map f ++ R)→Has 0 w0 W (l.map g ++ R)
 | [],_,h=>h
 |x::l,R,h=>by
  have h:=hf x h
  have h:Has 0 w0 W (l.map f ++ g x::R):=h.perm List.perm_middle.symm
  exact (aCT hf h).perm List.perm_middle
theorem aCU {l:List (Int×α)} {f g:Int×α→Res} (hf:∀{W R} x,Has 0 w0 W (f x::R)→Has 0 w0 W (g x::R)) (h:Has 0 w0 W (fQ (l.map f)::R)):Has 0 w0 W (fQ (l.map g)::R):=jN (aCT hf (mX h))
structure WPt where
 ms:Nat
 mc:Nat
 md:Nat
 me:Nat
 pn:Nat
 ps:Int→Nat
 pc:Int→Nat
 qs:Int→Nat
 qc:Int→Nat
abbrev aU (p:Nat) (k:WPt):Res:=aA p [.map (some k.ms),.map (some k.mc),.map (some k.md),.map (some k.me),ptr k.pn] 86
def kvs (f:Int→Nat) (l:List Int):KVI:=l.map fun x=>(x,ptr (f x))
def aR (H:Fh) (ps qs:Int→Nat) (l:List (Int×cY)):Res:=fQ (l.map fun x=>cM H (ps x.1) (qs x.1) x.2)
def aV (H:Fh) (pc qc:Int→Nat) (l:List (Int×cW)):Res:=fQ (l.map fun x=>cC H (pc x.1) (qc x.1) x.2)
def aE (nm:ByteArray) (q:Int→Nat) (l:List (Int×bM)):Res:=fQ (l.map fun x=>aB nm (q x.1) x.2)
instance (H H':Fh) (f g:Int→Nat) (l:List (Int×cY)):gS H H' (aR H f g l) (aR H' f g l):=⟨fun hl h=>aCU (fun x h=>aBt h hl) h⟩
instance (H H':Fh) (f g:Int→Nat) (l:List (Int×cW)):gS H H' (aV H f g l) (aV H' f g l):=⟨fun hl h=>aCU (fun x h=>aCJ h hl) h⟩
def dZ {α:Type} (f:Int→Nat) (l:List (Int×α)) (k:Int):Value:=match at? l k with|some _=>ptr (f k)|none=> .pointer none
theorem qU {f:Int→Nat} {k:Int}:∀{l:List (Int×α)},(jL (kvs f (l.map (·.1))) k).getD (.pointer none)=dZ f l k
 | []=>rfl
 |p::l=>by
  have ih:=qU (f:=f) (k:=k) (l:=l)
  unfold dZ at ih⊢
  simp only [List.map_cons,kvs,jL,at?]
  by_cases h:p.1=k
  ·rw [show ksI k p.1=true from mW.2 h.symm,if_pos h,h];rfl
  ·rw [show ksI k p.1=false from by cases h9:ksI k p.1 with|false=>rfl|true=>exact absurd (mW.1 h9).symm h,if_neg h]
   exact ih
instance mpServ:MpI Tryz.prog 82 3 46:=⟨by kernel_rfl,by kernel_rfl⟩
instance mpCli:MpI Tryz.prog 83 3 61:=⟨by kernel_rfl,by kernel_rfl⟩
instance mpDiskI:MpI Tryz.prog 84 3 91:=⟨by kernel_rfl,by kernel_rfl⟩
theorem aCV (W:World):(zeroValue 46).run Tryz.prog W= .ok (.pointer none) W:=by kernel_rfl
theorem aIW (W:World):(zeroValue 61).run Tryz.prog W= .ok (.pointer none) W:=by kernel_rfl
theorem aCW (W:World):(zeroValue 91).run Tryz.prog W= .ok (.pointer none) W:=by kernel_rfl
variable {p:Nat} {k:WPt} {w:bL}
abbrev aY (k:WPt) (w:bL):Res:=aQ k.ms (kvs k.ps (w.servers.map (·.1)))
abbrev aZ (k:WPt) (w:bL):Res:=aQ k.mc (kvs k.pc (w.clients.map (·.1)))
abbrev bA (k:WPt) (w:bL):Res:=aQ k.md (kvs k.qs (w.sd.map (·.1)))
abbrev bB (k:WPt) (w:bL):Res:=aQ k.me (kvs k.qc (w.cd.map (·.1)))
def cE (H:Fh) (p:Nat) (w:bL):Res:=Ex fun k:WPt=>aU p k::aY k w::aZ k w::bA k w::bB k w::aM H k.pn w.n::aR H k.ps k.qs w.servers::aE nameS k.qs w.sd::aV H k.pc k.qc w.clients::aE nameQ k.qc w.cd:: []
theorem k9 (h:Has 0 w0 W (cE H p w::R)):∃k,Has 0 w0 W (aU p k::aY k w::aZ k w::bA k w::bB k w::aM H k.pn w.n::aR H k.ps k.qs w.servers::aE nameS k.qs w.sd::aV H k.pc k.qc w.clients::aE nameQ k.qc w.cd::R):=Has.open h
theorem eY (h:Has 0 w0 W (aU p k::aY k w::aZ k w::bA k w::bB k w::aM H k.pn w.n::aR H k.ps k.qs w.servers::aE nameS k.qs w.sd::aV H k.pc k.qc w.clients::aE nameQ k.qc w.cd::R)):Has 0 w0 W (cE H p w::R):=Has.shut k h
theorem aIX (h:Has 0 w0 W (cE H p w::R)) (hl:H.le H'):Has 0 w0 W (cE H' p w::R):=by
 obtain ⟨k,h⟩:=k9 h
 exact eY (h.lz hl)
instance (H H':Fh) (p:Nat) (w:bL):gS H H' (cE H p w) (cE H' p w):=⟨fun hl h=>aIX h hl⟩
theorem mY (id:Int) (hw:Has 0 w0 W (aU p k::aY k w::R)):
  Calls Tryz.prog 19 ⟨[ptr p,.int .i64 id]⟩ W fun e W'=>e= .returned (dZ k.ps w.servers id)∧Has 0 w0 W' (aU p k::aY k w::R):=by
 refine enter Tryz.func19 Tryz.ntmps19 rfl rfl fun a hs=>?_
 refine sv hs hw fun a hs=>?_
 refine qS hs (hw:=hw) (hz:=aCV) (c:=fun a hs=>?_)
 rw [qU] at hs
 refine sv hs hw fun a hs=>?_
 exact rt1 hs rfl rfl ⟨rfl,hw⟩
theorem i9 (id:Int) (hw:Has 0 w0 W (aU p k::aZ k w::R)):
  Calls Tryz.prog 29 ⟨[ptr p,.int .i64 id]⟩ W fun e W'=>e= .returned (dZ k.pc w.clients id)∧Has 0 w0 W' (aU p k::aZ k w::R):=by
 refine enter Tryz.func29 Tryz.ntmps29 rfl rfl fun a hs=>?_
 refine sv hs hw fun a hs=>?_
 refine qS hs (hw:=hw) (hz:=aIW) (c:=fun a hs=>?_)
 rw [qU] at hs
 refine sv hs hw fun a hs=>?_
 exact rt1 hs rfl rfl ⟨rfl,hw⟩
theorem tT (hw:Has 0 w0 W (aU p k::R)):
  Calls Tryz.prog 13 ⟨[ptr p]⟩ W fun e W'=>e= .returned (ptr k.pn)∧Has 0 w0 W' (aU p k::R):=by
 refine enter Tryz.func13 Tryz.ntmps13 rfl rfl fun a hs=>?_
 refine sv hs hw fun a hs=>?_
 exact rt1 hs rfl rfl ⟨rfl,hw⟩
end
section
variable {w0 W:World} {R L:List Res} {H H':Fh} {p q:Nat} {k:WPt} {w:bL} {u:cW}
def tU (u:cW):cR:=(fB u).headD ⟨0,0,[]⟩
theorem aIY (hw:Has 0 w0 W (cC H p q u::Fz H::R)):
  Calls Tryz.prog 101 ⟨[ptr p]⟩ W fun e W'=>∃(v:Value) (H':Fh),e= .returned (.tuple ⟨[.agg ⟨aL (tU u) v⟩,.bool (!(fB u).isEmpty)]⟩)∧H.le H'∧cH H' v (tU u).l∧Has 0 w0 W' (cC H' p q u::Fz H'::R):=by
 refine enter Tryz.func101 Tryz.ntmps101 rfl rfl fun a hs=>?_
 refine sc hs ?_
 refine sn hs hw fun b2 a W hs hw=>?_
 refine sv hs hw fun a hs=>?_
 have hw:Has 0 w0 W (cC H p q u::Fz H::aA b2 (aL ⟨0,0,[]⟩ (.slice none 0 0)) 66::R):=hw.pm
 refine aF hs (hc:=xX hw) (k:=?_)
 rintro e' W ⟨lv,H3,rfl,hle3,⟨ys,hr,hch⟩,hw⟩
 refine ⟨_,rfl,fun a hs=>?_⟩
 obtain ⟨lad,lcap,rfl⟩:=hr.slice
 refine sv hs hw fun a hs=>?_
 unfold tU
 obtain ⟨l,hl⟩:∃l,l=fB u:=⟨_,rfl⟩
 rw [←hl] at hs hr hch⊢
 cases l with
 |nil=>
  rw [show (((([]:List cR).length:Nat):Int) == 0)=true from rfl] at hs
  refine sx hs hw fun a W hs hw=>?_
  refine rc2 hs rfl rfl hw (by repeat (first|exact In.hd|apply In.tl)) rfl rfl ⟨_,H3,rfl,hle3,jW H3,hw.sl⟩
 |cons b l=>
  rw [show ((((b::l).length:Nat):Int) == 0)=false from by simp;omega] at hs
  refine sv hs hw fun a hs=>?_
  refine fZ hs (r:=hw.rdH (In.tl In.hd) hr) (hk:=BatIn.len) (ch:=hch) (i:=0) (ho:=rfl) (hlen:=rfl) (c:=fun a g off c hmc hcl9 hpc hlt hs=>?_)
  obtain ⟨sv9,rfl,hsv⟩:=hmc
  obtain ⟨oad,ocap,rfl⟩:=hsv.slice
  refine eC hs (z:=tO) (cs:=aL b _) (hc:=hpc) (hl:=by rfl) (c:=fun a hs=>?_)
  refine sx hs hw fun a W hs hw=>?_
  exact rc2 hs rfl rfl hw (by repeat (first|exact In.hd|apply In.tl)) rfl rfl ⟨_,H3,rfl,hle3,hsv,hw.sl⟩
theorem aIZ (n l:List bP) (m:bP):iO n (l ++ [m])=nW (iO n l) m:=by unfold iO;rw [List.foldl_append];rfl
theorem x3 {n ms:List bP} {lv:Value} (hw:Has 0 w0 W (aU p k::aM H k.pn n::aC H lv ms::Fz H::R)):
  Calls Tryz.prog 45 ⟨[ptr p,lv]⟩ W fun e W'=>∃H':Fh,e= .returned (.tuple ⟨[]⟩)∧H.le H'∧Has 0 w0 W' (aU p k::aM H' k.pn (iO n ms)::Fz H'::R):=by
 obtain ⟨lad,lcap,xs,rfl,hch,hw⟩:=qC (hw.sl:Has 0 w0 W (aC H lv ms::aU p k::aM H k.pn n::Fz H::R))
 obtain ⟨lv,hlv⟩:∃lv,lv=Value.slice lad ms.length lcap:=⟨_,rfl⟩
 rw [←hlv] at hw
 have hlen:=(hw.rd_own In.hd).len
 refine enter Tryz.func45 Tryz.ntmps45 rfl rfl fun a hs=>?_
 refine sv hs hw fun a hs=>?_
 rw [←hlv] at hs
 refine bX (σ:=Nat×Fh) (fun z=>[(0,ptr p),(6,lv),(7,.int .i64 (ms.length:Int)),(8,.int .i64 (z.1:Int))]) (fun z=>Sx.Own 38 13 lv ms.length xs::aU p k::aM z.2 k.pn (iO n (ms.take z.1))::Fz z.2::R) (fun z=>z.1≤ms.length∧H.le z.2) (fun z=>ms.length - z.1) (0,H) ⟨Nat.zero_le _,Fh.le.refl H⟩ hs ⟨rfl,rfl,rfl,rfl,trivial⟩ hw ?_
 clear hs hw
 rintro ⟨i,H2⟩ a W ⟨hi,hle⟩ hs hw
 simp only at hi hle hs hw
 refine sv hs hw fun a hs=>?_
 refine cI hs (kt:=fun hcc=>?_) (kf:=fun hcc=>?_)
 ·have hi':i<ms.length:=by simpa using hcc
  obtain ⟨o,ho9,hd⟩:=dS hi'
  refine sc hs ?_
  refine fZ hs (r:=hw.rd_own In.hd) (hk:=MsgIn.len) (ch:=hch) (ho:=ho9) (hlen:=rfl) (c:=fun a g off c hmc hcl9 hpc hlt hs=>?_)
  obtain ⟨ov,rfl,hov,hoc⟩:=hmc
  have hov2:=hov.le hle
  obtain ⟨oad,ocap,rfl⟩:=hov2.slice
  obtain ⟨ov,hov9⟩:∃ov,ov=Value.slice oad o.es.length ocap:=⟨_,rfl⟩
  refine eC hs (z:=aH cP (.slice none 0 0)) (cs:=aH o _) (hc:=hpc) (hl:=by rfl) (c:=fun a hs=>?_)
  refine sn hs hw fun b5 a W hs hw=>?_
  refine sx hs hw fun a W hs hw=>?_
  refine bF [5] [.f 0 0,.f 0 0,.f 0 0,.f 0 0,.f 0 0,.m 0] [.c0 _,.c0 _,.c0 _,.c0 _,.c0 _,.c1 (fun x=>x.v)] (aA b5 (aH o (.slice oad o.es.length ocap)) 38::Sx.Own 38 13 lv ms.length xs::aU p k::aM H2 k.pn (iO n (ms.take i))::Fz H2::R) (fun x=>FzF x.H (Fh.le H2 x.H)::aA b5 (aH o (.slice oad o.es.length ocap)) 38::Sx.Own 38 13 lv ms.length xs::aU p k::aM x.H k.pn (iO n (ms.take (i+1)))::R) (fun x y=>[]) (fun x y z=>[]) (fun x y z t=>[]) hs hw ?kk ⟨drs,drs,drs,drs,drs,?m0,trivial⟩
  case m0=>
   intro x y z t LD a W hs hw
   have hw:Has 0 w0 W (aM H2 k.pn (iO n (ms.take i))::Fz H2::aA b5 (aH o (.slice oad o.es.length ocap)) 38::Sx.Own 38 13 lv ms.length xs::aU p k::R):=hw.pm
   refine aF hs (hc:=aIP o _ hov2 hoc hw) (k:=?_)
   rintro e' W' ⟨b,H3,rfl,hle3,hw⟩
   refine ⟨_,rfl,fun a hs=>?_⟩
   rw [←aIZ,←fS ho9] at hw
   have hw:Has 0 w0 W' (Fz H3::aA b5 (aH o (.slice oad o.es.length ocap)) 38::Sx.Own 38 13 lv ms.length xs::aU p k::aM H3 k.pn (iO n (ms.take (i+1)))::R):=hw.pm
   exact ⟨{v:= .bool b,H:=H3},hs,hw.fzf hle3⟩
  case kk=>
  intro x a W hs hw
  obtain ⟨hle3,hw⟩:=hw.unfzf
  refine sv hs hw fun a hs=>?_
  refine bR (i+1,x.H) hs (hw.sl) ⟨hi',hle.trans hle3⟩ (by show ms.length - (i+1)<ms.length - i;omega) ⟨rfl,rfl,rfl,bS (i1 (by omega)),trivial⟩
 ·have h9:ms.take i=ms:=List.take_of_length_le (by simp at hcc;omega)
  rw [h9] at hw
  refine sc hs ?_
  first
   |exact rt0 hs rfl ⟨H2,rfl,hle,hw.sub (List.Sublist.cons _ (List.Sublist.refl _))⟩
   |exact cO hs rfl ⟨H2,rfl,hle,hw.sub (List.Sublist.cons _ (List.Sublist.refl _))⟩
end
section
variable {w0 W:World} {R L:List Res} {H H':Fh} {p q:Nat} {k:WPt} {w w':bL} {u:cW} {id err:Int} {s:cY} {d:bM}
theorem lW {α:Type} {l:List (Int×α)} {k:Int} {v:α} (h:at? l k=some v):∃r:List (Int×α),(∀{f:Int×α→Res} {W R},Has 0 w0 W (fQ (l.map f)::R)→Has 0 w0 W (f (k,v)::fQ (r.map f)::R))∧∀{f:Int×α→Res} {W R v'},Has 0 w0 W (f (k,v')::fQ (r.map f)::R)→Has 0 w0 W (fQ ((cL l k v').map f)::R):=by
 obtain ⟨l1,l2,e1,e2⟩:=tS h
 refine ⟨l1 ++ l2,fun {f W R} hw=>?_,fun {f W R v'} hw=>?_⟩
 ·have hw:=mX hw
  rw [e1,List.map_append,List.map_cons,List.append_assoc,List.cons_append] at hw
  have hw:Has 0 w0 W ((l1 ++ l2).map f ++ f (k,v)::R):=by
   rw [List.map_append,List.append_assoc]
   refine hw.perm ?_
   refine List.Perm.append_left _ ?_
   exact List.perm_middle.symm
  exact (jN hw).swap2
 ·have hw:=mX hw.swap2
  refine jN ?_
  rw [e2,List.map_append,List.map_cons,List.append_assoc,List.cons_append]
  rw [List.map_append,List.append_assoc] at hw
  refine hw.perm ?_
  refine List.Perm.append_left _ ?_
  exact List.perm_middle
theorem x4 (hs:at? w.servers id=some s) (hd:at? w.sd id=some d):∃rs rd,(∀{H:Fh} {n:List bP} {W R},Has 0 w0 W (aU p k::aY k w::aZ k w::bA k w::bB k w::aM (H) k.pn (n)::aR (H) k.ps k.qs w.servers::aE nameS k.qs w.sd::aV (H) k.pc k.qc w.clients::aE nameQ k.qc w.cd::R)→Has 0 w0 W (cM (H) (k.ps id) (k.qs id) (s)::aB nameS (k.qs id) (d)::aU p k::aY k w::aZ k w::bA k w::bB k w::aM (H) k.pn (n)::aR (H) k.ps k.qs rs::aE nameS k.qs rd::aV (H) k.pc k.qc w.clients::aE nameQ k.qc w.cd::R))∧∀{H:Fh} {n:List bP} {s':cY} {d':bM} {W R},Has 0 w0 W (cM (H) (k.ps id) (k.qs id) (s')::aB nameS (k.qs id) (d')::aU p k::aY k w::aZ k w::bA k w::bB k w::aM (H) k.pn (n)::aR (H) k.ps k.qs rs::aE nameS k.qs rd::aV (H) k.pc k.qc w.clients::aE nameQ k.qc w.cd::R)→Has 0 w0 W (cE H p {w with servers:=cL w.servers id s',sd:=cL w.sd id d',n:=n}::R):=by
 obtain ⟨rs,a1,a2⟩:=lW (w0:=w0) hs
 obtain ⟨rd,b1,b2⟩:=lW (w0:=w0) hd
 refine ⟨rs,rd,fun {H n W R} hw=>?_,fun {H n s' d' W R} hw=>?_⟩
 ·have hw:Has 0 w0 W (aR H k.ps k.qs w.servers::aU p k::aY k w::aZ k w::bA k w::bB k w::aM H k.pn n::aE nameS k.qs w.sd::aV H k.pc k.qc w.clients::aE nameQ k.qc w.cd::R):=hw.pm
  have hw:Has 0 w0 W (cM H (k.ps id) (k.qs id) s::aR H k.ps k.qs rs::aU p k::aY k w::aZ k w::bA k w::bB k w::aM H k.pn n::aE nameS k.qs w.sd::aV H k.pc k.qc w.clients::aE nameQ k.qc w.cd::R):=a1 hw
  have hw:Has 0 w0 W (aE nameS k.qs w.sd::cM H (k.ps id) (k.qs id) s::aR H k.ps k.qs rs::aU p k::aY k w::aZ k w::bA k w::bB k w::aM H k.pn n::aV H k.pc k.qc w.clients::aE nameQ k.qc w.cd::R):=hw.pm
  have hw:Has 0 w0 W (aB nameS (k.qs id) d::aE nameS k.qs rd::cM H (k.ps id) (k.qs id) s::aR H k.ps k.qs rs::aU p k::aY k w::aZ k w::bA k w::bB k w::aM H k.pn n::aV H k.pc k.qc w.clients::aE nameQ k.qc w.cd::R):=b1 hw
  exact hw.pm
 ·have hw:Has 0 w0 W (cM H (k.ps id) (k.qs id) s'::aR H k.ps k.qs rs::aB nameS (k.qs id) d'::aE nameS k.qs rd::aU p k::aY k w::aZ k w::bA k w::bB k w::aM H k.pn n::aV H k.pc k.qc w.clients::aE nameQ k.qc w.cd::R):=hw.pm
  have hw:Has 0 w0 W (aR H k.ps k.qs (cL w.servers id s')::aB nameS (k.qs id) d'::aE nameS k.qs rd::aU p k::aY k w::aZ k w::bA k w::bB k w::aM H k.pn n::aV H k.pc k.qc w.clients::aE nameQ k.qc w.cd::R):=a2 hw
  have hw:Has 0 w0 W (aB nameS (k.qs id) d'::aE nameS k.qs rd::aR H k.ps k.qs (cL w.servers id s')::aU p k::aY k w::aZ k w::bA k w::bB k w::aM H k.pn n::aV H k.pc k.qc w.clients::aE nameQ k.qc w.cd::R):=hw.pm
  have hw:Has 0 w0 W (aE nameS k.qs (cL w.sd id d')::aR H k.ps k.qs (cL w.servers id s')::aU p k::aY k w::aZ k w::bA k w::bB k w::aM H k.pn n::aV H k.pc k.qc w.clients::aE nameQ k.qc w.cd::R):=b2 hw
  have hw:Has 0 w0 W (aU p k::aY k w::aZ k w::bA k w::bB k w::aM H k.pn n::aR H k.ps k.qs (cL w.servers id s')::aE nameS k.qs (cL w.sd id d')::aV H k.pc k.qc w.clients::aE nameQ k.qc w.cd::R):=hw.pm
  refine eY (k:=k) ?_
  show Has 0 w0 W (aU p k::aQ k.ms (kvs k.ps ((cL w.servers id s').map (·.1)))::aZ k w::aQ k.md (kvs k.qs ((cL w.sd id d').map (·.1)))::_)
  rw [qT hs,qT hd]
  exact hw
theorem aCX (h:nY w id=some (w',err)) (hH:(fr w0).le H) (hT:Tabs w0) (hw:Has 0 w0 W (cE H p w::Fz H::R)):
  Calls Tryz.prog 12 ⟨[ptr p,.int .i64 id]⟩ W fun e W'=>∃H':Fh,e= .returned (.int .i64 err)∧H.le H'∧Has 0 w0 W' (cE H' p w'::Fz H'::R):=by
 obtain ⟨k,hw⟩:=k9 hw
 refine enter Tryz.func12 Tryz.ntmps12 rfl rfl fun a hs=>?_
 refine sv hs hw fun a hs=>?_
 refine cl hs (mY id hw) fun a W hs hw=>?_
 unfold nY at h
 unfold dZ at hs
 cases c1:at? w.servers id with
 |none=>
  rw [c1] at hs h
  injection h with h
  injection h with e1 e2
  subst e1 e2
  refine sv hs hw fun a hs=>?_
  exact rt1 hs rfl rfl ⟨H,rfl,Fh.le.refl H,eY hw⟩
 |some s=>
 rw [c1] at hs h
 cases c2:at? w.sd id with
 |none=>rw [c2] at h;cases h
 |some d=>
 rw [c2] at h
 obtain ⟨⟨d2,s2,ms⟩,h1,h2⟩:=Option.map_eq_some_iff.1 h
 injection h2 with e1 e2
 subst e2
 obtain ⟨rs,rd,tk,gv⟩:=x4 (w0:=w0) (p:=p) (k:=k) (w:=w) c1 c2
 refine sv hs hw fun a hs=>?_
 have hw:=tk hw
 refine cl hs (aH9 hw) fun a W hs hw=>?_
 refine sx hs hw fun a W hs hw=>?_
 have hw:Has 0 w0 W (cM H (k.ps id) (k.qs id) s::aB nameS (k.qs id) d::Fz H::aU p k::aY k w::aZ k w::bA k w::bB k w::aM (H) k.pn (w.n)::aR (H) k.ps k.qs rs::aE nameS k.qs rd::aV (H) k.pc k.qc w.clients::aE nameQ k.qc w.cd::R):=hw.pm
 refine aF hs (hc:=aH7 h1 hH hT hw) (k:=?_)
 rintro e' W ⟨v',H3,rfl,hle3,hw⟩
 refine ⟨_,rfl,fun a hs=>?_⟩
 have hw:=hw.lz hle3
 have hw:Has 0 w0 W (aU p k::aM H3 k.pn w.n::aC H3 v' ms::Fz H3::cM H3 (k.ps id) (k.qs id) s2::aB nameS (k.qs id) d2::aY k w::aZ k w::bA k w::bB k w::aR H3 k.ps k.qs rs::aE nameS k.qs rd::aV H3 k.pc k.qc w.clients::aE nameQ k.qc w.cd::R):=hw.pm
 refine aF hs (hc:=x3 hw) (k:=?_)
 rintro e' W ⟨H4,rfl,hle4,hw⟩
 refine ⟨_,rfl,fun a hs=>?_⟩
 have hw:=hw.lz hle4
 refine sv hs hw fun a hs=>?_
 refine rt1 hs rfl rfl ⟨H4,rfl,hle3.trans hle4,?_⟩
 rw [←e1]
 have hw:Has 0 w0 W (cM (H4) (k.ps id) (k.qs id) (s2)::aB nameS (k.qs id) (d2)::aU p k::aY k w::aZ k w::bA k w::bB k w::aM (H4) k.pn ((iO w.n ms))::aR (H4) k.ps k.qs rs::aE nameS k.qs rd::aV (H4) k.pc k.qc w.clients::aE nameQ k.qc w.cd::Fz H4::R):=hw.pm
 exact gv hw
theorem aI0 {m:bP} {n:List bP} (hn:w.n=m::n) (h:xQ w=some w') (hH:(fr w0).le H) (hT:Tabs w0) (hw:Has 0 w0 W (cE H p w::Fz H::R)):
  Calls Tryz.prog 16 ⟨[ptr p,.int .i64 0,.bool false]⟩ W fun e W'=>∃H':Fh,e= .returned (.int .i64 0)∧H.le H'∧Has 0 w0 W' (cE H' p w'::Fz H'::R):=by
 obtain ⟨k,hw⟩:=k9 hw
 refine enter Tryz.func16 Tryz.ntmps16 rfl rfl fun a hs=>?_
 refine sv hs hw fun a hs=>?_
 rw [hn] at hw
 have hw:Has 0 w0 W (aM H k.pn (m::n)::Fz H::aU p k::aY k w::aZ k w::bA k w::bB k w::aR H k.ps k.qs w.servers::aE nameS k.qs w.sd::aV H k.pc k.qc w.clients::aE nameQ k.qc w.cd::R):=hw.pm
 refine aF hs (hc:=aIO hw) (k:=?_)
 rintro e' W ⟨mv,H3,rfl,hle3,hmv,hmc,hw⟩
 refine ⟨_,rfl,fun a hs=>?_⟩
 obtain ⟨mad,mcap,rfl⟩:=hmv.slice
 have hw:=hw.lz hle3
 refine sv hs hw fun a hs=>?_
 refine sn hs hw fun b7 a W hs hw=>?_
 refine sx hs hw fun a W hs hw=>?_
 have hw:Has 0 w0 W (aM H3 k.pn (m::n)::aA b7 (aH m (.slice mad m.es.length mcap)) 38::Fz H3::aU p k::aY k w::aZ k w::bA k w::bB k w::aR H3 k.ps k.qs w.servers::aE nameS k.qs w.sd::aV H3 k.pc k.qc w.clients::aE nameQ k.qc w.cd::R):=hw.pm
 refine cl hs (aIR hw) fun a W hs hw=>?_
 have hw:Has 0 w0 W (aA b7 (aH m (.slice mad m.es.length mcap)) 38::aU p k::aY k w::aZ k w::bA k w::bB k w::aM H3 k.pn (n)::aR H3 k.ps k.qs w.servers::aE nameS k.qs w.sd::aV H3 k.pc k.qc w.clients::aE nameQ k.qc w.cd::Fz H3::R):=hw.pm
 refine zG hs ?_
 refine bF [] [.f 0 0,.f 0 0,.f 0 0,.f 0 0,.f 0 0,.f 0 0,.f 0 0,.f 0 0] [.c0 _,.c0 _,.c0 _,.c0 _,.c0 _,.c0 _,.c0 (dZ k.ps w.servers m.to_),.c0 (dZ k.ps w.servers m.to_)] (aA b7 (aH m (.slice mad m.es.length mcap)) 38::aU p k::aY k w::aZ k w::bA k w::bB k w::aM H3 k.pn (n)::aR H3 k.ps k.qs w.servers::aE nameS k.qs w.sd::aV H3 k.pc k.qc w.clients::aE nameQ k.qc w.cd::Fz H3::R) (fun x=>[]) (fun x y=>[]) (fun x y z=>[]) (fun x y z t=>[]) hs hw ?kk ⟨drs,drs,drs,drs,drs,drs,?f6,?f7,trivial⟩
 case f6=>
  refine ⟨?_,trivial,trivial,trivial,trivial⟩
  intro x y z t LD a W hs hw
  refine qS hs (hw:=hw) (hz:=aCV) (c:=fun a hs=>?_)
  rw [qU] at hs
  exact ⟨hs,hw⟩
 case f7=>
  refine ⟨?_,trivial,trivial,trivial,trivial⟩
  intro x y z t LD a W hs hw
  refine sv hs hw fun a hs=>?_
  exact ⟨hs,hw⟩
 case kk=>
 intro a W hs hw
 unfold xQ at h
 rw [hn] at h
 unfold dZ at hs
 cases c1:at? w.servers m.to_ with
 |none=>
  rw [c1] at hs
  simp only [c1] at h
  injection h with h
  subst h
  refine sv hs hw fun a hs=>?_
  refine rt1 hs rfl rfl ⟨H3,rfl,hle3,?_⟩
  have hw:Has 0 w0 W (aU p k::aY k w::aZ k w::bA k w::bB k w::aM H3 k.pn (n)::aR H3 k.ps k.qs w.servers::aE nameS k.qs w.sd::aV H3 k.pc k.qc w.clients::aE nameQ k.qc w.cd::Fz H3::R):=hw.sub (List.Sublist.cons _ (List.Sublist.refl _))
  exact eY (w:={w with n:=n}) hw
 |some s=>
 rw [c1] at hs
 cases c2:at? w.sd m.to_ with
 |none=>simp only [c1,c2] at h;cases h
 |some d=>
 simp only [c1,c2] at h
 obtain ⟨⟨d2,s2,ms⟩,h1,h2⟩:=Option.map_eq_some_iff.1 h
 subst h2
 obtain ⟨id,hid⟩:∃id,id=m.to_:=⟨_,rfl⟩
 rw [←hid] at c1 c2 hs⊢
 obtain ⟨rs,rd,tk,gv⟩:=x4 (w0:=w0) (p:=p) (k:=k) (w:=w) c1 c2
 refine sx hs hw fun a W hs hw=>?_
 have hw:Has 0 w0 W (aU p k::aY k w::aZ k w::bA k w::bB k w::aM H3 k.pn (n)::aR H3 k.ps k.qs w.servers::aE nameS k.qs w.sd::aV H3 k.pc k.qc w.clients::aE nameQ k.qc w.cd::aA b7 (aH m (.slice mad m.es.length mcap)) 38::Fz H3::R):=hw.pm
 have hw:=tk hw
 have hw:Has 0 w0 W (cM H3 (k.ps id) (k.qs id) s::aB nameS (k.qs id) d::Fz H3::aA b7 (aH m (.slice mad m.es.length mcap)) 38::aU p k::aY k w::aZ k w::bA k w::bB k w::aM (H3) k.pn (n)::aR (H3) k.ps k.qs rs::aE nameS k.qs rd::aV (H3) k.pc k.qc w.clients::aE nameQ k.qc w.cd::R):=hw.pm
 refine aF hs (hc:=aH8 m _ hmv hmc h1 (hH.trans hle3) hT hw) (k:=?_)
 rintro e' W ⟨v',H4,rfl,hle4,hw⟩
 refine ⟨_,rfl,fun a hs=>?_⟩
 have hw:=hw.lz hle4
 have hw:Has 0 w0 W (aU p k::aM H4 k.pn n::aC H4 v' ms::Fz H4::aA b7 (aH m (.slice mad m.es.length mcap)) 38::cM H4 (k.ps id) (k.qs id) s2::aB nameS (k.qs id) d2::aY k w::aZ k w::bA k w::bB k w::aR H4 k.ps k.qs rs::aE nameS k.qs rd::aV H4 k.pc k.qc w.clients::aE nameQ k.qc w.cd::R):=hw.pm
 refine aF hs (hc:=x3 hw) (k:=?_)
 rintro e' W ⟨H5,rfl,hle5,hw⟩
 refine ⟨_,rfl,fun a hs=>?_⟩
 have hw:=hw.lz hle5
 refine sv hs hw fun a hs=>?_
 refine rt1 hs rfl rfl ⟨H5,rfl,(hle3.trans hle4).trans hle5,?_⟩
 have hw:Has 0 w0 W (cM (H5) (k.ps id) (k.qs id) (s2)::aB nameS (k.qs id) (d2)::aU p k::aY k w::aZ k w::bA k w::bB k w::aM (H5) k.pn ((iO n ms))::aR (H5) k.ps k.qs rs::aE nameS k.qs rd::aV (H5) k.pc k.qc w.clients::aE nameQ k.qc w.cd::Fz H5::R):=hw.sl
 exact gv hw
end
section
variable {w0 W:World} {R L:List Res} {H H':Fh} {p q:Nat} {k:WPt} {w w':bL} {u u':cW} {c id err:Int} {s:cY} {d d':bM}
theorem i2 {i:Nat} (h:i≤1000):IntKind.i64.wrap ((i:Int)+1+1)=((i+1:Nat):Int)+1:=by rw [IntWalk.i64_in _ (by omega)];omega
theorem tV {α:Type}:∀{l:List (Int×α)} {k:Int} {v:α},at? l k=some v→cL l k v=l
 | [],_,_,h=>by cases h
 |p::l,k,v,h=>by
  unfold at? at h
  unfold cL
  split at h
  ·rename_i h1
   injection h with h
   rw [if_pos h1,←h1,←h]
  ·rename_i h1
   rw [if_neg h1,tV h]
theorem mZ (hs:at? w.clients c=some u):∃rc:List (Int×cW),(∀{H:Fh} {W R},Has 0 w0 W (aU p k::aY k w::aZ k w::bA k w::bB k w::aM (H) k.pn w.n::aR (H) k.ps k.qs w.servers::aE nameS k.qs w.sd::aV (H) k.pc k.qc w.clients::aE nameQ k.qc w.cd::R)→Has 0 w0 W (cC H (k.pc c) (k.qc c) u::aU p k::aY k w::aZ k w::bA k w::bB k w::aM (H) k.pn w.n::aR (H) k.ps k.qs w.servers::aE nameS k.qs w.sd::aV (H) k.pc k.qc rc::aE nameQ k.qc w.cd::R))∧∀{H:Fh} {W R},Has 0 w0 W (cC H (k.pc c) (k.qc c) u::aU p k::aY k w::aZ k w::bA k w::bB k w::aM (H) k.pn w.n::aR (H) k.ps k.qs w.servers::aE nameS k.qs w.sd::aV (H) k.pc k.qc rc::aE nameQ k.qc w.cd::R)→Has 0 w0 W (aU p k::aY k w::aZ k w::bA k w::bB k w::aM (H) k.pn w.n::aR (H) k.ps k.qs w.servers::aE nameS k.qs w.sd::aV (H) k.pc k.qc w.clients::aE nameQ k.qc w.cd::R):=by
 obtain ⟨rc,a1,a2⟩:=lW (w0:=w0) hs
 refine ⟨rc,fun {H W R} hw=>?_,fun {H W R} hw=>?_⟩
 ·have hw:Has 0 w0 W (aV H k.pc k.qc w.clients::aU p k::aY k w::aZ k w::bA k w::bB k w::aM (H) k.pn w.n::aR (H) k.ps k.qs w.servers::aE nameS k.qs w.sd::aE nameQ k.qc w.cd::R):=hw.pm
  have hw:Has 0 w0 W (cC H (k.pc c) (k.qc c) u::aV H k.pc k.qc rc::aU p k::aY k w::aZ k w::bA k w::bB k w::aM (H) k.pn w.n::aR (H) k.ps k.qs w.servers::aE nameS k.qs w.sd::aE nameQ k.qc w.cd::R):=a1 hw
  exact hw.pm
 ·have hw:Has 0 w0 W (cC H (k.pc c) (k.qc c) u::aV H k.pc k.qc rc::aU p k::aY k w::aZ k w::bA k w::bB k w::aM (H) k.pn w.n::aR (H) k.ps k.qs w.servers::aE nameS k.qs w.sd::aE nameQ k.qc w.cd::R):=hw.pm
  have hw:Has 0 w0 W (aV H k.pc k.qc (cL w.clients c u)::aU p k::aY k w::aZ k w::bA k w::bB k w::aM (H) k.pn w.n::aR (H) k.ps k.qs w.servers::aE nameS k.qs w.sd::aE nameQ k.qc w.cd::R):=a2 hw
  rw [tV hs] at hw
  exact hw.pm
theorem x5 (hs:at? w.clients c=some u) (hd:at? w.cd c=some d):∃(rc:List (Int×cW)) (re:List (Int×bM)),(∀{H:Fh} {W R},Has 0 w0 W (aU p k::aY k w::aZ k w::bA k w::bB k w::aM (H) k.pn w.n::aR (H) k.ps k.qs w.servers::aE nameS k.qs w.sd::aV (H) k.pc k.qc w.clients::aE nameQ k.qc w.cd::R)→Has 0 w0 W (cC H (k.pc c) (k.qc c) u::aB nameQ (k.qc c) d::aU p k::aY k w::aZ k w::bA k w::bB k w::aM (H) k.pn w.n::aR (H) k.ps k.qs w.servers::aE nameS k.qs w.sd::aV (H) k.pc k.qc rc::aE nameQ k.qc re::R))∧∀{H:Fh} {u':cW} {d':bM} {W R},Has 0 w0 W (cC H (k.pc c) (k.qc c) u'::aB nameQ (k.qc c) d'::aU p k::aY k w::aZ k w::bA k w::bB k w::aM (H) k.pn w.n::aR (H) k.ps k.qs w.servers::aE nameS k.qs w.sd::aV (H) k.pc k.qc rc::aE nameQ k.qc re::R)→Has 0 w0 W (aU p k::aY k ({w with clients:=cL w.clients c u',cd:=cL w.cd c d'}:bL)::aZ k ({w with clients:=cL w.clients c u',cd:=cL w.cd c d'}:bL)::bA k ({w with clients:=cL w.clients c u',cd:=cL w.cd c d'}:bL)::bB k ({w with clients:=cL w.clients c u',cd:=cL w.cd c d'}:bL)::aM H k.pn w.n::aR H k.ps k.qs w.servers::aE nameS k.qs w.sd::aV H k.pc k.qc (cL w.clients c u')::aE nameQ k.qc (cL w.cd c d')::R):=by
 obtain ⟨rc,a1,a2⟩:=lW (w0:=w0) hs
 obtain ⟨re,b1,b2⟩:=lW (w0:=w0) hd
 refine ⟨rc,re,fun {H W R} hw=>?_,fun {H u' d' W R} hw=>?_⟩
 ·have hw:Has 0 w0 W (aV H k.pc k.qc w.clients::aU p k::aY k w::aZ k w::bA k w::bB k w::aM (H) k.pn w.n::aR (H) k.ps k.qs w.servers::aE nameS k.qs w.sd::aE nameQ k.qc w.cd::R):=hw.pm
  have hw:Has 0 w0 W (cC H (k.pc c) (k.qc c) u::aV H k.pc k.qc rc::aU p k::aY k w::aZ k w::bA k w::bB k w::aM (H) k.pn w.n::aR (H) k.ps k.qs w.servers::aE nameS k.qs w.sd::aE nameQ k.qc w.cd::R):=a1 hw
  have hw:Has 0 w0 W (aE nameQ k.qc w.cd::cC H (k.pc c) (k.qc c) u::aV H k.pc k.qc rc::aU p k::aY k w::aZ k w::bA k w::bB k w::aM (H) k.pn w.n::aR (H) k.ps k.qs w.servers::aE nameS k.qs w.sd::R):=hw.pm
  have hw:Has 0 w0 W (aB nameQ (k.qc c) d::aE nameQ k.qc re::cC H (k.pc c) (k.qc c) u::aV H k.pc k.qc rc::aU p k::aY k w::aZ k w::bA k w::bB k w::aM (H) k.pn w.n::aR (H) k.ps k.qs w.servers::aE nameS k.qs w.sd::R):=b1 hw
  exact hw.pm
 ·have hw:Has 0 w0 W (cC H (k.pc c) (k.qc c) u'::aV H k.pc k.qc rc::aB nameQ (k.qc c) d'::aE nameQ k.qc re::aU p k::aY k w::aZ k w::bA k w::bB k w::aM (H) k.pn w.n::aR (H) k.ps k.qs w.servers::aE nameS k.qs w.sd::R):=hw.pm
  have hw:Has 0 w0 W (aV H k.pc k.qc (cL w.clients c u')::aB nameQ (k.qc c) d'::aE nameQ k.qc re::aU p k::aY k w::aZ k w::bA k w::bB k w::aM (H) k.pn w.n::aR (H) k.ps k.qs w.servers::aE nameS k.qs w.sd::R):=a2 hw
  have hw:Has 0 w0 W (aB nameQ (k.qc c) d'::aE nameQ k.qc re::aV H k.pc k.qc (cL w.clients c u')::aU p k::aY k w::aZ k w::bA k w::bB k w::aM (H) k.pn w.n::aR (H) k.ps k.qs w.servers::aE nameS k.qs w.sd::R):=hw.pm
  have hw:Has 0 w0 W (aE nameQ k.qc (cL w.cd c d')::aV H k.pc k.qc (cL w.clients c u')::aU p k::aY k w::aZ k w::bA k w::bB k w::aM (H) k.pn w.n::aR (H) k.ps k.qs w.servers::aE nameS k.qs w.sd::R):=b2 hw
  have hw:Has 0 w0 W (aU p k::aY k w::aZ k w::bA k w::bB k w::aM (H) k.pn w.n::aR (H) k.ps k.qs w.servers::aE nameS k.qs w.sd::aV H k.pc k.qc (cL w.clients c u')::aE nameQ k.qc (cL w.cd c d')::R):=hw.pm
  show Has 0 w0 W (aU p k::aY k w::aQ k.mc (kvs k.pc ((cL w.clients c u').map (·.1)))::bA k w::aQ k.me (kvs k.qc ((cL w.cd c d').map (·.1)))::_)
  rw [qT hs,qT hd]
  exact hw
theorem aCY {t:dU} {n:Int} (ht:t.rows.length≤1000∧(∀r∈t.rows,lR r=true)∧∀x∈t.f.told,x.2.b.l.length≤8):(gL t n 10).length≤1000∧∀r∈gL t n 10,jH r:=by
 unfold gL
 split
 ·exact ⟨by simp,by simp⟩
 ·refine ⟨by rw [List.length_take,List.length_drop];omega,fun r hr=>(qM (ht.2.1 r (List.mem_of_mem_drop (List.mem_of_mem_take hr)))).1⟩
theorem aCZ {sid:Int} (h:kB w c sid=some (w',err)) (hH:(fr w0).le H) (hT:Tabs w0) (hw:Has 0 w0 W (aU p k::aY k w::aZ k w::bA k w::bB k w::aM H k.pn w.n::aR H k.ps k.qs w.servers::aE nameS k.qs w.sd::aV H k.pc k.qc w.clients::aE nameQ k.qc w.cd::Fz H::R)):
  Calls Tryz.prog 60 ⟨[ptr p,.int .i64 c,.int .i64 sid]⟩ W fun e W'=>∃H':Fh,e= .returned (.int .i64 err)∧H.le H'∧Has 0 w0 W' (aU p k::aY k w'::aZ k w'::bA k w'::bB k w'::aM H' k.pn w'.n::aR H' k.ps k.qs w'.servers::aE nameS k.qs w'.sd::aV H' k.pc k.qc w'.clients::aE nameQ k.qc w'.cd::Fz H'::R):=by
 refine enter Tryz.func60 Tryz.ntmps60 rfl rfl fun a hs=>?_
 refine sv hs hw fun a hs=>?_
 have hw:Has 0 w0 W (aU p k::aZ k w::aY k w::bA k w::bB k w::aM H k.pn w.n::aR H k.ps k.qs w.servers::aE nameS k.qs w.sd::aV H k.pc k.qc w.clients::aE nameQ k.qc w.cd::Fz H::R):=hw.pm
 refine cl hs (i9 c hw) fun a W hs hw=>?_
 refine sv hs hw fun a hs=>?_
 have hw:Has 0 w0 W (aU p k::aY k w::aZ k w::bA k w::bB k w::aM H k.pn w.n::aR H k.ps k.qs w.servers::aE nameS k.qs w.sd::aV H k.pc k.qc w.clients::aE nameQ k.qc w.cd::Fz H::R):=hw.pm
 refine cl hs (mY sid hw) fun a W hs hw=>?_
 unfold kB at h
 unfold dZ at hs
 cases c1:at? w.clients c with
 |none=>
  simp only [c1] at h
  rw [c1] at hs
  injection h with h
  injection h with e1 e2
  subst e1 e2
  refine sv hs hw fun a hs=>?_
  exact rt1 hs rfl rfl ⟨H,rfl,Fh.le.refl H,hw⟩
 |some u=>
 rw [c1] at hs
 cases c2:at? w.servers sid with
 |none=>
  simp only [c1,c2] at h
  rw [c2] at hs
  injection h with h
  injection h with e1 e2
  subst e1 e2
  refine sv hs hw fun a hs=>?_
  exact rt1 hs rfl rfl ⟨H,rfl,Fh.le.refl H,hw⟩
 |some s=>
 rw [c2] at hs
 cases c3:at? w.cd c with
 |none=>simp only [c1,c2,c3] at h;cases h
 |some d=>
 simp only [c1,c2,c3] at h
 obtain ⟨⟨d2,u2,n2,e2⟩,h1,h2⟩:=Option.map_eq_some_iff.1 h
 injection h2 with e3 e4
 subst e4
 obtain ⟨rc,re,tk,gv⟩:=x5 (w0:=w0) (p:=p) (k:=k) (w:=w) c1 c3
 obtain ⟨rs,a1,a2⟩:=lW (w0:=w0) c2
 have hw:=tk hw
 refine sv hs hw fun a hs=>?_
 refine cl hs (tP hw) fun a W hs hw=>?_
 have hw:Has 0 w0 W (aR H k.ps k.qs w.servers::Fz H::cC H (k.pc c) (k.qc c) u::aB nameQ (k.qc c) d::aU p k::aY k w::aZ k w::bA k w::bB k w::aM (H) k.pn w.n::aE nameS k.qs w.sd::aV (H) k.pc k.qc rc::aE nameQ k.qc re::R):=hw.pm
 have hw:Has 0 w0 W (cM H (k.ps sid) (k.qs sid) s::aR H k.ps k.qs rs::Fz H::cC H (k.pc c) (k.qc c) u::aB nameQ (k.qc c) d::aU p k::aY k w::aZ k w::bA k w::bB k w::aM (H) k.pn w.n::aE nameS k.qs w.sd::aV (H) k.pc k.qc rc::aE nameQ k.qc re::R):=a1 hw
 have ht:=nV (kA hw).2.1
 have hw:Has 0 w0 W (cM H (k.ps sid) (k.qs sid) s::Fz H::aR H k.ps k.qs rs::cC H (k.pc c) (k.qc c) u::aB nameQ (k.qc c) d::aU p k::aY k w::aZ k w::bA k w::bB k w::aM (H) k.pn w.n::aE nameS k.qs w.sd::aV (H) k.pc k.qc rc::aE nameQ k.qc re::R):=hw.pm
 refine aF hs (hc:=aHa (iN u) hw) (k:=?_)
 rintro e' W ⟨v',H3,rfl,hle3,hv3,hw⟩
 refine ⟨_,rfl,fun a hs=>?_⟩
 have hw:=hw.lz hle3
 refine sv hs hw fun a hs=>?_
 have hw:Has 0 w0 W (cM H3 (k.ps sid) (k.qs sid) s::aR H3 k.ps k.qs rs::cC H3 (k.pc c) (k.qc c) u::aB nameQ (k.qc c) d::Fz H3::aU p k::aY k w::aZ k w::bA k w::bB k w::aM (H3) k.pn w.n::aE nameS k.qs w.sd::aV (H3) k.pc k.qc rc::aE nameQ k.qc re::R):=hw.pm
 have hw:Has 0 w0 W (aR H3 k.ps k.qs (cL w.servers sid s)::cC H3 (k.pc c) (k.qc c) u::aB nameQ (k.qc c) d::Fz H3::aU p k::aY k w::aZ k w::bA k w::bB k w::aM (H3) k.pn w.n::aE nameS k.qs w.sd::aV (H3) k.pc k.qc rc::aE nameQ k.qc re::R):=a2 hw
 rw [tV c2] at hw
 have hw:Has 0 w0 W (cC H3 (k.pc c) (k.qc c) u::aB nameQ (k.qc c) d::Fz H3::aR H3 k.ps k.qs w.servers::aU p k::aY k w::aZ k w::bA k w::bB k w::aM (H3) k.pn w.n::aE nameS k.qs w.sd::aV (H3) k.pc k.qc rc::aE nameQ k.qc re::R):=hw.pm
 refine aF hs (hc:=aHz (gL s.t (iN u) 10) (aCY ht).1 (aCY ht).2 hv3 h1 (hH.trans hle3) hT hw) (k:=?_)
 rintro e' W ⟨H4,rfl,hle4,hw⟩
 refine ⟨_,rfl,fun a hs=>?_⟩
 have hw:=hw.lz hle4
 refine sv hs hw fun a hs=>?_
 refine rt1 hs rfl rfl ⟨H4,rfl,hle3.trans hle4,?_⟩
 rw [←e3]
 have hw:Has 0 w0 W (cC H4 (k.pc c) (k.qc c) u2::aB nameQ (k.qc c) d2::aU p k::aY k w::aZ k w::bA k w::bB k w::aM (H4) k.pn w.n::aR (H4) k.ps k.qs w.servers::aE nameS k.qs w.sd::aV (H4) k.pc k.qc rc::aE nameQ k.qc re::Fz H4::R):=hw.pm
 exact gv hw
theorem aI1 {sid:Int} (h:kB w c sid=some (w',err)) (hH:(fr w0).le H) (hT:Tabs w0) (hw:Has 0 w0 W (cE H p w::Fz H::R)):
  Calls Tryz.prog 60 ⟨[ptr p,.int .i64 c,.int .i64 sid]⟩ W fun e W'=>∃H':Fh,e= .returned (.int .i64 err)∧H.le H'∧Has 0 w0 W' (cE H' p w'::Fz H'::R):=by
 obtain ⟨k,hw⟩:=k9 hw
 exact (aCZ h hH hT hw).mono fun e W ⟨H',e1,hle,hw⟩=>⟨H',e1,hle,eY hw⟩
theorem aI2 {u:cW} (h:gH u=true):∀b∈fB u,mN b=true:=by
 unfold gH at h
 simp only [Bool.and_eq_true,decide_eq_true_eq,List.all_eq_true] at h
 exact fun b hb=>h.1.1.1.1.2 b (List.mem_of_mem_drop hb)
theorem aC0 (h:nZ w c id=some (w',err)) (hH:(fr w0).le H) (hT:Tabs w0) (hw:Has 0 w0 W (cE H p w::Fz H::R)):
  Calls Tryz.prog 57 ⟨[ptr p,.int .i64 c,.int .i64 id]⟩ W fun e W'=>∃H':Fh,e= .returned (.int .i64 err)∧H.le H'∧Has 0 w0 W' (cE H' p w'::Fz H'::R):=by
 obtain ⟨k,hw⟩:=k9 hw
 refine enter Tryz.func57 Tryz.ntmps57 rfl rfl fun a hs=>?_
 refine sv hs hw fun a hs=>?_
 have hw:Has 0 w0 W (aU p k::aZ k w::aY k w::bA k w::bB k w::aM H k.pn w.n::aR H k.ps k.qs w.servers::aE nameS k.qs w.sd::aV H k.pc k.qc w.clients::aE nameQ k.qc w.cd::Fz H::R):=hw.pm
 refine cl hs (i9 c hw) fun a W hs hw=>?_
 refine sv hs hw fun a hs=>?_
 have hw:Has 0 w0 W (aU p k::aY k w::aZ k w::bA k w::bB k w::aM H k.pn w.n::aR H k.ps k.qs w.servers::aE nameS k.qs w.sd::aV H k.pc k.qc w.clients::aE nameQ k.qc w.cd::Fz H::R):=hw.pm
 refine cl hs (mY id hw) fun a W hs hw=>?_
 unfold nZ at h
 unfold dZ at hs
 cases c1:at? w.clients c with
 |none=>
  simp only [c1] at h
  rw [c1] at hs
  injection h with h
  injection h with e1 e2
  subst e1 e2
  refine sv hs hw fun a hs=>?_
  exact rt1 hs rfl rfl ⟨H,rfl,Fh.le.refl H,eY hw⟩
 |some u=>
 rw [c1] at hs
 cases c2:at? w.servers id with
 |none=>
  simp only [c1,c2] at h
  rw [c2] at hs
  injection h with h
  injection h with e1 e2
  subst e1 e2
  refine sv hs hw fun a hs=>?_
  exact rt1 hs rfl rfl ⟨H,rfl,Fh.le.refl H,eY hw⟩
 |some s=>
 rw [c2] at hs
 cases c3:at? w.sd id with
 |none=>simp only [c1,c2,c3] at h;cases h
 |some d=>
 simp only [c1,c2,c3] at h
 obtain ⟨rc,tk,gv⟩:=mZ (w0:=w0) (p:=p) (k:=k) (w:=w) c1
 obtain ⟨rs,rd,tk2,gv2⟩:=x4 (w0:=w0) (p:=p) (k:=k) (w:=w) c2 c3
 have hw:=tk hw
 have hbat:∀b∈fB u,mN b=true:=by
  obtain ⟨b,hw⟩:=k7 hw
  exact aI2 (kC hw.swap2).1
 refine sv hs hw fun a hs=>?_
 have hw:Has 0 w0 W (cC H (k.pc c) (k.qc c) u::Fz H::aU p k::aY k w::aZ k w::bA k w::bB k w::aM (H) k.pn w.n::aR (H) k.ps k.qs w.servers::aE nameS k.qs w.sd::aV (H) k.pc k.qc rc::aE nameQ k.qc w.cd::R):=hw.pm
 refine aF hs (hc:=aIY hw) (k:=?_)
 rintro e' W ⟨mv,H3,rfl,hle3,hmv,hw⟩
 refine ⟨_,rfl,fun a hs=>?_⟩
 have hw:=hw.lz hle3
 unfold tU at hs hmv
 cases c4:fB u with
 |nil=>
  rw [c4] at hs hmv h
  obtain ⟨mad,mcap,rfl⟩:=hmv.slice
  injection h with h
  injection h with e1 e2
  subst e1 e2
  refine sv hs hw fun a hs=>?_
  refine sn hs hw fun b9 a W hs hw=>?_
  refine sx hs hw fun a W hs hw=>?_
  refine rt1 hs rfl rfl ⟨H3,rfl,hle3,?_⟩
  have hw:Has 0 w0 W (cC H3 (k.pc c) (k.qc c) u::aU p k::aY k w::aZ k w::bA k w::bB k w::aM (H3) k.pn w.n::aR (H3) k.ps k.qs w.servers::aE nameS k.qs w.sd::aV (H3) k.pc k.qc rc::aE nameQ k.qc w.cd::Fz H3::R):=hw.sl
  exact eY (gv hw)
 |cons b l=>
 rw [c4] at hs hmv h hbat
 rw [show ((b::l).headD (⟨0,0,[]⟩:cR))=b from rfl] at hs hmv
 rw [show (!(b::l).isEmpty)=true from rfl] at hs
 have hb:=hbat b (by simp)
 obtain ⟨mad,mcap,rfl⟩:=hmv.slice
 obtain ⟨⟨d2,s2,row,ms,e2⟩,h1,h2⟩:=Option.map_eq_some_iff.1 h
 injection h2 with e3 e4
 subst e4
 refine sv hs hw fun a hs=>?_
 refine sn hs hw fun b9 a W hs hw=>?_
 refine sx hs hw fun a W hs hw=>?_
 have hw:Has 0 w0 W (cC H3 (k.pc c) (k.qc c) u::aU p k::aY k w::aZ k w::bA k w::bB k w::aM (H3) k.pn w.n::aR (H3) k.ps k.qs w.servers::aE nameS k.qs w.sd::aV (H3) k.pc k.qc rc::aE nameQ k.qc w.cd::aA b9 (aL b (.slice mad b.l.length mcap)) 66::Fz H3::R):=hw.pm
 have hw:Has 0 w0 W (aU p k::aY k w::aZ k w::bA k w::bB k w::aM H3 k.pn w.n::aR H3 k.ps k.qs w.servers::aE nameS k.qs w.sd::aV H3 k.pc k.qc w.clients::aE nameQ k.qc w.cd::aA b9 (aL b (.slice mad b.l.length mcap)) 66::Fz H3::R):=gv hw
 have hw:=tk2 hw
 have hw:Has 0 w0 W (cM H3 (k.ps id) (k.qs id) s::aB nameS (k.qs id) d::Fz H3::aA b9 (aL b (.slice mad b.l.length mcap)) 66::aU p k::aY k w::aZ k w::bA k w::bB k w::aM (H3) k.pn (w.n)::aR (H3) k.ps k.qs rs::aE nameS k.qs rd::aV (H3) k.pc k.qc w.clients::aE nameQ k.qc w.cd::R):=hw.pm
 refine aF hs (hc:=aIG b hb hmv h1 (hH.trans hle3) hT hw) (k:=?_)
 rintro e' W ⟨rad,rcap,v',H4,rfl,hle4,hw⟩
 refine ⟨_,rfl,fun a hs=>?_⟩
 have hw:=hw.lz hle4
 refine sv hs hw fun a hs=>?_
 refine sn hs hw fun b11 a W hs hw=>?_
 refine sx hs hw fun a W hs hw=>?_
 have hw:Has 0 w0 W (aU p k::aM H4 k.pn w.n::aC H4 v' ms::Fz H4::aA b11 (aJ row (.slice rad row.b.l.length rcap)) 68::aA b9 (aL b (.slice mad b.l.length mcap)) 66::cM H4 (k.ps id) (k.qs id) s2::aB nameS (k.qs id) d2::aY k w::aZ k w::bA k w::bB k w::aR H4 k.ps k.qs rs::aE nameS k.qs rd::aV H4 k.pc k.qc w.clients::aE nameQ k.qc w.cd::R):=hw.pm
 refine aF hs (hc:=x3 hw) (k:=?_)
 rintro e' W ⟨H5,rfl,hle5,hw⟩
 refine ⟨_,rfl,fun a hs=>?_⟩
 have hw:=hw.lz hle5
 refine sv hs hw fun a hs=>?_
 refine rt1 hs rfl rfl ⟨H5,rfl,(hle3.trans hle4).trans hle5,?_⟩
 rw [←e3]
 have hw:Has 0 w0 W (cM (H5) (k.ps id) (k.qs id) (s2)::aB nameS (k.qs id) (d2)::aU p k::aY k w::aZ k w::bA k w::bB k w::aM (H5) k.pn ((iO w.n ms))::aR (H5) k.ps k.qs rs::aE nameS k.qs rd::aV (H5) k.pc k.qc w.clients::aE nameQ k.qc w.cd::Fz H5::R):=hw.sl
 exact gv2 hw
end
section
variable {α:Type} {w0 W:World} {R L:List Res} {H H':Fh} {p q b:Nat} {f g ps qs pc qc:Int→Nat}
def upd (f:Int→Nat) (k:Int) (b:Nat):Int→Nat:=fun x=>if x=k then b else f x
theorem oD (f:Int→Nat) (k:Int) (b:Nat):upd f k b k=b:=by unfold upd;rw [if_pos rfl]
theorem qV {k x:Int} (h:x≠k):upd f k b x=f x:=by unfold upd;rw [if_neg h]
theorem qW {k:Int}:∀{l:List Int},k∉l→gY (kvs f l) k (ptr b)=kvs (upd f k b) (l ++ [k])
 | [],_=>by show [(k,ptr b)]= [(k,ptr (upd f k b k))];rw [oD]
 |x::l,h=>by
  have h1:x≠k:=fun e=>h (by rw [e];simp)
  have h2:k∉l:=fun e=>h (by simp [e])
  have ih:=qW h2
  show (match ksI k x with|true=>_|false=>_)=_
  rw [show ksI k x=false from by cases h9:ksI k x with|false=>rfl|true=>exact absurd (mW.1 h9).symm h1]
  show (x,ptr (f x))::gY (kvs f l) k (ptr b)=(x,ptr (upd f k b x))::kvs (upd f k b) (l ++ [k])
  rw [ih,qV h1]
theorem aC1 {x:Int}:∀{l:List Int},x∈l→jL (kvs f l) x=some (ptr (f x))
 | [],h=>by cases h
 |y::l,h=>by
  show (match ksI x y with|true=>_|false=>_)=_
  cases h9:ksI x y with
  |true=>rw [mW.1 h9]
  |false=>
   simp only [List.mem_cons] at h
   rcases h with h|h
   ·rw [mW.2 h] at h9;cases h9
   ·exact aC1 h
theorem x6 {k:Int} {v:α}:∀{l:List (Int×α)},at? l k=none→cL l k v=l ++ [(k,v)]
 | [],_=>rfl
 |p::l,h=>by
  unfold at? at h
  unfold cL
  split at h
  ·cases h
  ·rename_i h1
   rw [if_neg h1,x6 h];rfl
theorem x7 {k k':Int} {v:α} (hk:k'≠k):∀{l:List (Int×α)},at? (cL l k v) k'=at? l k'
 | []=>by show (if k=k' then _ else _)=_;rw [if_neg (Ne.symm hk)]
 |p::l=>by
  unfold cL
  split
  ·rename_i h1
   show (if k=k' then _ else at? l k')=(if p.1=k' then _ else at? l k')
   rw [if_neg (Ne.symm hk),if_neg (by rw [h1];exact Ne.symm hk)]
  ·show (if p.1=k' then _ else at? (cL l k v) k')=(if p.1=k' then _ else at? l k')
   rw [x7 hk]
theorem aC2 {k:Int}:∀{l:List (Int×α)},at? l k=none→k∉l.map (·.1)
 | [],_=>by simp
 |p::l,h=>by
  unfold at? at h
  split at h
  ·cases h
  ·rename_i h1
   have:=aC2 h
   simp only [List.map_cons,List.mem_cons,not_or]
   exact ⟨Ne.symm h1,this⟩
theorem x8 {F G:Int×α→Res} {l:List (Int×α)} {x:Int×α} (hl:∀y∈l,F y=G y) (h:Has 0 w0 W (G x::fQ (l.map F)::R)):Has 0 w0 W (fQ ((l ++ [x]).map G)::R):=by
 have h:=mX h.swap2
 rw [List.map_congr_left hl] at h
 refine jN ?_
 rw [List.map_append,List.append_assoc]
 exact h
theorem aC3 {nm:ByteArray} {k:Int} {d:bM} {l:List (Int×bM)} (hk:k∉l.map (·.1)) (h:Has 0 w0 W (aB nm b d::aE nm f l::R)):Has 0 w0 W (aE nm (upd f k b) (l ++ [(k,d)])::R):=by
 refine x8 (F:=fun x=>aB nm (f x.1) x.2) (G:=fun x=>aB nm (upd f k b x.1) x.2) (x:=(k,d)) (fun y hy=>?_) ?_
 ·show aB nm (f y.1) y.2=aB nm (upd f k b y.1) y.2
  rw [qV (fun e=>hk (by rw [←e];exact List.mem_map_of_mem hy))]
 ·show Has 0 w0 W (aB nm (upd f k b k) d::aE nm f l::R)
  rw [oD];exact h
theorem aI3 {k:Int} {s:cY} {l:List (Int×cY)} (hk:k∉l.map (·.1)) (h:Has 0 w0 W (cM H b (qs k) s::aR H ps qs l::R)):Has 0 w0 W (aR H (upd ps k b) qs (l ++ [(k,s)])::R):=by
 refine x8 (F:=fun x=>cM H (ps x.1) (qs x.1) x.2) (G:=fun x=>cM H (upd ps k b x.1) (qs x.1) x.2) (x:=(k,s)) (fun y hy=>?_) ?_
 ·show cM H (ps y.1) (qs y.1) y.2=cM H (upd ps k b y.1) (qs y.1) y.2
  rw [qV (fun e=>hk (by rw [←e];exact List.mem_map_of_mem hy))]
 ·show Has 0 w0 W (cM H (upd ps k b k) (qs k) s::aR H ps qs l::R)
  rw [oD];exact h
theorem aI4 {k:Int} {c:Nat} {u:cW} {l:List (Int×cW)} (hk:k∉l.map (·.1)) (h:Has 0 w0 W (cC H b c u::aV H pc qc l::R)):Has 0 w0 W (aV H (upd pc k b) (upd qc k c) (l ++ [(k,u)])::R):=by
 refine x8 (F:=fun x=>cC H (pc x.1) (qc x.1) x.2) (G:=fun x=>cC H (upd pc k b x.1) (upd qc k c x.1) x.2) (x:=(k,u)) (fun y hy=>?_) ?_
 ·show cC H (pc y.1) (qc y.1) y.2=cC H (upd pc k b y.1) (upd qc k c y.1) y.2
  have hne:y.1≠k:=fun e=>hk (by rw [←e];exact List.mem_map_of_mem hy)
  rw [qV hne,qV hne]
 ·show Has 0 w0 W (cC H (upd pc k b k) (upd qc k c k) u::aV H pc qc l::R)
  rw [oD,oD];exact h
theorem tW:∀(n:Nat) (k:Int),bD (n+1) k=bD n k ++ [k+n]
 |0,k=>by simp [bD]
 |n+1,k=>by
  have:=tW n (k+1)
  rw [bD,this,bD,List.cons_append]
  congr 3
  omega
theorem tX:∀{n:Nat} {k x:Int},x∈bD n k→k≤x∧x<k+n
 |0,k,x,h=>by cases h
 |n+1,k,x,h=>by
  simp only [bD,List.mem_cons] at h
  rcases h with h|h
  ·omega
  ·have:=tX h;omega
theorem tY:∀(n:Nat) (k:Int),(bD n k).length=n
 |0,_=>rfl
 |n+1,k=>by show (bD n (k+1)).length+1=n+1;rw [tY]
theorem aC4 (n:Nat) (k:Int):k+n∉bD n k:=fun h=>by have:=tX h;omega
theorem aC5:∀(n:Nat) (k:Int),(bD n k).Nodup
 |0,_=>List.nodup_nil
 |n+1,k=>List.nodup_cons.2 ⟨fun h=>by have:=tX h;omega,aC5 n (k+1)⟩
theorem aC6 {F:Int→α}:∀{n:Nat} {k x:Int},x∈bD n k→at? ((bD n k).map fun c=>(c,F c)) x=some (F x)
 |0,k,x,h=>by cases h
 |n+1,k,x,h=>by
  show (if k=x then some (F k) else at? ((bD n (k+1)).map fun c=>(c,F c)) x)=_
  by_cases h1:k=x
  ·rw [if_pos h1,h1]
  ·rw [if_neg h1]
   simp only [bD,List.mem_cons] at h
   rcases h with h|h
   ·exact absurd h.symm h1
   ·exact aC6 h
theorem aC7 {all:List Int}:∀{l:List Int} {w w':bL},nX all l w=some w'→w'.clients=w.clients∧w'.cd=w.cd∧w'.n=w.n
 | [],w,w',h=>by injection h with h;subst h;exact ⟨rfl,rfl,rfl⟩
 |id::l,w,w',h=>by
  unfold nX at h
  obtain ⟨x,h1,h2⟩:=Option.bind_eq_some_iff.1 h
  have h3:=aC7 (w:={w with servers:=cL w.servers id x.2,sd:=cL w.sd id x.1}) h2
  exact h3
theorem aI5 {i:Nat} (h:i<5):gH (eE ((i:Int)+1))=true:=by
 have:i=0∨i=1∨i=2∨i=3∨i=4:=by omega
 rcases this with rfl|rfl|rfl|rfl|rfl <;> rfl
theorem aI6 {n:Nat} (h1:1≤n) (h:n≤7):dD (bD n 1)=true:=by
 have:n=1∨n=2∨n=3∨n=4∨n=5∨n=6∨n=7:=by omega
 rcases this with rfl|rfl|rfl|rfl|rfl|rfl|rfl <;> rfl
end
section
variable {H H':Fh} {p q pk pr pt:Nat} {s s':cY} {w0 W:World} {R L:List Res} {d d':bM} {k k':dY} {o:fV} {ms:List bP}
theorem aI7:aAn emptyT:=⟨rfl,fun r hr=>(by cases hr),⟨by decide,by decide⟩,by decide⟩
theorem aI8 {id:Int} {first:List Int} {s':cY} (h:sI id first=some (d',s')):∃sz:Nat,pR none ⟨⟨0,0⟩,zeroSnap,[],0⟩ ⟨0,0,⟨(iF first).toArray⟩,⟨emptyData.toArray⟩⟩=some (d',⟨⟨0,0⟩,⟨0,0,⟨(iF first).toArray⟩,⟨emptyData.toArray⟩⟩,[],sz⟩)∧
  pO id ⟨0,0⟩ ⟨⟨0,0,⟨(iF first).toArray⟩,⟨emptyData.toArray⟩⟩,[]⟩ 0=some s'.r∧s'=⟨⟨⟨0,0⟩,⟨0,0,⟨(iF first).toArray⟩,⟨emptyData.toArray⟩⟩,[],sz⟩,s'.r,emptyT⟩∧nQ s'=true∧eU ⟨0,0,⟨(iF first).toArray⟩,⟨emptyData.toArray⟩⟩=true:=by
 unfold sI at h
 generalize (⟨(iF first).toArray⟩:ByteArray)=conf at *
 generalize (⟨emptyData.toArray⟩:ByteArray)=data at *
 simp only [Option.bind_eq_bind,Option.bind_eq_some_iff] at h
 obtain ⟨⟨d1,k1⟩,h1,r1,h2,h3⟩:=h
 have hk:=h1
 unfold pR at hk
 split at hk
 ·cases hk
 rename_i hn
 have hm:eU ⟨0,0,conf,data⟩=true:=by cases hh:eU ⟨0,0,conf,data⟩ with|true=>rfl|false=>exact absurd (.inl hh) hn
 have hk:((mM (cZ ⟨0,0,conf,data⟩ ++ cS ⟨0,0⟩ ++ ([]:List bZ).flatMap cJ)).map fun d=>(d,(⟨⟨0,0⟩,⟨0,0,conf,data⟩,[],(cZ ⟨0,0,conf,data⟩ ++ cS ⟨0,0⟩ ++ ([]:List bZ).flatMap cJ).length⟩:dY)))=some (d1,k1):=hk
 rw [Option.map_eq_some_iff] at hk
 obtain ⟨x,_,h5⟩:=hk
 injection h5 with _ h6
 generalize (cZ ⟨0,0,conf,data⟩ ++ cS ⟨0,0⟩ ++ ([]:List bZ).flatMap cJ).length=sz at *
 subst h6
 split at h3
 ·rename_i hok
  injection h3 with h3
  injection h3 with e1 e2
  subst e1 e2
  exact ⟨sz,h1,h2,rfl,hok,hm⟩
 ·cases h3
theorem aI9 {id:Int} {first:List Int} {fv:Value} (h:sI id first=some (d',s')) (hm:dD first=true) (hH:(fr w0).le H) (hT:Tabs w0) (hw:Has 0 w0 W (aN fv first::aB nameS q none::Fz H::R)):
  Calls Tryz.prog 51 ⟨[.int .i64 id,ptr q,fv]⟩ W fun e W'=>∃(p:Nat) (H':Fh),e= .returned (.tuple ⟨[ptr p,.int .i64 0]⟩)∧H.le H'∧Has 0 w0 W' (cM H' p q s'::aB nameS q d'::aN fv first::Fz H'::R):=by
 obtain ⟨sz,hk,hr,hs',hok,hsm⟩:=aI8 h
 obtain ⟨r,hr0⟩:∃r,r=s'.r:=⟨_,rfl⟩
 rw [←hr0] at hr hs'
 clear hr0 h
 subst hs'
 have hid:¬(id<1∨7<id):=by
  intro hn
  unfold pO at hr
  rw [if_pos (by rcases hn with h|h;exact .inl h;exact .inr (.inl h))] at hr
  cases hr
 have hok:kT r=true∧kS emptyT=true:=by
  unfold nQ at hok
  simp only [Bool.and_eq_true] at hok
  exact hok.1
 have hsz:(⟨emptyData.toArray⟩:ByteArray).size≤200000∧(⟨(iF first).toArray⟩:ByteArray).size≤1000000:=by
  unfold eU at hsm
  simp only [Bool.and_eq_true,decide_eq_true_eq] at hsm
  omega
 have hlog:wN ⟨0,0,⟨(iF first).toArray⟩,⟨emptyData.toArray⟩⟩ []=true:=rfl
 have hld:eZ (⟨emptyData.toArray⟩:ByteArray).data.toList=some emptyT:=by
  show eZ emptyData.toArray.toList=some emptyT
  rw [List.toList_toArray]
  exact aFt aI7
 obtain ⟨conf,hconf⟩:∃c:ByteArray,c=⟨(iF first).toArray⟩:=⟨_,rfl⟩
 obtain ⟨data,hdata⟩:∃c:ByteArray,c=⟨emptyData.toArray⟩:=⟨_,rfl⟩
 rw [←hdata] at hld
 rw [←hconf,←hdata] at hk hr hsm hlog⊢
 rw [←hconf,←hdata] at hsz
 obtain ⟨fad,fcap,rfl⟩:=Has.own_slice hw
 have hpos:0<first.length:=by
  unfold dD at hm
  simp only [Bool.and_eq_true,decide_eq_true_eq] at hm
  omega
 have hne:fad.isNone=false:=by
  obtain ⟨b,o,cap,hv,_⟩:=j8 (hw.rd_own In.hd) hpos
  injection hv with hv1 _ _
  rw [hv1];rfl
 refine enter Tryz.func51 Tryz.ntmps51 rfl rfl fun a hs=>?_
 refine sv hs hw fun a hs=>?_
 rw [show decide (id<1)=false from decide_eq_false (by omega)] at hs
 refine sv hs hw fun a hs=>?_
 rw [show decide (id > 7)=false from decide_eq_false (by omega)] at hs
 refine sv hs hw fun a hs=>?_
 refine xC hs (c:=fun a hs=>?_)
 rw [hne] at hs
 refine sx hs hw fun a W hs hw=>?_
 rw [hm] at hs
 refine sv hs hw fun a hs=>?_
 have hw:Has 0 w0 W (aB nameS q none::aN (.slice fad first.length fcap) first::Fz H::R):=hw.swap2
 refine cle hs (aGi hw) fun pk a W _ hs hw=>?_
 refine sv hs hw fun a hs=>?_
 have hw:Has 0 w0 W (aB nameS q none::cN pk q ⟨0,0⟩ zeroSnap (.slice none 0 0) 0::aN (.slice fad first.length fcap) first::Fz H::R):=hw.swap2
 refine cle hs (aGh wY hw) fun x a W _ hs hw=>?_
 rw [show (lT nameS none).length=0 from rfl] at hs
 have hw:Has 0 w0 W (cN pk q ⟨0,0⟩ zeroSnap (.slice none 0 0) 0::aB nameS q none::aN (.slice fad first.length fcap) first::Fz H::R):=hw.sl
 refine sv hs hw fun a hs=>?_
 refine cl hs ((aGv (l:=first)).ok hw) fun a W hs hw=>?_
 rw [←hconf] at hs
 refine aF hs (hc:=aAr w0 _ H _ hw) (k:=?_)
 rintro e' W' ⟨t0,rfl,hw⟩
 refine ⟨_,rfl,fun a hs=>?_⟩
 have hw:Has 0 w0 W' (aO H t0 emptyT::Fz H::cN pk q ⟨0,0⟩ zeroSnap (.slice none 0 0) 0::aB nameS q none::aN (.slice fad first.length fcap) first::R):=hw.pm
 refine cl hs (aAw w0 _ H t0 emptyT _ (by decide) ⟨by decide,by decide⟩ (fun r hr=>by cases hr) hH hT hw) fun a W hs hw=>?_
 rw [show (⟨(jI emptyT).toArray⟩:ByteArray)=data from hdata.symm] at hs
 refine sv hs hw fun a hs=>?_
 have hw:Has 0 w0 W (cN pk q ⟨0,0⟩ zeroSnap (.slice none 0 0) 0::aB nameS q none::aN (.slice fad first.length fcap) first::Fz H::R):=hw.sl
 refine cl hs (aGj conf data hk hw) fun a W hs hw=>?_
 refine sv hs hw fun a hs=>?_
 obtain ⟨hko,kad,kcap,hw⟩:=sW hw
 have hw:Has 0 w0 W (cN pk q ⟨0,0⟩ ⟨0,0,conf,data⟩ (.slice kad 0 kcap) sz::bC (.slice kad 0 kcap) []::aB nameS q d'::aN (.slice fad first.length fcap) first::Fz H::R):=hw
 refine cle hs (sT (by decide) hw) fun ys a W _ hs hw=>?_
 refine sn hs hw fun b11 a W hs hw=>?_
 refine sx hs hw fun a W hs hw=>?_
 have hw:Has 0 w0 W (Fz H::aA b11 (dF ⟨0,0⟩ ⟨0,0,conf,data⟩ (.slice ys.1 0 ys.2)) 158::bC (.slice ys.1 0 ys.2) []::cN pk q ⟨0,0⟩ ⟨0,0,conf,data⟩ (.slice kad 0 kcap) sz::bC (.slice kad 0 kcap) []::aB nameS q d'::aN (.slice fad first.length fcap) first::R):=hw.pm
 refine aF hs (hc:=aGF w0 W H data _ hsz.1 hH hT hw) (k:=?_)
 rintro e' W' ⟨H1,hle1,⟨h9,_⟩|⟨t,pt,hl9,rfl,hw⟩⟩
 ·rw [hld] at h9;cases h9
 obtain rfl:emptyT=t:=by rw [hld] at hl9;exact Option.some.inj hl9
 refine ⟨_,rfl,fun a hs=>?_⟩
 refine sv hs hw fun a hs=>?_
 replace hs:Slots a 91 [(0,.int .i64 id),(8,ptr pk),(9,.int .i64 0),(11,ptr b11),(12,ptr pt)]:=hs.of ⟨rfl,rfl,rfl,rfl,rfl,trivial⟩
 have hw:Has 0 w0 W' (aA b11 (dF ⟨0,0⟩ ⟨0,0,conf,data⟩ (.slice ys.1 0 ys.2)) 158::bC (.slice ys.1 0 ys.2) []::aO H1 pt emptyT::Fz H1::cN pk q ⟨0,0⟩ ⟨0,0,conf,data⟩ (.slice kad 0 kcap) sz::bC (.slice kad 0 kcap) []::aB nameS q d'::aN (.slice fad first.length fcap) first::R):=hw.pm
 refine bF [7,11] [.f 0 1,.f 0 1,.f 0 1,.f 0 0,.f 0 0,.f 0 0,.f 0 0,.m 0,.f 0 1,.f 0 1,.f 0 1,.m 1,.f 2 2] [.c0 _,.c0 _,.c0 _,.c0 _,.c0 _,.c0 _,.c0 _,.c1 (fun x=>ptr x.n),.c0 _,.c0 _,.c0 _,.c2 (fun x y=>ptr y.n),.c2 _] (aA b11 (dF ⟨0,0⟩ ⟨0,0,conf,data⟩ (.slice ys.1 0 ys.2)) 158::bC (.slice ys.1 0 ys.2) []::aO H1 pt emptyT::Fz H1::cN pk q ⟨0,0⟩ ⟨0,0,conf,data⟩ (.slice kad 0 kcap) sz::bC (.slice kad 0 kcap) []::aB nameS q d'::aN (.slice fad first.length fcap) first::R) (fun x=>aI x.n ⟨⟨0,0,conf,data⟩,[]⟩::aA b11 (dF ⟨0,0⟩ ⟨0,0,conf,data⟩ (.slice ys.1 0 ys.2)) 158::bC (.slice ys.1 0 ys.2) []::aO H1 pt emptyT::Fz H1::cN pk q ⟨0,0⟩ ⟨0,0,conf,data⟩ (.slice kad 0 kcap) sz::bC (.slice kad 0 kcap) []::aB nameS q d'::aN (.slice fad first.length fcap) first::R) (fun x y=>aG H1 y.n r::aA b11 (dF ⟨0,0⟩ ⟨0,0,conf,data⟩ (.slice ys.1 0 ys.2)) 158::bC (.slice ys.1 0 ys.2) []::aO H1 pt emptyT::Fz H1::cN pk q ⟨0,0⟩ ⟨0,0,conf,data⟩ (.slice kad 0 kcap) sz::bC (.slice kad 0 kcap) []::aB nameS q d'::aN (.slice fad first.length fcap) first::R) (fun x y z=>[]) (fun x y z t=>[]) hs hw ?kk ⟨drs,drs,drs,drs,drs,drs,drs,?m0,drs,drs,drs,?m1,drs,trivial⟩
 case m0=>
  intro x y z u LD a W hs hw
  refine cle hs (aHN ⟨0,0,conf,data⟩ [] (.slice ys.1 0 ys.2) hlog hsz.2 (fun e he=>by cases he) (fun h=>h.rd_own (In.tl In.hd)) hw) fun ql a W _ hs hw=>?_
  exact ⟨{n:=ql},hs,hw⟩
 case m1=>
  intro x y z u LD a W hs hw
  refine cle hs (aH0 (H:=H1) id ⟨0,0⟩ 0 hr hw) fun qr a W _ hs hw=>?_
  exact ⟨{n:=qr},hs,hw⟩
 case kk=>
 intro _ yy a W hs hw
 obtain ⟨pr,hpr⟩:∃pr,pr=yy.n:=⟨_,rfl⟩
 replace hs:Slots a 91 [(0,.int .i64 id),(8,ptr pk),(9,.int .i64 0),(11,ptr b11),(12,ptr pt),(13,ptr yy.n)]:=hs.of ⟨rfl,rfl,rfl,rfl,rfl,rfl,trivial⟩
 have hw:Has 0 w0 W (aO H1 pt emptyT::aG H1 yy.n r::aA b11 (dF ⟨0,0⟩ ⟨0,0,conf,data⟩ (.slice ys.1 0 ys.2)) 158::bC (.slice ys.1 0 ys.2) []::Fz H1::cN pk q ⟨0,0⟩ ⟨0,0,conf,data⟩ (.slice kad 0 kcap) sz::bC (.slice kad 0 kcap) []::aB nameS q d'::aN (.slice fad first.length fcap) first::R):=hw.pm
 rw [←hpr] at hs hw
 clear hpr
 refine sc hs ?_
 refine bF [8] [.f 0 0,.f 0 0,.f 0 0,.f 0 0,.f 0 0,.f 0 0,.f 0 0,.f 0 0,.m 0,.f 0 1,.f 0 1,.f 0 1,.f 1 1,.f 1 1] [.c0 _,.c0 _,.c0 _,.c0 _,.c0 _,.c0 _,.c0 _,.c0 _,.c1 (fun x=> .int .i64 emptyT.ix),.c0 _,.c0 _,.c0 _,.c1 (fun x=> .bool false),.c1 _] (aO H1 pt emptyT::aG H1 pr r::aA b11 (dF ⟨0,0⟩ ⟨0,0,conf,data⟩ (.slice ys.1 0 ys.2)) 158::bC (.slice ys.1 0 ys.2) []::Fz H1::cN pk q ⟨0,0⟩ ⟨0,0,conf,data⟩ (.slice kad 0 kcap) sz::bC (.slice kad 0 kcap) []::aB nameS q d'::aN (.slice fad first.length fcap) first::R) (fun x=>aO H1 pt emptyT::aG H1 pr r::aA b11 (dF ⟨0,0⟩ ⟨0,0,conf,data⟩ (.slice ys.1 0 ys.2)) 158::bC (.slice ys.1 0 ys.2) []::Fz H1::cN pk q ⟨0,0⟩ ⟨0,0,conf,data⟩ (.slice kad 0 kcap) sz::bC (.slice kad 0 kcap) []::aB nameS q d'::aN (.slice fad first.length fcap) first::R) (fun x y=>[]) (fun x y z=>[]) (fun x y z t=>[]) hs hw ?kk ⟨drs,drs,drs,drs,drs,drs,drs,drs,?m0,drs,drs,drs,?f12,drs,trivial⟩
 case m0=>
  intro x y z u LD a W hs hw
  refine sc hs ?_
  refine cl hs (sC w0 _ H1 pt emptyT _ hw) fun a W hs hw=>?_
  exact ⟨{},hs,hw⟩
 case f12=>
  refine ⟨trivial,?_,trivial,trivial,trivial⟩
  intro x y z u LD a W hs hw
  refine sv hs hw fun a hs=>?_
  exact ⟨hs,hw⟩
 case kk=>
 intro _ a W hs hw
 refine sv hs hw fun a hs=>?_
 refine sn hs hw fun b90 a W hs hw=>?_
 refine sv hs hw fun a hs=>?_
 refine rt2 hs rfl rfl rfl ⟨b90,H1,rfl,hle1,?_⟩
 have hw:Has 0 w0 W (cN pk q ⟨0,0⟩ ⟨0,0,conf,data⟩ (.slice kad 0 kcap) sz::bC (.slice kad 0 kcap) []::aP b90 pk pr pt::aG H1 pr r::aO H1 pt emptyT::aB nameS q d'::aN (.slice fad first.length fcap) first::Fz H1::R):=hw.sl
 have hw:Has 0 w0 W (aX pk q ⟨⟨0,0⟩,⟨0,0,conf,data⟩,[],sz⟩::aP b90 pk pr pt::aG H1 pr r::aO H1 pt emptyT::aB nameS q d'::aN (.slice fad first.length fcap) first::Fz H1::R):=p7 (k:=⟨⟨0,0⟩,⟨0,0,conf,data⟩,[],sz⟩) hw hko
 exact i8 (s:=⟨⟨⟨0,0⟩,⟨0,0,conf,data⟩,[],sz⟩,r,emptyT⟩) (hw.pm) hok.1 hok.2
end
section
variable {w0 W:World} {R L:List Res} {H H':Fh} {p q:Nat} {w w':bL}
theorem qX {α:Type} {F:Int→α} (l:List Int):(l.map fun c=>(c,F c)).map (·.1)=l:=by
 rw [List.map_map]
 exact List.map_id l
theorem aC8 {m n:Nat} (hm:1≤m∧m≤7) (hn:1≤n∧n≤5) (h:tK m n=some w') (hH:(fr w0).le H) (hT:Tabs w0) (hw:Has 0 w0 W (Fz H::R)):
  Calls Tryz.prog 43 ⟨[.int .i64 (m:Int),.int .i64 (n:Int)]⟩ W fun e W'=>∃(p:Nat) (H':Fh),e= .returned (ptr p)∧H.le H'∧Has 0 w0 W' (cE H' p w'::Fz H'::R):=by
 unfold tK at h
 obtain ⟨all,hall⟩:∃all,all=bD m 1:=⟨_,rfl⟩
 have hal:all.length=m:=by rw [hall,tY]
 have hcm:dD all=true:=by rw [hall];exact aI6 hm.1 hm.2
 refine enter Tryz.func43 Tryz.ntmps43 rfl rfl fun a hs=>?_
 refine sv hs hw fun a hs=>?_
 refine tQ hs hw (c:=fun a ms W hw hs=>?_)
 refine tQ hs hw (c:=fun a mc W hw hs=>?_)
 refine tQ hs hw (c:=fun a md W hw hs=>?_)
 refine tQ hs hw (c:=fun a me W hw hs=>?_)
 refine cle hs (aIN (H:=H) hw) fun pn a W _ hs hw=>?_
 refine sv hs hw fun a hs=>?_
 refine sn hs hw fun p a W hs hw=>?_
 refine sv hs hw fun a hs=>?_
 have hw:Has 0 w0 W (aN (.slice none 0 0) []::aA p [.map (some ms),.map (some mc),.map (some md),.map (some me),ptr pn] 86::aQ ms []::aQ mc []::aQ md []::aQ me []::aM H pn []::Fz H::R):=(hw.nilOwn 3 1).pm
 refine bX (σ:=Nat×Option Addr×Nat) (fun z=>[(0,.int .i64 (m:Int)),(1,.int .i64 (n:Int)),(5,ptr p),(6,.slice z.2.1 (bD z.1 1).length z.2.2),(7,.int .i64 ((z.1:Int)+1))]) (fun z=>aN (.slice z.2.1 (bD z.1 1).length z.2.2) (bD z.1 1)::aA p [.map (some ms),.map (some mc),.map (some md),.map (some me),ptr pn] 86::aQ ms []::aQ mc []::aQ md []::aQ me []::aM H pn []::Fz H::R) (fun z=>z.1≤m) (fun z=>m - z.1) (0,none,0) (Nat.zero_le _) hs ⟨rfl,rfl,rfl,rfl,rfl,trivial⟩ hw ?_
 clear hs hw
 rintro ⟨i,aad,acap⟩ a W hi hs hw
 simp only at hi hs hw
 refine sv hs hw fun a hs=>?_
 refine kH hs fun a hs=>?_
 refine kG hs fun a hs=>?_
 rw [show min (max (m:Int) 1) 7=(m:Int) by omega] at hs
 refine sv hs hw fun a hs=>?_
 refine cI hs (kt:=fun hcc=>?_) (kf:=fun hcc=>?_)
 ·have hi':i<m:=by have:=of_decide_eq_true hcc;omega
  refine sv hs hw fun a hs=>?_
  refine sn hs hw fun b a W hs hw=>?_
  refine mD hs hw (Pick.hd:Pick (aN (.slice aad (bD i 1).length acap) (bD i 1)) _ _) (by rw [tY];omega) (fun a ad cap W hs hw=>?_) (by rw [tY];omega)
  rw [show bD i 1 ++ [(i:Int)+1]=bD (i+1) 1 by rw [tW,Int.add_comm]] at hs hw
  refine sv hs hw fun a hs=>?_
  refine bR (i+1,ad,cap) hs hw hi' (by show m - (i+1)<m - i;omega) ⟨rfl,rfl,rfl,rfl,bS (i2 (by omega)),trivial⟩
 have hi':i=m:=by have:=of_decide_eq_false hcc;omega
 subst hi'
 rw [←hall,hal] at hs
 rw [←hall,hal] at hw
 obtain ⟨av,hav⟩:∃av,av=Value.slice aad i acap:=⟨_,rfl⟩
 rw [←hav] at hs hw
 have hw:Has 0 w0 W (aE nameS (fun _=>0) ((bD 0 1).map fun k=>(k,none))::aN av all::aA p [.map (some ms),.map (some mc),.map (some md),.map (some me),ptr pn] 86::aQ ms []::aQ mc []::aQ md (kvs (fun _=>0) (bD 0 1))::aQ me []::aM H pn []::Fz H::R):=jN hw
 refine sv hs hw fun a hs=>?_
 refine bX (σ:=Nat×(Int→Nat)) (fun z=>[(0,.int .i64 (i:Int)),(1,.int .i64 (n:Int)),(5,ptr p),(6,av),(8,.int .i64 ((z.1:Int)+1))]) (fun z=>aA p [.map (some ms),.map (some mc),.map (some md),.map (some me),ptr pn] 86::aQ ms []::aQ mc []::aQ md (kvs (z.2) (bD (z.1) 1))::aQ me []::aM H pn []::aE nameS (z.2) ((bD (z.1) 1).map fun k=>(k,none))::aN av all::Fz H::R) (fun z=>z.1≤7) (fun z=>7 - z.1) (0,fun _=>0) (Nat.zero_le _) hs ⟨rfl,rfl,rfl,rfl,rfl,trivial⟩ (hw.pm) ?_
 clear hs hw
 rintro ⟨j,qs⟩ a W hj hs hw
 simp only at hj hs hw
 refine sv hs hw fun a hs=>?_
 refine cI hs (kt:=fun hcc=>?_) (kf:=fun hcc=>?_)
 ·have hj':j<7:=by have:=of_decide_eq_true hcc;omega
  refine zG hs ?_
  refine bF [5,6] [.f 0 1,.f 0 1,.f 0 1,.f 0 1,.f 0 1,.m 0,.m 1] [.c0 _,.c0 _,.c0 _,.c0 _,.c0 _,.c1 (fun x=>ptr x.n),.c2 (fun x y=>undef)] (aA p [.map (some ms),.map (some mc),.map (some md),.map (some me),ptr pn] 86::aQ ms []::aQ mc []::aQ md (kvs (qs) (bD (j) 1))::aQ me []::aM H pn []::aE nameS (qs) ((bD (j) 1).map fun k=>(k,none))::aN av all::Fz H::R) (fun x=>aB nameS x.n none::aA p [.map (some ms),.map (some mc),.map (some md),.map (some me),ptr pn] 86::aQ ms []::aQ mc []::aQ md (kvs (qs) (bD (j) 1))::aQ me []::aM H pn []::aE nameS (qs) ((bD (j) 1).map fun k=>(k,none))::aN av all::Fz H::R) (fun x y=>aB nameS x.n none::aA p [.map (some ms),.map (some mc),.map (some md),.map (some me),ptr pn] 86::aQ ms []::aQ mc []::aQ md (gY (kvs qs (bD j 1)) ((j:Int)+1) (ptr x.n))::aQ me []::aM H pn []::aE nameS qs ((bD j 1).map fun k=>(k,none))::aN av all::Fz H::R) (fun x y z=>[]) (fun x y z t=>[]) hs hw ?kk ⟨drs,drs,drs,drs,drs,?m0,?m1,trivial⟩
  case m0=>
   intro x y z t LD a W hs hw
   refine sg hs hw (fun b a W hs hw=>?_) (g:=aBN (nm:=nameS))
   exact ⟨{n:=b},hs,hw⟩
  case m1=>
   intro x y z t LD a W hs hw
   refine tR hs (hw:=hw) (v:=ptr x.n) (c:=fun W hs hw=>?_)
   exact ⟨{},hs,hw⟩
  case kk=>
  intro x y a W hs hw
  have hnj:((j:Int)+1)∉bD j 1:=by rw [Int.add_comm];exact aC4 j 1
  have hw:Has 0 w0 W (aB nameS x.n none::aA p [.map (some ms),.map (some mc),.map (some md),.map (some me),ptr pn] 86::aQ ms []::aQ mc []::aQ md (gY (kvs qs (bD j 1)) ((j:Int)+1) (ptr x.n))::aQ me []::aM H pn []::aE nameS qs ((bD j 1).map fun k=>(k,none))::aN av all::Fz H::R):=hw
  rw [qW hnj] at hw
  have hw:Has 0 w0 W (aB nameS x.n none::aE nameS qs ((bD j 1).map fun k=>(k,none))::aA p [.map (some ms),.map (some mc),.map (some md),.map (some me),ptr pn] 86::aQ ms []::aQ mc []::aQ md (kvs (upd qs ((j:Int)+1) x.n) (bD j 1 ++ [(j:Int)+1]))::aQ me []::aM H pn []::aN av all::Fz H::R):=hw.pm
  have hw:=aC3 (k:=(j:Int)+1) (by rw [qX];exact hnj) hw
  have e1:bD j 1 ++ [(j:Int)+1]=bD (j+1) 1:=by rw [tW,Int.add_comm]
  have e2:((bD j 1).map fun k=>(k,(none:bM))) ++ [((j:Int)+1,none)]=(bD (j+1) 1).map fun k=>(k,none):=by rw [←e1,List.map_append];rfl
  rw [e1,e2] at hw
  refine sv hs hw fun a hs=>?_
  refine bR (j+1,upd qs ((j:Int)+1) x.n) hs (hw.pm) hj' (by show 7 - (j+1)<7 - j;omega) ⟨rfl,rfl,rfl,rfl,bS (i2 (by omega)),trivial⟩
 have hj':j=7:=by have:=of_decide_eq_false hcc;omega
 subst hj'
 obtain ⟨wi,hwi⟩:∃wi:bL,wi=⟨[],(bD n 1).map fun c=>(c,⟨c,[],⟨fT,[]⟩⟩),(bD 7 1).map fun k=>(k,none),(bD n 1).map fun c=>(c,none),[]⟩:=⟨_,rfl⟩
 rw [←hwi,←hall] at h
 have hkeep:=aC7 h
 have hmem:∀id∈all,at? wi.sd id=some none∧at? wi.servers id=none:=fun id hid=>by
  rw [hwi]
  refine ⟨aC6 ?_,rfl⟩
  rw [hall] at hid
  have h1:=tX hid
  have:id=1∨id=2∨id=3∨id=4∨id=5∨id=6∨id=7:=by omega
  rcases this with rfl|rfl|rfl|rfl|rfl|rfl|rfl <;> decide
 have hnd:all.Nodup:=by rw [hall];exact aC5 _ _
 have hw:Has 0 w0 W (aA p [.map (some ms),.map (some mc),.map (some md),.map (some me),ptr pn] 86::aQ ms []::aQ mc []::aQ md (kvs qs (bD 7 1))::aQ me []::aM H pn []::aR H (fun _=>0) qs []::aE nameS qs ((bD 7 1).map fun k=>(k,none))::aN av all::Fz H::R):=by
  have h9:Has 0 w0 W (aR H (fun _=>0) qs []::aA p [.map (some ms),.map (some mc),.map (some md),.map (some me),ptr pn] 86::aQ ms []::aQ mc []::aQ md (kvs (qs) (bD (7) 1))::aQ me []::aM H pn []::aE nameS (qs) ((bD (7) 1).map fun k=>(k,none))::aN av all::Fz H::R):=jN hw
  exact h9.pm
 have hw:Has 0 w0 W (aA p [.map (some ms),.map (some mc),.map (some md),.map (some me),ptr pn] 86::aQ ms (kvs ((fun _=>0)) ((wi).servers.map (·.1)))::aQ mc []::aQ md (kvs qs ((wi).sd.map (·.1)))::aQ me []::aM (H) pn []::aR (H) ((fun _=>0)) qs (wi).servers::aE nameS qs (wi).sd::aN av all::Fz (H)::R):=by rw [hwi];exact hw
 rw [hav] at hs
 refine sv hs hw fun a hs=>?_
 rw [←hav] at hs
 refine bX (σ:=Nat×bL×(Int→Nat)×Fh) (fun z=>[(1,.int .i64 (n:Int)),(5,ptr p),(6,av),(44,av),(45,.int .i64 (i:Int)),(46,.int .i64 (z.1:Int))]) (fun z=>aA p [.map (some ms),.map (some mc),.map (some md),.map (some me),ptr pn] 86::aQ ms (kvs (z.2.2.1) ((z.2.1).servers.map (·.1)))::aQ mc []::aQ md (kvs qs ((z.2.1).sd.map (·.1)))::aQ me []::aM (z.2.2.2) pn []::aR (z.2.2.2) (z.2.2.1) qs (z.2.1).servers::aE nameS qs (z.2.1).sd::aN av all::Fz (z.2.2.2)::R) (fun z=>z.1≤i∧H.le z.2.2.2∧nX all (all.drop z.1) z.2.1=some w'∧∀id∈all.drop z.1,at? z.2.1.sd id=some none∧at? z.2.1.servers id=none) (fun z=>i - z.1) (0,wi,fun _=>0,H) ⟨Nat.zero_le _,Fh.le.refl H,h,hmem⟩ hs ⟨rfl,rfl,rfl,rfl,rfl,rfl,trivial⟩ hw ?_
 clear hs hw h hmem
 rintro ⟨j,w4,ps4,H4⟩ a W ⟨hj,hle,h,hmem⟩ hs hw
 simp only at hj hle h hmem hs hw
 refine sv hs hw fun a hs=>?_
 refine cI hs (kt:=fun hcc=>?_) (kf:=fun hcc=>?_)
 ·have hj':j<i:=by simpa using hcc
  obtain ⟨id,ho9,hd9⟩:=dS (show j<all.length by omega)
  rw [hd9] at h hmem
  unfold nX at h
  obtain ⟨⟨d5,s5⟩,h5,h6⟩:=Option.bind_eq_some_iff.1 h
  obtain ⟨c1,c2⟩:=hmem id (by simp)
  refine sc hs ?_
  refine iA hs (hw.rd_own (by repeat (first|exact In.hd|apply In.tl))) ho9 rfl fun a b f hs=>?_
  refine sv hs hw fun a hs=>?_
  refine qS hs (hw:=hw) (hz:=aCW) (c:=fun a hs=>?_)
  rw [qU] at hs
  unfold dZ at hs
  rw [c1] at hs
  obtain ⟨rd,b1,b2⟩:=lW (w0:=w0) c1
  have hw:Has 0 w0 W (aE nameS qs w4.sd::aA p [.map (some ms),.map (some mc),.map (some md),.map (some me),ptr pn] 86::aQ ms (kvs ps4 (w4.servers.map (·.1)))::aQ mc []::aQ md (kvs qs (w4.sd.map (·.1)))::aQ me []::aM H4 pn []::aR H4 ps4 qs w4.servers::aN av all::Fz H4::R):=hw.pm
  have hw:Has 0 w0 W (aB nameS (qs id) none::aE nameS qs rd::aA p [.map (some ms),.map (some mc),.map (some md),.map (some me),ptr pn] 86::aQ ms (kvs ps4 (w4.servers.map (·.1)))::aQ mc []::aQ md (kvs qs (w4.sd.map (·.1)))::aQ me []::aM H4 pn []::aR H4 ps4 qs w4.servers::aN av all::Fz H4::R):=b1 hw
  have hw:Has 0 w0 W (aN av all::aB nameS (qs id) none::Fz H4::aE nameS qs rd::aA p [.map (some ms),.map (some mc),.map (some md),.map (some me),ptr pn] 86::aQ ms (kvs ps4 (w4.servers.map (·.1)))::aQ mc []::aQ md (kvs qs (w4.sd.map (·.1)))::aQ me []::aM H4 pn []::aR H4 ps4 qs w4.servers::R):=hw.pm
  refine sv hs hw fun a hs=>?_
  refine aF hs (hc:=aI9 h5 hcm (hH.trans hle) hT hw) (k:=?_)
  rintro e' W ⟨pnew,H5,rfl,hle5,hw⟩
  refine ⟨_,rfl,fun a hs=>?_⟩
  have hw:=hw.lz hle5
  refine sv hs hw fun a hs=>?_
  refine tR hs (hw:=hw) (v:=ptr pnew) (c:=fun W hs hw=>?_)
  have hni:=aC2 c2
  rw [qW hni] at hw
  have hw:Has 0 w0 W (cM H5 pnew (qs id) s5::aR H5 ps4 qs w4.servers::aB nameS (qs id) d5::aE nameS qs rd::aN av all::Fz H5::aA p [.map (some ms),.map (some mc),.map (some md),.map (some me),ptr pn] 86::aQ ms (kvs (upd ps4 id pnew) (w4.servers.map (·.1) ++ [id]))::aQ mc []::aQ md (kvs qs (w4.sd.map (·.1)))::aQ me []::aM H5 pn []::R):=hw.pm
  have hw:=aI3 hni hw
  have hw:Has 0 w0 W (aB nameS (qs id) d5::aE nameS qs rd::aR H5 (upd ps4 id pnew) qs (w4.servers ++ [(id,s5)])::aN av all::Fz H5::aA p [.map (some ms),.map (some mc),.map (some md),.map (some me),ptr pn] 86::aQ ms (kvs (upd ps4 id pnew) (w4.servers.map (·.1) ++ [id]))::aQ mc []::aQ md (kvs qs (w4.sd.map (·.1)))::aQ me []::aM H5 pn []::R):=hw.pm
  have hw:Has 0 w0 W (aE nameS qs (cL w4.sd id d5)::aR H5 (upd ps4 id pnew) qs (w4.servers ++ [(id,s5)])::aN av all::Fz H5::aA p [.map (some ms),.map (some mc),.map (some md),.map (some me),ptr pn] 86::aQ ms (kvs (upd ps4 id pnew) (w4.servers.map (·.1) ++ [id]))::aQ mc []::aQ md (kvs qs (w4.sd.map (·.1)))::aQ me []::aM H5 pn []::R):=b2 hw
  rw [x6 c2] at h6
  have hnd2:id∉all.drop (j+1):=by
   have h9:(all.drop j).Nodup:=hnd.sublist (List.drop_sublist _ _)
   rw [hd9] at h9
   exact (List.nodup_cons.1 h9).1
  refine sv hs hw fun a hs=>?_
  refine bR (j+1,{w4 with servers:=w4.servers ++ [(id,s5)],sd:=cL w4.sd id d5},upd ps4 id pnew,H5) hs ?_ ⟨hj',hle.trans hle5,h6,fun x hx=>?_⟩ (by show i - (j+1)<i - j;omega) ⟨rfl,rfl,rfl,rfl,rfl,bS (i1 (by omega)),trivial⟩
  ·show Has 0 w0 W (aA p [.map (some ms),.map (some mc),.map (some md),.map (some me),ptr pn] 86::aQ ms (kvs (upd ps4 id pnew) ((w4.servers ++ [(id,s5)]).map (·.1)))::aQ mc []::aQ md (kvs qs ((cL w4.sd id d5).map (·.1)))::aQ me []::aM H5 pn []::aR H5 (upd ps4 id pnew) qs (w4.servers ++ [(id,s5)])::aE nameS qs (cL w4.sd id d5)::aN av all::Fz H5::R)
   rw [qT c1,List.map_append]
   exact hw.pm
  ·have hne:x≠id:=fun e=>hnd2 (by rw [←e];exact hx)
   obtain ⟨g1,g2⟩:=hmem x (by simp [hx])
   refine ⟨?_,?_⟩
   ·show at? (cL w4.sd id d5) x=some none
    rw [x7 hne];exact g1
   ·show at? (w4.servers ++ [(id,s5)]) x=none
    rw [←x6 c2,x7 hne];exact g2
 have hj':j=i:=by simp at hcc;omega
 rw [hj',List.drop_of_length_le (by omega)] at h
 injection h with h
 subst h
 have hw:Has 0 w0 W (aV H4 (fun _=>0) (fun _=>0) ((bD 0 1).map fun c=>(c,eE c))::aE nameQ (fun _=>0) ((bD 0 1).map fun c=>(c,none))::aA p [.map (some ms),.map (some mc),.map (some md),.map (some me),ptr pn] 86::aQ ms (kvs (ps4) ((w4).servers.map (·.1)))::aQ mc []::aQ md (kvs qs ((w4).sd.map (·.1)))::aQ me []::aM (H4) pn []::aR (H4) (ps4) qs (w4).servers::aE nameS qs (w4).sd::aN av all::Fz (H4)::R):=jN (L:=[]) (jN (L:=[]) hw:Has 0 w0 W (aE nameQ (fun _=>0) ((bD 0 1).map fun c=>(c,none))::aA p [.map (some ms),.map (some mc),.map (some md),.map (some me),ptr pn] 86::aQ ms (kvs (ps4) ((w4).servers.map (·.1)))::aQ mc []::aQ md (kvs qs ((w4).sd.map (·.1)))::aQ me []::aM (H4) pn []::aR (H4) (ps4) qs (w4).servers::aE nameS qs (w4).sd::aN av all::Fz (H4)::R))
 have hw:Has 0 w0 W (aA p [.map (some ms),.map (some mc),.map (some md),.map (some me),ptr pn] 86::aQ ms (kvs ps4 (w4.servers.map (·.1)))::aQ mc (kvs (fun _=>0) (bD 0 1))::aQ md (kvs qs (w4.sd.map (·.1)))::aQ me (kvs (fun _=>0) (bD 0 1))::aM H4 pn []::aR H4 ps4 qs w4.servers::aE nameS qs w4.sd::aV H4 (fun _=>0) (fun _=>0) ((bD 0 1).map fun c=>(c,eE c))::aE nameQ (fun _=>0) ((bD 0 1).map fun c=>(c,none))::Fz H4::R):=hw.sl
 refine sv hs hw fun a hs=>?_
 refine bX (σ:=Nat×(Int→Nat)×(Int→Nat)) (fun z=>[(1,.int .i64 (n:Int)),(5,ptr p),(13,.int .i64 ((z.1:Int)+1))]) (fun z=>aA p [.map (some ms),.map (some mc),.map (some md),.map (some me),ptr pn] 86::aQ ms (kvs ps4 (w4.servers.map (·.1)))::aQ mc (kvs z.2.1 (bD z.1 1))::aQ md (kvs qs (w4.sd.map (·.1)))::aQ me (kvs z.2.2 (bD z.1 1))::aM H4 pn []::aR H4 ps4 qs w4.servers::aE nameS qs w4.sd::aV H4 z.2.1 z.2.2 ((bD z.1 1).map fun c=>(c,eE c))::aE nameQ z.2.2 ((bD z.1 1).map fun c=>(c,none))::Fz H4::R) (fun z=>z.1≤n) (fun z=>n - z.1) (0,fun _=>0,fun _=>0) (Nat.zero_le _) hs ⟨rfl,rfl,rfl,trivial⟩ hw ?_
 clear hs hw hj' hcc
 rintro ⟨j,pc,qc⟩ a W hj hs hw
 simp only at hj hs hw
 refine sv hs hw fun a hs=>?_
 refine kH hs fun a hs=>?_
 refine kG hs fun a hs=>?_
 rw [show min (max (n:Int) 1) 5=(n:Int) by omega] at hs
 refine sv hs hw fun a hs=>?_
 refine cI hs (kt:=fun hcc=>?_) (kf:=fun hcc=>?_)
 ·have hj':j<n:=by have:=of_decide_eq_true hcc;omega
  refine zG hs ?_
  refine bF [5,6] [.f 0 1,.f 0 1,.f 0 1,.f 0 1,.f 0 1,.m 0,.m 1] [.c0 _,.c0 _,.c0 _,.c0 _,.c0 _,.c1 (fun x=>ptr x.n),.c2 (fun x y=>undef)] (aA p [.map (some ms),.map (some mc),.map (some md),.map (some me),ptr pn] 86::aQ ms (kvs ps4 (w4.servers.map (·.1)))::aQ mc (kvs pc (bD j 1))::aQ md (kvs qs (w4.sd.map (·.1)))::aQ me (kvs qc (bD j 1))::aM H4 pn []::aR H4 ps4 qs w4.servers::aE nameS qs w4.sd::aV H4 pc qc ((bD j 1).map fun c=>(c,eE c))::aE nameQ qc ((bD j 1).map fun c=>(c,none))::Fz H4::R) (fun x=>aB nameQ x.n none::aA p [.map (some ms),.map (some mc),.map (some md),.map (some me),ptr pn] 86::aQ ms (kvs ps4 (w4.servers.map (·.1)))::aQ mc (kvs pc (bD j 1))::aQ md (kvs qs (w4.sd.map (·.1)))::aQ me (kvs qc (bD j 1))::aM H4 pn []::aR H4 ps4 qs w4.servers::aE nameS qs w4.sd::aV H4 pc qc ((bD j 1).map fun c=>(c,eE c))::aE nameQ qc ((bD j 1).map fun c=>(c,none))::Fz H4::R) (fun x y=>aB nameQ x.n none::aA p [.map (some ms),.map (some mc),.map (some md),.map (some me),ptr pn] 86::aQ ms (kvs ps4 (w4.servers.map (·.1)))::aQ mc (kvs pc (bD j 1))::aQ md (kvs qs (w4.sd.map (·.1)))::aQ me (gY (kvs qc (bD j 1)) ((j:Int)+1) (ptr x.n))::aM H4 pn []::aR H4 ps4 qs w4.servers::aE nameS qs w4.sd::aV H4 pc qc ((bD j 1).map fun c=>(c,eE c))::aE nameQ qc ((bD j 1).map fun c=>(c,none))::Fz H4::R) (fun x y z=>[]) (fun x y z t=>[]) hs hw ?kk ⟨drs,drs,drs,drs,drs,?m0,?m1,trivial⟩
  case m0=>
   intro x y z t LD a W hs hw
   refine sg hs hw (fun b a W hs hw=>?_) (g:=aBN (nm:=nameQ))
   exact ⟨{n:=b},hs,hw⟩
  case m1=>
   intro x y z t LD a W hs hw
   refine tR hs (hw:=hw) (v:=ptr x.n) (c:=fun W hs hw=>?_)
   exact ⟨{},hs,hw⟩
  case kk=>
  intro x y a W hs hw
  have hnj:((j:Int)+1)∉bD j 1:=by rw [Int.add_comm];exact aC4 j 1
  have hw:Has 0 w0 W (aB nameQ x.n none::aA p [.map (some ms),.map (some mc),.map (some md),.map (some me),ptr pn] 86::aQ ms (kvs ps4 (w4.servers.map (·.1)))::aQ mc (kvs pc (bD j 1))::aQ md (kvs qs (w4.sd.map (·.1)))::aQ me (gY (kvs qc (bD j 1)) ((j:Int)+1) (ptr x.n))::aM H4 pn []::aR H4 ps4 qs w4.servers::aE nameS qs w4.sd::aV H4 pc qc ((bD j 1).map fun c=>(c,eE c))::aE nameQ qc ((bD j 1).map fun c=>(c,none))::Fz H4::R):=hw
  rw [qW hnj] at hw
  have e1:bD j 1 ++ [(j:Int)+1]=bD (j+1) 1:=by rw [tW,Int.add_comm]
  refine sv hs hw fun a hs=>?_
  refine qS hs (hw:=hw) (hz:=aCW) (c:=fun a hs=>?_)
  rw [aC1 (by simp),oD] at hs
  refine cle hs (aHy H4 ((j:Int)+1) (aI5 (by omega)) hw) fun pnew a W _ hs hw=>?_
  refine sv hs hw fun a hs=>?_
  refine tR hs (hw:=hw) (v:=ptr pnew) (c:=fun W hs hw=>?_)
  rw [qW hnj] at hw
  have hw:Has 0 w0 W (cC H4 pnew x.n (eE ((j:Int)+1))::aV H4 pc qc ((bD j 1).map fun c=>(c,eE c))::aB nameQ x.n none::aE nameQ qc ((bD j 1).map fun c=>(c,none))::aA p [.map (some ms),.map (some mc),.map (some md),.map (some me),ptr pn] 86::aQ ms (kvs ps4 (w4.servers.map (·.1)))::aQ mc (kvs (upd pc ((j:Int)+1) pnew) (bD j 1 ++ [(j:Int)+1]))::aQ md (kvs qs (w4.sd.map (·.1)))::aQ me (kvs (upd qc ((j:Int)+1) x.n) (bD j 1 ++ [(j:Int)+1]))::aM H4 pn []::aR H4 ps4 qs w4.servers::aE nameS qs w4.sd::Fz H4::R):=hw.pm
  have hw:=aI4 (k:=(j:Int)+1) (by rw [qX];exact hnj) hw
  have hw:Has 0 w0 W (aB nameQ x.n none::aE nameQ qc ((bD j 1).map fun c=>(c,none))::aV H4 (upd pc ((j:Int)+1) pnew) (upd qc ((j:Int)+1) x.n) ((bD j 1).map (fun c=>(c,eE c)) ++ [((j:Int)+1,eE ((j:Int)+1))])::aA p [.map (some ms),.map (some mc),.map (some md),.map (some me),ptr pn] 86::aQ ms (kvs ps4 (w4.servers.map (·.1)))::aQ mc (kvs (upd pc ((j:Int)+1) pnew) (bD j 1 ++ [(j:Int)+1]))::aQ md (kvs qs (w4.sd.map (·.1)))::aQ me (kvs (upd qc ((j:Int)+1) x.n) (bD j 1 ++ [(j:Int)+1]))::aM H4 pn []::aR H4 ps4 qs w4.servers::aE nameS qs w4.sd::Fz H4::R):=hw.pm
  have hw:=aC3 (k:=(j:Int)+1) (by rw [qX];exact hnj) hw
  have e2:((bD j 1).map fun k=>(k,(none:bM))) ++ [((j:Int)+1,none)]=(bD (j+1) 1).map fun k=>(k,none):=by rw [←e1,List.map_append];rfl
  have e3:((bD j 1).map fun k=>(k,eE k)) ++ [((j:Int)+1,eE ((j:Int)+1))]=(bD (j+1) 1).map fun k=>(k,eE k):=by rw [←e1,List.map_append];rfl
  rw [e1,e2,e3] at hw
  refine sv hs hw fun a hs=>?_
  refine bR (j+1,upd pc ((j:Int)+1) pnew,upd qc ((j:Int)+1) x.n) hs (hw.pm) hj' (by show n - (j+1)<n - j;omega) ⟨rfl,rfl,bS (i2 (by omega)),trivial⟩
 have hj':j=n:=by have:=of_decide_eq_false hcc;omega
 subst hj'
 refine sv hs hw fun a hs=>?_
 refine rt1 hs rfl rfl ⟨p,H4,rfl,hle,?_⟩
 refine eY (k:=⟨ms,mc,md,me,pn,ps4,pc,qs,qc⟩) ?_
 obtain ⟨k1,k2,k3⟩:=hkeep
 rw [hwi] at k1 k2 k3
 obtain ⟨sv4,cl4,sd4,cd4,n4⟩:=w4
 simp only at k1 k2 k3
 subst k1 k2 k3
 have hw:Has 0 w0 W (aA p [.map (some ms),.map (some mc),.map (some md),.map (some me),ptr pn] 86::aQ ms (kvs ps4 (sv4.map (·.1)))::aQ mc (kvs pc (bD j 1))::aQ md (kvs qs (sd4.map (·.1)))::aQ me (kvs qc (bD j 1))::aM H4 pn []::aR H4 ps4 qs sv4::aE nameS qs sd4::aV H4 pc qc ((bD j 1).map fun c=>(c,eE c))::aE nameQ qc ((bD j 1).map fun c=>(c,none))::Fz H4::R):=hw
 show Has 0 w0 W (aA p [.map (some ms),.map (some mc),.map (some md),.map (some me),ptr pn] 86::aQ ms (kvs ps4 (sv4.map (·.1)))::aQ mc (kvs pc (((bD j 1).map fun c=>(c,eE c)).map (·.1)))::aQ md (kvs qs (sd4.map (·.1)))::aQ me (kvs qc (((bD j 1).map fun c=>(c,(none:bM))).map (·.1)))::aM H4 pn []::aR H4 ps4 qs sv4::aE nameS qs sd4::aV H4 pc qc ((bD j 1).map fun c=>(c,eE c))::aE nameQ qc ((bD j 1).map fun c=>(c,none))::Fz H4::R)
 rw [qX,qX]
 exact hw
end
section
variable {w0 W:World} {R L:List Res} {H H':Fh} {p q:Nat} {k:WPt} {w w':bL} {u u':cW} {c id err:Int} {s:cY} {d d':bM}
theorem tZ (n:List bP):(((n.length:Nat):Int) == 0)=n.isEmpty:=by
 cases n with
 |nil=>rfl
 |cons a l=>simp;omega
theorem uA:Has 0 w0 W (cE H p w::R)→∃k:WPt,(∀{W},Has 0 w0 W (aU p k::aM H k.pn w.n::aY k w::aZ k w::bA k w::bB k w::aR H k.ps k.qs w.servers::aE nameS k.qs w.sd::aV H k.pc k.qc w.clients::aE nameQ k.qc w.cd::R)→Has 0 w0 W (cE H p w::R))∧Has 0 w0 W (aU p k::aM H k.pn w.n::aY k w::aZ k w::bA k w::bB k w::aR H k.ps k.qs w.servers::aE nameS k.qs w.sd::aV H k.pc k.qc w.clients::aE nameQ k.qc w.cd::R):=by
 intro hw
 obtain ⟨k,hw⟩:=k9 hw
 exact ⟨k,fun g=>eY (g.pm),hw.pm⟩
theorem x9 {n:Nat} {b:Bool} (hn:n≤20000) (h:kZ n w=some (w',b)) (hH:(fr w0).le H) (hT:Tabs w0) (hw:Has 0 w0 W (cE H p w::Fz H::R)):
  Calls Tryz.prog 62 ⟨[ptr p,.int .i64 (n:Int)]⟩ W fun e W'=>∃H':Fh,e= .returned (.bool b)∧H.le H'∧Has 0 w0 W' (cE H' p w'::Fz H'::R):=by
 refine enter Tryz.func62 Tryz.ntmps62 rfl rfl fun a hs=>?_
 refine sv hs hw fun a hs=>?_
 refine kH hs fun a hs=>?_
 refine kG hs fun a hs=>?_
 rw [show min (max (n:Int) 0) 20000=(n:Int) by omega] at hs
 refine sv hs hw fun a hs=>?_
 refine bX (σ:=Nat×bL×Fh) (fun z=>[(0,ptr p),(7,.int .i64 (n:Int)),(8,.int .i64 (z.1:Int))]) (fun z=>cE z.2.2 p z.2.1::Fz z.2.2::R) (fun z=>z.1≤n∧H.le z.2.2∧kZ (n - z.1) z.2.1=some (w',b)) (fun z=>n - z.1) (0,w,H) ⟨Nat.zero_le _,Fh.le.refl H,h⟩ hs ⟨rfl,rfl,rfl,trivial⟩ hw ?_
 clear hs hw h
 rintro ⟨i,w2,H2⟩ a W ⟨hi,hle,h⟩ hs hw
 simp only at hi hle h hs hw
 refine sv hs hw fun a hs=>?_
 refine cI hs (kt:=fun hcc=>?_) (kf:=fun hcc=>?_)
 ·have hi':i<n:=by simpa using hcc
  refine sv hs hw fun a hs=>?_
  obtain ⟨k,gv,hw⟩:=uA hw
  refine cl hs (tT hw) fun a W hs hw=>?_
  refine cl hs (oB hw.swap2) fun a W hs hw=>?_
  have hw:=gv hw.swap2
  refine sv hs hw fun a hs=>?_
  rw [tZ] at hs
  rw [show n - i=(n - (i+1))+1 by omega] at h
  unfold kZ at h
  cases hn9:w2.n with
  |nil=>
   simp only [hn9] at h
   injection h with h
   injection h with e1 e2
   subst e1 e2
   rw [hn9] at hs
   refine sv hs hw fun a hs=>?_
   obtain ⟨k,gv,hw⟩:=uA hw
   refine cl hs (tT hw) fun a W hs hw=>?_
   refine cl hs (oB hw.swap2) fun a W hs hw=>?_
   have hw:=gv hw.swap2
   refine sv hs hw fun a hs=>?_
   rw [tZ,hn9] at hs
   exact rt1 hs rfl rfl ⟨H2,rfl,hle,hw⟩
  |cons m ms=>
   simp only [hn9] at h
   obtain ⟨w3,h1,h2⟩:=Option.bind_eq_some_iff.1 h
   rw [hn9] at hs
   rw [show (m::ms).isEmpty=false from rfl] at hs
   refine sv hs hw fun a hs=>?_
   refine aF hs (hc:=aI0 hn9 h1 (hH.trans hle) hT hw) (k:=?_)
   rintro e' W ⟨H3,rfl,hle3,hw⟩
   refine ⟨_,rfl,fun a hs=>?_⟩
   refine sv hs hw fun a hs=>?_
   refine bR (i+1,w3,H3) hs hw ⟨hi',hle.trans hle3,h2⟩ (by show n - (i+1)<n - i;omega) ⟨rfl,rfl,bS (i1 (by omega)),trivial⟩
 ·have hi':i=n:=by simp at hcc;omega
  rw [hi',Nat.sub_self] at h
  injection h with h
  injection h with e1 e2
  subst e1 e2
  refine sv hs hw fun a hs=>?_
  obtain ⟨k,gv,hw⟩:=uA hw
  refine cl hs (tT hw) fun a W hs hw=>?_
  refine cl hs (oB hw.swap2) fun a W hs hw=>?_
  have hw:=gv hw.swap2
  refine sv hs hw fun a hs=>?_
  rw [tZ] at hs
  exact rt1 hs rfl rfl ⟨H2,rfl,hle,hw⟩
end
end Go.Proofs.YtgpbngfehfbndaaGreatDoor.Sw
namespace Go.Sx
open Go.RowKit
section
variable {P:Program} {ops:Array Oper} {aD:List Oper} {Q:Exit→Act→World→Prop} {a:Act} {n:Nat} {L:List (Nat×Value)} {W:World} {d:Nat} {T:TypeId} {p:String} {e:Array Edge}
theorem aC9 {f:FuncId} {xs:List Operand} {vs:List Value} (hs:Slots a n L) (k:∀a',Slots a' n ((d,.func (.func f) ⟨vs⟩ ⟨[]⟩)::L)→wpList P ops Q aD a' W) (hx:evs L xs=some vs:=by with_unfolding_all exact rfl) (hd:Nat.blt d n=true:=by with_unfolding_all exact rfl):
  wpList P ops Q (⟨some d,.makeFunc (.func f) ⟨xs⟩ ⟨[]⟩,T,p,e,none⟩::aD) a W:=by
 refine bO hs hd (v:= .func (.func f) ⟨vs⟩ ⟨[]⟩) (W':=W) ?_ k
 simp only [execOp,List.map_toArray,hs.evs hx,Instr.makeFunc,Sem.run_bind,Sem.run_pure,Result.andThen_ok,List.map_nil]
theorem aIa {f:FuncId} {x:Operand} {xs:List Operand} {ts:Array TypeId} {vs fs:List Value} {C:Ending→World→Prop} (hs:Slots a n L) (hf:callee P f=true) (hc:Calls P f ⟨fs ++ vs⟩ W C)
  (k:∀e' W',C e' W'→∃v,e'= .returned v∧∀a',Slots a' n ((d,v)::L)→wpList P ops Q aD a' W') (hfv:ev L x=some (.func (.func f) ⟨fs⟩ ⟨[]⟩):=by with_unfolding_all exact rfl) (hx:evs L xs=some vs:=by with_unfolding_all exact rfl) (hd:Nat.blt d n=true:=by with_unfolding_all exact rfl):
  wpList P ops Q (⟨some d,.call {callee:= .value x,args:=⟨xs⟩,argTypes:=ts},T,p,e,none⟩::aD) a W:=by
 refine wpList_plain rfl fun K hK=>?_
 have hr:(execOp a.eval ⟨some d,.call {callee:= .value x,args:=⟨xs⟩,argTypes:=ts},T,p,e,none⟩).run P W= .ok (.enter f ⟨fs ++ vs⟩) W:=by
  simp only [execOp,resolve,List.map_toArray,hs.evs hx,hs.ev hfv,Deferred.ofValue,Sem.run_bind,Sem.run_pure,Result.andThen_ok,invoke]
  have:((⟨fs⟩:Array Value) ++ ⟨vs⟩ ++ ⟨[]⟩)=⟨fs ++ vs⟩:=by simp
  simp only [this,uJ hf]
 simp only [Oper.wp,hr,Oper.upon_enter]
 refine hc.mono fun e' W' h=>?_
 obtain ⟨v,rfl,h2⟩:=k e' W' h
 exact hK _ _ (h2 _ (hs.put hd v))
end
end Go.Sx
namespace Go.Proofs.YtgpbngfehfbndaaGreatDoor.Sw
open Go.RowKit Go.Sx
section
variable {w0 W:World} {R L:List Res} {H H':Fh} {p q:Nat} {k:WPt} {w w':bL} {u u':cW} {c id err:Int} {s:cY} {d d':bM}
theorem lX:Has 0 w0 W (cE H p w::R)→∃k:WPt,(∀{W},Has 0 w0 W (aU p k::aZ k w::aM H k.pn w.n::aY k w::bA k w::bB k w::aR H k.ps k.qs w.servers::aE nameS k.qs w.sd::aV H k.pc k.qc w.clients::aE nameQ k.qc w.cd::R)→Has 0 w0 W (cE H p w::R))∧Has 0 w0 W (aU p k::aZ k w::aM H k.pn w.n::aY k w::bA k w::bB k w::aR H k.ps k.qs w.servers::aE nameS k.qs w.sd::aV H k.pc k.qc w.clients::aE nameQ k.qc w.cd::R):=by
 intro hw
 obtain ⟨k,hw⟩:=k9 hw
 exact ⟨k,fun g=>eY (g.pm),hw.pm⟩
theorem uB:Has 0 w0 W (cE H p w::R)→∃k:WPt,(∀{W},Has 0 w0 W (aU p k::aY k w::aM H k.pn w.n::aZ k w::bA k w::bB k w::aR H k.ps k.qs w.servers::aE nameS k.qs w.sd::aV H k.pc k.qc w.clients::aE nameQ k.qc w.cd::R)→Has 0 w0 W (cE H p w::R))∧Has 0 w0 W (aU p k::aY k w::aM H k.pn w.n::aZ k w::bA k w::bB k w::aR H k.ps k.qs w.servers::aE nameS k.qs w.sd::aV H k.pc k.qc w.clients::aE nameQ k.qc w.cd::R):=by
 intro hw
 obtain ⟨k,hw⟩:=k9 hw
 exact ⟨k,fun g=>eY (g.pm),hw.pm⟩
theorem aIb (id:Int) (hw:Has 0 w0 W (cE H p w::R)):
  Calls Tryz.prog 29 ⟨[ptr p,.int .i64 id]⟩ W fun e W'=>∃f:Int→Nat,e= .returned (dZ f w.clients id)∧True∧Has 0 w0 W' (cE H p w::R):=by
 obtain ⟨k,gv,hw⟩:=lX hw
 refine (i9 id hw).mono ?_
 rintro e W ⟨rfl,hw⟩
 exact ⟨k.pc,rfl,trivial,gv hw⟩
theorem aCa (id:Int) (hw:Has 0 w0 W (cE H p w::R)):
  Calls Tryz.prog 19 ⟨[ptr p,.int .i64 id]⟩ W fun e W'=>∃f:Int→Nat,e= .returned (dZ f w.servers id)∧True∧Has 0 w0 W' (cE H p w::R):=by
 obtain ⟨k,gv,hw⟩:=uB hw
 refine (mY id hw).mono ?_
 rintro e W ⟨rfl,hw⟩
 exact ⟨k.ps,rfl,trivial,gv hw⟩
theorem aCb {f:bL→Int→Int→Option (bL×Int)} {g:FuncId} (hg:callee Tryz.prog g=true) (hf:∀{W:World} {H:Fh} {w w':bL} {c s err:Int} {R:List Res},f w c s=some (w',err)→(fr w0).le H→Has 0 w0 W (cE H p w::Fz H::R)→Calls Tryz.prog g ⟨[ptr p,.int .i64 c,.int .i64 s]⟩ W fun e W'=>∃H':Fh,e= .returned (.int .i64 err)∧H.le H'∧Has 0 w0 W' (cE H' p w'::Fz H'::R))
  (hn:∀w c s,at? w.clients c=none∨at? w.servers s=none→f w c s=some (w,12)) (h:xR f w=some w') (hH:(fr w0).le H) (hw:Has 0 w0 W (cE H p w::Fz H::R)):
  Calls Tryz.prog 169 ⟨[ptr p,.func (.func g) ⟨[ptr p]⟩ ⟨[]⟩]⟩ W fun e W'=>∃H':Fh,e= .returned (.tuple ⟨[]⟩)∧H.le H'∧Has 0 w0 W' (cE H' p w'::Fz H'::R):=by
 refine enter Tryz.func169 Tryz.ntmps169 rfl rfl fun a hs=>?_
 refine sv hs hw fun a hs=>?_
 refine bX (σ:=Nat×bL×Fh) (fun z=>[(0,ptr p),(1,.func (.func g) ⟨[ptr p]⟩ ⟨[]⟩),(4,.int .i64 ((z.1:Int)+1))]) (fun z=>cE z.2.2 p z.2.1::Fz z.2.2::R) (fun z=>z.1≤5∧H.le z.2.2∧tN f (5 - z.1) ((z.1:Int)+1) z.2.1=some w') (fun z=>5 - z.1) (0,w,H) ⟨Nat.zero_le _,Fh.le.refl H,h⟩ hs ⟨rfl,rfl,rfl,trivial⟩ hw ?_
 clear hs hw h
 rintro ⟨i,w2,H2⟩ a W ⟨hi,hle,h⟩ hs hw
 simp only at hi hle h hs hw
 refine sv hs hw fun a hs=>?_
 refine cI hs (kt:=fun hcc=>?_) (kf:=fun hcc=>?_)
 ·have hi':i<5:=by have:=of_decide_eq_true hcc;omega
  rw [show 5 - i=(5 - (i+1))+1 by omega] at h
  unfold tN at h
  obtain ⟨w3,h1,h2⟩:=Option.bind_eq_some_iff.1 h
  refine sv hs hw fun a hs=>?_
  refine bX (σ:=Nat×bL×Fh) (fun z=>[(0,ptr p),(1,.func (.func g) ⟨[ptr p]⟩ ⟨[]⟩),(4,.int .i64 ((i:Int)+1)),(5,.int .i64 ((z.1:Int)+1))]) (fun z=>cE z.2.2 p z.2.1::Fz z.2.2::R) (fun z=>z.1≤7∧H.le z.2.2∧tM f ((i:Int)+1) (7 - z.1) ((z.1:Int)+1) z.2.1=some w3) (fun z=>7 - z.1) (0,w2,H2) ⟨Nat.zero_le _,hle,h1⟩ hs ⟨rfl,rfl,rfl,rfl,trivial⟩ hw ?_
  clear hs hw h1 h hle hcc
  rintro ⟨j,w4,H4⟩ a W ⟨hj,hle,h⟩ hs hw
  simp only at hj hle h hs hw
  refine sv hs hw fun a hs=>?_
  refine cI hs (kt:=fun hcc=>?_) (kf:=fun hcc=>?_)
  ·have hj':j<7:=by have:=of_decide_eq_true hcc;omega
   rw [show 7 - j=(7 - (j+1))+1 by omega] at h
   unfold tM at h
   obtain ⟨⟨w5,er⟩,h3,h4⟩:=Option.bind_eq_some_iff.1 h
   have hg2:((j:Int)+1+1)=((j+1:Nat):Int)+1:=by omega
   rw [hg2] at h4
   refine sv hs hw fun a hs=>?_
   refine cle hs (aIb _ hw) fun f1 a W _ hs hw=>?_
   unfold dZ at hs
   cases c1:at? w4.clients ((i:Int)+1) with
   |none=>
    rw [c1] at hs
    rw [hn _ _ _ (.inl c1)] at h3
    injection h3 with h3
    injection h3 with e1 e2
    subst e1
    refine sv hs hw fun a hs=>?_
    refine bR (j+1,w4,H4) hs hw ⟨hj',hle,h4⟩ (by show 7 - (j+1)<7 - j;omega) ⟨rfl,rfl,rfl,bS (i2 (by omega)),trivial⟩
   |some u=>
   rw [c1] at hs
   refine sv hs hw fun a hs=>?_
   refine cle hs (aCa _ hw) fun f2 a W _ hs hw=>?_
   unfold dZ at hs
   cases c2:at? w4.servers ((j:Int)+1) with
   |none=>
    rw [c2] at hs
    rw [hn _ _ _ (.inr c2)] at h3
    injection h3 with h3
    injection h3 with e1 e2
    subst e1
    refine sv hs hw fun a hs=>?_
    refine bR (j+1,w4,H4) hs hw ⟨hj',hle,h4⟩ (by show 7 - (j+1)<7 - j;omega) ⟨rfl,rfl,rfl,bS (i2 (by omega)),trivial⟩
   |some s=>
   rw [c2] at hs
   refine sv hs hw fun a hs=>?_
   refine aIa hs hg (show Calls Tryz.prog g ⟨[ptr p] ++ [.int .i64 ((i:Int)+1),.int .i64 ((j:Int)+1)]⟩ W _ from hf h3 (hH.trans hle) hw) (k:=?_)
   rintro e' W ⟨H5,rfl,hle5,hw⟩
   refine ⟨_,rfl,fun a hs=>?_⟩
   refine sv hs hw fun a hs=>?_
   refine bR (j+1,w5,H5) hs hw ⟨hj',hle.trans hle5,h4⟩ (by show 7 - (j+1)<7 - j;omega) ⟨rfl,rfl,rfl,bS (i2 (by omega)),trivial⟩
  ·have hj':j=7:=by have:=of_decide_eq_false hcc;omega
   rw [hj',Nat.sub_self] at h
   injection h with h
   subst h
   have hg2:((i:Int)+1+1)=((i+1:Nat):Int)+1:=by omega
   rw [hg2] at h2
   refine sv hs hw fun a hs=>?_
   refine bR (i+1,w4,H4) hs hw ⟨hi',hle,h2⟩ (by show 5 - (i+1)<5 - i;omega) ⟨rfl,rfl,bS (i2 (by omega)),trivial⟩
 ·have hi':i=5:=by have:=of_decide_eq_false hcc;omega
  rw [hi',Nat.sub_self] at h
  injection h with h
  subst h
  refine sc hs ?_
  first
   |exact rt0 hs rfl ⟨H2,rfl,hle,hw⟩
   |exact cO hs rfl ⟨H2,rfl,hle,hw⟩
end
section
variable {w0 W:World} {R L:List Res} {H H':Fh} {p q:Nat} {k:WPt} {w w':bL} {u u':cW} {c id err:Int} {s:cY} {d d':bM}
theorem aIc (hw:Has 0 w0 W (cM H p q s::R)):∃pk pr pt pl pv po mv M,(∀{W R},Has 0 w0 W (aP p pk pr pt::aK pr s.r pl pv po mv::aI pl s.r.l::M::R)→Has 0 w0 W (cM H p q s::R))∧Has 0 w0 W (aP p pk pr pt::aK pr s.r pl pv po mv::aI pl s.r.l::M::R):=by
 obtain ⟨h1,h2,pk,pr,pt,hw⟩:=kA hw
 have hw:Has 0 w0 W (aG H pr s.r::aP p pk pr pt::aX pk q s.k::aO H pt s.t::R):=hw.pm
 obtain ⟨pl,pv,po,mv,hw⟩:=dG hw
 refine ⟨pk,pr,pt,pl,pv,po,mv,fQ [aX pk q s.k,VoR pv s.r.v,ToR po s.r.t,aC H mv s.r.out.msgs,aO H pt s.t],fun {W R} g=>?_,?_⟩
 ·have g:Has 0 w0 W (fQ [aX pk q s.k,VoR pv s.r.v,ToR po s.r.t,aC H mv s.r.out.msgs,aO H pt s.t]::aP p pk pr pt::aK pr s.r pl pv po mv::aI pl s.r.l::R):=g.pm
  have g:=mX g
  have g:Has 0 w0 W (aK pr s.r pl pv po mv::aI pl s.r.l::VoR pv s.r.v::ToR po s.r.t::aC H mv s.r.out.msgs::aP p pk pr pt::aX pk q s.k::aO H pt s.t::R):=g.pm
  have g:=cF g
  exact i8 (g.pm) h1 h2
 ·have g:Has 0 w0 W ([aX pk q s.k,VoR pv s.r.v,ToR po s.r.t,aC H mv s.r.out.msgs,aO H pt s.t] ++ aP p pk pr pt::aK pr s.r pl pv po mv::aI pl s.r.l::R):=hw.pm
  exact (jN g).pm
theorem yA (hs:at? w.servers id=some s) (hw:Has 0 w0 W (aU p k::aY k w::aM H k.pn w.n::aZ k w::bA k w::bB k w::aR H k.ps k.qs w.servers::aE nameS k.qs w.sd::aV H k.pc k.qc w.clients::aE nameQ k.qc w.cd::R)):∃M,(∀{W R},Has 0 w0 W (cM H (k.ps id) (k.qs id) s::M::R)→Has 0 w0 W (cE H p w::R))∧Has 0 w0 W (cM H (k.ps id) (k.qs id) s::M::R):=by
 obtain ⟨rs,a1,a2⟩:=lW (w0:=w0) hs
 refine ⟨fQ [aU p k,aY k w,aM H k.pn w.n,aZ k w,bA k w,bB k w,aR H k.ps k.qs rs,aE nameS k.qs w.sd,aV H k.pc k.qc w.clients,aE nameQ k.qc w.cd],fun {W R} g=>?_,?_⟩
 ·have g:=mX g.swap2
  have g:Has 0 w0 W (cM H (k.ps id) (k.qs id) s::aR H k.ps k.qs rs::aU p k::aY k w::aZ k w::bA k w::bB k w::aM H k.pn w.n::aE nameS k.qs w.sd::aV H k.pc k.qc w.clients::aE nameQ k.qc w.cd::R):=g.pm
  have g:Has 0 w0 W (aR H k.ps k.qs (cL w.servers id s)::aU p k::aY k w::aZ k w::bA k w::bB k w::aM H k.pn w.n::aE nameS k.qs w.sd::aV H k.pc k.qc w.clients::aE nameQ k.qc w.cd::R):=a2 g
  rw [tV hs] at g
  exact eY (k:=k) (g.pm)
 ·have g:Has 0 w0 W (aR H k.ps k.qs w.servers::aU p k::aY k w::aM H k.pn w.n::aZ k w::bA k w::bB k w::aE nameS k.qs w.sd::aV H k.pc k.qc w.clients::aE nameQ k.qc w.cd::R):=hw.pm
  have g:Has 0 w0 W (cM H (k.ps id) (k.qs id) s::aR H k.ps k.qs rs::aU p k::aY k w::aM H k.pn w.n::aZ k w::bA k w::bB k w::aE nameS k.qs w.sd::aV H k.pc k.qc w.clients::aE nameQ k.qc w.cd::R):=a1 g
  have g:Has 0 w0 W ([aU p k,aY k w,aM H k.pn w.n,aZ k w,bA k w,bB k w,aR H k.ps k.qs rs,aE nameS k.qs w.sd,aV H k.pc k.qc w.clients,aE nameQ k.qc w.cd] ++ cM H (k.ps id) (k.qs id) s::R):=g.pm
  exact (jN g).swap2
theorem aId {α:Type} {l:List (Int×α)} {k:Int} {v:α} (h:at? l k=some v):(k,v)∈l:=by
 obtain ⟨l1,l2,e,_⟩:=tS h
 rw [e];simp
theorem aCc (h:qN w=true) (hw:Has 0 w0 W (cE H p w::R)):
  Calls Tryz.prog 168 ⟨[ptr p]⟩ W fun e W'=>e= .returned (.tuple ⟨[]⟩)∧Has 0 w0 W' (cE H p w::R):=by
 refine enter Tryz.func168 Tryz.ntmps168 rfl rfl fun a hs=>?_
 refine sv hs hw fun a hs=>?_
 refine bX (σ:=Nat) (fun z=>[(0,ptr p),(2,.int .i64 ((z:Int)+1))]) (fun z=>cE H p w::R) (fun z=>z≤7) (fun z=>7 - z) 0 (Nat.zero_le _) hs ⟨rfl,rfl,trivial⟩ hw ?_
 clear hs hw
 rintro i a W hi hs hw
 refine sv hs hw fun a hs=>?_
 refine cI hs (kt:=fun hcc=>?_) (kf:=fun hcc=>?_)
 ·have hi':i<7:=by have:=of_decide_eq_true hcc;omega
  refine sv hs hw fun a hs=>?_
  obtain ⟨k,gv,hw⟩:=uB hw
  refine cl hs (mY _ hw) fun a W hs hw=>?_
  unfold dZ at hs
  cases c1:at? w.servers ((i:Int)+1) with
  |none=>
   rw [c1] at hs
   refine sv hs hw fun a hs=>?_
   refine bR (i+1) hs (gv hw) hi' (by show 7 - (i+1)<7 - i;omega) ⟨rfl,bS (i2 (by omega)),trivial⟩
  |some s=>
   rw [c1] at hs
   have hp:(s.r.l.get s.r.l.first 200).length≤100:=by
    have h9:=List.all_eq_true.1 h _ (aId c1)
    exact of_decide_eq_true h9
   obtain ⟨M,gv2,hw⟩:=yA c1 hw
   obtain ⟨pk,pr,pt,pl,pv,po,mv,M2,gv3,hw⟩:=aIc hw
   refine sv hs hw fun a hs=>?_
   refine cl hs (tD hw) fun a W hs hw=>?_
   refine sc hs ?_
   refine cl hs (qK hw.swap2) fun a W hs hw=>?_
   refine sv hs hw fun a hs=>?_
   refine cl hs (tD hw.swap2) fun a W hs hw=>?_
   refine sc hs ?_
   refine cl hs (qK hw.swap2) fun a W hs hw=>?_
   have hw:=hw.swap2
   refine sx hs hw fun a W hs hw=>?_
   refine sg hs hw (fun x a W hs hw=>?_) (g:=mT)
   refine sv hs hw fun a hs=>?_
   rw [show decide (((s.r.l.get s.r.l.first 200).length:Int) > 100)=false from decide_eq_false (by omega)] at hs
   refine sv hs hw fun a hs=>?_
   have hw:Has 0 w0 W (aP (k.ps ((i:Int)+1)) pk pr pt::aK pr s.r pl pv po mv::aI pl s.r.l::M2::M::R):=hw.sl
   refine bR (i+1) hs (gv2 (gv3 hw)) hi' (by show 7 - (i+1)<7 - i;omega) ⟨rfl,bS (i2 (by omega)),trivial⟩
 ·refine sc hs ?_
  first
   |exact rt0 hs rfl ⟨rfl,hw⟩
   |exact cO hs rfl ⟨rfl,hw⟩
end
section
variable {w0 W:World} {R L:List Res} {H H':Fh} {p q:Nat} {k:WPt} {w w':bL} {u u':cW} {c id err:Int} {s:cY} {d d':bM}
theorem aIe (hw:Has 0 w0 W (cE H p w::Fz H::R)):
  Calls Tryz.prog 170 ⟨[ptr p]⟩ W fun e W'=>∃H':Fh,e= .returned (.bool (xS w))∧H.le H'∧Has 0 w0 W' (cE H' p w::Fz H'::R):=by
 obtain ⟨b,h⟩:∃b,mU 5 1 0 w=b:=⟨_,rfl⟩
 rw [show xS w=b from h]
 refine enter Tryz.func170 Tryz.ntmps170 rfl rfl fun a hs=>?_
 refine sv hs hw fun a hs=>?_
 refine bX (σ:=Nat×Int×Fh) (fun z=>[(0,ptr p),(3,.int .i64 z.2.1),(4,.int .i64 ((z.1:Int)+1))]) (fun z=>cE z.2.2 p w::Fz z.2.2::R) (fun z=>z.1≤5∧H.le z.2.2∧mU (5 - z.1) ((z.1:Int)+1) z.2.1 w=b) (fun z=>5 - z.1) (0,0,H) ⟨Nat.zero_le _,Fh.le.refl H,h⟩ hs ⟨rfl,rfl,rfl,trivial⟩ hw ?_
 clear hs hw h
 rintro ⟨i,at_,H2⟩ a W ⟨hi,hle,h⟩ hs hw
 simp only at hi hle h hs hw
 refine sv hs hw fun a hs=>?_
 refine cI hs (kt:=fun hcc=>?_) (kf:=fun hcc=>?_)
 ·have hi':i<5:=by have:=of_decide_eq_true hcc;omega
  have hg2:((i:Int)+1+1)=((i+1:Nat):Int)+1:=by omega
  rw [show 5 - i=(5 - (i+1))+1 by omega] at h
  unfold mU at h
  rw [hg2] at h
  refine sv hs hw fun a hs=>?_
  obtain ⟨k,gv,hw⟩:=lX hw
  refine cl hs (i9 _ hw) fun a W hs hw=>?_
  unfold dZ at hs
  cases c1:at? w.clients ((i:Int)+1) with
  |none=>
   rw [c1] at hs
   simp only [c1] at h
   refine sv hs hw fun a hs=>?_
   refine bR (i+1,at_,H2) hs (gv hw) ⟨hi',hle,h⟩ (by show 5 - (i+1)<5 - i;omega) ⟨rfl,rfl,bS (i2 (by omega)),trivial⟩
  |some u=>
  rw [c1] at hs
  simp only [c1] at h
  clear gv
  obtain ⟨rc,tk,gv⟩:=mZ (w0:=w0) (p:=p) (k:=k) (w:=w) c1
  have hw:=tk (hw.pm:Has 0 w0 W (aU p k::aY k w::aZ k w::bA k w::bB k w::aM (H2) k.pn w.n::aR (H2) k.ps k.qs w.servers::aE nameS k.qs w.sd::aV H2 k.pc k.qc w.clients::aE nameQ k.qc w.cd::Fz H2::R))
  have hw:Has 0 w0 W (cC H2 (k.pc ((i:Int)+1)) (k.qc ((i:Int)+1)) u::Fz H2::aU p k::aY k w::aZ k w::bA k w::bB k w::aM (H2) k.pn w.n::aR (H2) k.ps k.qs w.servers::aE nameS k.qs w.sd::aV (H2) k.pc k.qc rc::aE nameQ k.qc w.cd::R):=hw.pm
  refine sv hs hw fun a hs=>?_
  refine aF hs (hc:=xX hw) (k:=?_)
  rintro e' W ⟨lv,H3,rfl,hle3,⟨ys,hr,_⟩,hw⟩
  refine ⟨_,rfl,fun a hs=>?_⟩
  have hw:=hw.lz hle3
  obtain ⟨lad,lcap,rfl⟩:=hr.slice
  refine sv hs hw fun a hs=>?_
  have fin:∀{W},Has 0 w0 W (cC H3 (k.pc ((i:Int)+1)) (k.qc ((i:Int)+1)) u::Fz H3::aU p k::aY k w::aZ k w::bA k w::bB k w::aM (H3) k.pn w.n::aR (H3) k.ps k.qs w.servers::aE nameS k.qs w.sd::aV (H3) k.pc k.qc rc::aE nameQ k.qc w.cd::R)→Has 0 w0 W (cE H3 p w::Fz H3::R):=fun {W} g=>by
   have g:Has 0 w0 W (cC H3 (k.pc ((i:Int)+1)) (k.qc ((i:Int)+1)) u::aU p k::aY k w::aZ k w::bA k w::bB k w::aM (H3) k.pn w.n::aR (H3) k.ps k.qs w.servers::aE nameS k.qs w.sd::aV (H3) k.pc k.qc rc::aE nameQ k.qc w.cd::Fz H3::R):=g.pm
   exact eY (gv g)
  have next:∀{W:World} {a:Act} {at2:Int},True:=fun {W a at2}=>trivial
  clear next
  cases c2:decide (((fB u).length:Int) > 0) with
  |true=>
   rw [c2] at hs
   have g2:=of_decide_eq_true c2
   rw [if_pos (.inl (by omega))] at h
   subst h
   refine sv hs hw fun a hs=>?_
   exact rt1 hs rfl rfl ⟨H3,rfl,hle.trans hle3,fin hw⟩
  |false=>
  rw [c2] at hs
  have g2:=of_decide_eq_false c2
  refine sv hs hw fun a hs=>?_
  cases c3:decide (at_ > 0) with
  |false=>
   rw [c3] at hs
   have g3:=of_decide_eq_false c3
   rw [if_neg (by rintro (g|⟨g,_⟩) <;> omega)] at h
   refine sv hs hw fun a hs=>?_
   refine cl hs (tP hw) fun a W hs hw=>?_
   refine sv hs hw fun a hs=>?_
   refine bR (i+1,iN u,H3) hs (fin hw) ⟨hi',hle.trans hle3,h⟩ (by show 5 - (i+1)<5 - i;omega) ⟨rfl,rfl,bS (i2 (by omega)),trivial⟩
  |true=>
  rw [c3] at hs
  have g3:=of_decide_eq_true c3
  refine sv hs hw fun a hs=>?_
  refine cl hs (tP hw) fun a W hs hw=>?_
  refine sv hs hw fun a hs=>?_
  rw [show (iN u !=at_)=!(iN u == at_) from rfl] at hs
  cases c4:iN u == at_ with
  |false=>
   rw [c4] at hs
   have g4:¬iN u=at_:=by simpa using c4
   rw [if_pos (.inr ⟨g3,g4⟩)] at h
   subst h
   refine sv hs hw fun a hs=>?_
   exact rt1 hs rfl rfl ⟨H3,rfl,hle.trans hle3,fin hw⟩
  |true=>
   rw [c4] at hs
   have g4:iN u=at_:=by simpa using c4
   rw [if_neg (by rintro (g|⟨_,g⟩);omega;exact g g4)] at h
   refine sv hs hw fun a hs=>?_
   refine cl hs (tP hw) fun a W hs hw=>?_
   refine sv hs hw fun a hs=>?_
   refine bR (i+1,iN u,H3) hs (fin hw) ⟨hi',hle.trans hle3,h⟩ (by show 5 - (i+1)<5 - i;omega) ⟨rfl,rfl,bS (i2 (by omega)),trivial⟩
 ·have hi':i=5:=by have:=of_decide_eq_false hcc;omega
  rw [hi',Nat.sub_self] at h
  unfold mU at h
  subst h
  refine sv hs hw fun a hs=>?_
  exact rt1 hs rfl rfl ⟨H2,rfl,hle,hw⟩
end
section
variable {w0 W:World} {R L:List Res} {H H':Fh} {p q:Nat} {k:WPt} {w w':bL} {u u':cW} {c id err:Int} {s:cY} {d d':bM}
theorem aIf (w:bL) (c s:Int) (h:at? w.clients c=none∨at? w.servers s=none):nZ w c s=some (w,12):=by
 unfold nZ
 rcases h with h|h
 ·rw [h]
 ·cases h2:at? w.clients c <;> simp only [h]
theorem aIg (w:bL) (c s:Int) (h:at? w.clients c=none∨at? w.servers s=none):kB w c s=some (w,12):=by
 unfold kB
 rcases h with h|h
 ·rw [h]
 ·cases h2:at? w.clients c <;> simp only [h]
theorem aIh:callee Tryz.prog 57=true:=by kernel_rfl
theorem aIi:callee Tryz.prog 60=true:=by kernel_rfl
theorem aCd {b:Bool} (h:kZ 5000 w=some (w',b)) (hH:(fr w0).le H) (hT:Tabs w0) (hw:Has 0 w0 W (cE H p w::Fz H::R)):
  Calls Tryz.prog 62 ⟨[ptr p,.int .i64 5000]⟩ W fun e W'=>∃H':Fh,e= .returned (.bool b)∧H.le H'∧Has 0 w0 W' (cE H' p w'::Fz H'::R):=x9 (n:=5000) (by omega) h hH hT hw
theorem aIj {b:Bool} (h:round w=some (w',b)) (hH:(fr w0).le H) (hT:Tabs w0) (hw:Has 0 w0 W (cE H p w::Fz H::R)):
  Calls Tryz.prog 95 ⟨[ptr p]⟩ W fun e W'=>∃H':Fh,e= .returned (.bool b)∧H.le H'∧Has 0 w0 W' (cE H' p w'::Fz H'::R):=by
 unfold round at h
 cases hp:qN w with
 |false=>rw [hp,if_neg (by simp)] at h;cases h
 |true=>
 rw [hp,if_pos rfl] at h
 obtain ⟨w2,h1,h2⟩:=Option.bind_eq_some_iff.1 h
 obtain ⟨w3,h3,h4⟩:=Option.map_eq_some_iff.1 h2
 injection h4 with e1 e2
 subst e1 e2
 clear h h2
 refine enter Tryz.func95 Tryz.ntmps95 rfl rfl fun a hs=>?_
 refine sv hs hw fun a hs=>?_
 refine cl hs (aCc hp hw) fun a W hs hw=>?_
 refine sv hs hw fun a hs=>?_
 refine bX (σ:=Nat×bL×Fh) (fun z=>[(0,ptr p),(3,.int .i64 ((z.1:Int)+1))]) (fun z=>cE z.2.2 p z.2.1::Fz z.2.2::R) (fun z=>z.1≤7∧H.le z.2.2∧qO (7 - z.1) ((z.1:Int)+1) z.2.1=some w2) (fun z=>7 - z.1) (0,w,H) ⟨Nat.zero_le _,Fh.le.refl H,h1⟩ hs ⟨rfl,rfl,trivial⟩ hw ?_
 clear hs hw h1 hp
 rintro ⟨i,w4,H2⟩ a W ⟨hi,hle,h⟩ hs hw
 simp only at hi hle h hs hw
 refine sv hs hw fun a hs=>?_
 refine cI hs (kt:=fun hcc=>?_) (kf:=fun hcc=>?_)
 ·have hi':i<7:=by have:=of_decide_eq_true hcc;omega
  have hg2:((i:Int)+1+1)=((i+1:Nat):Int)+1:=by omega
  rw [show 7 - i=(7 - (i+1))+1 by omega] at h
  unfold qO at h
  rw [hg2] at h
  refine sv hs hw fun a hs=>?_
  refine cle hs (aCa _ hw) fun f1 a W _ hs hw=>?_
  unfold dZ at hs
  cases c1:at? w4.servers ((i:Int)+1) with
  |none=>
   rw [c1] at hs
   simp only [c1] at h
   refine sv hs hw fun a hs=>?_
   refine bR (i+1,w4,H2) hs hw ⟨hi',hle,h⟩ (by show 7 - (i+1)<7 - i;omega) ⟨rfl,bS (i2 (by omega)),trivial⟩
  |some s=>
  rw [c1] at hs
  simp only [c1] at h
  obtain ⟨⟨w5,er⟩,h1,h2⟩:=Option.bind_eq_some_iff.1 h
  obtain ⟨⟨w6,b6⟩,h5,h6⟩:=Option.bind_eq_some_iff.1 h2
  refine sv hs hw fun a hs=>?_
  refine aF hs (hc:=aCX h1 (hH.trans hle) hT hw) (k:=?_)
  rintro e' W ⟨H5,rfl,hle5,hw⟩
  refine ⟨_,rfl,fun a hs=>?_⟩
  refine sv hs hw fun a hs=>?_
  refine aF hs (hc:=aCd h5 (hH.trans (hle.trans hle5)) hT hw) (k:=?_)
  rintro e' W ⟨H6,rfl,hle6,hw⟩
  refine ⟨_,rfl,fun a hs=>?_⟩
  refine sv hs hw fun a hs=>?_
  refine bR (i+1,w6,H6) hs hw ⟨hi',(hle.trans hle5).trans hle6,h6⟩ (by show 7 - (i+1)<7 - i;omega) ⟨rfl,bS (i2 (by omega)),trivial⟩
 ·have hi':i=7:=by have:=of_decide_eq_false hcc;omega
  rw [hi',Nat.sub_self] at h
  injection h with h
  subst h
  refine sv hs hw fun a hs=>?_
  refine bX (σ:=Nat×bL×Fh) (fun z=>[(0,ptr p),(21,.int .i64 (z.1:Int))]) (fun z=>cE z.2.2 p z.2.1::Fz z.2.2::R) (fun z=>z.1≤40∧H.le z.2.2∧mE (40 - z.1) z.2.1=some w3) (fun z=>40 - z.1) (0,w4,H2) ⟨Nat.zero_le _,hle,h3⟩ hs ⟨rfl,rfl,trivial⟩ hw ?_
  clear hs hw h3 hle hcc
  rintro ⟨j,w5,H5⟩ a W ⟨hj,hle,h⟩ hs hw
  simp only at hj hle h hs hw
  refine sv hs hw fun a hs=>?_
  refine cI hs (kt:=fun hcc=>?_) (kf:=fun hcc=>?_)
  ·have hj':j<40:=by have:=of_decide_eq_true hcc;omega
   rw [show 40 - j=(40 - (j+1))+1 by omega] at h
   unfold mE at h
   obtain ⟨w6,h6,h⟩:=Option.bind_eq_some_iff.1 h
   obtain ⟨⟨w7,b7⟩,h7,h⟩:=Option.bind_eq_some_iff.1 h
   obtain ⟨w8,h8,h⟩:=Option.bind_eq_some_iff.1 h
   cases hp:qN w8 with
   |false=>rw [hp,if_neg (by simp)] at h;cases h
   |true=>
   rw [hp,if_pos rfl] at h
   refine sv hs hw fun a hs=>?_
   refine aC9 hs fun a hs=>?_
   refine aF hs (hc:=aCb aIh (fun h hH hw=>aC0 h hH hT hw) aIf h6 (hH.trans hle) hw) (k:=?_)
   rintro e' W ⟨H6,rfl,hle6,hw⟩
   refine ⟨_,rfl,fun a hs=>?_⟩
   refine sv hs hw fun a hs=>?_
   refine aF hs (hc:=aCd h7 (hH.trans (hle.trans hle6)) hT hw) (k:=?_)
   rintro e' W ⟨H7,rfl,hle7,hw⟩
   refine ⟨_,rfl,fun a hs=>?_⟩
   refine sv hs hw fun a hs=>?_
   refine aC9 hs fun a hs=>?_
   refine aF hs (hc:=aCb aIi (fun h hH hw=>aI1 h hH hT hw) aIg h8 (hH.trans ((hle.trans hle6).trans hle7)) hw) (k:=?_)
   rintro e' W ⟨H8,rfl,hle8,hw⟩
   refine ⟨_,rfl,fun a hs=>?_⟩
   refine sv hs hw fun a hs=>?_
   refine cl hs (aCc hp hw) fun a W hs hw=>?_
   refine sv hs hw fun a hs=>?_
   refine bR (j+1,w8,H8) hs hw ⟨hj',((hle.trans hle6).trans hle7).trans hle8,h⟩ (by show 40 - (j+1)<40 - j;omega) ⟨rfl,bS (i1 (by omega)),trivial⟩
  ·have hj':j=40:=by have:=of_decide_eq_false hcc;omega
   rw [hj',Nat.sub_self] at h
   injection h with h
   subst h
   refine sv hs hw fun a hs=>?_
   refine aF hs (hc:=aIe hw) (k:=?_)
   rintro e' W ⟨H6,rfl,hle6,hw⟩
   refine ⟨_,rfl,fun a hs=>?_⟩
   refine sv hs hw fun a hs=>?_
   exact rt1 hs rfl rfl ⟨H6,rfl,hle.trans hle6,hw⟩
theorem aCe {n:Nat} {b:Bool} (hn:n≤40) (h:aD n w=some (w',b)) (hH:(fr w0).le H) (hT:Tabs w0) (hw:Has 0 w0 W (cE H p w::Fz H::R)):
  Calls Tryz.prog 53 ⟨[ptr p,.int .i64 (n:Int)]⟩ W fun e W'=>∃H':Fh,e= .returned (.bool b)∧H.le H'∧Has 0 w0 W' (cE H' p w'::Fz H'::R):=by
 refine enter Tryz.func53 Tryz.ntmps53 rfl rfl fun a hs=>?_
 refine sv hs hw fun a hs=>?_
 refine kH hs fun a hs=>?_
 refine kG hs fun a hs=>?_
 rw [show min (max (n:Int) 0) 40=(n:Int) by omega] at hs
 refine sv hs hw fun a hs=>?_
 refine bX (σ:=Nat×bL×Fh) (fun z=>[(0,ptr p),(7,.int .i64 (n:Int)),(8,.int .i64 (z.1:Int))]) (fun z=>cE z.2.2 p z.2.1::Fz z.2.2::R) (fun z=>z.1≤n∧H.le z.2.2∧aD (n - z.1) z.2.1=some (w',b)) (fun z=>n - z.1) (0,w,H) ⟨Nat.zero_le _,Fh.le.refl H,h⟩ hs ⟨rfl,rfl,rfl,trivial⟩ hw ?_
 clear hs hw h
 rintro ⟨i,w2,H2⟩ a W ⟨hi,hle,h⟩ hs hw
 simp only at hi hle h hs hw
 refine sv hs hw fun a hs=>?_
 refine cI hs (kt:=fun hcc=>?_) (kf:=fun hcc=>?_)
 ·have hi':i<n:=by simpa using hcc
  rw [show n - i=(n - (i+1))+1 by omega] at h
  unfold aD at h
  obtain ⟨⟨w3,b3⟩,h1,h2⟩:=Option.bind_eq_some_iff.1 h
  refine sv hs hw fun a hs=>?_
  refine aF hs (hc:=aIj h1 (hH.trans hle) hT hw) (k:=?_)
  rintro e' W ⟨H3,rfl,hle3,hw⟩
  refine ⟨_,rfl,fun a hs=>?_⟩
  cases b3 with
  |true=>
   rw [if_pos rfl] at h2
   injection h2 with h2
   injection h2 with e1 e2
   subst e1 e2
   refine sv hs hw fun a hs=>?_
   exact rt1 hs rfl rfl ⟨H3,rfl,hle.trans hle3,hw⟩
  |false=>
   rw [if_neg (by simp)] at h2
   refine sv hs hw fun a hs=>?_
   refine bR (i+1,w3,H3) hs hw ⟨hi',hle.trans hle3,h2⟩ (by show n - (i+1)<n - i;omega) ⟨rfl,rfl,bS (i1 (by omega)),trivial⟩
 ·have hi':i=n:=by simp at hcc;omega
  rw [hi',Nat.sub_self] at h
  unfold aD at h
  injection h with h
  injection h with e1 e2
  subst e1 e2
  refine sv hs hw fun a hs=>?_
  exact rt1 hs rfl rfl ⟨H2,rfl,hle,hw⟩
end
structure TD where
 w:bL
 ok:Bool
def yB (n m:Nat):Option TD:=(tK n m).map fun w=>⟨w,true⟩
def lY (t:TD) (x:bL×Int):TD:=⟨x.1,t.ok && x.2 == 0⟩
def qY (t:TD):Option TD:=(kZ 20000 t.w).map fun x=>⟨x.1,t.ok && x.2⟩
def lA:Nat→TD→Int→Option (TD×Bool)
 |0,t,id=>some (t,match at? t.w.servers id with|some s=>s.r.role == 2|none=>false)
 |k+1,t,id=>
  match at? t.w.servers id with
  |none=>some (t,false)
  |some s=>if s.r.role=2 then some (t,true) else (nY t.w id).bind fun x=>(qY (lY t x)).bind fun t=>lA k t id
def m8 (t:TD) (c:Int) (ops:List OpD):Option TD:=(tL t.w c ops).map (lY t)
def qZ (t:TD) (c s:Int):Option (TD×Int):=(nZ t.w c s).bind fun x=>(qY ⟨x.1,t.ok⟩).map fun t=>(t,if x.2=10 then 0 else x.2)
def gZ (w:bL) (c:Int):List cD:=match at? w.clients c with|some q=>q.s.l|none=>[]
def lB:Nat→TD→Int→Int→Option TD
 |0,t,_,_=>some t
 |k+1,t,c,s=>(kB t.w c s).bind fun x=>if (gZ x.1 c).length=(gZ t.w c).length then some (lY t x) else lB k (lY t x) c s
def q0 (t:TD):Option TD:=(aD 12 t.w).map fun x=>⟨x.1,t.ok && x.2⟩
def aCf (q:cW):Dm:=(fB q).foldl (fun d b=>(dN d b.l).2) q.s.f.d
def lC (t:TD) (c:Int) (k:ByteArray) (n:Int):Bool:=match at? t.w.clients c with|none=>false|some q=>match dA (aCf q) k with|some (.inl x)=>x == n|_=>false
def m9 (t:TD) (c:Int) (k:ByteArray) (n:Int):Bool:=match at? t.w.clients c with|none=>false|some q=>match dA q.s.f.d k with|some (.inl x)=>x == n|_=>false
def jO (key:ByteArray) (n:Int):OpD:=⟨4,key,0,0,⟨#[]⟩,0,0,⟨#[]⟩,n⟩
def jP (key:ByteArray) (n:Int):OpD:=⟨1,key,1,n,⟨#[]⟩,0,0,⟨#[]⟩,0⟩
def lD (key:ByteArray) (o n:Int):OpD:=⟨3,key,1,n,⟨#[]⟩,1,o,⟨#[]⟩,0⟩
def kN:ByteArray:=⟨#[110]⟩
def kK:ByteArray:=⟨#[107]⟩
def g0:ByteArray:=⟨#[109,105,110,101]⟩
section
variable {w0 W:World} {R L:List Res} {H H':Fh} {p q:Nat} {k:WPt} {w w':bL} {t t':TD} {n m c id err:Int} {s:cY} {d d':bM}
abbrev dI (p pw:Nat) (n m:Int) (ok:Bool):Res:=aA p [ptr pw,.int .i64 n,.int .i64 m,.bool ok] 29
def dC (H:Fh) (p:Nat) (n m:Int) (t:TD):Res:=Ex fun pw:Nat=>dI p pw n m t.ok::cE H pw t.w:: []
theorem iP (h:Has 0 w0 W (dC H p n m t::R)):∃pw,Has 0 w0 W (dI p pw n m t.ok::cE H pw t.w::R):=Has.open h
theorem fJ {pw:Nat} (h:Has 0 w0 W (dI p pw n m t.ok::cE H pw t.w::R)):Has 0 w0 W (dC H p n m t::R):=Has.shut pw h
theorem aIk (h:Has 0 w0 W (dC H p n m t::R)) (hl:H.le H'):Has 0 w0 W (dC H' p n m t::R):=by
 obtain ⟨pw,h⟩:=iP h
 exact fJ (h.lz hl)
instance (H H':Fh) (p:Nat) (n m:Int) (t:TD):gS H H' (dC H p n m t) (dC H' p n m t):=⟨fun hl h=>aIk h hl⟩
theorem aCg {n m:Nat} (hn:1≤n∧n≤7) (hm:1≤m∧m≤5) (h:yB n m=some t) (hH:(fr w0).le H) (hT:Tabs w0) (hw:Has 0 w0 W (Fz H::R)):
  Calls Tryz.prog 10 ⟨[.int .i64 (n:Int),.int .i64 (m:Int)]⟩ W fun e W'=>∃(p:Nat) (H':Fh),e= .returned (ptr p)∧H.le H'∧Has 0 w0 W' (dC H' p n m t::Fz H'::R):=by
 obtain ⟨w,h1,h2⟩:=Option.map_eq_some_iff.1 h
 subst h2
 refine enter Tryz.func10 Tryz.ntmps10 rfl rfl fun a hs=>?_
 refine sv hs hw fun a hs=>?_
 refine aF hs (hc:=aC8 hn hm h1 hH hT hw) (k:=?_)
 rintro e' W ⟨pw,H3,rfl,hle3,hw⟩
 refine ⟨_,rfl,fun a hs=>?_⟩
 refine sv hs hw fun a hs=>?_
 refine sn hs hw fun p a W hs hw=>?_
 refine sv hs hw fun a hs=>?_
 exact rt1 hs rfl rfl ⟨p,H3,rfl,hle3,fJ (t:=⟨w,true⟩) hw⟩
theorem aCh {pw:Nat} (hw:Has 0 w0 W (dI p pw n m true::R)):
  Calls Tryz.prog 11 ⟨[ptr p,.int .i64 err]⟩ W fun e W'=>e= .returned (.tuple ⟨[]⟩)∧Has 0 w0 W' (dI p pw n m (err == 0)::R):=by
 refine enter Tryz.func11 Tryz.ntmps11 rfl rfl fun a hs=>?_
 refine sx hs hw fun a W hs hw=>?_
 first
  |exact rt0 hs rfl ⟨rfl,hw⟩
  |exact cO hs rfl ⟨rfl,hw⟩
theorem aCi (hok:t.ok=true) (hw:Has 0 w0 W (dC H p n m t::R)):
  Calls Tryz.prog 11 ⟨[ptr p,.int .i64 err]⟩ W fun e W'=>e= .returned (.tuple ⟨[]⟩)∧Has 0 w0 W' (dC H p n m ⟨t.w,err == 0⟩::R):=by
 obtain ⟨pw,hw⟩:=iP hw
 rw [hok] at hw
 exact (aCh hw).mono fun e W ⟨h1,h2⟩=>⟨h1,fJ (t:=⟨t.w,err == 0⟩) h2⟩
theorem aCj (hok:t.ok=true) (h:qY t=some t') (hH:(fr w0).le H) (hT:Tabs w0) (hw:Has 0 w0 W (dC H p n m t::Fz H::R)):
  Calls Tryz.prog 36 ⟨[ptr p]⟩ W fun e W'=>∃H':Fh,e= .returned (.tuple ⟨[]⟩)∧H.le H'∧Has 0 w0 W' (dC H' p n m t'::Fz H'::R):=by
 obtain ⟨⟨w2,b2⟩,h1,h2⟩:=Option.map_eq_some_iff.1 h
 rw [hok] at h2
 subst h2
 obtain ⟨pw,hw⟩:=iP hw
 rw [hok] at hw
 refine enter Tryz.func36 Tryz.ntmps36 rfl rfl fun a hs=>?_
 refine sv hs hw fun a hs=>?_
 have hw:Has 0 w0 W (cE H pw t.w::Fz H::dI p pw n m true::R):=hw.pm
 refine aF hs (hc:=(show Calls Tryz.prog 62 ⟨[ptr pw,.int .i64 20000]⟩ W _ from x9 (n:=20000) (Nat.le_refl _) h1 hH hT hw)) (k:=?_)
 rintro e' W ⟨H3,rfl,hle3,hw⟩
 refine ⟨_,rfl,fun a hs=>?_⟩
 refine sx hs hw fun a W hs hw=>?_
 have hw:Has 0 w0 W (dI p pw n m b2::cE H3 pw w2::Fz H3::R):=hw.pm
 have hw:Has 0 w0 W (dC H3 p n m ⟨w2,true && b2⟩::Fz H3::R):=fJ (t:=⟨w2,true && b2⟩) hw
 first
  |exact rt0 hs rfl ⟨H3,rfl,hle3,hw⟩
  |exact cO hs rfl ⟨H3,rfl,hle3,hw⟩
theorem yC (hok:t.ok=true) (h:q0 t=some t') (hH:(fr w0).le H) (hT:Tabs w0) (hw:Has 0 w0 W (dC H p n m t::Fz H::R)):
  Calls Tryz.prog 24 ⟨[ptr p]⟩ W fun e W'=>∃H':Fh,e= .returned (.tuple ⟨[]⟩)∧H.le H'∧Has 0 w0 W' (dC H' p n m t'::Fz H'::R):=by
 obtain ⟨⟨w2,b2⟩,h1,h2⟩:=Option.map_eq_some_iff.1 h
 rw [hok] at h2
 subst h2
 obtain ⟨pw,hw⟩:=iP hw
 rw [hok] at hw
 refine enter Tryz.func24 Tryz.ntmps24 rfl rfl fun a hs=>?_
 refine sv hs hw fun a hs=>?_
 have hw:Has 0 w0 W (cE H pw t.w::Fz H::dI p pw n m true::R):=hw.pm
 refine aF hs (hc:=(show Calls Tryz.prog 53 ⟨[ptr pw,.int .i64 12]⟩ W _ from aCe (n:=12) (by omega) h1 hH hT hw)) (k:=?_)
 rintro e' W ⟨H3,rfl,hle3,hw⟩
 refine ⟨_,rfl,fun a hs=>?_⟩
 refine sx hs hw fun a W hs hw=>?_
 have hw:Has 0 w0 W (dI p pw n m b2::cE H3 pw w2::Fz H3::R):=hw.pm
 have hw:Has 0 w0 W (dC H3 p n m ⟨w2,true && b2⟩::Fz H3::R):=fJ (t:=⟨w2,true && b2⟩) hw
 first
  |exact rt0 hs rfl ⟨H3,rfl,hle3,hw⟩
  |exact cO hs rfl ⟨H3,rfl,hle3,hw⟩
theorem yD (hok:t.ok=true) (h:qZ t c id=some (t',err)) (hH:(fr w0).le H) (hT:Tabs w0) (hw:Has 0 w0 W (dC H p n m t::Fz H::R)):
  Calls Tryz.prog 28 ⟨[ptr p,.int .i64 c,.int .i64 id]⟩ W fun e W'=>∃H':Fh,e= .returned (.int .i64 err)∧H.le H'∧Has 0 w0 W' (dC H' p n m t'::Fz H'::R):=by
 obtain ⟨⟨w2,e2⟩,h1,h2⟩:=Option.bind_eq_some_iff.1 h
 obtain ⟨t3,h3,h4⟩:=Option.map_eq_some_iff.1 h2
 injection h4 with h5 h6
 subst h5
 obtain ⟨pw,hw⟩:=iP hw
 refine enter Tryz.func28 Tryz.ntmps28 rfl rfl fun a hs=>?_
 refine sv hs hw fun a hs=>?_
 have hw:Has 0 w0 W (cE H pw t.w::Fz H::dI p pw n m t.ok::R):=hw.pm
 refine aF hs (hc:=aC0 h1 hH hT hw) (k:=?_)
 rintro e' W ⟨H3,rfl,hle3,hw⟩
 refine ⟨_,rfl,fun a hs=>?_⟩
 have hw:Has 0 w0 W (dI p pw n m t.ok::cE H3 pw w2::Fz H3::R):=hw.pm
 have hw:Has 0 w0 W (dC H3 p n m ⟨w2,t.ok⟩::Fz H3::R):=fJ (t:=⟨w2,t.ok⟩) hw
 refine sv hs hw fun a hs=>?_
 refine aF hs (hc:=aCj (t:=⟨w2,t.ok⟩) hok h3 (hH.trans hle3) hT hw) (k:=?_)
 rintro e' W ⟨H4,rfl,hle4,hw⟩
 refine ⟨_,rfl,fun a hs=>?_⟩
 refine sv hs hw fun a hs=>?_
 cases c1:e2 == 10 with
 |true=>
  rw [c1] at hs
  rw [if_pos (by simpa using c1)] at h6
  subst h6
  refine sv hs hw fun a hs=>?_
  exact rt1 hs rfl rfl ⟨H4,rfl,hle3.trans hle4,hw⟩
 |false=>
  rw [c1] at hs
  rw [if_neg (by simpa using c1)] at h6
  subst h6
  refine sv hs hw fun a hs=>?_
  exact rt1 hs rfl rfl ⟨H4,rfl,hle3.trans hle4,hw⟩
theorem q9 (hok:t.ok=true) (ops:List OpD) {bad:Option Addr} {bcap:Nat} (hops:∀o∈ops,OpOk o) (h8:ops.length≤8) (hv:cH H (.slice bad ops.length bcap) ops) (h:m8 t c ops=some t') (hH:(fr w0).le H) (hT:Tabs w0) (hw:Has 0 w0 W (dC H p n m t::Fz H::R)):
  Calls Tryz.prog 22 ⟨[ptr p,.int .i64 c,.slice bad ops.length bcap]⟩ W fun e W'=>∃H':Fh,e= .returned (.tuple ⟨[]⟩)∧H.le H'∧Has 0 w0 W' (dC H' p n m t'::Fz H'::R):=by
 obtain ⟨⟨w2,e2⟩,h1,h2⟩:=Option.map_eq_some_iff.1 h
 unfold lY at h2
 rw [hok] at h2
 subst h2
 unfold tL at h1
 cases c1:at? t.w.clients c with
 |none=>simp only [c1] at h1;cases h1
 |some u=>
 cases c2:at? t.w.cd c with
 |none=>simp only [c1,c2] at h1;cases h1
 |some d=>
 simp only [c1,c2] at h1
 obtain ⟨⟨d3,u3,bt,e3⟩,h3,h4⟩:=Option.map_eq_some_iff.1 h1
 injection h4 with h5 h6
 subst h6
 obtain ⟨pw,hw⟩:=iP hw
 obtain ⟨k,gv,hw⟩:=lX hw.swap2
 refine enter Tryz.func22 Tryz.ntmps22 rfl rfl fun a hs=>?_
 refine sv hs hw fun a hs=>?_
 refine cl hs (i9 c hw) fun a W hs hw=>?_
 unfold dZ at hs
 rw [c1] at hs
 obtain ⟨rc,re,tk,gv2⟩:=x5 (w0:=w0) (p:=pw) (k:=k) (w:=t.w) c1 c2
 refine sv hs hw fun a hs=>?_
 have hw:=tk (hw.pm:Has 0 w0 W (aU pw k::aY k t.w::aZ k t.w::bA k t.w::bB k t.w::aM (H) k.pn t.w.n::aR (H) k.ps k.qs t.w.servers::aE nameS k.qs t.w.sd::aV H k.pc k.qc t.w.clients::aE nameQ k.qc t.w.cd::dI p pw n m t.ok::Fz H::R))
 have hw:Has 0 w0 W (cC H (k.pc c) (k.qc c) u::aB nameQ (k.qc c) d::Fz H::aU pw k::aY k t.w::aZ k t.w::bA k t.w::bB k t.w::aM (H) k.pn t.w.n::aR (H) k.ps k.qs t.w.servers::aE nameS k.qs t.w.sd::aV (H) k.pc k.qc rc::aE nameQ k.qc re::dI p pw n m t.ok::R):=hw.pm
 refine aF hs (hc:=aCK ops hops h8 hv h3 hH hT hw) (k:=?_)
 rintro e' W ⟨mv,H3,rfl,hle3,hmv,hw⟩
 refine ⟨_,rfl,fun a hs=>?_⟩
 have hw:=hw.lz hle3
 obtain ⟨tad,tcap,rfl⟩:=hmv.slice
 refine sv hs hw fun a hs=>?_
 refine sn hs hw fun b7 a W hs hw=>?_
 refine sx hs hw fun a W hs hw=>?_
 have hw:Has 0 w0 W (cC H3 (k.pc c) (k.qc c) u3::aB nameQ (k.qc c) d3::aU pw k::aY k t.w::aZ k t.w::bA k t.w::bB k t.w::aM (H3) k.pn t.w.n::aR (H3) k.ps k.qs t.w.servers::aE nameS k.qs t.w.sd::aV (H3) k.pc k.qc rc::aE nameQ k.qc re::aA b7 (aL bt (.slice tad bt.l.length tcap)) 66::dI p pw n m t.ok::Fz H3::R):=hw.pm
 have hw:=eY (gv2 hw)
 have hw:Has 0 w0 W (dI p pw n m t.ok::cE H3 pw w2::Fz H3::R):=by rw [←h5];exact hw.sl
 have hw:Has 0 w0 W (dC H3 p n m ⟨w2,t.ok⟩::Fz H3::R):=fJ (t:=⟨w2,t.ok⟩) hw
 refine cl hs (aCi (t:=⟨w2,t.ok⟩) hok hw) fun a W hs hw=>?_
 refine sc hs ?_
 first
  |exact rt0 hs rfl ⟨H3,rfl,hle3,hw⟩
  |exact cO hs rfl ⟨H3,rfl,hle3,hw⟩
end
theorem aCk (w0 W:World) (p:Nat) (d:Dm) (k:ByteArray) (R:List Res) (hw:Has 0 w0 W (bI p d::R)):
  Calls Tryz.prog 55 ⟨[.pointer (some ⟨p,0,none⟩),.string k]⟩ W fun e W'=>e= .returned (.tuple ⟨[.agg ⟨pH (dA d k)⟩,.bool (dA d k).isSome]⟩)∧Has 0 w0 W' (bI p d::R):=by
 refine enter Tryz.func55 Tryz.ntmps55 rfl rfl fun a hs=>?_
 repeat (first|(refine sxv hs hw ?_;clear hs;intro a hs)|refine sxc hs ?_|(refine sxa hs hw ?_;clear hs hw;intro a b W hw hs)|(refine sxs hs hw ?_;clear hs hw;intro W hs hw)|((with_reducible first|refine eQ hs (k:=?_)|refine eR hs (k:=?_));clear hs;intro a hs))
 obtain ⟨b4,q4⟩:=nm1 hw;subst q4
 refine aF hs (hc:=aAZ w0 _ p d k _ (hw.perm (List.Perm.swap _ _ _))) (k:=?_);rintro e0 W1 ⟨rfl,hw1⟩;refine ⟨_,rfl,?_⟩;clear hs hw;intro a hs;have hw:=hw1;clear hw1
 cases hg:(dA d k).isSome with
 |false=>
  rw [hg] at hs
  have hn:dA d k=none:=by simpa using hg
  refine zD hs hw ?_;clear hs hw;intro a W hs hw
  refine rc2 hs rfl rfl hw (In.tl In.hd) rfl rfl ?_
  rw [hn]
  exact ⟨rfl,hw.sub (List.Sublist.cons_cons _ (List.Sublist.cons _ (List.Sublist.refl _)))⟩
 |true=>
  rw [hg] at hs
  obtain ⟨m,d',hp,hk,hw⟩:=iW hw
  refine zC hs hw ?_;clear hs;intro a hs
  refine mB hs (hw:=hw) (hz:=vS) (c:=?_);clear hs;intro a hs
  rw [rT,pB hp ((iU hp).2 hk)] at hs
  refine aF hs (hc:=aAP (dA d k) _) (k:=?_);rintro e0 W1 ⟨rfl,hb⟩;refine ⟨_,rfl,?_⟩;clear hs;intro a hs;replace hw:=hw.below hb;clear hb
  refine zD hs hw ?_;clear hs hw;intro a W hs hw
  refine rc2 hs rfl rfl hw (In.tl (In.tl In.hd)) rfl rfl ?_
  exact ⟨rfl,iV (hw.sub (List.Sublist.cons_cons _ (List.Sublist.cons_cons _ (List.Sublist.cons _ (List.Sublist.refl _))))) hp hk⟩
section
variable {w0 W:World} {R L:List Res} {H H':Fh} {p q:Nat} {k:WPt} {w w':bL} {t t':TD} {n m c id err:Int} {s:cY} {d d':bM}
theorem aCl:∀(l:List cR) (d:Dm),l.foldl (fun d b=>(dN d b.l).2) d=(eW d l).1
 | [],_=>rfl
 |b::l,d=>by
  show l.foldl (fun d b=>(dN d b.l).2) (dN d b.l).2=_
  rw [aCl l]
  rfl
theorem aCm (key:ByteArray) (x:Int) (hw:Has 0 w0 W R):Calls Tryz.prog 32 ⟨[.string key,.int .i64 x]⟩ W fun e W'=>e= .returned (.agg ⟨bT (jO key x)⟩)∧Has 0 w0 W' R:=by
 refine enter Tryz.func32 Tryz.ntmps32 rfl rfl fun a hs=>?_
 refine sc hs ?_
 refine sn hs hw fun b a W hs hw=>?_
 refine sx hs hw fun a W hs hw=>?_
 exact rc1 hs rfl rfl hw (by repeat (first|exact In.hd|apply In.tl)) rfl ⟨rfl,hw.sub (List.Sublist.cons _ (List.Sublist.refl _))⟩
theorem yE (key:ByteArray) (x:Int) (hw:Has 0 w0 W R):Calls Tryz.prog 23 ⟨[.string key,.int .i64 x]⟩ W fun e W'=>e= .returned (.agg ⟨bT (jP key x)⟩)∧Has 0 w0 W' R:=by
 refine enter Tryz.func23 Tryz.ntmps23 rfl rfl fun a hs=>?_
 refine sc hs ?_
 refine sn hs hw fun b a W hs hw=>?_
 refine sx hs hw fun a W hs hw=>?_
 exact rc1 hs rfl rfl hw (by repeat (first|exact In.hd|apply In.tl)) rfl ⟨rfl,hw.sub (List.Sublist.cons _ (List.Sublist.refl _))⟩
theorem aCn (key:ByteArray) (o x:Int) (hw:Has 0 w0 W R):Calls Tryz.prog 25 ⟨[.string key,.int .i64 o,.int .i64 x]⟩ W fun e W'=>e= .returned (.agg ⟨bT (lD key o x)⟩)∧Has 0 w0 W' R:=by
 refine enter Tryz.func25 Tryz.ntmps25 rfl rfl fun a hs=>?_
 refine sc hs ?_
 refine sn hs hw fun b a W hs hw=>?_
 refine sx hs hw fun a W hs hw=>?_
 exact rc1 hs rfl rfl hw (by repeat (first|exact In.hd|apply In.tl)) rfl ⟨rfl,hw.sub (List.Sublist.cons _ (List.Sublist.refl _))⟩
theorem uC (key:ByteArray) (x:Int) (hH:(fr w0).le H) (hT:Tabs w0) (hw:Has 0 w0 W (dC H p n m t::Fz H::R)):
  Calls Tryz.prog 34 ⟨[ptr p,.int .i64 c,.string key,.int .i64 x]⟩ W fun e W'=>∃H':Fh,e= .returned (.bool (m9 t c key x))∧H.le H'∧Has 0 w0 W' (dC H' p n m t::Fz H'::R):=by
 obtain ⟨pw,hw⟩:=iP hw
 obtain ⟨k,gv,hw⟩:=lX hw.swap2
 refine enter Tryz.func34 Tryz.ntmps34 rfl rfl fun a hs=>?_
 refine sv hs hw fun a hs=>?_
 refine cl hs (i9 c hw) fun a W hs hw=>?_
 unfold dZ at hs
 obtain ⟨bb,hbb⟩:∃bb,bb=m9 t c key x:=⟨_,rfl⟩
 rw [←hbb]
 unfold m9 at hbb
 cases c1:at? t.w.clients c with
 |none=>
  rw [c1] at hs
  simp only [c1] at hbb
  subst hbb
  refine sv hs hw fun a hs=>?_
  exact rt1 hs rfl rfl ⟨H,rfl,Fh.le.refl H,fJ (gv hw).swap2⟩
 |some u=>
 rw [c1] at hs
 simp only [c1] at hbb
 obtain ⟨rc,tk,gv2⟩:=mZ (w0:=w0) (p:=pw) (k:=k) (w:=t.w) c1
 refine sv hs hw fun a hs=>?_
 have hw:=tk (hw.pm:Has 0 w0 W (aU pw k::aY k t.w::aZ k t.w::bA k t.w::bB k t.w::aM (H) k.pn t.w.n::aR (H) k.ps k.qs t.w.servers::aE nameS k.qs t.w.sd::aV H k.pc k.qc t.w.clients::aE nameQ k.qc t.w.cd::dI p pw n m t.ok::Fz H::R))
 have hw:Has 0 w0 W (cC H (k.pc c) (k.qc c) u::Fz H::aU pw k::aY k t.w::aZ k t.w::bA k t.w::bB k t.w::aM (H) k.pn t.w.n::aR (H) k.ps k.qs t.w.servers::aE nameS k.qs t.w.sd::aV (H) k.pc k.qc rc::aE nameQ k.qc t.w.cd::dI p pw n m t.ok::R):=hw.pm
 refine cle hs (aCM hw) fun pd a W _ hs hw=>?_
 obtain ⟨H3,hle3,hH3⟩:∃H3,H.le H3∧H3=H:=⟨H,Fh.le.refl H,rfl⟩
 subst hH3
 refine sv hs hw fun a hs=>?_
 refine cl hs (aCk w0 W pd _ key _ hw) fun a W hs hw=>?_
 refine sv hs hw fun a hs=>?_
 refine sn hs hw fun b10 a W hs hw=>?_
 refine sx hs hw fun a W hs hw=>?_
 have fin:∀{W:World} {cs:List Value},Has 0 w0 W (aA b10 cs 53::bI pd (u.s.f.d)::cC H3 (k.pc c) (k.qc c) u::Fz H3::aU pw k::aY k t.w::aZ k t.w::bA k t.w::bB k t.w::aM (H3) k.pn t.w.n::aR (H3) k.ps k.qs t.w.servers::aE nameS k.qs t.w.sd::aV (H3) k.pc k.qc rc::aE nameQ k.qc t.w.cd::dI p pw n m t.ok::R)→Has 0 w0 W (dC H3 p n m t::Fz H3::R):=fun {W cs} g=>by
  have g:Has 0 w0 W (cC H3 (k.pc c) (k.qc c) u::aU pw k::aY k t.w::aZ k t.w::bA k t.w::bB k t.w::aM (H3) k.pn t.w.n::aR (H3) k.ps k.qs t.w.servers::aE nameS k.qs t.w.sd::aV (H3) k.pc k.qc rc::aE nameQ k.qc t.w.cd::dI p pw n m t.ok::Fz H3::R):=g.sl
  have g:=eY (gv2 g)
  exact fJ g.swap2
 cases c2:dA (u.s.f.d) key with
 |none=>
  rw [c2] at hs hw
  simp only [c2] at hbb
  subst hbb
  refine sv hs hw fun a hs=>?_
  exact rt1 hs rfl rfl ⟨H3,rfl,hle3,fin hw⟩
 |some r=>
  rw [c2] at hs hw
  rw [show (some r).isSome=true from rfl] at hs
  cases r with
  |inr s=>
   rw [show pH (some (.inr s))= [.int .i64 2,.int .i64 0,.string s] from rfl] at hs hw
   simp only [c2] at hbb
   subst hbb
   refine sv hs hw fun a hs=>?_
   exact rt1 hs rfl rfl ⟨H3,rfl,hle3,fin hw⟩
  |inl y=>
   rw [show pH (some (.inl y))= [.int .i64 1,.int .i64 y,.string ⟨#[]⟩] from rfl] at hs hw
   simp only [c2] at hbb
   subst hbb
   refine sv hs hw fun a hs=>?_
   exact rt1 hs rfl rfl ⟨H3,rfl,hle3,fin hw⟩
theorem oE (key:ByteArray) (x:Int) (hH:(fr w0).le H) (hT:Tabs w0) (hw:Has 0 w0 W (dC H p n m t::Fz H::R)):
  Calls Tryz.prog 26 ⟨[ptr p,.int .i64 c,.string key,.int .i64 x]⟩ W fun e W'=>∃H':Fh,e= .returned (.bool (lC t c key x))∧H.le H'∧Has 0 w0 W' (dC H' p n m t::Fz H'::R):=by
 obtain ⟨pw,hw⟩:=iP hw
 obtain ⟨k,gv,hw⟩:=lX hw.swap2
 refine enter Tryz.func26 Tryz.ntmps26 rfl rfl fun a hs=>?_
 refine sv hs hw fun a hs=>?_
 refine cl hs (i9 c hw) fun a W hs hw=>?_
 unfold dZ at hs
 obtain ⟨bb,hbb⟩:∃bb,bb=lC t c key x:=⟨_,rfl⟩
 rw [←hbb]
 unfold lC at hbb
 cases c1:at? t.w.clients c with
 |none=>
  rw [c1] at hs
  simp only [c1] at hbb
  subst hbb
  refine sv hs hw fun a hs=>?_
  exact rt1 hs rfl rfl ⟨H,rfl,Fh.le.refl H,fJ (gv hw).swap2⟩
 |some u=>
 rw [c1] at hs
 simp only [c1] at hbb
 obtain ⟨rc,tk,gv2⟩:=mZ (w0:=w0) (p:=pw) (k:=k) (w:=t.w) c1
 refine sv hs hw fun a hs=>?_
 have hw:=tk (hw.pm:Has 0 w0 W (aU pw k::aY k t.w::aZ k t.w::bA k t.w::bB k t.w::aM (H) k.pn t.w.n::aR (H) k.ps k.qs t.w.servers::aE nameS k.qs t.w.sd::aV H k.pc k.qc t.w.clients::aE nameQ k.qc t.w.cd::dI p pw n m t.ok::Fz H::R))
 have hw:Has 0 w0 W (cC H (k.pc c) (k.qc c) u::Fz H::aU pw k::aY k t.w::aZ k t.w::bA k t.w::bB k t.w::aM (H) k.pn t.w.n::aR (H) k.ps k.qs t.w.servers::aE nameS k.qs t.w.sd::aV (H) k.pc k.qc rc::aE nameQ k.qc t.w.cd::dI p pw n m t.ok::R):=hw.pm
 refine aF hs (hc:=aIA hH hT hw) (k:=?_)
 rintro e' W ⟨pd,H3,rfl,hle3,hw⟩
 refine ⟨_,rfl,fun a hs=>?_⟩
 have hw:=hw.lz hle3
 unfold aCf at hbb
 rw [aCl] at hbb
 refine sv hs hw fun a hs=>?_
 refine cl hs (aCk w0 W pd _ key _ hw) fun a W hs hw=>?_
 refine sv hs hw fun a hs=>?_
 refine sn hs hw fun b10 a W hs hw=>?_
 refine sx hs hw fun a W hs hw=>?_
 have fin:∀{W:World} {cs:List Value},Has 0 w0 W (aA b10 cs 53::bI pd ((eW u.s.f.d (fB u)).1)::cC H3 (k.pc c) (k.qc c) u::Fz H3::aU pw k::aY k t.w::aZ k t.w::bA k t.w::bB k t.w::aM (H3) k.pn t.w.n::aR (H3) k.ps k.qs t.w.servers::aE nameS k.qs t.w.sd::aV (H3) k.pc k.qc rc::aE nameQ k.qc t.w.cd::dI p pw n m t.ok::R)→Has 0 w0 W (dC H3 p n m t::Fz H3::R):=fun {W cs} g=>by
  have g:Has 0 w0 W (cC H3 (k.pc c) (k.qc c) u::aU pw k::aY k t.w::aZ k t.w::bA k t.w::bB k t.w::aM (H3) k.pn t.w.n::aR (H3) k.ps k.qs t.w.servers::aE nameS k.qs t.w.sd::aV (H3) k.pc k.qc rc::aE nameQ k.qc t.w.cd::dI p pw n m t.ok::Fz H3::R):=g.sl
  have g:=eY (gv2 g)
  exact fJ g.swap2
 cases c2:dA ((eW u.s.f.d (fB u)).1) key with
 |none=>
  rw [c2] at hs hw
  simp only [c2] at hbb
  subst hbb
  refine sv hs hw fun a hs=>?_
  exact rt1 hs rfl rfl ⟨H3,rfl,hle3,fin hw⟩
 |some r=>
  rw [c2] at hs hw
  rw [show (some r).isSome=true from rfl] at hs
  cases r with
  |inr s=>
   rw [show pH (some (.inr s))= [.int .i64 2,.int .i64 0,.string s] from rfl] at hs hw
   simp only [c2] at hbb
   subst hbb
   refine sv hs hw fun a hs=>?_
   exact rt1 hs rfl rfl ⟨H3,rfl,hle3,fin hw⟩
  |inl y=>
   rw [show pH (some (.inl y))= [.int .i64 1,.int .i64 y,.string ⟨#[]⟩] from rfl] at hs hw
   simp only [c2] at hbb
   subst hbb
   refine sv hs hw fun a hs=>?_
   exact rt1 hs rfl rfl ⟨H3,rfl,hle3,fin hw⟩
end
section
variable {w0 W:World} {R L:List Res} {H H':Fh} {p q:Nat} {k:WPt} {w w':bL} {t t':TD} {n m c id err:Int} {s:cY} {d d':bM}
theorem aCo (hw:Has 0 w0 W (cM H p q s::R)):∃pk pr pt M,(∀{W R},Has 0 w0 W (aP p pk pr pt::aG H pr s.r::M::R)→Has 0 w0 W (cM H p q s::R))∧Has 0 w0 W (aP p pk pr pt::aG H pr s.r::M::R):=by
 obtain ⟨h1,h2,pk,pr,pt,hw⟩:=kA hw
 refine ⟨pk,pr,pt,fQ [aX pk q s.k,aO H pt s.t],fun {W R} g=>?_,?_⟩
 ·have g:Has 0 w0 W (fQ [aX pk q s.k,aO H pt s.t]::aP p pk pr pt::aG H pr s.r::R):=g.pm
  have g:=mX g
  exact i8 (g.pm) h1 h2
 ·have g:Has 0 w0 W ([aX pk q s.k,aO H pt s.t] ++ aP p pk pr pt::aG H pr s.r::R):=hw.pm
  exact (jN g).pm
theorem aIl (hs:at? w.servers id=some s) (h:nY w id=some (w',err)):err=0:=by
 unfold nY at h
 rw [hs] at h
 cases c:at? w.sd id with
 |none=>simp only [c] at h;cases h
 |some d=>
  simp only [c] at h
  obtain ⟨x,_,h2⟩:=Option.map_eq_some_iff.1 h
  injection h2 with _ h2
  exact h2.symm
theorem aCp (h:qY t=some t') (ho:t'.ok=true):t.ok=true:=by
 obtain ⟨x,_,h2⟩:=Option.map_eq_some_iff.1 h
 subst h2
 have:(t.ok && x.2)=true:=ho
 exact (Bool.and_eq_true_iff.1 this).1
theorem yF:∀{k:Nat} {t:TD} {b:Bool},lA k t id=some (t',b)→t'.ok=true→t.ok=true
 |0,t,b,h,ho=>by
  injection h with h;injection h with h1 h2;rw [h1];exact ho
 |k+1,t,b,h,ho=>by
  unfold lA at h
  cases c:at? t.w.servers id with
  |none=>simp only [c] at h;injection h with h;injection h with h1 h2;rw [h1];exact ho
  |some s=>
   simp only [c] at h
   split at h
   ·injection h with h;injection h with h1 h2;rw [h1];exact ho
   ·obtain ⟨x,h1,h2⟩:=Option.bind_eq_some_iff.1 h
    obtain ⟨t2,h3,h4⟩:=Option.bind_eq_some_iff.1 h2
    have:=aCp h3 (yF h4 ho)
    exact (Bool.and_eq_true_iff.1 this).1
theorem aCq {b:Bool} (h:lA 4 t id=some (t',b)) (hok:t'.ok=true) (hH:(fr w0).le H) (hT:Tabs w0) (hw:Has 0 w0 W (dC H p n m t::Fz H::R)):
  Calls Tryz.prog 27 ⟨[ptr p,.int .i64 id]⟩ W fun e W'=>∃H':Fh,e= .returned (.bool b)∧H.le H'∧Has 0 w0 W' (dC H' p n m t'::Fz H'::R):=by
 refine enter Tryz.func27 Tryz.ntmps27 rfl rfl fun a hs=>?_
 refine sv hs hw fun a hs=>?_
 refine bX (σ:=Nat×TD×Fh) (fun z=>[(0,ptr p),(1,.int .i64 id),(5,.int .i64 (z.1:Int))]) (fun z=>dC z.2.2 p n m z.2.1::Fz z.2.2::R) (fun z=>z.1≤4∧H.le z.2.2∧lA (4 - z.1) z.2.1 id=some (t',b)) (fun z=>4 - z.1) (0,t,H) ⟨Nat.zero_le _,Fh.le.refl H,h⟩ hs ⟨rfl,rfl,rfl,trivial⟩ hw ?_
 clear hs hw h
 rintro ⟨i,t2,H2⟩ a W ⟨hi,hle,h⟩ hs hw
 simp only at hi hle h hs hw
 have hok2:=yF h hok
 refine sv hs hw fun a hs=>?_
 refine cI hs (kt:=fun hcc=>?_) (kf:=fun hcc=>?_)
 ·have hi':i<4:=by have:=of_decide_eq_true hcc;omega
  rw [show 4 - i=(4 - (i+1))+1 by omega] at h
  unfold lA at h
  obtain ⟨pw,hw⟩:=iP hw
  obtain ⟨k,gv,hw⟩:=uB hw.swap2
  refine sv hs hw fun a hs=>?_
  refine cl hs (mY id hw) fun a W hs hw=>?_
  unfold dZ at hs
  cases c1:at? t2.w.servers id with
  |none=>
   rw [c1] at hs
   simp only [c1] at h
   injection h with h
   injection h with e1 e2
   subst e1 e2
   refine sv hs hw fun a hs=>?_
   exact rt1 hs rfl rfl ⟨H2,rfl,hle,fJ (gv hw).swap2⟩
  |some s=>
  rw [c1] at hs
  simp only [c1] at h
  obtain ⟨M,gv2,hw⟩:=yA c1 hw
  obtain ⟨pk,pr,pt,M2,gv3,hw⟩:=aCo hw
  refine sv hs hw fun a hs=>?_
  refine cl hs (tD hw) fun a W hs hw=>?_
  refine sc hs ?_
  refine cl hs (xJ hw.swap2) fun a W hs hw=>?_
  have hw:=(gv2 (gv3 hw.swap2)).swap2
  refine sv hs hw fun a hs=>?_
  cases c2:s.r.role == 2 with
  |true=>
   rw [c2] at hs
   rw [if_pos (by simpa using c2)] at h
   injection h with h
   injection h with e1 e2
   subst e1 e2
   refine sv hs hw fun a hs=>?_
   exact rt1 hs rfl rfl ⟨H2,rfl,hle,fJ hw⟩
  |false=>
  rw [c2] at hs
  rw [if_neg (by simpa using c2)] at h
  obtain ⟨⟨w3,e3⟩,h1,h2⟩:=Option.bind_eq_some_iff.1 h
  obtain ⟨t4,h3,h4⟩:=Option.bind_eq_some_iff.1 h2
  have he3:=aIl c1 h1
  subst he3
  refine sv hs hw fun a hs=>?_
  have hw:Has 0 w0 W (cE H2 pw t2.w::Fz H2::dI p pw n m t2.ok::R):=hw.pm
  refine aF hs (hc:=aCX h1 (hH.trans hle) hT hw) (k:=?_)
  rintro e' W ⟨H3,rfl,hle3,hw⟩
  refine ⟨_,rfl,fun a hs=>?_⟩
  have hw:Has 0 w0 W (dI p pw n m t2.ok::cE H3 pw w3::Fz H3::R):=hw.pm
  have hw:Has 0 w0 W (dC H3 p n m ⟨w3,t2.ok⟩::Fz H3::R):=fJ (t:=⟨w3,t2.ok⟩) hw
  refine cl hs (aCi (t:=⟨w3,t2.ok⟩) hok2 hw) fun a W hs hw=>?_
  refine sv hs hw fun a hs=>?_
  have h3':qY ⟨w3,true⟩=some t4:=by
   unfold lY at h3
   rw [hok2] at h3
   exact h3
  refine aF hs (hc:=aCj (t:=⟨w3,true⟩) rfl h3' (hH.trans (hle.trans hle3)) hT hw) (k:=?_)
  rintro e' W ⟨H4,rfl,hle4,hw⟩
  refine ⟨_,rfl,fun a hs=>?_⟩
  refine sv hs hw fun a hs=>?_
  refine bR (i+1,t4,H4) hs hw ⟨hi',(hle.trans hle3).trans hle4,h4⟩ (by show 4 - (i+1)<4 - i;omega) ⟨rfl,rfl,bS (i1 (by omega)),trivial⟩
 ·have hi':i=4:=by have:=of_decide_eq_false hcc;omega
  rw [hi',Nat.sub_self] at h
  unfold lA at h
  injection h with h
  injection h with e1 e2
  subst e1 e2
  obtain ⟨pw,hw⟩:=iP hw
  obtain ⟨k,gv,hw⟩:=uB hw.swap2
  refine sv hs hw fun a hs=>?_
  refine cl hs (mY id hw) fun a W hs hw=>?_
  unfold dZ at hs
  cases c1:at? t2.w.servers id with
  |none=>
   rw [c1] at hs
   refine sv hs hw fun a hs=>?_
   exact rt1 hs rfl rfl ⟨H2,rfl,hle,fJ (gv hw).swap2⟩
  |some s=>
  rw [c1] at hs
  obtain ⟨M,gv2,hw⟩:=yA c1 hw
  obtain ⟨pk,pr,pt,M2,gv3,hw⟩:=aCo hw
  refine sv hs hw fun a hs=>?_
  refine cl hs (tD hw) fun a W hs hw=>?_
  refine sc hs ?_
  refine cl hs (xJ hw.swap2) fun a W hs hw=>?_
  have hw:=(gv2 (gv3 hw.swap2)).swap2
  refine sv hs hw fun a hs=>?_
  exact rt1 hs rfl rfl ⟨H2,rfl,hle,fJ hw⟩
end
set_option maxRecDepth 100000
def aIm:Option Bool:=
 (tK 3 1).bind fun w=>(tL w 1 [jO kN 1]).bind fun x=>(aD 12 x.1).bind fun y=>(kZ 10 y.1).map fun z=>y.2 && ((gZ y.1 1).length == 1) && z.2 && z.1.n.isEmpty
theorem aIn:aIm=some true:=by decide +kernel
def lE (first:Bool):Int:=match first with|true=>1|false=>2
def aCr (first:Bool):Int:=match first with|true=>2|false=>1
def aIo (first:Bool):Option Bool:=
 (yB 3 2).bind fun t=>(m8 t 1 [jP kK 1]).bind fun t=>(q0 t).bind fun t=>(m8 t 1 [lD kK 1 10]).bind fun t=>(m8 t 2 [lD kK 1 20]).bind fun t=>
 (lA 4 t 1).bind fun l=>(qZ l.1 (lE first) 1).bind fun x=>(qZ x.1 (aCr first) 1).bind fun y=>(q0 y.1).map fun z=>
 lC t 1 kK 10 && (lC t 2 kK 20 && (l.2 && (x.2 == 0 && (y.2 == 0 && (l.1.ok && (x.1.ok && (y.1.ok && (z.ok && (lC z 1 kK (10*lE first) && (lC z 2 kK (10*lE first) && ((gZ z.w 1).length == 3 && (((gZ z.w 1).getD 1 zeroRow).err == 0 && (((gZ z.w 1).getD 2 zeroRow).err == 8 && ((gZ z.w 1).getD 1 zeroRow).b.c == lE first)))))))))))))
theorem aIp (first:Bool):aIo first=some true:=by
 cases first
 ·decide +kernel
 ·decide +kernel
section
variable {w0 W:World} {R L:List Res} {H H':Fh} {p q:Nat} {k:WPt} {w w':bL} {t t':TD} {n m c id err:Int} {s:cY} {d d':bM}
theorem aCs {w:bL} {c:Int} (h:0<(gZ w c).length):∃u,at? w.clients c=some u∧gZ w c=u.s.l:=by
 unfold gZ at h⊢
 cases h2:at? w.clients c with
 |none=>simp only [h2] at h;exact absurd h (by simp)
 |some u=>exact ⟨u,rfl,rfl⟩
theorem aIq:∀o∈[jO kN 1],OpOk o:=by
 intro o ho
 rw [List.mem_singleton] at ho
 subst ho
 exact ⟨⟨by decide,by decide⟩,⟨by decide,by decide⟩,⟨by decide,by decide⟩,⟨by decide,by decide⟩,⟨by decide,by decide⟩,⟨by decide,by decide⟩,by decide,by decide,by decide⟩
theorem aIr (hH:(fr w0).le H) (hT:Tabs w0) (hw:Has 0 w0 W (Fz H::R)):
  Calls Tryz.prog 73 ⟨[]⟩ W fun e W'=>∃H':Fh,e= .returned (.bool true)∧H.le H'∧Has 0 w0 W' (Fz H'::R):=by
 obtain ⟨w,h1,he⟩:=Option.bind_eq_some_iff.1 aIn
 obtain ⟨⟨x,xe⟩,h2,he⟩:=Option.bind_eq_some_iff.1 he
 obtain ⟨⟨y,yb⟩,h3,he⟩:=Option.bind_eq_some_iff.1 he
 obtain ⟨⟨z,zb⟩,h4,he⟩:=Option.map_eq_some_iff.1 he
 simp only [Bool.and_eq_true] at he
 obtain ⟨⟨⟨g1,g2⟩,g3⟩,g4⟩:=he
 subst g1 g3
 have g2:(gZ y 1).length=1:=by simpa using g2
 unfold tL at h2
 cases c1:at? w.clients 1 with
 |none=>simp only [c1] at h2;cases h2
 |some u=>
 cases c2:at? w.cd 1 with
 |none=>simp only [c1,c2] at h2;cases h2
 |some d=>
 simp only [c1,c2] at h2
 obtain ⟨⟨d3,u3,bt,e3⟩,h5,h6⟩:=Option.map_eq_some_iff.1 h2
 injection h6 with h6 _
 obtain ⟨uy,c3,c4⟩:=aCs (w:=y) (c:=1) (by omega)
 rw [c4] at g2
 refine enter Tryz.func73 Tryz.ntmps73 rfl rfl fun a hs=>?_
 refine sv hs hw fun a hs=>?_
 refine aF hs (hc:=(show Calls Tryz.prog 43 ⟨[.int .i64 3,.int .i64 1]⟩ W _ from aC8 (m:=3) (n:=1) (by omega) (by omega) h1 hH hT hw)) (k:=?_)
 rintro e' W ⟨p,H3,rfl,hle3,hw⟩
 refine ⟨_,rfl,fun a hs=>?_⟩
 obtain ⟨k,gv,hw⟩:=lX hw
 refine sv hs hw fun a hs=>?_
 refine cl hs (i9 1 hw) fun a W hs hw=>?_
 unfold dZ at hs
 rw [c1] at hs
 refine sv hs hw fun a hs=>?_
 refine cl hs (i9 1 hw) fun a W hs hw=>?_
 unfold dZ at hs
 rw [c1] at hs
 refine sv hs hw fun a hs=>?_
 refine sn hs hw fun b13 a W hs hw=>?_
 have hw:Has 0 w0 W (aA b13 (bT (jO kN 1)) 55::Fz H3::aU p k::aY k w::aZ k w::bA k w::bB k w::aM (H3) k.pn w.n::aR (H3) k.ps k.qs w.servers::aE nameS k.qs w.sd::aV H3 k.pc k.qc w.clients::aE nameQ k.qc w.cd::R):=hw.pm
 obtain ⟨H4,hle4,hw,hop⟩:=hw.freeze_lit (m:=1) (sz:=9) rfl (by decide)
 have hw:=hw.lz hle4
 obtain ⟨rc,re,tk,gv2⟩:=x5 (w0:=w0) (p:=p) (k:=k) (w:=w) c1 c2
 have hw:=tk (hw.pm:Has 0 w0 W (aU p k::aY k w::aZ k w::bA k w::bB k w::aM (H4) k.pn w.n::aR (H4) k.ps k.qs w.servers::aE nameS k.qs w.sd::aV H4 k.pc k.qc w.clients::aE nameQ k.qc w.cd::Fz H4::R))
 have hw:Has 0 w0 W (cC H4 (k.pc 1) (k.qc 1) u::aB nameQ (k.qc 1) d::Fz H4::aU p k::aY k w::aZ k w::bA k w::bB k w::aM (H4) k.pn w.n::aR (H4) k.ps k.qs w.servers::aE nameS k.qs w.sd::aV (H4) k.pc k.qc rc::aE nameQ k.qc re::R):=hw.pm
 refine aF hs (hc:=aCK [jO kN 1] aIq (by decide) hop h5 (hH.trans (hle3.trans hle4)) hT hw) (k:=?_)
 rintro e' W ⟨mv,H5,rfl,hle5,hmv,hw⟩
 refine ⟨_,rfl,fun a hs=>?_⟩
 have hw:=hw.lz hle5
 have hw:Has 0 w0 W (cE H5 p x::Fz H5::R):=by
  rw [←h6]
  exact eY (gv2 (hw.pm))
 refine sv hs hw fun a hs=>?_
 refine aF hs (hc:=(show Calls Tryz.prog 53 ⟨[ptr p,.int .i64 12]⟩ W _ from aCe (n:=12) (by omega) h3 (hH.trans ((hle3.trans hle4).trans hle5)) hT hw)) (k:=?_)
 rintro e' W ⟨H6,rfl,hle6,hw⟩
 refine ⟨_,rfl,fun a hs=>?_⟩
 clear gv gv2 tk
 obtain ⟨k2,gv,hw⟩:=lX hw
 refine sv hs hw fun a hs=>?_
 refine cl hs (i9 1 hw) fun a W hs hw=>?_
 unfold dZ at hs
 rw [c3] at hs
 obtain ⟨rc2,tk,gv2⟩:=mZ (w0:=w0) (p:=p) (k:=k2) (w:=y) c3
 have hw:=tk (hw.pm:Has 0 w0 W (aU p k2::aY k2 y::aZ k2 y::bA k2 y::bB k2 y::aM (H6) k2.pn y.n::aR (H6) k2.ps k2.qs y.servers::aE nameS k2.qs y.sd::aV H6 k2.pc k2.qc y.clients::aE nameQ k2.qc y.cd::Fz H6::R))
 have hw:Has 0 w0 W (cC H6 (k2.pc 1) (k2.qc 1) uy::Fz H6::aU p k2::aY k2 y::aZ k2 y::bA k2 y::bB k2 y::aM (H6) k2.pn y.n::aR (H6) k2.ps k2.qs y.servers::aE nameS k2.qs y.sd::aV (H6) k2.pc k2.qc rc2::aE nameQ k2.qc y.cd::R):=hw.pm
 refine sc hs ?_
 refine aF hs (hc:=xY hw) (k:=?_)
 rintro e' W ⟨rv,H7,rfl,hle7,⟨rys,hrr,_⟩,hw⟩
 refine ⟨_,rfl,fun a hs=>?_⟩
 obtain ⟨rad,rcap,rfl⟩:=hrr.slice
 rw [g2] at hs
 have hw:=hw.lz hle7
 have hw:Has 0 w0 W (cE H7 p y::Fz H7::R):=eY (gv2 (hw.pm))
 refine sv hs hw fun a hs=>?_
 refine aF hs (hc:=(show Calls Tryz.prog 62 ⟨[ptr p,.int .i64 10]⟩ W _ from x9 (n:=10) (by omega) h4 (hH.trans ((((hle3.trans hle4).trans hle5).trans hle6).trans hle7)) hT hw)) (k:=?_)
 rintro e' W ⟨H8,rfl,hle8,hw⟩
 refine ⟨_,rfl,fun a hs=>?_⟩
 refine sv hs hw fun a hs=>?_
 obtain ⟨k3,gv3,hw⟩:=uA hw
 refine cl hs (tT hw) fun a W hs hw=>?_
 refine sc hs ?_
 refine cl hs (oB hw.swap2) fun a W hs hw=>?_
 have hw:=gv3 hw.swap2
 refine sv hs hw fun a hs=>?_
 rw [tZ,show z.n.isEmpty=true from g4] at hs
 exact rt1 hs rfl rfl ⟨H8,rfl,((((hle3.trans hle4).trans hle5).trans hle6).trans hle7).trans hle8,hw.sub (List.Sublist.cons _ (List.Sublist.refl _))⟩
theorem aIs (hH:(fr w0).le H) (hT:Tabs w0) (hw:Has 0 w0 W (Fz H::R)):
  Calls Tryz.prog 42 ⟨[]⟩ W fun e W'=>∃H':Fh,e= .returned (.bool true)∧H.le H'∧Has 0 w0 W' (Fz H'::R):=by
 refine enter Tryz.func42 Tryz.ntmps42 rfl rfl fun a hs=>?_
 refine sv hs hw fun a hs=>?_
 refine aF hs (hc:=aIr hH hT hw) (k:=?_)
 rintro e' W ⟨H8,rfl,hle8,hw⟩
 refine ⟨_,rfl,fun a hs=>?_⟩
 refine sv hs hw fun a hs=>?_
 exact rt1 hs rfl rfl ⟨H8,rfl,hle8,hw⟩
theorem aCt (hH:(fr w0).le H) (hT:Tabs w0) (hw:Has 0 w0 W (Fz H::R)):
  Calls Tryz.prog 9 ⟨[]⟩ W fun e W'=>∃H':Fh,e= .returned (.bool true)∧H.le H'∧Has 0 w0 W' (Fz H'::R):=by
 refine enter Tryz.func9 Tryz.ntmps9 rfl rfl fun a hs=>?_
 refine sv hs hw fun a hs=>?_
 refine aF hs (hc:=aIs hH hT hw) (k:=?_)
 rintro e' W ⟨H8,rfl,hle8,hw⟩
 refine ⟨_,rfl,fun a hs=>?_⟩
 refine sv hs hw fun a hs=>?_
 exact rt1 hs rfl rfl ⟨H8,rfl,hle8,hw⟩
end
end Go.Proofs.YtgpbngfehfbndaaGreatDoor.Sw
