/-
  Texts of the proof, one behind the other (part 49).
-/
import Derived.Test.YtgpbngfehfbndaaGreatDoorM47
import Derived.Test.YtgpbngfehfbndaaGreatDoorChecked
import Derived.Test.YtgpbngfehfbndaaGreatDoorProg
set_option maxHeartbeats 16000000
set_option linter.unusedVariables false
set_option maxRecDepth 10000
namespace Go.Proofs.YtgpbngfehfbndaaGreatDoor.Sw
open Go.RowKit Go.Sx
def rV (x:Option DV):List Value:=[.int .i64 (gH x),.int .i64 (fN x),.string (mZ x)]
section
variable {G p pf:Nat} {w W:World} {R:List Res} {s:eL} {H H':Fh} {v:Value} {xs:List Value}
end
theorem aJ5 (w0 W:World) (H:Fh) (p:Nat) (s:eL) (R:List Res) (hw:Has 0 w0 W (bA H p s::R)):
  Calls Tryz.prog 107 ⟨[.pointer (some ⟨p,0,none⟩)]⟩ W fun e W'=>∃q,e= .returned (.pointer (some ⟨q,0,none⟩))∧Has 0 w0 W' (aY H q s.f::bA H p s::R):=by
 obtain ⟨pf,ad,cap,xs,hc,hw⟩:=mA hw;refine enter Tryz.func107 Tryz.ntmps107 rfl rfl fun a hs=>?_;refine zC hs hw ?_;clear hs;intro a hs;refine aG hs (hc:=xS w0 _ H pf s.f _ hw.swap2) (k:=?_);rintro e0 W1 ⟨q,rfl,hw1⟩;refine ⟨_,rfl,?_⟩;clear hs hw;intro a hs;have hw:=hw1;clear hw1;refine zA hs hw ?_;clear hs;intro a hs;have hw:Has 0 w0 _ (aA p [.pointer (some ⟨pf,0,none⟩),.slice ad s.l.length cap] 186::aY H pf s.f::Sx.Own 68 5 (.slice ad s.l.length cap) s.l.length xs::aY H q s.f::R):=hw.pm;exact rt1 hs rfl rfl ⟨q,rfl,(iP hw hc).swap2⟩
theorem aJ6 (w0 W:World) (H:Fh) (p:Nat) (f:dZ) (R:List Res) (hw:Has 0 w0 W (aY H p f::R)):
  Calls Tryz.prog 108 ⟨[.pointer (some ⟨p,0,none⟩)]⟩ W fun e W'=>∃c,e= .returned (.pointer (some ⟨c,0,none⟩))∧Has 0 w0 W' (bL c f.d::aY H p f::R):=by
 obtain ⟨pd,xs,ht,hw⟩:=oB hw;refine enter Tryz.func108 Tryz.ntmps108 rfl rfl fun a hs=>?_;refine zC hs hw ?_;clear hs;intro a hs;refine aG hs (hc:=pZ w0 _ pd f.d _ hw.swap2) (k:=?_);rintro e0 W1 ⟨c,rfl,hw1⟩;refine ⟨_,rfl,?_⟩;clear hs hw;intro a hs;have hw:=hw1;clear hw1;refine zC hs hw ?_;clear hs;intro a hs;have hw:Has 0 w0 _ (aA p (dE f.place pd xs) 271::bL pd f.d::bL c f.d::R):=hw.pm;exact rt1 hs rfl rfl ⟨c,rfl,(l9 hw ht).swap2⟩
section
variable {H H':Fh} {p q b:Nat} {w0 W:World} {R L:List Res} {u u':cZ} {d d':bF} {err:Int}
theorem aDX (hw:Has 0 w0 W (cE H p q u::R)):
  Calls Tryz.prog 61 ⟨[ptr p]⟩ W fun e W'=>∃c:Nat,e= .returned (ptr c)∧True∧Has 0 w0 W' (bL c u.s.f.d::cE H p q u::R):=by
 obtain ⟨b,hw⟩:=lQ hw;refine enter Tryz.func61 Tryz.ntmps61 rfl rfl fun a hs=>?_;refine sv hs hw fun a hs=>?_;obtain ⟨ps,ad,cap,xs,back,hw⟩:=aCu hw.swap2;refine cl hs (y5 hw) fun a W hs hw=>?_;have hw:Has 0 w0 W (bA H ps u.s::bJ b q u.c (.slice ad u.added.length cap) ps::Sx.Own 66 3 (.slice ad u.added.length cap) u.added.length xs::aA p [ptr b] 116::R):=hw.pm;refine aG hs (hc:=aJ5 w0 W H ps u.s _ hw) (k:=?_);rintro e' W ⟨pf,rfl,hw⟩;refine ⟨_,rfl,fun a hs=>?_⟩;refine aG hs (hc:=aJ6 w0 W H pf u.s.f _ hw) (k:=?_);rintro e' W ⟨c,rfl,hw⟩;refine ⟨_,rfl,fun a hs=>?_⟩;refine sv hs hw fun a hs=>?_;refine rt1 hs rfl rfl ⟨c,rfl,trivial,?_⟩;have hw:Has 0 w0 W (bJ b q u.c (.slice ad u.added.length cap) ps::bA H ps u.s::Sx.Own 66 3 (.slice ad u.added.length cap) u.added.length xs::aA p [ptr b] 116::bL c u.s.f.d::R):=hw.sl;have hw:=mL (back hw).swap2;exact hw.swap2
end
def mO (t:TD) (c:Int) (ops:List OpD):Option TD:=(uS t.w c ops).map (jM t)
def aDY (q:cZ):Dm:=(fI q).foldl (fun d b=>(dO d b.l).2) q.s.f.d
def lV (t:TD) (c:Int) (k:ByteArray) (n:Int):Bool:=match at? t.w.clients c with|none=>false|some q=>match dD (aDY q) k with|some (.inl x)=>x == n|_=>false
section
variable {w0 W:World} {R L:List Res} {H H':Fh} {p q:Nat} {k:WPt} {w w':bC} {t t':TD} {n m c id err:Int} {s:cN} {d d':bF}
theorem pA (hok:t.ok=true) (ops:List OpD) {bad:Option Addr} {bcap:Nat} (hops:∀o∈ops,OpOk o) (h8:ops.length≤8) (hv:cL H (.slice bad ops.length bcap) ops) (h:mO t c ops=some t') (hH:(fr w0).le H) (hT:Tabs w0) (hw:Has 0 w0 W (dA H p n m t::Fz H::R)):
  Calls Tryz.prog 22 ⟨[ptr p,.int .i64 c,.slice bad ops.length bcap]⟩ W fun e W'=>∃H':Fh,e= .returned (.tuple ⟨[]⟩)∧H.le H'∧Has 0 w0 W' (dA H' p n m t'::Fz H'::R):=by
 obtain ⟨⟨w2,e2⟩,h1,h2⟩:=Option.map_eq_some_iff.1 h;unfold jM at h2;rw [hok] at h2;subst h2;unfold uS at h1;cases c1:at? t.w.clients c with
 |none=>simp only [c1] at h1;cases h1
 |some u=>
 cases c2:at? t.w.cd c with
 |none=>simp only [c1,c2] at h1;cases h1
 |some d=>
 simp only [c1,c2] at h1;obtain ⟨⟨d3,u3,bt,e3⟩,h3,h4⟩:=Option.map_eq_some_iff.1 h1;injection h4 with h5 h6;subst h6;obtain ⟨pw,hw⟩:=fJ hw;obtain ⟨k,gv,hw⟩:=mN hw.swap2;refine enter Tryz.func22 Tryz.ntmps22 rfl rfl fun a hs=>?_;refine sv hs hw fun a hs=>?_;refine cl hs (jL c hw) fun a W hs hw=>?_;unfold dQ at hs;rw [c1] at hs;obtain ⟨rc,re,tk,gv2⟩:=zK (w0:=w0) (p:=pw) (k:=k) (w:=t.w) c1 c2;refine sv hs hw fun a hs=>?_;have hw:=tk (hw.pm:Has 0 w0 W (aS pw k::bB k t.w::aW k t.w::aZ k t.w::aX k t.w::aM (H) k.pn t.w.n::aQ (H) k.ps k.qs t.w.servers::aC nameS k.qs t.w.sd::aT H k.pc k.qc t.w.clients::aC nameQ k.qc t.w.cd::cH p pw n m t.ok::Fz H::R));have hw:Has 0 w0 W (cE H (k.pc c) (k.qc c) u::aB nameQ (k.qc c) d::Fz H::aS pw k::bB k t.w::aW k t.w::aZ k t.w::aX k t.w::aM (H) k.pn t.w.n::aQ (H) k.ps k.qs t.w.servers::aC nameS k.qs t.w.sd::aT (H) k.pc k.qc rc::aC nameQ k.qc re::cH p pw n m t.ok::R):=hw.pm;refine aG hs (hc:=aCt ops hops h8 hv h3 hH hT hw) (k:=?_);rintro e' W ⟨mv,H3,rfl,hle3,hmv,hw⟩;refine ⟨_,rfl,fun a hs=>?_⟩;have hw:=hw.lz hle3;obtain ⟨tad,tcap,rfl⟩:=hmv.slice;refine sv hs hw fun a hs=>?_;refine sn hs hw fun b7 a W hs hw=>?_;refine sx hs hw fun a W hs hw=>?_;have hw:Has 0 w0 W (cE H3 (k.pc c) (k.qc c) u3::aB nameQ (k.qc c) d3::aS pw k::bB k t.w::aW k t.w::aZ k t.w::aX k t.w::aM (H3) k.pn t.w.n::aQ (H3) k.ps k.qs t.w.servers::aC nameS k.qs t.w.sd::aT (H3) k.pc k.qc rc::aC nameQ k.qc re::aA b7 (aL bt (.slice tad bt.l.length tcap)) 66::cH p pw n m t.ok::Fz H3::R):=hw.pm;have hw:=eI (gv2 hw);have hw:Has 0 w0 W (cH p pw n m t.ok::bH H3 pw w2::Fz H3::R):=by rw [←h5];exact hw.sl
 have hw:Has 0 w0 W (dA H3 p n m ⟨w2,t.ok⟩::Fz H3::R):=eJ (t:=⟨w2,t.ok⟩) hw;refine cl hs (aDU (t:=⟨w2,t.ok⟩) hok hw) fun a W hs hw=>?_;refine sc hs ?_
 first
  |exact rt0 hs rfl ⟨H3,rfl,hle3,hw⟩
  |exact cP hs rfl ⟨H3,rfl,hle3,hw⟩
end
theorem aDZ (w0 W:World) (p:Nat) (d:Dm) (k:ByteArray) (R:List Res) (hw:Has 0 w0 W (bL p d::R)):
  Calls Tryz.prog 55 ⟨[.pointer (some ⟨p,0,none⟩),.string k]⟩ W fun e W'=>e= .returned (.tuple ⟨[.agg ⟨rV (dD d k)⟩,.bool (dD d k).isSome]⟩)∧Has 0 w0 W' (bL p d::R):=by
 refine enter Tryz.func55 Tryz.ntmps55 rfl rfl fun a hs=>?_
 repeat (first|(refine sxv hs hw ?_;clear hs;intro a hs)|refine sxc hs ?_|(refine sxa hs hw ?_;clear hs hw;intro a b W hw hs)|(refine sxs hs hw ?_;clear hs hw;intro W hs hw)|((with_reducible first|refine eX hs (k:=?_)|refine eY hs (k:=?_));clear hs;intro a hs))
 obtain ⟨b4,q4⟩:=nm1 hw;subst q4;refine aG hs (hc:=aBL w0 _ p d k _ (hw.perm (List.Perm.swap _ _ _))) (k:=?_);rintro e0 W1 ⟨rfl,hw1⟩;refine ⟨_,rfl,?_⟩;clear hs hw;intro a hs;have hw:=hw1;clear hw1;cases hg:(dD d k).isSome with
 |false=>
  rw [hg] at hs;have hn:dD d k=none:=by simpa using hg
  refine zD hs hw ?_;clear hs hw;intro a W hs hw;refine rc2 hs rfl rfl hw (In.tl In.hd) rfl rfl ?_;rw [hn];exact ⟨rfl,hw.sub (List.Sublist.cons_cons _ (List.Sublist.cons _ (List.Sublist.refl _)))⟩
 |true=>
  rw [hg] at hs;obtain ⟨m,d',hp,hk,hw⟩:=jC hw;refine zC hs hw ?_;clear hs;intro a hs;refine jO hs (hw:=hw) (hz:=xJ) (c:=?_);clear hs;intro a hs;rw [sS,pY hp ((jA hp).2 hk)] at hs;refine aG hs (hc:=aBB (dD d k) _) (k:=?_);rintro e0 W1 ⟨rfl,hb⟩;refine ⟨_,rfl,?_⟩;clear hs;intro a hs;replace hw:=hw.below hb;clear hb;refine zD hs hw ?_;clear hs hw;intro a W hs hw;refine rc2 hs rfl rfl hw (In.tl (In.tl In.hd)) rfl rfl ?_;exact ⟨rfl,jB (hw.sub (List.Sublist.cons_cons _ (List.Sublist.cons_cons _ (List.Sublist.cons _ (List.Sublist.refl _))))) hp hk⟩
section
variable {w0 W:World} {R L:List Res} {H H':Fh} {p q:Nat} {k:WPt} {w w':bC} {t t':TD} {n m c id err:Int} {s:cN} {d d':bF}
theorem nS {ops:List OpD} (h:mO t c ops=some t') (ho:t'.ok=true):t.ok=true:=by
 obtain ⟨x,_,h2⟩:=Option.map_eq_some_iff.1 h;subst h2;have:(t.ok && x.2 == 0)=true:=ho;exact (Bool.and_eq_true_iff.1 this).1
end
end Go.Proofs.YtgpbngfehfbndaaGreatDoor.Sw
