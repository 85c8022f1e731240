/-
  Texts of the proof, one behind the other (part 53).
-/
import Derived.Test.YtgpbngfehfbndaaGreatDoorM50
import Derived.Test.YtgpbngfehfbndaaGreatDoorChecked
import Derived.Test.YtgpbngfehfbndaaGreatDoorProg
set_option maxHeartbeats 16000000
set_option linter.unusedVariables false
set_option maxRecDepth 10000
namespace Go.Proofs.YtgpbngfehfbndaaGreatDoor.Sw
open Go.RowKit Go.Sx
def lW (key:ByteArray) (o n:Int):OpD:=⟨3,key,1,n,⟨#[]⟩,1,o,⟨#[]⟩,0⟩
def kK:ByteArray:=⟨#[107]⟩
section
variable {w0 W:World} {R L:List Res} {H H':Fh} {p q:Nat} {k:WPt} {w w':bC} {t t':TD} {n m c id err:Int} {s:cN} {d d':bF}
theorem aDh (key:ByteArray) (o x:Int) (hw:Has 0 w0 W R):Calls Tryz.prog 25 ⟨[.string key,.int .i64 o,.int .i64 x]⟩ W fun e W'=>e= .returned (.agg ⟨bX (lW key o x)⟩)∧Has 0 w0 W' R:=by
 refine enter Tryz.func25 Tryz.ntmps25 rfl rfl fun a hs=>?_;refine sc hs ?_;refine sn hs hw fun b a W hs hw=>?_;refine sx hs hw fun a W hs hw=>?_;exact rc1 hs rfl rfl hw inn rfl ⟨rfl,hw.d1⟩
end
set_option maxRecDepth 100000
def lX (first:Bool):Int:=match first with|true=>1|false=>2
def aDi (first:Bool):Int:=match first with|true=>2|false=>1
def aJo (first:Bool):Option Bool:=
 (rS 3 2).bind fun t=>(mO t 1 [kB kK 1]).bind fun t=>(rY t).bind fun t=>(mO t 1 [lW kK 1 10]).bind fun t=>(mO t 2 [lW kK 1 20]).bind fun t=>
 (kA 4 t 1).bind fun l=>(rX l.1 (lX first) 1).bind fun x=>(rX x.1 (aDi first) 1).bind fun y=>(rY y.1).map fun z=>
 lV t 1 kK 10 && (lV t 2 kK 20 && (l.2 && (x.2 == 0 && (y.2 == 0 && (l.1.ok && (x.1.ok && (y.1.ok && (z.ok && (lV z 1 kK (10*lX first) && (lV z 2 kK (10*lX first) && ((iF z.w 1).length == 3 && (((iF z.w 1).getD 1 zeroRow).err == 0 && (((iF z.w 1).getD 2 zeroRow).err == 8 && ((iF z.w 1).getD 1 zeroRow).b.c == lX first)))))))))))))
theorem aJp (first:Bool):aJo first=some true:=by
 cases first
 ·decide +kernel
 ·decide +kernel
section
variable {w0 W:World} {R L:List Res} {H H':Fh} {p q:Nat} {k:WPt} {w w':bC} {t t':TD} {n m c id err:Int} {s:cN} {d d':bF}
theorem aJq:∀o∈[kB kK 1],OpOk o:=by
 intro o ho;rw [List.mem_singleton] at ho;subst ho;exact ⟨⟨by decide,by decide⟩,⟨by decide,by decide⟩,⟨by decide,by decide⟩,⟨by decide,by decide⟩,⟨by decide,by decide⟩,⟨by decide,by decide⟩,by decide,by decide,by decide⟩
theorem aJr:∀o∈[lW kK 1 10],OpOk o:=by
 intro o ho;rw [List.mem_singleton] at ho;subst ho;exact ⟨⟨by decide,by decide⟩,⟨by decide,by decide⟩,⟨by decide,by decide⟩,⟨by decide,by decide⟩,⟨by decide,by decide⟩,⟨by decide,by decide⟩,by decide,by decide,by decide⟩
theorem aJs:∀o∈[lW kK 1 20],OpOk o:=by
 intro o ho;rw [List.mem_singleton] at ho;subst ho;exact ⟨⟨by decide,by decide⟩,⟨by decide,by decide⟩,⟨by decide,by decide⟩,⟨by decide,by decide⟩,⟨by decide,by decide⟩,⟨by decide,by decide⟩,by decide,by decide,by decide⟩
theorem walk_TopCas (first:Bool) (w:World) (hT:Tabs w):
  Calls Tryz.prog 4 ⟨[.bool first]⟩ w fun e w'=>e= .returned (.bool true)∧Below w.heap.size w w':=by
 have hw:=Has.startF w;obtain ⟨W,hWw⟩:∃W,W=w:=⟨_,rfl⟩
 have hw:Has 0 w W (Fz (fr w):: []):=by rw [hWw];exact hw
 suffices hh:Calls Tryz.prog 4 ⟨[.bool first]⟩ W fun e w'=>e= .returned (.bool true)∧Below w.heap.size w w' by rw [hWw] at hh;exact hh
 clear hWw;obtain ⟨H,hHd⟩:∃H,H=fr w:=⟨_,rfl⟩
 rw [←hHd] at hw;have hH:(fr w).le H:=by rw [hHd];exact Fh.le.refl _
 clear hHd;obtain ⟨w0,hw0⟩:∃w0,w0=w:=⟨_,rfl⟩
 rw [←hw0] at hw hH hT⊢;clear hw0;obtain ⟨t1,ht1,he⟩:=Option.bind_eq_some_iff.1 (aJp first);obtain ⟨t2,ht2,he⟩:=Option.bind_eq_some_iff.1 he;obtain ⟨t3,ht3,he⟩:=Option.bind_eq_some_iff.1 he;obtain ⟨t4,ht4,he⟩:=Option.bind_eq_some_iff.1 he;obtain ⟨t5,ht5,he⟩:=Option.bind_eq_some_iff.1 he;obtain ⟨⟨t6,lb⟩,hl,he⟩:=Option.bind_eq_some_iff.1 he;obtain ⟨⟨t7,xe⟩,hx,he⟩:=Option.bind_eq_some_iff.1 he;obtain ⟨⟨t8,ye⟩,hy,he⟩:=Option.bind_eq_some_iff.1 he;obtain ⟨t9,hz,he⟩:=Option.map_eq_some_iff.1 he;simp only [Bool.and_eq_true] at he;obtain ⟨g1,g2,g3,g4,g5,o6,o7,o8,o9,g6,g7,g8,g9,g10,g11⟩:=he;subst g3;have o5:=zR hl o6;have o4:=nS ht5 o5;have o3:=nS ht4 o4;have o2:=aD5 ht3 o3;have o1:=nS ht2 o2;refine enter Tryz.func4 Tryz.ntmps4 rfl rfl fun a hs=>?_;refine sv hs hw fun a hs=>?_;refine aG hs (hc:=vI hH hT hw) (k:=?_);rintro e' W ⟨H1,rfl,hle1,hw⟩;refine ⟨_,rfl,fun a hs=>?_⟩;have hH:=hH.trans hle1;refine sv hs hw fun a hs=>?_;refine aG hs (hc:=(show Calls Tryz.prog 10 ⟨[.int .i64 3,.int .i64 2]⟩ W _ from vF (n:=3) (m:=2) (by omega) (by omega) ht1 hH hT hw)) (k:=?_);rintro e' W ⟨p,H2,rfl,hle2,hw⟩;refine ⟨_,rfl,fun a hs=>?_⟩;have hH:=hH.trans hle2;refine sv hs hw fun a hs=>?_;refine cl hs (zV kK 1 hw) fun a W hs hw=>?_;refine sn hs hw fun b1 a W hs hw=>?_;have hw:Has 0 w0 W (aA b1 (bX (kB kK 1)) 55::Fz H2::dA H2 p 3 2 t1:: []):=hw.pm;obtain ⟨H3,hle3,hw,hop⟩:=hw.freeze_lit (m:=1) (sz:=9) rfl (by decide);have hH:=hH.trans hle3;have hw:=hw.lz hle3;refine aG hs (hc:=pA o1 [kB kK 1] aJq (by decide) hop ht2 hH hT hw.swap2) (k:=?_);rintro e' W ⟨H4,rfl,hle4,hw⟩;refine ⟨_,rfl,fun a hs=>?_⟩;have hH:=hH.trans hle4;refine sv hs hw fun a hs=>?_;refine aG hs (hc:=zT o2 ht3 hH hT hw) (k:=?_);rintro e' W ⟨H5,rfl,hle5,hw⟩;refine ⟨_,rfl,fun a hs=>?_⟩;have hH:=hH.trans hle5;refine sv hs hw fun a hs=>?_;refine cl hs (aDh kK 1 10 hw) fun a W hs hw=>?_;refine sn hs hw fun b2 a W hs hw=>?_;have hw:Has 0 w0 W (aA b2 (bX (lW kK 1 10)) 55::Fz H5::dA H5 p 3 2 t3:: []):=hw.pm;obtain ⟨H6,hle6,hw,hop⟩:=hw.freeze_lit (m:=1) (sz:=9) rfl (by decide);have hH:=hH.trans hle6;have hw:=hw.lz hle6;refine aG hs (hc:=pA o3 [lW kK 1 10] aJr (by decide) hop ht4 hH hT hw.swap2) (k:=?_);rintro e' W ⟨H7,rfl,hle7,hw⟩;refine ⟨_,rfl,fun a hs=>?_⟩;have hH:=hH.trans hle7;refine sv hs hw fun a hs=>?_;refine cl hs (aDh kK 1 20 hw) fun a W hs hw=>?_;refine sn hs hw fun b3 a W hs hw=>?_;have hw:Has 0 w0 W (aA b3 (bX (lW kK 1 20)) 55::Fz H7::dA H7 p 3 2 t4:: []):=hw.pm;obtain ⟨H8,hle8,hw,hop⟩:=hw.freeze_lit (m:=1) (sz:=9) rfl (by decide);have hH:=hH.trans hle8;have hw:=hw.lz hle8;refine aG hs (hc:=pA o4 [lW kK 1 20] aJs (by decide) hop ht5 hH hT hw.swap2) (k:=?_);rintro e' W ⟨H9,rfl,hle9,hw⟩;refine ⟨_,rfl,fun a hs=>?_⟩;have hH:=hH.trans hle9;refine sv hs hw fun a hs=>?_;refine aG hs (hc:=pC kK 10 hH hT hw) (k:=?_);rintro e' W ⟨H10,rfl,hle10,hw⟩;refine ⟨_,rfl,fun a hs=>?_⟩;rw [g1] at hs;have hH:=hH.trans hle10;refine sv hs hw fun a hs=>?_;refine aG hs (hc:=pC kK 20 hH hT hw) (k:=?_);rintro e' W ⟨H11,rfl,hle11,hw⟩;refine ⟨_,rfl,fun a hs=>?_⟩;rw [g2] at hs;have hH:=hH.trans hle11;refine sv hs hw fun a hs=>?_;refine aG hs (hc:=vH hl o6 hH hT hw) (k:=?_);rintro e' W ⟨H12,rfl,hle12,hw⟩;refine ⟨_,rfl,fun a hs=>?_⟩;have hH:=hH.trans hle12;refine sv hs hw fun a hs=>?_;replace hs:Slots a 108 [(41,.bool (!first)),(4,ptr p),(5,.int .i64 1),(6,.int .i64 2)]:=hs.ot;refine eW (M:=fun a W=>Slots a 108 [(4,ptr p),(5,.int .i64 (lX first)),(6,.int .i64 (aDi first))]∧Has 0 w0 W (dA H12 p 3 2 t6::Fz H12:: [])) ?_ ?_
 ·cases first with
  |true=>
   refine sc hs ?_;exact ⟨hs.ot,hw⟩
  |false=>
   refine sv hs hw fun a hs=>?_;exact ⟨hs.ot,hw⟩
 clear hs hw;rintro a W ⟨hs,hw⟩;refine sv hs hw fun a hs=>?_;refine aG hs (hc:=zU o6 hx hH hT hw) (k:=?_);rintro e' W ⟨H13,rfl,hle13,hw⟩;refine ⟨_,rfl,fun a hs=>?_⟩;have hH:=hH.trans hle13;refine sv hs hw fun a hs=>?_;refine aG hs (hc:=zU o7 hy hH hT hw) (k:=?_);rintro e' W ⟨H14,rfl,hle14,hw⟩;refine ⟨_,rfl,fun a hs=>?_⟩;have hH:=hH.trans hle14;refine sv hs hw fun a hs=>?_;refine aG hs (hc:=zT o8 hz hH hT hw) (k:=?_);rintro e' W ⟨H15,rfl,hle15,hw⟩;refine ⟨_,rfl,fun a hs=>?_⟩;have hH:=hH.trans hle15;have hx0:xe=0:=by simpa using g4
 have hy0:ye=0:=by simpa using g5
 subst hx0 hy0;have g8:(iF t9.w 1).length=3:=by simpa using g8
 obtain ⟨u9,c9,r9⟩:=aDW (w:=t9.w) (c:=1) (by omega);rw [r9] at g8 g9 g10 g11;obtain ⟨pw,hw⟩:=fJ hw;obtain ⟨k,gv,hw⟩:=mN hw.swap2;refine sv hs hw fun a hs=>?_;refine cl hs (jL 1 hw) fun a W hs hw=>?_;unfold dQ at hs;rw [c9] at hs;obtain ⟨r1,hr1⟩:∃r1,u9.s.l[1]? =some r1:=⟨_,List.getElem?_eq_getElem (by omega)⟩
 obtain ⟨r2,hr2⟩:∃r2,u9.s.l[2]? =some r2:=⟨_,List.getElem?_eq_getElem (by omega)⟩
 rw [show u9.s.l.getD 1 zeroRow=r1 by rw [List.getD_eq_getElem?_getD,hr1];rfl] at g9 g11;rw [show u9.s.l.getD 2 zeroRow=r2 by rw [List.getD_eq_getElem?_getD,hr2];rfl] at g10;obtain ⟨rc,tk,gv2⟩:=nR (w0:=w0) (p:=pw) (k:=k) (w:=t9.w) c9;have hw:=tk (hw.pm:Has 0 w0 W (aS pw k::bB k t9.w::aW k t9.w::aZ k t9.w::aX k t9.w::aM (H15) k.pn t9.w.n::aQ (H15) k.ps k.qs t9.w.servers::aC nameS k.qs t9.w.sd::aT H15 k.pc k.qc t9.w.clients::aC nameQ k.qc t9.w.cd::cH p pw 3 2 t9.ok::Fz H15:: []));have hw:Has 0 w0 W (cE H15 (k.pc 1) (k.qc 1) u9::Fz H15::aS pw k::bB k t9.w::aW k t9.w::aZ k t9.w::aX k t9.w::aM (H15) k.pn t9.w.n::aQ (H15) k.ps k.qs t9.w.servers::aC nameS k.qs t9.w.sd::aT (H15) k.pc k.qc rc::aC nameQ k.qc t9.w.cd::cH p pw 3 2 t9.ok:: []):=hw.pm;refine aG hs (hc:=y8 hw) (k:=?_);rintro e' W ⟨rv,H16,rfl,hle16,⟨rys,hrr,hrc⟩,hw⟩;refine ⟨_,rfl,fun a hs=>?_⟩;obtain ⟨rad,rcap,rfl⟩:=hrr.slice;rw [g8] at hs hrr;have hH:=hH.trans hle16;have hw:=hw.lz hle16;have hw:Has 0 w0 W (cE H16 (k.pc 1) (k.qc 1) u9::aS pw k::bB k t9.w::aW k t9.w::aZ k t9.w::aX k t9.w::aM (H16) k.pn t9.w.n::aQ (H16) k.ps k.qs t9.w.servers::aC nameS k.qs t9.w.sd::aT (H16) k.pc k.qc rc::aC nameQ k.qc t9.w.cd::cH p pw 3 2 t9.ok::Fz H16:: []):=hw.pm;have hw:Has 0 w0 W (bH H16 pw t9.w::cH p pw 3 2 t9.ok::Fz H16:: []):=eI (gv2 hw);rw [o9] at hw;have hcas:IntKind.i64.wrap (10*lX first)=10*lX first:=by cases first <;> rfl
 refine sv hs hw fun a hs=>?_;rw [hcas] at hs;have hw:Has 0 w0 W (cH p pw 3 2 t9.ok::bH H16 pw t9.w::Fz H16:: []):=by rw [o9];exact hw.swap2
 have hw:=eJ (t:=t9) hw;refine aG hs (hc:=pC kK (10*lX first) hH hT hw) (k:=?_);rintro e' W ⟨H17,rfl,hle17,hw⟩;refine ⟨_,rfl,fun a hs=>?_⟩;rw [g6] at hs;have hH:=hH.trans hle17;refine sv hs hw fun a hs=>?_;refine aG hs (hc:=pC kK (10*lX first) hH hT hw) (k:=?_);rintro e' W ⟨H18,rfl,hle18,hw⟩;refine ⟨_,rfl,fun a hs=>?_⟩;rw [g7] at hs;have hH:=hH.trans hle18;refine sv hs hw fun a hs=>?_;have hrr:=(hrr.le hle17).le hle18;have hrc:=(hrc.mono (RowIn.le hle17)).mono (RowIn.le hle18);refine gA hs (r:=hw.rdH (In.tl In.hd) hrr) (hk:=RowIn.len) (ch:=hrc) (i:=1) (ho:=hr1) (hlen:=g8) (c:=fun a g off c hmc hcl9 hpc hlt hs=>?_);obtain ⟨rv1,rfl,hrv1⟩:=hmc;refine sv hs hw fun a hs=>?_;refine eN hs (hc:=hpc 4 _ rfl) (c:=fun a hs=>?_);refine sv hs hw fun a hs=>?_;rw [g9] at hs;refine sv hs hw fun a hs=>?_;refine gA hs (r:=hw.rdH (In.tl In.hd) hrr) (hk:=RowIn.len) (ch:=hrc) (i:=2) (ho:=hr2) (hlen:=g8) (c:=fun a g off c hmc hcl9 hpc hlt hs=>?_);obtain ⟨rv2,rfl,hrv2⟩:=hmc;refine sv hs hw fun a hs=>?_;refine eN hs (hc:=hpc 4 _ rfl) (c:=fun a hs=>?_);refine sv hs hw fun a hs=>?_;rw [g10] at hs;refine sv hs hw fun a hs=>?_;refine gA hs (r:=hw.rdH (In.tl In.hd) hrr) (hk:=RowIn.len) (ch:=hrc) (i:=1) (ho:=hr1) (hlen:=g8) (c:=fun a g off c hmc hcl9 hpc hlt hs=>?_);obtain ⟨rv3,rfl,hrv3⟩:=hmc;refine sv hs hw fun a hs=>?_;refine eN hs (hc:=hpc 1 _ rfl) (c:=fun a hs=>?_);refine sv hs hw fun a hs=>?_;rw [g11] at hs;exact rt1 hs rfl rfl ⟨rfl,hw.endF (In.tl In.hd) hH⟩
end
end Go.Proofs.YtgpbngfehfbndaaGreatDoor.Sw
