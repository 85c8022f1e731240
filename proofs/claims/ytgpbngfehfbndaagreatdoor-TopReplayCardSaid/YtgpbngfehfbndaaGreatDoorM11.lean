/-
  Texts of the proof, one behind the other (part 11).
-/
import Derived.Test.YtgpbngfehfbndaaGreatDoorM10
set_option maxHeartbeats 16000000
set_option linter.unusedVariables false
set_option maxRecDepth 10000
namespace Go.Proofs.YtgpbngfehfbndaaGreatDoor.Sw
open Go.RowKit Go.Sx
section
variable {w0 W:World} {R L:List Res} {H H':Fh} {p q:Nat} {k:WPt} {w w':bL} {t t':TD} {n m c id err:Int} {s:cY} {d d':bM}
theorem aCu (h:q0 t=some t') (ho:t'.ok=true):t.ok=true:=by
 obtain ⟨x,_,h2⟩:=Option.map_eq_some_iff.1 h
 subst h2
 have:(t.ok && x.2)=true:=ho
 exact (Bool.and_eq_true_iff.1 this).1
theorem oF {ops:List OpD} (h:m8 t c ops=some t') (ho:t'.ok=true):t.ok=true:=by
 obtain ⟨x,_,h2⟩:=Option.map_eq_some_iff.1 h
 subst h2
 have:(t.ok && x.2 == 0)=true:=ho
 exact (Bool.and_eq_true_iff.1 this).1
theorem aIt:∀o∈[jP kK 1],OpOk o:=by
 intro o ho
 rw [List.mem_singleton] at ho
 subst ho
 exact ⟨⟨by decide,by decide⟩,⟨by decide,by decide⟩,⟨by decide,by decide⟩,⟨by decide,by decide⟩,⟨by decide,by decide⟩,⟨by decide,by decide⟩,by decide,by decide,by decide⟩
theorem aIu:∀o∈[lD kK 1 10],OpOk o:=by
 intro o ho
 rw [List.mem_singleton] at ho
 subst ho
 exact ⟨⟨by decide,by decide⟩,⟨by decide,by decide⟩,⟨by decide,by decide⟩,⟨by decide,by decide⟩,⟨by decide,by decide⟩,⟨by decide,by decide⟩,by decide,by decide,by decide⟩
theorem aIv:∀o∈[lD kK 1 20],OpOk o:=by
 intro o ho
 rw [List.mem_singleton] at ho
 subst ho
 exact ⟨⟨by decide,by decide⟩,⟨by decide,by decide⟩,⟨by decide,by decide⟩,⟨by decide,by decide⟩,⟨by decide,by decide⟩,⟨by decide,by decide⟩,by decide,by decide,by decide⟩
theorem walk_TopCas (first:Bool) (w:World) (hT:Tabs w):
  Calls Tryz.prog 4 ⟨[.bool first]⟩ w fun e w'=>e= .returned (.bool true)∧Below w.heap.size w w':=by
 have hw:=Has.startF w
 obtain ⟨W,hWw⟩:∃W,W=w:=⟨_,rfl⟩
 have hw:Has 0 w W (Fz (fr w):: []):=by rw [hWw];exact hw
 suffices hh:Calls Tryz.prog 4 ⟨[.bool first]⟩ W fun e w'=>e= .returned (.bool true)∧Below w.heap.size w w' by rw [hWw] at hh;exact hh
 clear hWw
 obtain ⟨H,hHd⟩:∃H,H=fr w:=⟨_,rfl⟩
 rw [←hHd] at hw
 have hH:(fr w).le H:=by rw [hHd];exact Fh.le.refl _
 clear hHd
 obtain ⟨w0,hw0⟩:∃w0,w0=w:=⟨_,rfl⟩
 rw [←hw0] at hw hH hT⊢
 clear hw0
 obtain ⟨t1,ht1,he⟩:=Option.bind_eq_some_iff.1 (aIp first)
 obtain ⟨t2,ht2,he⟩:=Option.bind_eq_some_iff.1 he
 obtain ⟨t3,ht3,he⟩:=Option.bind_eq_some_iff.1 he
 obtain ⟨t4,ht4,he⟩:=Option.bind_eq_some_iff.1 he
 obtain ⟨t5,ht5,he⟩:=Option.bind_eq_some_iff.1 he
 obtain ⟨⟨t6,lb⟩,hl,he⟩:=Option.bind_eq_some_iff.1 he
 obtain ⟨⟨t7,xe⟩,hx,he⟩:=Option.bind_eq_some_iff.1 he
 obtain ⟨⟨t8,ye⟩,hy,he⟩:=Option.bind_eq_some_iff.1 he
 obtain ⟨t9,hz,he⟩:=Option.map_eq_some_iff.1 he
 simp only [Bool.and_eq_true] at he
 obtain ⟨g1,g2,g3,g4,g5,o6,o7,o8,o9,g6,g7,g8,g9,g10,g11⟩:=he
 subst g3
 have o5:=yF hl o6
 have o4:=oF ht5 o5
 have o3:=oF ht4 o4
 have o2:=aCu ht3 o3
 have o1:=oF ht2 o2
 refine enter Tryz.func4 Tryz.ntmps4 rfl rfl fun a hs=>?_
 refine sv hs hw fun a hs=>?_
 refine aF hs (hc:=aCt hH hT hw) (k:=?_)
 rintro e' W ⟨H1,rfl,hle1,hw⟩
 refine ⟨_,rfl,fun a hs=>?_⟩
 have hH:=hH.trans hle1
 refine sv hs hw fun a hs=>?_
 refine aF hs (hc:=(show Calls Tryz.prog 10 ⟨[.int .i64 3,.int .i64 2]⟩ W _ from aCg (n:=3) (m:=2) (by omega) (by omega) ht1 hH hT hw)) (k:=?_)
 rintro e' W ⟨p,H2,rfl,hle2,hw⟩
 refine ⟨_,rfl,fun a hs=>?_⟩
 have hH:=hH.trans hle2
 refine sv hs hw fun a hs=>?_
 refine cl hs (yE kK 1 hw) fun a W hs hw=>?_
 refine sn hs hw fun b1 a W hs hw=>?_
 have hw:Has 0 w0 W (aA b1 (bT (jP kK 1)) 55::Fz H2::dC H2 p 3 2 t1:: []):=hw.pm
 obtain ⟨H3,hle3,hw,hop⟩:=hw.freeze_lit (m:=1) (sz:=9) rfl (by decide)
 have hH:=hH.trans hle3
 have hw:=hw.lz hle3
 refine aF hs (hc:=q9 o1 [jP kK 1] aIt (by decide) hop ht2 hH hT hw.swap2) (k:=?_)
 rintro e' W ⟨H4,rfl,hle4,hw⟩
 refine ⟨_,rfl,fun a hs=>?_⟩
 have hH:=hH.trans hle4
 refine sv hs hw fun a hs=>?_
 refine aF hs (hc:=yC o2 ht3 hH hT hw) (k:=?_)
 rintro e' W ⟨H5,rfl,hle5,hw⟩
 refine ⟨_,rfl,fun a hs=>?_⟩
 have hH:=hH.trans hle5
 refine sv hs hw fun a hs=>?_
 refine cl hs (aCn kK 1 10 hw) fun a W hs hw=>?_
 refine sn hs hw fun b2 a W hs hw=>?_
 have hw:Has 0 w0 W (aA b2 (bT (lD kK 1 10)) 55::Fz H5::dC H5 p 3 2 t3:: []):=hw.pm
 obtain ⟨H6,hle6,hw,hop⟩:=hw.freeze_lit (m:=1) (sz:=9) rfl (by decide)
 have hH:=hH.trans hle6
 have hw:=hw.lz hle6
 refine aF hs (hc:=q9 o3 [lD kK 1 10] aIu (by decide) hop ht4 hH hT hw.swap2) (k:=?_)
 rintro e' W ⟨H7,rfl,hle7,hw⟩
 refine ⟨_,rfl,fun a hs=>?_⟩
 have hH:=hH.trans hle7
 refine sv hs hw fun a hs=>?_
 refine cl hs (aCn kK 1 20 hw) fun a W hs hw=>?_
 refine sn hs hw fun b3 a W hs hw=>?_
 have hw:Has 0 w0 W (aA b3 (bT (lD kK 1 20)) 55::Fz H7::dC H7 p 3 2 t4:: []):=hw.pm
 obtain ⟨H8,hle8,hw,hop⟩:=hw.freeze_lit (m:=1) (sz:=9) rfl (by decide)
 have hH:=hH.trans hle8
 have hw:=hw.lz hle8
 refine aF hs (hc:=q9 o4 [lD kK 1 20] aIv (by decide) hop ht5 hH hT hw.swap2) (k:=?_)
 rintro e' W ⟨H9,rfl,hle9,hw⟩
 refine ⟨_,rfl,fun a hs=>?_⟩
 have hH:=hH.trans hle9
 refine sv hs hw fun a hs=>?_
 refine aF hs (hc:=oE kK 10 hH hT hw) (k:=?_)
 rintro e' W ⟨H10,rfl,hle10,hw⟩
 refine ⟨_,rfl,fun a hs=>?_⟩
 rw [g1] at hs
 have hH:=hH.trans hle10
 refine sv hs hw fun a hs=>?_
 refine aF hs (hc:=oE kK 20 hH hT hw) (k:=?_)
 rintro e' W ⟨H11,rfl,hle11,hw⟩
 refine ⟨_,rfl,fun a hs=>?_⟩
 rw [g2] at hs
 have hH:=hH.trans hle11
 refine sv hs hw fun a hs=>?_
 refine aF hs (hc:=aCq hl o6 hH hT hw) (k:=?_)
 rintro e' W ⟨H12,rfl,hle12,hw⟩
 refine ⟨_,rfl,fun a hs=>?_⟩
 have hH:=hH.trans hle12
 refine sv hs hw fun a hs=>?_
 replace hs:Slots a 108 [(41,.bool (!first)),(4,ptr p),(5,.int .i64 1),(6,.int .i64 2)]:=hs.of ⟨rfl,rfl,rfl,rfl,trivial⟩
 refine fC (M:=fun a W=>Slots a 108 [(4,ptr p),(5,.int .i64 (lE first)),(6,.int .i64 (aCr first))]∧Has 0 w0 W (dC H12 p 3 2 t6::Fz H12:: [])) ?_ ?_
 ·cases first with
  |true=>
   refine sc hs ?_
   exact ⟨hs.of ⟨rfl,rfl,rfl,trivial⟩,hw⟩
  |false=>
   refine sv hs hw fun a hs=>?_
   exact ⟨hs.of ⟨rfl,rfl,rfl,trivial⟩,hw⟩
 clear hs hw
 rintro a W ⟨hs,hw⟩
 refine sv hs hw fun a hs=>?_
 refine aF hs (hc:=yD o6 hx hH hT hw) (k:=?_)
 rintro e' W ⟨H13,rfl,hle13,hw⟩
 refine ⟨_,rfl,fun a hs=>?_⟩
 have hH:=hH.trans hle13
 refine sv hs hw fun a hs=>?_
 refine aF hs (hc:=yD o7 hy hH hT hw) (k:=?_)
 rintro e' W ⟨H14,rfl,hle14,hw⟩
 refine ⟨_,rfl,fun a hs=>?_⟩
 have hH:=hH.trans hle14
 refine sv hs hw fun a hs=>?_
 refine aF hs (hc:=yC o8 hz hH hT hw) (k:=?_)
 rintro e' W ⟨H15,rfl,hle15,hw⟩
 refine ⟨_,rfl,fun a hs=>?_⟩
 have hH:=hH.trans hle15
 have hx0:xe=0:=by simpa using g4
 have hy0:ye=0:=by simpa using g5
 subst hx0 hy0
 have g8:(gZ t9.w 1).length=3:=by simpa using g8
 obtain ⟨u9,c9,r9⟩:=aCs (w:=t9.w) (c:=1) (by omega)
 rw [r9] at g8 g9 g10 g11
 obtain ⟨pw,hw⟩:=iP hw
 obtain ⟨k,gv,hw⟩:=lX hw.swap2
 refine sv hs hw fun a hs=>?_
 refine cl hs (i9 1 hw) fun a W hs hw=>?_
 unfold dZ at hs
 rw [c9] at hs
 obtain ⟨r1,hr1⟩:∃r1,u9.s.l[1]? =some r1:=⟨_,List.getElem?_eq_getElem (by omega)⟩
 obtain ⟨r2,hr2⟩:∃r2,u9.s.l[2]? =some r2:=⟨_,List.getElem?_eq_getElem (by omega)⟩
 rw [show u9.s.l.getD 1 zeroRow=r1 by rw [List.getD_eq_getElem?_getD,hr1];rfl] at g9 g11
 rw [show u9.s.l.getD 2 zeroRow=r2 by rw [List.getD_eq_getElem?_getD,hr2];rfl] at g10
 obtain ⟨rc,tk,gv2⟩:=mZ (w0:=w0) (p:=pw) (k:=k) (w:=t9.w) c9
 have hw:=tk (hw.pm:Has 0 w0 W (aU pw k::aY k t9.w::aZ k t9.w::bA k t9.w::bB k t9.w::aM (H15) k.pn t9.w.n::aR (H15) k.ps k.qs t9.w.servers::aE nameS k.qs t9.w.sd::aV H15 k.pc k.qc t9.w.clients::aE nameQ k.qc t9.w.cd::dI p pw 3 2 t9.ok::Fz H15:: []))
 have hw:Has 0 w0 W (cC H15 (k.pc 1) (k.qc 1) u9::Fz H15::aU pw k::aY k t9.w::aZ k t9.w::bA k t9.w::bB k t9.w::aM (H15) k.pn t9.w.n::aR (H15) k.ps k.qs t9.w.servers::aE nameS k.qs t9.w.sd::aV (H15) k.pc k.qc rc::aE nameQ k.qc t9.w.cd::dI p pw 3 2 t9.ok:: []):=hw.pm
 refine aF hs (hc:=xY hw) (k:=?_)
 rintro e' W ⟨rv,H16,rfl,hle16,⟨rys,hrr,hrc⟩,hw⟩
 refine ⟨_,rfl,fun a hs=>?_⟩
 obtain ⟨rad,rcap,rfl⟩:=hrr.slice
 rw [g8] at hs hrr
 have hH:=hH.trans hle16
 have hw:=hw.lz hle16
 have hw:Has 0 w0 W (cC H16 (k.pc 1) (k.qc 1) u9::aU pw k::aY k t9.w::aZ k t9.w::bA k t9.w::bB k t9.w::aM (H16) k.pn t9.w.n::aR (H16) k.ps k.qs t9.w.servers::aE nameS k.qs t9.w.sd::aV (H16) k.pc k.qc rc::aE nameQ k.qc t9.w.cd::dI p pw 3 2 t9.ok::Fz H16:: []):=hw.pm
 have hw:Has 0 w0 W (cE H16 pw t9.w::dI p pw 3 2 t9.ok::Fz H16:: []):=eY (gv2 hw)
 rw [o9] at hw
 have hcas:IntKind.i64.wrap (10*lE first)=10*lE first:=by cases first <;> rfl
 refine sv hs hw fun a hs=>?_
 rw [hcas] at hs
 have hw:Has 0 w0 W (dI p pw 3 2 t9.ok::cE H16 pw t9.w::Fz H16:: []):=by rw [o9];exact hw.swap2
 have hw:=fJ (t:=t9) hw
 refine aF hs (hc:=oE kK (10*lE first) hH hT hw) (k:=?_)
 rintro e' W ⟨H17,rfl,hle17,hw⟩
 refine ⟨_,rfl,fun a hs=>?_⟩
 rw [g6] at hs
 have hH:=hH.trans hle17
 refine sv hs hw fun a hs=>?_
 refine aF hs (hc:=oE kK (10*lE first) hH hT hw) (k:=?_)
 rintro e' W ⟨H18,rfl,hle18,hw⟩
 refine ⟨_,rfl,fun a hs=>?_⟩
 rw [g7] at hs
 have hH:=hH.trans hle18
 refine sv hs hw fun a hs=>?_
 have hrr:=(hrr.le hle17).le hle18
 have hrc:=(hrc.mono (RowIn.le hle17)).mono (RowIn.le hle18)
 refine fZ hs (r:=hw.rdH (In.tl In.hd) hrr) (hk:=RowIn.len) (ch:=hrc) (i:=1) (ho:=hr1) (hlen:=g8) (c:=fun a g off c hmc hcl9 hpc hlt hs=>?_)
 obtain ⟨rv1,rfl,hrv1⟩:=hmc
 refine sv hs hw fun a hs=>?_
 refine eP hs (hc:=hpc 4 _ rfl) (c:=fun a hs=>?_)
 refine sv hs hw fun a hs=>?_
 rw [g9] at hs
 refine sv hs hw fun a hs=>?_
 refine fZ hs (r:=hw.rdH (In.tl In.hd) hrr) (hk:=RowIn.len) (ch:=hrc) (i:=2) (ho:=hr2) (hlen:=g8) (c:=fun a g off c hmc hcl9 hpc hlt hs=>?_)
 obtain ⟨rv2,rfl,hrv2⟩:=hmc
 refine sv hs hw fun a hs=>?_
 refine eP hs (hc:=hpc 4 _ rfl) (c:=fun a hs=>?_)
 refine sv hs hw fun a hs=>?_
 rw [g10] at hs
 refine sv hs hw fun a hs=>?_
 refine fZ hs (r:=hw.rdH (In.tl In.hd) hrr) (hk:=RowIn.len) (ch:=hrc) (i:=1) (ho:=hr1) (hlen:=g8) (c:=fun a g off c hmc hcl9 hpc hlt hs=>?_)
 obtain ⟨rv3,rfl,hrv3⟩:=hmc
 refine sv hs hw fun a hs=>?_
 refine eP hs (hc:=hpc 1 _ rfl) (c:=fun a hs=>?_)
 refine sv hs hw fun a hs=>?_
 rw [g11] at hs
 exact rt1 hs rfl rfl ⟨rfl,hw.endF (In.tl In.hd) hH⟩
end
section
variable {w0 W:World} {R L:List Res} {H H':Fh} {p q:Nat} {k:WPt} {w w':bL} {t t':TD} {n m c id err:Int} {s:cY} {d d':bM}
theorem oG:∀{k:Nat} {t:TD},lB k t c id=some t'→t'.ok=true→t.ok=true
 |0,t,h,ho=>by injection h with h;rw [h];exact ho
 |k+1,t,h,ho=>by
  unfold lB at h
  obtain ⟨x,h1,h2⟩:=Option.bind_eq_some_iff.1 h
  split at h2
  ·injection h2 with h2
   subst h2
   have:(t.ok && x.2 == 0)=true:=ho
   exact (Bool.and_eq_true_iff.1 this).1
  ·have:(t.ok && x.2 == 0)=true:=oG h2 ho
   exact (Bool.and_eq_true_iff.1 this).1
theorem aCv {pw:Nat} {u:cW} (c1:at? w.clients c=some u) (hw:Has 0 w0 W (aU pw k::aZ k w::aM H k.pn w.n::aY k w::bA k w::bB k w::aR H k.ps k.qs w.servers::aE nameS k.qs w.sd::aV H k.pc k.qc w.clients::aE nameQ k.qc w.cd::Fz H::R)):
  Calls Tryz.prog 30 ⟨[ptr (k.pc c)]⟩ W fun e W'=>∃(ad:Option Addr) (cap:Nat) (H':Fh),e= .returned (.slice ad u.s.l.length cap)∧H.le H'∧Has 0 w0 W' (aU pw k::aZ k w::aM H' k.pn w.n::aY k w::bA k w::bB k w::aR H' k.ps k.qs w.servers::aE nameS k.qs w.sd::aV H' k.pc k.qc w.clients::aE nameQ k.qc w.cd::Fz H'::R):=by
 obtain ⟨rc,tk,gv⟩:=mZ (w0:=w0) (p:=pw) (k:=k) (w:=w) c1
 have hw:=tk (hw.pm:Has 0 w0 W (aU pw k::aY k w::aZ k w::bA k w::bB k w::aM (H) k.pn w.n::aR (H) k.ps k.qs w.servers::aE nameS k.qs w.sd::aV H k.pc k.qc w.clients::aE nameQ k.qc w.cd::Fz H::R))
 have hw:Has 0 w0 W (cC H (k.pc c) (k.qc c) u::Fz H::aU pw k::aY k w::aZ k w::bA k w::bB k w::aM (H) k.pn w.n::aR (H) k.ps k.qs w.servers::aE nameS k.qs w.sd::aV (H) k.pc k.qc rc::aE nameQ k.qc w.cd::R):=hw.pm
 refine (xY hw).mono ?_
 rintro e W ⟨v,H3,rfl,hle3,⟨ys,hr,_⟩,hw⟩
 obtain ⟨ad,cap,rfl⟩:=hr.slice
 have hw:=hw.lz hle3
 have hw:Has 0 w0 W (cC H3 (k.pc c) (k.qc c) u::aU pw k::aY k w::aZ k w::bA k w::bB k w::aM (H3) k.pn w.n::aR (H3) k.ps k.qs w.servers::aE nameS k.qs w.sd::aV (H3) k.pc k.qc rc::aE nameQ k.qc w.cd::Fz H3::R):=hw.pm
 exact ⟨ad,cap,H3,rfl,hle3,(gv hw).pm⟩
theorem aCw {α:Type} {k:Int} {v:α}:∀{l:List (Int×α)},at? (cL l k v) k=some v
 | []=>by show (if k=k then _ else _)=_;rw [if_pos rfl]
 |p::l=>by
  unfold cL
  split
  ·show (if k=k then _ else _)=_;rw [if_pos rfl]
  ·rename_i h1
   show (if p.1=k then _ else at? (cL l k v) k)=_
   rw [if_neg h1,aCw]
theorem aIw {u:cW} (c1:at? w.clients c=some u) (h:kB w c id=some (w',err)):∃u',at? w'.clients c=some u':=by
 unfold kB at h
 cases c2:at? w.servers id with
 |none=>
  simp only [c1,c2] at h
  injection h with h
  injection h with e1 e2
  exact ⟨u,by rw [←e1];exact c1⟩
 |some s=>
 cases c3:at? w.cd c with
 |none=>simp only [c1,c2,c3] at h;cases h
 |some d=>
 simp only [c1,c2,c3] at h
 obtain ⟨x,h1,h2⟩:=Option.map_eq_some_iff.1 h
 injection h2 with e3 e4
 exact ⟨x.2.1,by rw [←e3];exact aCw⟩
theorem aCx {u:cW} (c1:at? w.clients c=some u):gZ w c=u.s.l:=by unfold gZ;rw [c1]
theorem aCy (h:lB 100 t c id=some t') (hok:t'.ok=true) (hH:(fr w0).le H) (hT:Tabs w0) (hw:Has 0 w0 W (dC H p n m t::Fz H::R)):
  Calls Tryz.prog 33 ⟨[ptr p,.int .i64 c,.int .i64 id]⟩ W fun e W'=>∃H':Fh,e= .returned (.tuple ⟨[]⟩)∧H.le H'∧Has 0 w0 W' (dC H' p n m t'::Fz H'::R):=by
 refine enter Tryz.func33 Tryz.ntmps33 rfl rfl fun a hs=>?_
 refine sv hs hw fun a hs=>?_
 refine bX (σ:=Nat×TD×Fh) (fun z=>[(0,ptr p),(1,.int .i64 c),(2,.int .i64 id),(6,.int .i64 (z.1:Int))]) (fun z=>dC z.2.2 p n m z.2.1::Fz z.2.2::R) (fun z=>z.1≤100∧H.le z.2.2∧lB (100 - z.1) z.2.1 c id=some t') (fun z=>100 - z.1) (0,t,H) ⟨Nat.zero_le _,Fh.le.refl H,h⟩ hs ⟨rfl,rfl,rfl,rfl,trivial⟩ hw ?_
 clear hs hw h
 rintro ⟨i,t2,H2⟩ a W ⟨hi,hle,h⟩ hs hw
 simp only at hi hle h hs hw
 have hok2:=oG h hok
 refine sv hs hw fun a hs=>?_
 refine cI hs (kt:=fun hcc=>?_) (kf:=fun hcc=>?_)
 ·have hi':i<100:=by have:=of_decide_eq_true hcc;omega
  rw [show 100 - i=(100 - (i+1))+1 by omega] at h
  unfold lB at h
  obtain ⟨⟨w3,e3⟩,h1,h2⟩:=Option.bind_eq_some_iff.1 h
  simp only at h2
  obtain ⟨pw,hw⟩:=iP hw
  rw [hok2] at hw
  obtain ⟨k,hw⟩:=k9 hw.swap2
  have hw:Has 0 w0 W (aU pw k::aZ k (t2.w)::aM (H2) k.pn (t2.w).n::aY k (t2.w)::bA k (t2.w)::bB k (t2.w)::aR (H2) k.ps k.qs (t2.w).servers::aE nameS k.qs (t2.w).sd::aV (H2) k.pc k.qc (t2.w).clients::aE nameQ k.qc (t2.w).cd::Fz H2::dI p pw n m true::R):=hw.pm
  refine sv hs hw fun a hs=>?_
  refine cl hs (i9 c hw) fun a W hs hw=>?_
  unfold dZ at hs
  cases c1:at? t2.w.clients c with
  |none=>
   exfalso
   unfold kB at h1
   simp only [c1] at h1
   injection h1 with h1
   injection h1 with e1 e2
   subst e1 e2
   rw [if_pos rfl] at h2
   injection h2 with h2
   rw [←h2] at hok
   have:(t2.ok && (12:Int) == 0)=true:=hok
   rw [hok2] at this
   exact absurd this (by decide)
  |some u=>
  rw [c1] at hs
  obtain ⟨u3,c3⟩:=aIw c1 h1
  rw [aCx c1,aCx c3] at h2
  refine sv hs hw fun a hs=>?_
  refine aF hs (hc:=aCv c1 hw) (k:=?_)
  rintro e' W ⟨ad3,cap3,H3,rfl,hle3,hw⟩
  refine ⟨_,rfl,fun a hs=>?_⟩
  have hH3:=hH.trans (hle.trans hle3)
  refine sv hs hw fun a hs=>?_
  have hw:Has 0 w0 W (aU pw k::aY k (t2.w)::aZ k (t2.w)::bA k (t2.w)::bB k (t2.w)::aM (H3) k.pn (t2.w).n::aR (H3) k.ps k.qs (t2.w).servers::aE nameS k.qs (t2.w).sd::aV (H3) k.pc k.qc (t2.w).clients::aE nameQ k.qc (t2.w).cd::Fz H3::dI p pw n m true::R):=hw.pm
  refine aF hs (hc:=aCZ h1 hH3 hT hw) (k:=?_)
  rintro e' W ⟨H4,rfl,hle4,hw⟩
  refine ⟨_,rfl,fun a hs=>?_⟩
  have hw:Has 0 w0 W (dI p pw n m true::aU pw k::aZ k (w3)::aM (H4) k.pn (w3).n::aY k (w3)::bA k (w3)::bB k (w3)::aR (H4) k.ps k.qs (w3).servers::aE nameS k.qs (w3).sd::aV (H4) k.pc k.qc (w3).clients::aE nameQ k.qc (w3).cd::Fz H4::R):=hw.pm
  refine cl hs (aCh hw) fun a W hs hw=>?_
  have hw:Has 0 w0 W (aU pw k::aZ k (w3)::aM (H4) k.pn (w3).n::aY k (w3)::bA k (w3)::bB k (w3)::aR (H4) k.ps k.qs (w3).servers::aE nameS k.qs (w3).sd::aV (H4) k.pc k.qc (w3).clients::aE nameQ k.qc (w3).cd::Fz H4::dI p pw n m (e3 == 0)::R):=hw.pm
  refine sv hs hw fun a hs=>?_
  refine aF hs (hc:=aCv c3 hw) (k:=?_)
  rintro e' W ⟨ad5,cap5,H5,rfl,hle5,hw⟩
  refine ⟨_,rfl,fun a hs=>?_⟩
  have hle':=((hle.trans hle3).trans hle4).trans hle5
  have hw:Has 0 w0 W (aU pw k::aY k (w3)::aZ k (w3)::bA k (w3)::bB k (w3)::aM (H5) k.pn (w3).n::aR (H5) k.ps k.qs (w3).servers::aE nameS k.qs (w3).sd::aV (H5) k.pc k.qc (w3).clients::aE nameQ k.qc (w3).cd::Fz H5::dI p pw n m (e3 == 0)::R):=hw.pm
  have hw:Has 0 w0 W (dI p pw n m (e3 == 0)::cE H5 pw w3::Fz H5::R):=(eY hw).pm
  have hw:Has 0 w0 W (dC H5 p n m ⟨w3,e3 == 0⟩::Fz H5::R):=fJ (t:=⟨w3,e3 == 0⟩) hw
  have hm:lY t2 (w3,e3)=⟨w3,e3 == 0⟩:=by unfold lY;rw [hok2];rfl
  rw [hm] at h2
  refine sv hs hw fun a hs=>?_
  refine cI hs (kt:=fun hcc=>?_) (kf:=fun hcc=>?_)
  ·have he:u3.s.l.length=u.s.l.length:=by have:=eq_of_beq hcc;omega
   rw [if_pos he] at h2
   injection h2 with h2
   rw [h2] at hw
   refine sc hs ?_
   exact rt0 hs rfl ⟨H5,rfl,hle',hw⟩
  ·have he:¬u3.s.l.length=u.s.l.length:=fun h9=>by rw [h9] at hcc;simp at hcc
   rw [if_neg he] at h2
   refine sv hs hw fun a hs=>?_
   refine bR (i+1,⟨w3,e3 == 0⟩,H5) hs hw ⟨hi',hle',h2⟩ (by show 100 - (i+1)<100 - i;omega) ⟨rfl,rfl,rfl,bS (i1 (by omega)),trivial⟩
 ·have hi':i=100:=by have:=of_decide_eq_false hcc;omega
  rw [hi',Nat.sub_self] at h
  unfold lB at h
  injection h with h
  subst h
  refine sc hs ?_
  first
   |exact rt0 hs rfl ⟨H2,rfl,hle,hw⟩
   |exact cO hs rfl ⟨H2,rfl,hle,hw⟩
end
set_option maxRecDepth 100000
def lZ:Nat→Int→TD→Option TD
 |0,_,t=>some t
 |k+1,i,t=>(m8 t 2 [jO kN 1,jP g0 2]).bind fun t=>(qZ t 2 1).bind fun x=>(lB 100 x.1 2 1).bind fun t=>(lB 100 t 1 1).bind fun t=>
  if (x.2 == 0 && (m9 t 1 kN (i+1) && (lC t 1 kN (101+i) && (lC t 1 g0 1 && m9 t 1 g0 2))))=true then lZ k (i+1) t else none
def aIx (n:Nat):Option Bool:=
 (yB 3 2).bind fun t=>(lA 4 t 1).bind fun l=>(m8 l.1 1 [jO kN 100,jP g0 1]).bind fun t=>(lZ n 0 t).bind fun t=>(q0 t).map fun z=>
 l.2 && (z.ok && (m9 z 2 kN (100+n) && m9 z 2 g0 1))
theorem aIy {n:Nat} (h:n<8):aIx (n+1)=some true:=by
 have h:n=0∨n=1∨n=2∨n=3∨n=4∨n=5∨n=6∨n=7:=by omega
 rcases h with rfl|rfl|rfl|rfl|rfl|rfl|rfl|rfl <;> decide +kernel
section
variable {w0 W:World} {R L:List Res} {H H':Fh} {p q:Nat} {k:WPt} {w w':bL} {t t':TD} {n m c id err:Int} {s:cY} {d d':bM}
theorem aCz (h:qZ t c id=some (t',err)) (ho:t'.ok=true):t.ok=true:=by
 obtain ⟨⟨w2,e2⟩,h1,h2⟩:=Option.bind_eq_some_iff.1 h
 obtain ⟨t3,h3,h4⟩:=Option.map_eq_some_iff.1 h2
 injection h4 with h5 h6
 subst h5
 exact aCp (t:=⟨w2,t.ok⟩) h3 ho
theorem aIz {x k:Int} (hk:0<k) (hk2:k≤1000) (hw:Has 0 w0 W R):
  Calls Tryz.prog 31 ⟨[.int .i64 x,.int .i64 k]⟩ W fun e W'=>∃r:Nat,e= .returned (.int .i64 (r:Int))∧(r:Int)<k∧Has 0 w0 W' R:=by
 have h1:=Int.tmod_lt_of_pos x hk
 have h2: -k<x.tmod k:=by have:=Int.lt_tmod_of_pos x hk;omega
 have hz:(k == 0)=false:=by simp;omega
 refine enter Tryz.func31 Tryz.ntmps31 rfl rfl fun a hs=>?_
 refine sv hs hw fun a hs=>?_
 refine zO hs (hne:=hz) (k:=fun a hs=>?_)
 refine sv hs hw fun a hs=>?_
 refine cI hs (kt:=fun hcc=>?_) (kf:=fun hcc=>?_)
 ·have h3:=of_decide_eq_true hcc
  refine sv hs hw fun a hs=>?_
  rw [show IntKind.i64.wrap (0 - x.tmod k)=((-(x.tmod k)).toNat:Int) by rw [IntWalk.i64_in _ (by omega)];omega] at hs
  exact rt1 hs rfl rfl ⟨_,rfl,by omega,hw⟩
 ·have h3:=of_decide_eq_false hcc
  refine sv hs hw fun a hs=>?_
  rw [show x.tmod k=((x.tmod k).toNat:Int) by omega] at hs
  exact rt1 hs rfl rfl ⟨_,rfl,by omega,hw⟩
theorem ch {P:Program} {ops:Array Oper} {aD:List Oper} {Q:Exit→Act→World→Prop} {a:Act} {n d:Nat} {L:List (Nat×Value)} {T:TypeId} {p:String} {e:Array Edge} {f:FuncId} {xs:List Operand} {ts:Array TypeId} {vs:List Value} {v:Value} {R':Fh→List Res} (hs:Slots a n L) (hH:(fr w0).le H) (hc:Calls P f ⟨vs⟩ W fun e' W'=>∃H':Fh,e'= .returned v∧H.le H'∧Has 0 w0 W' (R' H')) (k:∀H' a' W',H.le H'→(fr w0).le H'→Slots a' n ((d,v)::L)→Has 0 w0 W' (R' H')→wpList P ops Q aD a' W') (hx:evs L xs=some vs:=by with_unfolding_all exact rfl) (hf:callee P f=true:=by kernel_rfl) (hd:Nat.blt d n=true:=by with_unfolding_all exact rfl):
  wpList P ops Q (⟨some d,.call {callee:= .value (.func f),args:=⟨xs⟩,argTypes:=ts},T,p,e,none⟩::aD) a W:=
 aF hs hx hf hd hc fun e' W' ⟨H',h1,h2,h3⟩=>⟨v,h1,fun a' ha=>k H' a' W' h2 (hH.trans h2) ha h3⟩
theorem yG:∀{k:Nat} {i:Int} {t:TD},lZ k i t=some t'→t'.ok=true→t.ok=true
 |0,i,t,h,ho=>by injection h with h;rw [h];exact ho
 |k+1,i,t,h,ho=>by
  unfold lZ at h
  obtain ⟨t1,h1,h⟩:=Option.bind_eq_some_iff.1 h
  obtain ⟨⟨t2,e2⟩,h2,h⟩:=Option.bind_eq_some_iff.1 h
  obtain ⟨t3,h3,h⟩:=Option.bind_eq_some_iff.1 h
  obtain ⟨t4,h4,h⟩:=Option.bind_eq_some_iff.1 h
  split at h
  ·exact oF h1 (aCz h2 (oG h3 (oG h4 (yG h ho))))
  ·cases h
theorem aDA {l:List OpD} (h:l.all sH=true):∀o∈l,OpOk o:=by
 intro o ho
 have h1:=List.all_eq_true.1 h o ho
 unfold sH gP at h1
 simp only [Bool.and_eq_true,decide_eq_true_eq] at h1
 obtain ⟨⟨⟨⟨⟨⟨⟨⟨a1,a2⟩,a3⟩,a4⟩,a5⟩,a6⟩,a7⟩,a8⟩,a9⟩:=h1
 exact ⟨a1,a2,a3,a4,a5,a6,a7,a8,a9⟩
theorem walk_TopReplay (x:Int) (w:World) (hx:(Lit.int .i64 x).wf=true) (hT:Tabs w):
  Calls Tryz.prog 5 ⟨[.int .i64 x]⟩ w fun e w'=>e= .returned (.bool true)∧Below w.heap.size w w':=by
 have hw:=Has.startF w
 obtain ⟨W,hWw⟩:∃W,W=w:=⟨_,rfl⟩
 have hw:Has 0 w W (Fz (fr w):: []):=by rw [hWw];exact hw
 suffices hh:Calls Tryz.prog 5 ⟨[.int .i64 x]⟩ W fun e w'=>e= .returned (.bool true)∧Below w.heap.size w w' by rw [hWw] at hh;exact hh
 clear hWw
 obtain ⟨H,hHd⟩:∃H,H=fr w:=⟨_,rfl⟩
 rw [←hHd] at hw
 have hH:(fr w).le H:=by rw [hHd];exact Fh.le.refl _
 clear hHd
 obtain ⟨w0,hw0⟩:∃w0,w0=w:=⟨_,rfl⟩
 rw [←hw0] at hw hH hT⊢
 clear hw0
 refine enter Tryz.func5 Tryz.ntmps5 rfl rfl fun a hs=>?_
 refine sv hs hw fun a hs=>?_
 refine ch hs hH (aCt hH hT hw) fun H a W _ hH hs hw=>?_
 refine sv hs hw fun a hs=>?_
 refine aF hs (hc:=aIz (x:=x) (k:=8) (by decide) (by decide) hw) (k:=?_)
 rintro e' W ⟨r,rfl,hr,hw⟩
 refine ⟨_,rfl,fun a hs=>?_⟩
 refine sv hs hw fun a hs=>?_
 rw [show IntKind.i64.wrap (1+(r:Int))=((r+1:Nat):Int) by rw [IntWalk.i64_in _ (by omega)];omega] at hs
 obtain ⟨t1,ht1,he⟩:=Option.bind_eq_some_iff.1 (aIy (n:=r) (by omega))
 obtain ⟨⟨t2,lb⟩,ht2,he⟩:=Option.bind_eq_some_iff.1 he
 obtain ⟨t3,ht3,he⟩:=Option.bind_eq_some_iff.1 he
 obtain ⟨t4,ht4,he⟩:=Option.bind_eq_some_iff.1 he
 obtain ⟨t5,ht5,he⟩:=Option.map_eq_some_iff.1 he
 simp only [Bool.and_eq_true] at he
 obtain ⟨g1,o5,g2,g3⟩:=he
 subst g1
 have o4:=aCu ht5 o5
 have o3:=yG ht4 o4
 have o2:=oF ht3 o3
 refine aF hs (hc:=(show Calls Tryz.prog 10 ⟨[.int .i64 3,.int .i64 2]⟩ W _ from aCg (n:=3) (m:=2) (by omega) (by omega) ht1 hH hT hw)) (k:=?_)
 rintro e' W ⟨p,H2,rfl,hle2,hw⟩
 refine ⟨_,rfl,fun a hs=>?_⟩
 have hH:=hH.trans hle2
 refine sv hs hw fun a hs=>?_
 refine ch hs hH (aCq ht2 o2 hH hT hw) fun H3 a W _ hH hs hw=>?_
 refine sv hs hw fun a hs=>?_
 refine cl hs (aCm kN 100 hw) fun a W hs hw=>?_
 refine cl hs (yE g0 1 hw) fun a W hs hw=>?_
 refine sn hs hw fun b1 a W hs hw=>?_
 have hw:Has 0 w0 W (aA b1 (bT (jO kN 100) ++ bT (jP g0 1)) 55::Fz H3::dC H3 p 3 2 t2:: []):=hw.pm
 obtain ⟨H4,hle4,hw,hop⟩:=hw.freeze_lit (m:=2) (sz:=9) rfl (by decide)
 have hH:=hH.trans hle4
 have hw:=hw.lz hle4
 refine ch hs hH (q9 o2 [jO kN 100,jP g0 1] (aDA (by decide)) (by decide) hop ht3 hH hT hw.swap2) fun H5 a W _ hH hs hw=>?_
 refine sv hs hw fun a hs=>?_
 refine bX (σ:=Nat×TD×Fh) (fun z=>[(0,.int .i64 ((r+1:Nat):Int)),(4,ptr p),(5,.int .i64 (z.1:Int))]) (fun z=>dC z.2.2 p 3 2 z.2.1::Fz z.2.2:: []) (fun z=>z.1≤r+1∧H5.le z.2.2∧lZ (r+1 - z.1) z.1 z.2.1=some t4) (fun z=>r+1 - z.1) (0,t3,H5) ⟨Nat.zero_le _,Fh.le.refl H5,ht4⟩ hs ⟨rfl,rfl,rfl,trivial⟩ hw ?_
 clear hs hw
 rintro ⟨i,u,H6⟩ a W ⟨hi,hle,h⟩ hs hw
 simp only at hi hle h hs hw
 have hH:=hH.trans hle
 refine sv hs hw fun a hs=>?_
 refine cI hs (kt:=fun hcc=>?_) (kf:=fun hcc=>?_)
 ·have hi':i<r+1:=by have:=of_decide_eq_true hcc;omega
  rw [show r+1 - i=(r+1 - (i+1))+1 by omega] at h
  unfold lZ at h
  obtain ⟨u1,h1,h⟩:=Option.bind_eq_some_iff.1 h
  obtain ⟨⟨u2,e2⟩,h2,h⟩:=Option.bind_eq_some_iff.1 h
  obtain ⟨u3,h3,h⟩:=Option.bind_eq_some_iff.1 h
  obtain ⟨u4,h4,h⟩:=Option.bind_eq_some_iff.1 h
  split at h
  ·rename_i hg
   have hrec:lZ (r+1 - (i+1)) ((i:Int)+1) u4=some t4:=h
   simp only [Bool.and_eq_true] at hg
   obtain ⟨j1,j2,j3,j4,j5⟩:=hg
   have p4:=yG h o4
   have p3:=oG h4 p4
   have p2:=oG h3 p3
   have p1:=aCz h2 p2
   have p0:=oF h1 p1
   have je:e2=0:=by simpa using j1
   subst je
   refine sv hs hw fun a hs=>?_
   refine cl hs (aCm kN 1 hw) fun a W hs hw=>?_
   refine cl hs (yE g0 2 hw) fun a W hs hw=>?_
   refine sn hs hw fun b1 a W hs hw=>?_
   have hw:Has 0 w0 W (aA b1 (bT (jO kN 1) ++ bT (jP g0 2)) 55::Fz H6::dC H6 p 3 2 u:: []):=hw.pm
   obtain ⟨H7,hle7,hw,hop⟩:=hw.freeze_lit (m:=2) (sz:=9) rfl (by decide)
   have hH:=hH.trans hle7
   have hw:=hw.lz hle7
   refine ch hs hH (q9 p0 [jO kN 1,jP g0 2] (aDA (by decide)) (by decide) hop h1 hH hT hw.swap2) fun H8 a W hle8 hH hs hw=>?_
   refine sv hs hw fun a hs=>?_
   refine ch hs hH (yD p1 h2 hH hT hw) fun H9 a W hle9 hH hs hw=>?_
   refine sv hs hw fun a hs=>?_
   refine ch hs hH (aCy h3 p3 hH hT hw) fun H10 a W hle10 hH hs hw=>?_
   refine sv hs hw fun a hs=>?_
   refine ch hs hH (aCy h4 p4 hH hT hw) fun H11 a W hle11 hH hs hw=>?_
   refine sv hs hw fun a hs=>?_
   rw [IntWalk.i64_in _ (by omega)] at hs
   refine ch hs hH (uC kN ((i:Int)+1) hH hT hw) fun H12 a W hle12 hH hs hw=>?_
   rw [j2] at hs
   refine sv hs hw fun a hs=>?_
   rw [show IntKind.i64.wrap (101+(i:Int))=101+(i:Int) from IntWalk.i64_in _ (by omega)] at hs
   refine ch hs hH (oE kN (101+(i:Int)) hH hT hw) fun H13 a W hle13 hH hs hw=>?_
   rw [j3] at hs
   refine sv hs hw fun a hs=>?_
   refine ch hs hH (oE g0 1 hH hT hw) fun H14 a W hle14 hH hs hw=>?_
   rw [j4] at hs
   refine sv hs hw fun a hs=>?_
   refine ch hs hH (uC g0 2 hH hT hw) fun H15 a W hle15 hH hs hw=>?_
   rw [j5] at hs
   refine sv hs hw fun a hs=>?_
   refine bR (i+1,u4,H15) hs hw ⟨hi',hle.trans (hle7.trans (hle8.trans (hle9.trans (hle10.trans (hle11.trans (hle12.trans (hle13.trans (hle14.trans hle15)))))))),hrec⟩ (by show r+1 - (i+1)<r+1 - i;omega) ⟨rfl,rfl,bS (i1 (by omega)),trivial⟩
  ·cases h
 ·have hi':i=r+1:=by have:=of_decide_eq_false hcc;omega
  rw [hi',Nat.sub_self] at h
  unfold lZ at h
  injection h with h
  subst h
  refine sv hs hw fun a hs=>?_
  refine ch hs hH (yC o4 ht5 hH hT hw) fun H7 a W hle7 hH hs hw=>?_
  obtain ⟨pw,hw⟩:=iP hw
  rw [o5] at hw
  refine sv hs hw fun a hs=>?_
  rw [←o5] at hw
  have hw:=fJ (t:=t5) hw
  rw [show IntKind.i64.wrap (100+((r+1:Nat):Int))=100+((r+1:Nat):Int) from IntWalk.i64_in _ (by omega)] at hs
  refine ch hs hH (uC kN (100+((r+1:Nat):Int)) hH hT hw) fun H8 a W hle8 hH hs hw=>?_
  rw [g2] at hs
  refine sv hs hw fun a hs=>?_
  refine ch hs hH (uC g0 1 hH hT hw) fun H9 a W hle9 hH hs hw=>?_
  rw [g3] at hs
  refine sv hs hw fun a hs=>?_
  exact rt1 hs rfl rfl ⟨rfl,hw.endF (In.tl In.hd) hH⟩
end
end Go.Proofs.YtgpbngfehfbndaaGreatDoor.Sw
