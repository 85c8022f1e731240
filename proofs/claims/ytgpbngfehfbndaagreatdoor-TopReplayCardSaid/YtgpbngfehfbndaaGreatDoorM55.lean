/-
  Texts of the proof, one behind the other (part 55).
-/
import Derived.Test.YtgpbngfehfbndaaGreatDoorM50
import Derived.Test.YtgpbngfehfbndaaGreatDoorM51
import Derived.Test.YtgpbngfehfbndaaGreatDoorChecked
import Derived.Test.YtgpbngfehfbndaaGreatDoorProg
set_option maxHeartbeats 16000000
set_option linter.unusedVariables false
set_option maxRecDepth 10000
namespace Go.Proofs.YtgpbngfehfbndaaGreatDoor.Sw
open Go.RowKit Go.Sx
def iI:ByteArray:=⟨#[109,105,110,101]⟩
set_option maxRecDepth 100000
def mQ:Nat→Int→TD→Option TD
 |0,_,t=>some t
 |k+1,i,t=>(mO t 2 [iG kN 1,kB iI 2]).bind fun t=>(rX t 2 1).bind fun x=>(kY 100 x.1 2 1).bind fun t=>(kY 100 t 1 1).bind fun t=>
  if (x.2 == 0 && (mP t 1 kN (i+1) && (lV t 1 kN (101+i) && (lV t 1 iI 1 && mP t 1 iI 2))))=true then mQ k (i+1) t else none
def aKM (n:Nat):Option Bool:=
 (rS 3 2).bind fun t=>(kA 4 t 1).bind fun l=>(mO l.1 1 [iG kN 100,kB iI 1]).bind fun t=>(mQ n 0 t).bind fun t=>(rY t).map fun z=>
 l.2 && (z.ok && (mP z 2 kN (100+n) && mP z 2 iI 1))
theorem aKN {n:Nat} (h:n<8):aKM (n+1)=some true:=by
 have h:n=0∨n=1∨n=2∨n=3∨n=4∨n=5∨n=6∨n=7:=by omega
 rcases h with rfl|rfl|rfl|rfl|rfl|rfl|rfl|rfl <;> decide +kernel
section
variable {w0 W:World} {R L:List Res} {H H':Fh} {p q:Nat} {k:WPt} {w w':bC} {t t':TD} {n m c id err:Int} {s:cN} {d d':bF}
theorem aDp (h:rX t c id=some (t',err)) (ho:t'.ok=true):t.ok=true:=by
 obtain ⟨⟨w2,e2⟩,h1,h2⟩:=Option.bind_eq_some_iff.1 h;obtain ⟨t3,h3,h4⟩:=Option.map_eq_some_iff.1 h2;injection h4 with h5 h6;subst h5;exact vG (t:=⟨w2,t.ok⟩) h3 ho
theorem z8:∀{k:Nat} {i:Int} {t:TD},mQ k i t=some t'→t'.ok=true→t.ok=true
 |0,i,t,h,ho=>by injection h with h;rw [h];exact ho
 |k+1,i,t,h,ho=>by
  unfold mQ at h;obtain ⟨t1,h1,h⟩:=Option.bind_eq_some_iff.1 h;obtain ⟨⟨t2,e2⟩,h2,h⟩:=Option.bind_eq_some_iff.1 h;obtain ⟨t3,h3,h⟩:=Option.bind_eq_some_iff.1 h;obtain ⟨t4,h4,h⟩:=Option.bind_eq_some_iff.1 h;split at h
  ·exact nS h1 (aDp h2 (nT h3 (nT h4 (z8 h ho))))
  ·cases h
theorem walk_TopReplay (x:Int) (w:World) (hx:(Lit.int .i64 x).wf=true) (hT:Tabs w):
  Calls Tryz.prog 5 ⟨[.int .i64 x]⟩ w fun e w'=>e= .returned (.bool true)∧Below w.heap.size w w':=by
 have hw:=Has.startF w;obtain ⟨W,hWw⟩:∃W,W=w:=⟨_,rfl⟩
 have hw:Has 0 w W (Fz (fr w):: []):=by rw [hWw];exact hw
 suffices hh:Calls Tryz.prog 5 ⟨[.int .i64 x]⟩ W fun e w'=>e= .returned (.bool true)∧Below w.heap.size w w' by rw [hWw] at hh;exact hh
 clear hWw;obtain ⟨H,hHd⟩:∃H,H=fr w:=⟨_,rfl⟩
 rw [←hHd] at hw;have hH:(fr w).le H:=by rw [hHd];exact Fh.le.refl _
 clear hHd;obtain ⟨w0,hw0⟩:∃w0,w0=w:=⟨_,rfl⟩
 rw [←hw0] at hw hH hT⊢;clear hw0;refine enter Tryz.func5 Tryz.ntmps5 rfl rfl fun a hs=>?_;refine sv hs hw fun a hs=>?_;refine ch hs hH (vI hH hT hw) fun H a W _ hH hs hw=>?_;refine sv hs hw fun a hs=>?_;refine aG hs (hc:=aD9 (x:=x) (k:=8) (by decide) (by decide) hw) (k:=?_);rintro e' W ⟨r,rfl,hr,hw⟩;refine ⟨_,rfl,fun a hs=>?_⟩;refine sv hs hw fun a hs=>?_;rw [show IntKind.i64.wrap (1+(r:Int))=((r+1:Nat):Int) by rw [IntWalk.i64_in _ (by omega)];omega] at hs;obtain ⟨t1,ht1,he⟩:=Option.bind_eq_some_iff.1 (aKN (n:=r) (by omega));obtain ⟨⟨t2,lb⟩,ht2,he⟩:=Option.bind_eq_some_iff.1 he;obtain ⟨t3,ht3,he⟩:=Option.bind_eq_some_iff.1 he;obtain ⟨t4,ht4,he⟩:=Option.bind_eq_some_iff.1 he;obtain ⟨t5,ht5,he⟩:=Option.map_eq_some_iff.1 he;simp only [Bool.and_eq_true] at he;obtain ⟨g1,o5,g2,g3⟩:=he;subst g1;have o4:=aD5 ht5 o5;have o3:=z8 ht4 o4;have o2:=nS ht3 o3;refine aG hs (hc:=(show Calls Tryz.prog 10 ⟨[.int .i64 3,.int .i64 2]⟩ W _ from vF (n:=3) (m:=2) (by omega) (by omega) ht1 hH hT hw)) (k:=?_);rintro e' W ⟨p,H2,rfl,hle2,hw⟩;refine ⟨_,rfl,fun a hs=>?_⟩;have hH:=hH.trans hle2;refine sv hs hw fun a hs=>?_;refine ch hs hH (vH ht2 o2 hH hT hw) fun H3 a W _ hH hs hw=>?_;refine sv hs hw fun a hs=>?_;refine cl hs (zW kN 100 hw) fun a W hs hw=>?_;refine cl hs (zV iI 1 hw) fun a W hs hw=>?_;refine sn hs hw fun b1 a W hs hw=>?_;have hw:Has 0 w0 W (aA b1 (bX (iG kN 100) ++ bX (kB iI 1)) 55::Fz H3::dA H3 p 3 2 t2:: []):=hw.pm;obtain ⟨H4,hle4,hw,hop⟩:=hw.freeze_lit (m:=2) (sz:=9) rfl (by decide);have hH:=hH.trans hle4;have hw:=hw.lz hle4;refine ch hs hH (pA o2 [iG kN 100,kB iI 1] (zY (by decide)) (by decide) hop ht3 hH hT hw.swap2) fun H5 a W _ hH hs hw=>?_;refine sv hs hw fun a hs=>?_;refine bY (σ:=Nat×TD×Fh) (fun z=>[(0,.int .i64 ((r+1:Nat):Int)),(4,ptr p),(5,.int .i64 (z.1:Int))]) (fun z=>dA z.2.2 p 3 2 z.2.1::Fz z.2.2:: []) (fun z=>z.1≤r+1∧H5.le z.2.2∧mQ (r+1 - z.1) z.1 z.2.1=some t4) (fun z=>r+1 - z.1) (0,t3,H5) ⟨Nat.zero_le _,Fh.le.refl H5,ht4⟩ hs ⟨rfl,rfl,rfl,trivial⟩ hw ?_;clear hs hw;rintro ⟨i,u,H6⟩ a W ⟨hi,hle,h⟩ hs hw;simp only at hi hle h hs hw;have hH:=hH.trans hle;refine sv hs hw fun a hs=>?_;refine cI hs (kt:=fun hcc=>?_) (kf:=fun hcc=>?_)
 ·have hi':i<r+1:=by have:=of_decide_eq_true hcc;omega
  rw [show r+1 - i=(r+1 - (i+1))+1 by omega] at h;unfold mQ at h;obtain ⟨u1,h1,h⟩:=Option.bind_eq_some_iff.1 h;obtain ⟨⟨u2,e2⟩,h2,h⟩:=Option.bind_eq_some_iff.1 h;obtain ⟨u3,h3,h⟩:=Option.bind_eq_some_iff.1 h;obtain ⟨u4,h4,h⟩:=Option.bind_eq_some_iff.1 h;split at h
  ·rename_i hg;have hrec:mQ (r+1 - (i+1)) ((i:Int)+1) u4=some t4:=h;simp only [Bool.and_eq_true] at hg;obtain ⟨j1,j2,j3,j4,j5⟩:=hg;have p4:=z8 h o4;have p3:=nT h4 p4;have p2:=nT h3 p3;have p1:=aDp h2 p2;have p0:=nS h1 p1;have je:e2=0:=by simpa using j1
   subst je;refine sv hs hw fun a hs=>?_;refine cl hs (zW kN 1 hw) fun a W hs hw=>?_;refine cl hs (zV iI 2 hw) fun a W hs hw=>?_;refine sn hs hw fun b1 a W hs hw=>?_;have hw:Has 0 w0 W (aA b1 (bX (iG kN 1) ++ bX (kB iI 2)) 55::Fz H6::dA H6 p 3 2 u:: []):=hw.pm;obtain ⟨H7,hle7,hw,hop⟩:=hw.freeze_lit (m:=2) (sz:=9) rfl (by decide);have hH:=hH.trans hle7;have hw:=hw.lz hle7;refine ch hs hH (pA p0 [iG kN 1,kB iI 2] (zY (by decide)) (by decide) hop h1 hH hT hw.swap2) fun H8 a W hle8 hH hs hw=>?_;refine sv hs hw fun a hs=>?_;refine ch hs hH (zU p1 h2 hH hT hw) fun H9 a W hle9 hH hs hw=>?_;refine sv hs hw fun a hs=>?_;refine ch hs hH (zX h3 p3 hH hT hw) fun H10 a W hle10 hH hs hw=>?_;refine sv hs hw fun a hs=>?_;refine ch hs hH (zX h4 p4 hH hT hw) fun H11 a W hle11 hH hs hw=>?_;refine sv hs hw fun a hs=>?_;rw [IntWalk.i64_in _ (by omega)] at hs;refine ch hs hH (rZ kN ((i:Int)+1) hH hT hw) fun H12 a W hle12 hH hs hw=>?_;rw [j2] at hs;refine sv hs hw fun a hs=>?_;rw [show IntKind.i64.wrap (101+(i:Int))=101+(i:Int) from IntWalk.i64_in _ (by omega)] at hs;refine ch hs hH (pC kN (101+(i:Int)) hH hT hw) fun H13 a W hle13 hH hs hw=>?_;rw [j3] at hs;refine sv hs hw fun a hs=>?_;refine ch hs hH (pC iI 1 hH hT hw) fun H14 a W hle14 hH hs hw=>?_;rw [j4] at hs;refine sv hs hw fun a hs=>?_;refine ch hs hH (rZ iI 2 hH hT hw) fun H15 a W hle15 hH hs hw=>?_;rw [j5] at hs;refine sv hs hw fun a hs=>?_;refine bQ (i+1,u4,H15) hs hw ⟨hi',hle.trans (hle7.trans (hle8.trans (hle9.trans (hle10.trans (hle11.trans (hle12.trans (hle13.trans (hle14.trans hle15)))))))),hrec⟩ (by show r+1 - (i+1)<r+1 - i;omega) ⟨rfl,rfl,bR (i1 (by omega)),trivial⟩
  ·cases h
 ·have hi':i=r+1:=by have:=of_decide_eq_false hcc;omega
  rw [hi',Nat.sub_self] at h;unfold mQ at h;injection h with h;subst h;refine sv hs hw fun a hs=>?_;refine ch hs hH (zT o4 ht5 hH hT hw) fun H7 a W hle7 hH hs hw=>?_;obtain ⟨pw,hw⟩:=fJ hw;rw [o5] at hw;refine sv hs hw fun a hs=>?_;rw [←o5] at hw;have hw:=eJ (t:=t5) hw;rw [show IntKind.i64.wrap (100+((r+1:Nat):Int))=100+((r+1:Nat):Int) from IntWalk.i64_in _ (by omega)] at hs;refine ch hs hH (rZ kN (100+((r+1:Nat):Int)) hH hT hw) fun H8 a W hle8 hH hs hw=>?_;rw [g2] at hs;refine sv hs hw fun a hs=>?_;refine ch hs hH (rZ iI 1 hH hT hw) fun H9 a W hle9 hH hs hw=>?_;rw [g3] at hs;refine sv hs hw fun a hs=>?_;exact rt1 hs rfl rfl ⟨rfl,hw.endF (In.tl In.hd) hH⟩
end
end Go.Proofs.YtgpbngfehfbndaaGreatDoor.Sw
