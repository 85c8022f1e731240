/-
  Texts of the proof, one behind the other (part 46).
-/
import Derived.Test.YtgpbngfehfbndaaGreatDoorM44
import Derived.Test.YtgpbngfehfbndaaGreatDoorM45
import Derived.Test.YtgpbngfehfbndaaGreatDoorChecked
import Derived.Test.YtgpbngfehfbndaaGreatDoorProg
set_option maxHeartbeats 16000000
set_option linter.unusedVariables false
set_option maxRecDepth 10000
namespace Go.Proofs.YtgpbngfehfbndaaGreatDoor.Sw
open Go.RowKit Go.Sx
section
variable {w0 W:World} {R L:List Res} {H H':Fh} {p q:Nat} {k:WPt} {w w':bC} {u u':cZ} {c id err:Int} {s:cN} {d d':bF}
theorem aJT (w:bC) (c s:Int) (h:at? w.clients c=none∨at? w.servers s=none):nN w c s=some (w,12):=by
 unfold nN;rcases h with h|h
 ·rw [h]
 ·cases h2:at? w.clients c <;> simp only [h]
theorem aJU (w:bC) (c s:Int) (h:at? w.clients c=none∨at? w.servers s=none):kU w c s=some (w,12):=by
 unfold kU;rcases h with h|h
 ·rw [h]
 ·cases h2:at? w.clients c <;> simp only [h]
theorem aJV:callee Tryz.prog 57=true:=by kernel_rfl
theorem aJW:callee Tryz.prog 60=true:=by kernel_rfl
theorem aDS {b:Bool} (h:lO 5000 w=some (w',b)) (hH:(fr w0).le H) (hT:Tabs w0) (hw:Has 0 w0 W (bH H p w::Fz H::R)):
  Calls Tryz.prog 62 ⟨[ptr p,.int .i64 5000]⟩ W fun e W'=>∃H':Fh,e= .returned (.bool b)∧H.le H'∧Has 0 w0 W' (bH H' p w'::Fz H'::R):=zP (n:=5000) (by omega) h hH hT hw
theorem aJX {b:Bool} (h:round w=some (w',b)) (hH:(fr w0).le H) (hT:Tabs w0) (hw:Has 0 w0 W (bH H p w::Fz H::R)):
  Calls Tryz.prog 95 ⟨[ptr p]⟩ W fun e W'=>∃H':Fh,e= .returned (.bool b)∧H.le H'∧Has 0 w0 W' (bH H' p w'::Fz H'::R):=by
 unfold round at h;cases hp:rH w with
 |false=>rw [hp,if_neg (by simp)] at h;cases h
 |true=>
 rw [hp,if_pos rfl] at h;obtain ⟨w2,h1,h2⟩:=Option.bind_eq_some_iff.1 h;obtain ⟨w3,h3,h4⟩:=Option.map_eq_some_iff.1 h2;injection h4 with e1 e2;subst e1 e2;clear h h2;refine enter Tryz.func95 Tryz.ntmps95 rfl rfl fun a hs=>?_;refine sv hs hw fun a hs=>?_;refine cl hs (aDR hp hw) fun a W hs hw=>?_;refine sv hs hw fun a hs=>?_;refine bY (σ:=Nat×bC×Fh) (fun z=>[(0,ptr p),(3,.int .i64 ((z.1:Int)+1))]) (fun z=>bH z.2.2 p z.2.1::Fz z.2.2::R) (fun z=>z.1≤7∧H.le z.2.2∧rI (7 - z.1) ((z.1:Int)+1) z.2.1=some w2) (fun z=>7 - z.1) (0,w,H) ⟨Nat.zero_le _,Fh.le.refl H,h1⟩ hs ⟨rfl,rfl,trivial⟩ hw ?_;clear hs hw h1 hp;rintro ⟨i,w4,H2⟩ a W ⟨hi,hle,h⟩ hs hw;simp only at hi hle h hs hw;refine sv hs hw fun a hs=>?_;refine cI hs (kt:=fun hcc=>?_) (kf:=fun hcc=>?_)
 ·have hi':i<7:=by have:=of_decide_eq_true hcc;omega
  have hg2:((i:Int)+1+1)=((i+1:Nat):Int)+1:=by omega
  rw [show 7 - i=(7 - (i+1))+1 by omega] at h;unfold rI at h;rw [hg2] at h;refine sv hs hw fun a hs=>?_;refine cle hs (aDP _ hw) fun f1 a W _ hs hw=>?_;unfold dQ at hs;cases c1:at? w4.servers ((i:Int)+1) with
  |none=>
   rw [c1] at hs;simp only [c1] at h;refine sv hs hw fun a hs=>?_;refine bQ (i+1,w4,H2) hs hw ⟨hi',hle,h⟩ (by show 7 - (i+1)<7 - i;omega) ⟨rfl,bR (i2 (by omega)),trivial⟩
  |some s=>
  rw [c1] at hs;simp only [c1] at h;obtain ⟨⟨w5,er⟩,h1,h2⟩:=Option.bind_eq_some_iff.1 h;obtain ⟨⟨w6,b6⟩,h5,h6⟩:=Option.bind_eq_some_iff.1 h2;refine sv hs hw fun a hs=>?_;refine aG hs (hc:=zJ h1 (hH.trans hle) hT hw) (k:=?_);rintro e' W ⟨H5,rfl,hle5,hw⟩;refine ⟨_,rfl,fun a hs=>?_⟩;refine sv hs hw fun a hs=>?_;refine aG hs (hc:=aDS h5 (hH.trans (hle.trans hle5)) hT hw) (k:=?_);rintro e' W ⟨H6,rfl,hle6,hw⟩;refine ⟨_,rfl,fun a hs=>?_⟩;refine sv hs hw fun a hs=>?_;refine bQ (i+1,w6,H6) hs hw ⟨hi',(hle.trans hle5).trans hle6,h6⟩ (by show 7 - (i+1)<7 - i;omega) ⟨rfl,bR (i2 (by omega)),trivial⟩
 ·have hi':i=7:=by have:=of_decide_eq_false hcc;omega
  rw [hi',Nat.sub_self] at h;injection h with h;subst h;refine sv hs hw fun a hs=>?_;refine bY (σ:=Nat×bC×Fh) (fun z=>[(0,ptr p),(21,.int .i64 (z.1:Int))]) (fun z=>bH z.2.2 p z.2.1::Fz z.2.2::R) (fun z=>z.1≤40∧H.le z.2.2∧mX (40 - z.1) z.2.1=some w3) (fun z=>40 - z.1) (0,w4,H2) ⟨Nat.zero_le _,hle,h3⟩ hs ⟨rfl,rfl,trivial⟩ hw ?_;clear hs hw h3 hle hcc;rintro ⟨j,w5,H5⟩ a W ⟨hj,hle,h⟩ hs hw;simp only at hj hle h hs hw;refine sv hs hw fun a hs=>?_;refine cI hs (kt:=fun hcc=>?_) (kf:=fun hcc=>?_)
  ·have hj':j<40:=by have:=of_decide_eq_true hcc;omega
   rw [show 40 - j=(40 - (j+1))+1 by omega] at h;unfold mX at h;obtain ⟨w6,h6,h⟩:=Option.bind_eq_some_iff.1 h;obtain ⟨⟨w7,b7⟩,h7,h⟩:=Option.bind_eq_some_iff.1 h;obtain ⟨w8,h8,h⟩:=Option.bind_eq_some_iff.1 h;cases hp:rH w8 with
   |false=>rw [hp,if_neg (by simp)] at h;cases h
   |true=>
   rw [hp,if_pos rfl] at h;refine sv hs hw fun a hs=>?_;refine aDO hs fun a hs=>?_;refine aG hs (hc:=aDQ aJV (fun h hH hw=>zL h hH hT hw) aJT h6 (hH.trans hle) hw) (k:=?_);rintro e' W ⟨H6,rfl,hle6,hw⟩;refine ⟨_,rfl,fun a hs=>?_⟩;refine sv hs hw fun a hs=>?_;refine aG hs (hc:=aDS h7 (hH.trans (hle.trans hle6)) hT hw) (k:=?_);rintro e' W ⟨H7,rfl,hle7,hw⟩;refine ⟨_,rfl,fun a hs=>?_⟩;refine sv hs hw fun a hs=>?_;refine aDO hs fun a hs=>?_;refine aG hs (hc:=aDQ aJW (fun h hH hw=>aJF h hH hT hw) aJU h8 (hH.trans ((hle.trans hle6).trans hle7)) hw) (k:=?_);rintro e' W ⟨H8,rfl,hle8,hw⟩;refine ⟨_,rfl,fun a hs=>?_⟩;refine sv hs hw fun a hs=>?_;refine cl hs (aDR hp hw) fun a W hs hw=>?_;refine sv hs hw fun a hs=>?_;refine bQ (j+1,w8,H8) hs hw ⟨hj',((hle.trans hle6).trans hle7).trans hle8,h⟩ (by show 40 - (j+1)<40 - j;omega) ⟨rfl,bR (i1 (by omega)),trivial⟩
  ·have hj':j=40:=by have:=of_decide_eq_false hcc;omega
   rw [hj',Nat.sub_self] at h;injection h with h;subst h;refine sv hs hw fun a hs=>?_;refine aG hs (hc:=aJS hw) (k:=?_);rintro e' W ⟨H6,rfl,hle6,hw⟩;refine ⟨_,rfl,fun a hs=>?_⟩;refine sv hs hw fun a hs=>?_;exact rt1 hs rfl rfl ⟨H6,rfl,hle.trans hle6,hw⟩
theorem aDT {n:Nat} {b:Bool} (hn:n≤40) (h:aE n w=some (w',b)) (hH:(fr w0).le H) (hT:Tabs w0) (hw:Has 0 w0 W (bH H p w::Fz H::R)):
  Calls Tryz.prog 53 ⟨[ptr p,.int .i64 (n:Int)]⟩ W fun e W'=>∃H':Fh,e= .returned (.bool b)∧H.le H'∧Has 0 w0 W' (bH H' p w'::Fz H'::R):=by
 refine enter Tryz.func53 Tryz.ntmps53 rfl rfl fun a hs=>?_;refine sv hs hw fun a hs=>?_;refine k9 hs fun a hs=>?_;refine k8 hs fun a hs=>?_;rw [show min (max (n:Int) 0) 40=(n:Int) by omega] at hs;refine sv hs hw fun a hs=>?_;refine bY (σ:=Nat×bC×Fh) (fun z=>[(0,ptr p),(7,.int .i64 (n:Int)),(8,.int .i64 (z.1:Int))]) (fun z=>bH z.2.2 p z.2.1::Fz z.2.2::R) (fun z=>z.1≤n∧H.le z.2.2∧aE (n - z.1) z.2.1=some (w',b)) (fun z=>n - z.1) (0,w,H) ⟨Nat.zero_le _,Fh.le.refl H,h⟩ hs ⟨rfl,rfl,rfl,trivial⟩ hw ?_;clear hs hw h;rintro ⟨i,w2,H2⟩ a W ⟨hi,hle,h⟩ hs hw;simp only at hi hle h hs hw;refine sv hs hw fun a hs=>?_;refine cI hs (kt:=fun hcc=>?_) (kf:=fun hcc=>?_)
 ·have hi':i<n:=by simpa using hcc
  rw [show n - i=(n - (i+1))+1 by omega] at h;unfold aE at h;obtain ⟨⟨w3,b3⟩,h1,h2⟩:=Option.bind_eq_some_iff.1 h;refine sv hs hw fun a hs=>?_;refine aG hs (hc:=aJX h1 (hH.trans hle) hT hw) (k:=?_);rintro e' W ⟨H3,rfl,hle3,hw⟩;refine ⟨_,rfl,fun a hs=>?_⟩;cases b3 with
  |true=>
   rw [if_pos rfl] at h2;injection h2 with h2;injection h2 with e1 e2;subst e1 e2;refine sv hs hw fun a hs=>?_;exact rt1 hs rfl rfl ⟨H3,rfl,hle.trans hle3,hw⟩
  |false=>
   rw [if_neg (by simp)] at h2;refine sv hs hw fun a hs=>?_;refine bQ (i+1,w3,H3) hs hw ⟨hi',hle.trans hle3,h2⟩ (by show n - (i+1)<n - i;omega) ⟨rfl,rfl,bR (i1 (by omega)),trivial⟩
 ·have hi':i=n:=by simp at hcc;omega
  rw [hi',Nat.sub_self] at h;unfold aE at h;injection h with h;injection h with e1 e2;subst e1 e2;refine sv hs hw fun a hs=>?_;exact rt1 hs rfl rfl ⟨H2,rfl,hle,hw⟩
end
section
variable {w0 W:World} {R L:List Res} {H H':Fh} {p q:Nat} {k:WPt} {w w':bC} {t t':TD} {n m c id err:Int} {s:cN} {d d':bF}
abbrev cH (p pw:Nat) (n m:Int) (ok:Bool):Res:=aA p [ptr pw,.int .i64 n,.int .i64 m,.bool ok] 29
def dA (H:Fh) (p:Nat) (n m:Int) (t:TD):Res:=Ex fun pw:Nat=>cH p pw n m t.ok::bH H pw t.w:: []
theorem fJ (h:Has 0 w0 W (dA H p n m t::R)):∃pw,Has 0 w0 W (cH p pw n m t.ok::bH H pw t.w::R):=Has.open h
theorem eJ {pw:Nat} (h:Has 0 w0 W (cH p pw n m t.ok::bH H pw t.w::R)):Has 0 w0 W (dA H p n m t::R):=Has.shut pw h
theorem aJY (h:Has 0 w0 W (dA H p n m t::R)) (hl:H.le H'):Has 0 w0 W (dA H' p n m t::R):=by
 obtain ⟨pw,h⟩:=fJ h;exact eJ (h.lz hl)
instance (H H':Fh) (p:Nat) (n m:Int) (t:TD):g0 H H' (dA H p n m t) (dA H' p n m t):=⟨fun hl h=>aJY h hl⟩
theorem vF {n m:Nat} (hn:1≤n∧n≤7) (hm:1≤m∧m≤5) (h:rS n m=some t) (hH:(fr w0).le H) (hT:Tabs w0) (hw:Has 0 w0 W (Fz H::R)):
  Calls Tryz.prog 10 ⟨[.int .i64 (n:Int),.int .i64 (m:Int)]⟩ W fun e W'=>∃(p:Nat) (H':Fh),e= .returned (ptr p)∧H.le H'∧Has 0 w0 W' (dA H' p n m t::Fz H'::R):=by
 obtain ⟨w,h1,h2⟩:=Option.map_eq_some_iff.1 h;subst h2;refine enter Tryz.func10 Tryz.ntmps10 rfl rfl fun a hs=>?_;refine sv hs hw fun a hs=>?_;refine aG hs (hc:=aDN hn hm h1 hH hT hw) (k:=?_);rintro e' W ⟨pw,H3,rfl,hle3,hw⟩;refine ⟨_,rfl,fun a hs=>?_⟩;refine sv hs hw fun a hs=>?_;refine sn hs hw fun p a W hs hw=>?_;refine sv hs hw fun a hs=>?_;exact rt1 hs rfl rfl ⟨p,H3,rfl,hle3,eJ (t:=⟨w,true⟩) hw⟩
theorem rT {pw:Nat} (hw:Has 0 w0 W (cH p pw n m true::R)):
  Calls Tryz.prog 11 ⟨[ptr p,.int .i64 err]⟩ W fun e W'=>e= .returned (.tuple ⟨[]⟩)∧Has 0 w0 W' (cH p pw n m (err == 0)::R):=by
 refine enter Tryz.func11 Tryz.ntmps11 rfl rfl fun a hs=>?_;refine sx hs hw fun a W hs hw=>?_
 first
  |exact rt0 hs rfl ⟨rfl,hw⟩
  |exact cP hs rfl ⟨rfl,hw⟩
theorem aDU (hok:t.ok=true) (hw:Has 0 w0 W (dA H p n m t::R)):
  Calls Tryz.prog 11 ⟨[ptr p,.int .i64 err]⟩ W fun e W'=>e= .returned (.tuple ⟨[]⟩)∧Has 0 w0 W' (dA H p n m ⟨t.w,err == 0⟩::R):=by
 obtain ⟨pw,hw⟩:=fJ hw;rw [hok] at hw;exact (rT hw).mono fun e W ⟨h1,h2⟩=>⟨h1,eJ (t:=⟨t.w,err == 0⟩) h2⟩
theorem rU (hok:t.ok=true) (h:j9 t=some t') (hH:(fr w0).le H) (hT:Tabs w0) (hw:Has 0 w0 W (dA H p n m t::Fz H::R)):
  Calls Tryz.prog 36 ⟨[ptr p]⟩ W fun e W'=>∃H':Fh,e= .returned (.tuple ⟨[]⟩)∧H.le H'∧Has 0 w0 W' (dA H' p n m t'::Fz H'::R):=by
 obtain ⟨⟨w2,b2⟩,h1,h2⟩:=Option.map_eq_some_iff.1 h;rw [hok] at h2;subst h2;obtain ⟨pw,hw⟩:=fJ hw;rw [hok] at hw;refine enter Tryz.func36 Tryz.ntmps36 rfl rfl fun a hs=>?_;refine sv hs hw fun a hs=>?_;have hw:Has 0 w0 W (bH H pw t.w::Fz H::cH p pw n m true::R):=hw.pm;refine aG hs (hc:=(show Calls Tryz.prog 62 ⟨[ptr pw,.int .i64 20000]⟩ W _ from zP (n:=20000) (Nat.le_refl _) h1 hH hT hw)) (k:=?_);rintro e' W ⟨H3,rfl,hle3,hw⟩;refine ⟨_,rfl,fun a hs=>?_⟩;refine sx hs hw fun a W hs hw=>?_;have hw:Has 0 w0 W (cH p pw n m b2::bH H3 pw w2::Fz H3::R):=hw.pm;have hw:Has 0 w0 W (dA H3 p n m ⟨w2,true && b2⟩::Fz H3::R):=eJ (t:=⟨w2,true && b2⟩) hw
 first
  |exact rt0 hs rfl ⟨H3,rfl,hle3,hw⟩
  |exact cP hs rfl ⟨H3,rfl,hle3,hw⟩
end
section
variable {w0 W:World} {R L:List Res} {H H':Fh} {p q:Nat} {k:WPt} {w w':bC} {t t':TD} {n m c id err:Int} {s:cN} {d d':bF}
theorem aDV (hw:Has 0 w0 W (cC H p q s::R)):∃pk pr pt M,(∀{W R},Has 0 w0 W (aP p pk pr pt::aF H pr s.r::M::R)→Has 0 w0 W (cC H p q s::R))∧Has 0 w0 W (aP p pk pr pt::aF H pr s.r::M::R):=by
 obtain ⟨h1,h2,pk,pr,pt,hw⟩:=iY hw;refine ⟨pk,pr,pt,eV [aV pk q s.k,aO H pt s.t],fun {W R} g=>?_,?_⟩
 ·have g:Has 0 w0 W (eV [aV pk q s.k,aO H pt s.t]::aP p pk pr pt::aF H pr s.r::R):=g.pm;have g:=lS g;exact gN (g.pm) h1 h2
 ·have g:Has 0 w0 W ([aV pk q s.k,aO H pt s.t] ++ aP p pk pr pt::aF H pr s.r::R):=hw.pm;exact (i0 g).pm
theorem aJZ (hs:at? w.servers id=some s) (h:nM w id=some (w',err)):err=0:=by
 unfold nM at h;rw [hs] at h;cases c:at? w.sd id with
 |none=>simp only [c] at h;cases h
 |some d=>
  simp only [c] at h;obtain ⟨x,_,h2⟩:=Option.map_eq_some_iff.1 h;injection h2 with _ h2;exact h2.symm
theorem vG (h:j9 t=some t') (ho:t'.ok=true):t.ok=true:=by
 obtain ⟨x,_,h2⟩:=Option.map_eq_some_iff.1 h;subst h2;have:(t.ok && x.2)=true:=ho;exact (Bool.and_eq_true_iff.1 this).1
theorem zR:∀{k:Nat} {t:TD} {b:Bool},kA k t id=some (t',b)→t'.ok=true→t.ok=true
 |0,t,b,h,ho=>by
  injection h with h;injection h with h1 h2;rw [h1];exact ho
 |k+1,t,b,h,ho=>by
  unfold kA at h;cases c:at? t.w.servers id with
  |none=>simp only [c] at h;injection h with h;injection h with h1 h2;rw [h1];exact ho
  |some s=>
   simp only [c] at h;split at h
   ·injection h with h;injection h with h1 h2;rw [h1];exact ho
   ·obtain ⟨x,h1,h2⟩:=Option.bind_eq_some_iff.1 h;obtain ⟨t2,h3,h4⟩:=Option.bind_eq_some_iff.1 h2;have:=vG h3 (zR h4 ho);exact (Bool.and_eq_true_iff.1 this).1
theorem vH {b:Bool} (h:kA 4 t id=some (t',b)) (hok:t'.ok=true) (hH:(fr w0).le H) (hT:Tabs w0) (hw:Has 0 w0 W (dA H p n m t::Fz H::R)):
  Calls Tryz.prog 27 ⟨[ptr p,.int .i64 id]⟩ W fun e W'=>∃H':Fh,e= .returned (.bool b)∧H.le H'∧Has 0 w0 W' (dA H' p n m t'::Fz H'::R):=by
 refine enter Tryz.func27 Tryz.ntmps27 rfl rfl fun a hs=>?_;refine sv hs hw fun a hs=>?_;refine bY (σ:=Nat×TD×Fh) (fun z=>[(0,ptr p),(1,.int .i64 id),(5,.int .i64 (z.1:Int))]) (fun z=>dA z.2.2 p n m z.2.1::Fz z.2.2::R) (fun z=>z.1≤4∧H.le z.2.2∧kA (4 - z.1) z.2.1 id=some (t',b)) (fun z=>4 - z.1) (0,t,H) ⟨Nat.zero_le _,Fh.le.refl H,h⟩ hs ⟨rfl,rfl,rfl,trivial⟩ hw ?_;clear hs hw h;rintro ⟨i,t2,H2⟩ a W ⟨hi,hle,h⟩ hs hw;simp only at hi hle h hs hw;have hok2:=zR h hok;refine sv hs hw fun a hs=>?_;refine cI hs (kt:=fun hcc=>?_) (kf:=fun hcc=>?_)
 ·have hi':i<4:=by have:=of_decide_eq_true hcc;omega
  rw [show 4 - i=(4 - (i+1))+1 by omega] at h;unfold kA at h;obtain ⟨pw,hw⟩:=fJ hw;obtain ⟨k,gv,hw⟩:=rR hw.swap2;refine sv hs hw fun a hs=>?_;refine cl hs (kX id hw) fun a W hs hw=>?_;unfold dQ at hs;cases c1:at? t2.w.servers id with
  |none=>
   rw [c1] at hs;simp only [c1] at h;injection h with h;injection h with e1 e2;subst e1 e2;refine sv hs hw fun a hs=>?_;exact rt1 hs rfl rfl ⟨H2,rfl,hle,eJ (gv hw).swap2⟩
  |some s=>
  rw [c1] at hs;simp only [c1] at h;obtain ⟨M,gv2,hw⟩:=zQ c1 hw;obtain ⟨pk,pr,pt,M2,gv3,hw⟩:=aDV hw;refine sv hs hw fun a hs=>?_;refine cl hs (uI hw) fun a W hs hw=>?_;refine sc hs ?_;refine cl hs (uD hw.swap2) fun a W hs hw=>?_;have hw:=(gv2 (gv3 hw.swap2)).swap2;refine sv hs hw fun a hs=>?_;cases c2:s.r.role == 2 with
  |true=>
   rw [c2] at hs;rw [if_pos (by simpa using c2)] at h;injection h with h;injection h with e1 e2;subst e1 e2;refine sv hs hw fun a hs=>?_;exact rt1 hs rfl rfl ⟨H2,rfl,hle,eJ hw⟩
  |false=>
  rw [c2] at hs;rw [if_neg (by simpa using c2)] at h;obtain ⟨⟨w3,e3⟩,h1,h2⟩:=Option.bind_eq_some_iff.1 h;obtain ⟨t4,h3,h4⟩:=Option.bind_eq_some_iff.1 h2;have he3:=aJZ c1 h1;subst he3;refine sv hs hw fun a hs=>?_;have hw:Has 0 w0 W (bH H2 pw t2.w::Fz H2::cH p pw n m t2.ok::R):=hw.pm;refine aG hs (hc:=zJ h1 (hH.trans hle) hT hw) (k:=?_);rintro e' W ⟨H3,rfl,hle3,hw⟩;refine ⟨_,rfl,fun a hs=>?_⟩;have hw:Has 0 w0 W (cH p pw n m t2.ok::bH H3 pw w3::Fz H3::R):=hw.pm;have hw:Has 0 w0 W (dA H3 p n m ⟨w3,t2.ok⟩::Fz H3::R):=eJ (t:=⟨w3,t2.ok⟩) hw;refine cl hs (aDU (t:=⟨w3,t2.ok⟩) hok2 hw) fun a W hs hw=>?_;refine sv hs hw fun a hs=>?_;have h3':j9 ⟨w3,true⟩=some t4:=by
   unfold jM at h3;rw [hok2] at h3;exact h3
  refine aG hs (hc:=rU (t:=⟨w3,true⟩) rfl h3' (hH.trans (hle.trans hle3)) hT hw) (k:=?_);rintro e' W ⟨H4,rfl,hle4,hw⟩;refine ⟨_,rfl,fun a hs=>?_⟩;refine sv hs hw fun a hs=>?_;refine bQ (i+1,t4,H4) hs hw ⟨hi',(hle.trans hle3).trans hle4,h4⟩ (by show 4 - (i+1)<4 - i;omega) ⟨rfl,rfl,bR (i1 (by omega)),trivial⟩
 ·have hi':i=4:=by have:=of_decide_eq_false hcc;omega
  rw [hi',Nat.sub_self] at h;unfold kA at h;injection h with h;injection h with e1 e2;subst e1 e2;obtain ⟨pw,hw⟩:=fJ hw;obtain ⟨k,gv,hw⟩:=rR hw.swap2;refine sv hs hw fun a hs=>?_;refine cl hs (kX id hw) fun a W hs hw=>?_;unfold dQ at hs;cases c1:at? t2.w.servers id with
  |none=>
   rw [c1] at hs;refine sv hs hw fun a hs=>?_;exact rt1 hs rfl rfl ⟨H2,rfl,hle,eJ (gv hw).swap2⟩
  |some s=>
  rw [c1] at hs;obtain ⟨M,gv2,hw⟩:=zQ c1 hw;obtain ⟨pk,pr,pt,M2,gv3,hw⟩:=aDV hw;refine sv hs hw fun a hs=>?_;refine cl hs (uI hw) fun a W hs hw=>?_;refine sc hs ?_;refine cl hs (uD hw.swap2) fun a W hs hw=>?_;have hw:=(gv2 (gv3 hw.swap2)).swap2;refine sv hs hw fun a hs=>?_;exact rt1 hs rfl rfl ⟨H2,rfl,hle,eJ hw⟩
end
end Go.Proofs.YtgpbngfehfbndaaGreatDoor.Sw
