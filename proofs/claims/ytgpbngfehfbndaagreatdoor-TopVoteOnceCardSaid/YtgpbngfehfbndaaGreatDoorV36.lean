import Derived.Test.YtgpbngfehfbndaaGreatDoorV34
import Derived.Test.YtgpbngfehfbndaaGreatDoorV35
set_option maxHeartbeats 16000000
set_option linter.all false
set_option maxRecDepth 10000
namespace Go.Proofs.YtgpbngfehfbndaaGreatDoor.Sw
open Go.RowKit Go.Sx
open Go.Proofs.Tryz (prog)
section
variable {w0 W:World} {R L:List Res} {H H':Fh} {p q:Nat} {k:WPt} {w w':bH} {t t':TD} {n m c id err:Int} {s:cW} {d d':bM}
abbrev dF (p pw:Nat) (n m:Int) (ok:Bool):Res:=aA p [ptr pw,.int .i64 n,.int .i64 m,.bool ok] 29
def nG (H:Fh) (p:Nat) (n m:Int) (t:TD):Res:=Ex fun pw:Nat=>dF p pw n m t.ok::bJ H pw t.w:: []
theorem aCu (h:Has 0 w0 W (nG H p n m t::R)):∃pw,Has 0 w0 W (dF p pw n m t.ok::bJ H pw t.w::R):=Has.open h
theorem aCv {pw:Nat} (h:Has 0 w0 W (dF p pw n m t.ok::bJ H pw t.w::R)):Has 0 w0 W (nG H p n m t::R):=Has.shut pw h
theorem aJL (h:Has 0 w0 W (nG H p n m t::R)) (hl:H.le H'):Has 0 w0 W (nG H' p n m t::R):=by
 obtain ⟨pw,h⟩:=aCu h;exact aCv (h.lz hl)
instance (H H':Fh) (p:Nat) (n m:Int) (t:TD):gZ H H' (nG H p n m t) (nG H' p n m t):=⟨fun hl h=>aJL h hl⟩
theorem aJM {n m:Nat} (hn:1≤n∧n≤7) (hm:1≤m∧m≤5) (h:aCU n m=some t) (hH:(fr w0).le H) (hT:Tabs w0) (hw:Has 0 w0 W (Fz H::R)):
  Calls prog 10 ⟨[.int .i64 (n:Int),.int .i64 (m:Int)]⟩ W fun e W'=>∃(p:Nat) (H':Fh),e= .returned (ptr p)∧H.le H'∧Has 0 w0 W' (nG H' p n m t::Fz H'::R):=by
 obtain ⟨w,h1,h2⟩:=Option.map_eq_some_iff.1 h;subst h2;refine en Tryz.func10 Tryz.ntmps10 fun a hs=>?_;refine sv hs hw fun a hs=>?_;refine aH hs (hc:=aCj hn hm h1 hH hT hw) (k:=?_);rintro e' W ⟨pw,H3,rfl,hle3,hw⟩;refine ⟨_,rfl,fun a hs=>?_⟩;refine sv hs hw fun a hs=>?_;refine sn hs hw fun p a W hs hw=>?_;refine sv hs hw fun a hs=>?_;exact rt1 hs rfl rfl ⟨p,H3,rfl,hle3,aCv (t:=⟨w,true⟩) hw⟩
theorem oQ {pw:Nat} (hw:Has 0 w0 W (dF p pw n m true::R)):
  Calls prog 11 ⟨[ptr p,.int .i64 err]⟩ W fun e W'=>e= .returned (.tuple ⟨[]⟩)∧Has 0 w0 W' (dF p pw n m (err == 0)::R):=by
 refine en Tryz.func11 Tryz.ntmps11 fun a hs=>?_;refine sx hs hw fun a W hs hw=>?_
 first
  |exact rt0 hs rfl ⟨rfl,hw⟩
  |exact cO hs rfl ⟨rfl,hw⟩
end
section
variable {w0 W:World} {R L:List Res} {H H':Fh} {p q:Nat} {k:WPt} {w w':bH} {t t':TD} {n m c id err:Int} {s:cW} {d d':bM}
theorem aJP {w:bH} {c:Int} (h:0<(q0 w c).length):∃u,at? w.clients c=some u∧q0 w c=u.s.l:=by
 unfold q0 at h⊢;cases h2:at? w.clients c with
 |none=>simp only [h2] at h;exact absurd h (by simp)
 |some u=>exact ⟨u,rfl,rfl⟩
theorem aJQ:∀o∈[t8 kN 1],OpOk o:=by
 intro o ho;rw [List.mem_singleton] at ho;subst ho;exact ⟨⟨by decide,by decide⟩,⟨by decide,by decide⟩,⟨by decide,by decide⟩,⟨by decide,by decide⟩,⟨by decide,by decide⟩,⟨by decide,by decide⟩,by decide,by decide,by decide⟩
theorem aJR (hH:(fr w0).le H) (hT:Tabs w0) (hw:Has 0 w0 W (Fz H::R)):
  Calls prog 73 ⟨[]⟩ W fun e W'=>∃H':Fh,e= .returned (.bool true)∧H.le H'∧Has 0 w0 W' (Fz H'::R):=by
 obtain ⟨w,h1,he⟩:=Option.bind_eq_some_iff.1 aJO;obtain ⟨⟨x,xe⟩,h2,he⟩:=Option.bind_eq_some_iff.1 he;obtain ⟨⟨y,yb⟩,h3,he⟩:=Option.bind_eq_some_iff.1 he;obtain ⟨⟨z,zb⟩,h4,he⟩:=Option.map_eq_some_iff.1 he;simp only [Bool.and_eq_true] at he;obtain ⟨⟨⟨g1,g2⟩,g3⟩,g4⟩:=he;subst g1 g3;have g2:(q0 y 1).length=1:=by simpa using g2
 unfold aCB at h2;cases c1:at? w.clients 1 with
 |none=>simp only [c1] at h2;cases h2
 |some u=>
 cases c2:at? w.cd 1 with
 |none=>simp only [c1,c2] at h2;cases h2
 |some d=>
 simp only [c1,c2] at h2;obtain ⟨⟨d3,u3,bt,e3⟩,h5,h6⟩:=Option.map_eq_some_iff.1 h2;injection h6 with h6 _;obtain ⟨uy,c3,c4⟩:=aJP (w:=y) (c:=1) (by omega);rw [c4] at g2;refine en Tryz.func73 Tryz.ntmps73 fun a hs=>?_;refine sv hs hw fun a hs=>?_;refine aH hs (hc:=(show Calls prog 43 ⟨[.int .i64 3,.int .i64 1]⟩ W _ from aCj (m:=3) (n:=1) (by omega) (by omega) h1 hH hT hw)) (k:=?_);rintro e' W ⟨p,H3,rfl,hle3,hw⟩;refine ⟨_,rfl,fun a hs=>?_⟩;obtain ⟨k,gv,hw⟩:=uK hw;refine sv hs hw fun a hs=>?_;refine cl hs (nD 1 hw) fun a W hs hw=>?_;unfold dX at hs;rw [c1] at hs;refine sv hs hw fun a hs=>?_;refine cl hs (nD 1 hw) fun a W hs hw=>?_;unfold dX at hs;rw [c1] at hs;refine sv hs hw fun a hs=>?_;refine sn hs hw fun b13 a W hs hw=>?_;have hw:Has 0 w0 W (aA b13 (bZ (t8 kN 1)) 55::Fz H3::aR p k::bC k w::aX k w::aZ k w::aY k w::aL (H3) k.pn w.n::aP (H3) k.ps k.qs w.servers::aC nameS k.qs w.sd::aS H3 k.pc k.qc w.clients::aC nameQ k.qc w.cd::R):=hw.pm;obtain ⟨H4,hle4,hw,hop⟩:=hw.freeze_lit (m:=1) (sz:=9) rfl (by decide);have hw:=hw.lz hle4;obtain ⟨rc,re,tk,gv2⟩:=aC6 (w0:=w0) (p:=p) (k:=k) (w:=w) c1 c2;have hw:=tk (hw.pm:Has 0 w0 W (aR p k::bC k w::aX k w::aZ k w::aY k w::aL (H4) k.pn w.n::aP (H4) k.ps k.qs w.servers::aC nameS k.qs w.sd::aS H4 k.pc k.qc w.clients::aC nameQ k.qc w.cd::Fz H4::R));have hw:Has 0 w0 W (cQ H4 (k.pc 1) (k.qc 1) u::aB nameQ (k.qc 1) d::Fz H4::aR p k::bC k w::aX k w::aZ k w::aY k w::aL (H4) k.pn w.n::aP (H4) k.ps k.qs w.servers::aC nameS k.qs w.sd::aS (H4) k.pc k.qc rc::aC nameQ k.qc re::R):=hw.pm;refine aH hs (hc:=aHp [t8 kN 1] aJQ (by decide) hop h5 (hH.trans (hle3.trans hle4)) hT hw) (k:=?_);rintro e' W ⟨mv,H5,rfl,hle5,hmv,hw⟩;refine ⟨_,rfl,fun a hs=>?_⟩;have hw:=hw.lz hle5;have hw:Has 0 w0 W (bJ H5 p x::Fz H5::R):=by
  rw [←h6];exact eP (gv2 (hw.pm))
 refine sv hs hw fun a hs=>?_;refine aH hs (hc:=(show Calls prog 53 ⟨[ptr p,.int .i64 12]⟩ W _ from aJK (n:=12) (by omega) h3 (hH.trans ((hle3.trans hle4).trans hle5)) hT hw)) (k:=?_);rintro e' W ⟨H6,rfl,hle6,hw⟩;refine ⟨_,rfl,fun a hs=>?_⟩;clear gv gv2 tk;obtain ⟨k2,gv,hw⟩:=uK hw;refine sv hs hw fun a hs=>?_;refine cl hs (nD 1 hw) fun a W hs hw=>?_;unfold dX at hs;rw [c3] at hs;obtain ⟨rc2,tk,gv2⟩:=yA (w0:=w0) (p:=p) (k:=k2) (w:=y) c3;have hw:=tk (hw.pm:Has 0 w0 W (aR p k2::bC k2 y::aX k2 y::aZ k2 y::aY k2 y::aL (H6) k2.pn y.n::aP (H6) k2.ps k2.qs y.servers::aC nameS k2.qs y.sd::aS H6 k2.pc k2.qc y.clients::aC nameQ k2.qc y.cd::Fz H6::R));have hw:Has 0 w0 W (cQ H6 (k2.pc 1) (k2.qc 1) uy::Fz H6::aR p k2::bC k2 y::aX k2 y::aZ k2 y::aY k2 y::aL (H6) k2.pn y.n::aP (H6) k2.ps k2.qs y.servers::aC nameS k2.qs y.sd::aS (H6) k2.pc k2.qc rc2::aC nameQ k2.qc y.cd::R):=hw.pm;refine sc hs ?_;refine aH hs (hc:=aHs hw) (k:=?_);rintro e' W ⟨rv,H7,rfl,hle7,⟨rys,hrr,_⟩,hw⟩;refine ⟨_,rfl,fun a hs=>?_⟩;obtain ⟨rad,rcap,rfl⟩:=hrr.slice;rw [g2] at hs;have hw:=hw.lz hle7;have hw:Has 0 w0 W (bJ H7 p y::Fz H7::R):=eP (gv2 (hw.pm));refine sv hs hw fun a hs=>?_;refine aH hs (hc:=(show Calls prog 62 ⟨[ptr p,.int .i64 10]⟩ W _ from aCo (n:=10) (by omega) h4 (hH.trans ((((hle3.trans hle4).trans hle5).trans hle6).trans hle7)) hT hw)) (k:=?_);rintro e' W ⟨H8,rfl,hle8,hw⟩;refine ⟨_,rfl,fun a hs=>?_⟩;refine sv hs hw fun a hs=>?_;obtain ⟨k3,gv3,hw⟩:=mC hw;refine cl hs (l8 hw) fun a W hs hw=>?_;refine sc hs ?_;refine cl hs (kK hw.swap2) fun a W hs hw=>?_;have hw:=gv3 hw.swap2;refine sv hs hw fun a hs=>?_;rw [uJ,show z.n.isEmpty=true from g4] at hs;exact rt1 hs rfl rfl ⟨H8,rfl,((((hle3.trans hle4).trans hle5).trans hle6).trans hle7).trans hle8,hw.d1⟩
theorem aJS (hH:(fr w0).le H) (hT:Tabs w0) (hw:Has 0 w0 W (Fz H::R)):
  Calls prog 42 ⟨[]⟩ W fun e W'=>∃H':Fh,e= .returned (.bool true)∧H.le H'∧Has 0 w0 W' (Fz H'::R):=by
 refine en Tryz.func42 Tryz.ntmps42 fun a hs=>?_;refine sv hs hw fun a hs=>?_;refine aH hs (hc:=aJR hH hT hw) (k:=?_);rintro e' W ⟨H8,rfl,hle8,hw⟩;refine ⟨_,rfl,fun a hs=>?_⟩;refine sv hs hw fun a hs=>?_;exact rt1 hs rfl rfl ⟨H8,rfl,hle8,hw⟩
theorem aJT (hH:(fr w0).le H) (hT:Tabs w0) (hw:Has 0 w0 W (Fz H::R)):
  Calls prog 9 ⟨[]⟩ W fun e W'=>∃H':Fh,e= .returned (.bool true)∧H.le H'∧Has 0 w0 W' (Fz H'::R):=by
 refine en Tryz.func9 Tryz.ntmps9 fun a hs=>?_;refine sv hs hw fun a hs=>?_;refine aH hs (hc:=aJS hH hT hw) (k:=?_);rintro e' W ⟨H8,rfl,hle8,hw⟩;refine ⟨_,rfl,fun a hs=>?_⟩;refine sv hs hw fun a hs=>?_;exact rt1 hs rfl rfl ⟨H8,rfl,hle8,hw⟩
end
section
variable {w0 W:World} {R L:List Res} {H H':Fh} {p q:Nat} {k:WPt} {w w':bH} {t t':TD} {n m c id err:Int} {s:cW} {d d':bM}
theorem ch {P:Program} {ops:Array Oper} {rest:List Oper} {Q:Exit→Act→World→Prop} {a:Act} {n d:Nat} {L:List (Nat×Value)} {T:TypeId} {p:String} {e:Array Edge} {f:FuncId} {xs:List Operand} {ts:Array TypeId} {vs:List Value} {v:Value} {R':Fh→List Res} (hs:Slots a n L) (hH:(fr w0).le H) (hc:Calls P f ⟨vs⟩ W fun e' W'=>∃H':Fh,e'= .returned v∧H.le H'∧Has 0 w0 W' (R' H')) (k:∀H' a' W',H.le H'→(fr w0).le H'→Slots a' n ((d,v)::L)→Has 0 w0 W' (R' H')→wpList P ops Q rest a' W') (hx:evs L xs=some vs:=by with_unfolding_all exact rfl) (hf:callee P f=true:=by kernel_rfl) (hd:Nat.blt d n=true:=by with_unfolding_all exact rfl):
  wpList P ops Q (⟨some d,.call {callee:= .value (.func f),args:=⟨xs⟩,argTypes:=ts},T,p,e,none⟩::rest) a W:=
 aH hs hx hf hd hc fun e' W' ⟨H',h1,h2,h3⟩=>⟨v,h1,fun a' ha=>k H' a' W' h2 (hH.trans h2) ha h3⟩
end
section
variable {w0 W:World} {R L:List Res} {H H':Fh} {p q:Nat} {k:WPt} {w w':bH} {t t':TD} {n m c id err:Int} {s:cW} {d d':bM}
theorem aCw {f:bF→Bool} {N:Nat}:∀(l:List bF) (i c:Nat),c≤N→i+l.length≤N→g8 f l i c≤N
 | [],_,_,h,_=>h
 |m::l,i,c,h,h2=>by
  rw [List.length_cons] at h2;exact aCw l (i+1) _ (by split <;> omega) (by omega)
theorem aCx {f:bF→Bool} {l:List bF} {i c A:Nat} {o:bF} (hd:l.drop i=o::l.drop (i+1)) (h:g8 f (l.drop i) i c=A):g8 f (l.drop (i+1)) (i+1) (if f o=true then i else c)=A:=by
 rw [hd] at h;exact h
theorem aJU {f:bF→Bool} {l:List bF} {i:Nat} {o:bF} (ho:l[i]? =some o):iW f (l.take (i+1))=iW f (l.take i)+(if f o=true then 1 else 0):=by
 unfold iW;rw [fQ ho,List.filter_append,List.length_append];cases hf:f o <;> simp [hf]
theorem walk_TopVoteOnce (cut:Int) (fall:Bool) (w:World) (hcut:(Lit.int .i64 cut).wf=true) (hT:Tabs w):
  Calls prog 3 ⟨[.int .i64 cut,.bool fall]⟩ w fun e w'=>e= .returned (.bool true)∧Below w.heap.size w w':=by
 have hci:=aF1 hcut;have hw:=Has.startF w;obtain ⟨W,hWw⟩:∃W,W=w:=⟨_,rfl⟩
 have hw:Has 0 w W (Fz (fr w):: []):=by rw [hWw];exact hw
 suffices hh:Calls prog 3 ⟨[.int .i64 cut,.bool fall]⟩ W fun e w'=>e= .returned (.bool true)∧Below w.heap.size w w' by rw [hWw] at hh;exact hh
 clear hWw;obtain ⟨H,hHd⟩:∃H,H=fr w:=⟨_,rfl⟩
 rw [←hHd] at hw;have hH:(fr w).le H:=by rw [hHd];exact Fh.le.refl _
 clear hHd;obtain ⟨w0,hw0⟩:∃w0,w0=w:=⟨_,rfl⟩
 rw [←hw0] at hw hH hT⊢;clear hw0;obtain ⟨t1,ht1,he⟩:=Option.bind_eq_some_iff.1 (aIy fall);obtain ⟨⟨w2,e2⟩,ht2,he⟩:=Option.bind_eq_some_iff.1 he;obtain ⟨⟨w3,e3⟩,ht3,he⟩:=Option.bind_eq_some_iff.1 he;obtain ⟨w4,ht4,he⟩:=Option.bind_eq_some_iff.1 he;obtain ⟨w5,ht5,he⟩:=Option.bind_eq_some_iff.1 he;obtain ⟨w6,ht6,he⟩:=Option.map_eq_some_iff.1 he;simp only [Bool.and_eq_true,beq_iff_eq] at he;obtain ⟨o1,g2,g3,g6,g7⟩:=he;simp only at ht3 ht4 ht6;subst g2 g3;obtain ⟨A,hA⟩:∃A,A=g8 (eJ 1) w3.n 0 0:=⟨_,rfl⟩
 obtain ⟨B,hB⟩:∃B,B=g8 (eJ 2) w3.n 0 0:=⟨_,rfl⟩
 rw [←hA] at ht4 ht6;rw [←hB] at ht6;obtain ⟨ma,hma⟩:∃m,w3.n[A]? =some m:=by
  cases h:w3.n[A]? with
  |none=>unfold oK at ht4;rw [h] at ht4;cases ht4
  |some m=>exact ⟨m,rfl⟩
 obtain ⟨mb,hmb⟩:∃m,w5.n[lK A B]? =some m:=by
  cases h:w5.n[lK A B]? with
  |none=>unfold oK at ht6;rw [h] at ht6;cases ht6
  |some m=>exact ⟨m,rfl⟩
 refine en Tryz.func3 Tryz.ntmps3 fun a hs=>?_;refine sv hs hw fun a hs=>?_;refine ch hs hH (aJT hH hT hw) fun H a W _ hH hs hw=>?_;refine sv hs hw fun a hs=>?_;refine aH hs (hc:=(show Calls prog 10 ⟨[.int .i64 3,.int .i64 1]⟩ W _ from aJM (n:=3) (m:=1) (by omega) (by omega) ht1 hH hT hw)) (k:=?_);rintro e' W ⟨p,H2,rfl,hle2,hw⟩;refine ⟨_,rfl,fun a hs=>?_⟩;have hH:=hH.trans hle2;obtain ⟨pw,hw⟩:=aCu hw;rw [o1] at hw;refine sv hs hw fun a hs=>?_;have hw:Has 0 w0 W (bJ H2 pw t1.w::Fz H2::dF p pw 3 1 true:: []):=hw.pm;refine ch hs hH (xY ht2 hH hT hw) fun H3 a W _ hH hs hw=>?_;have hw:Has 0 w0 W (dF p pw 3 1 true::bJ H3 pw w2::Fz H3:: []):=hw.pm;refine cl hs (oQ hw) fun a W hs hw=>?_;have hw:Has 0 w0 W (dF p pw 3 1 true::bJ H3 pw w2::Fz H3:: []):=hw;refine sv hs hw fun a hs=>?_;have hw:Has 0 w0 W (bJ H3 pw w2::Fz H3::dF p pw 3 1 true:: []):=hw.pm;refine ch hs hH (xY ht3 hH hT hw) fun H4 a W _ hH hs hw=>?_;have hw:Has 0 w0 W (dF p pw 3 1 true::bJ H4 pw w3::Fz H4:: []):=hw.pm;refine cl hs (oQ hw) fun a W hs hw=>?_;have hw:Has 0 w0 W (dF p pw 3 1 true::bJ H4 pw w3::Fz H4:: []):=hw;refine sv hs hw fun a hs=>?_;have hnl:w3.n.length≤400:=by
  obtain ⟨k,hw⟩:=iV (hw.pm:Has 0 w0 W (bJ H4 pw w3::dF p pw 3 1 true::Fz H4:: []));exact (kJ (hw.pm:Has 0 w0 W (aL H4 k.pn w3.n::aR pw k::bC k w3::aX k w3::aZ k w3::aY k w3::aP H4 k.ps k.qs w3.servers::aC nameS k.qs w3.sd::aS H4 k.pc k.qc w3.clients::aC nameQ k.qc w3.cd::dF p pw 3 1 true::Fz H4:: []))).1.1
 refine Code.wp_mono (fun e a W (q:e= .exit 0∧∃H:Fh,(fr w0).le H∧Slots a 162 [(0,.int .i64 cut),(1,.bool fall),(6,ptr p),(7,.int .i64 (A:Int)),(8,.int .i64 (B:Int))]∧Has 0 w0 W (dF p pw 3 1 true::bJ H pw w3::Fz H:: []))=>?_) ?_
 case refine_1=>
  obtain ⟨rfl,H,hH,hs,hw⟩:=q;refine sc hs ?_;refine sv hs hw fun a hs=>?_;have hw:Has 0 w0 W (bJ H pw w3::Fz H::dF p pw 3 1 true:: []):=hw.pm;refine ch hs hH (aCk hma ht4 hH hT hw) fun H5 a W _ hH hs hw=>?_;have hw:Has 0 w0 W (dF p pw 3 1 true::bJ H5 pw w4::Fz H5:: []):=hw.pm;refine cl hs (oQ hw) fun a W hs hw=>?_;have hw:Has 0 w0 W (dF p pw 3 1 true::bJ H5 pw w4::Fz H5:: []):=hw;refine sv hs hw fun a hs=>?_;have hB400:B≤400:=by rw [hB];exact aCw _ _ _ (Nat.zero_le _) (by omega)
  refine fD (M:=fun a W=>Slots a 162 [(0,.int .i64 cut),(1,.bool fall),(6,ptr p),(8,.int .i64 (lK A B:Nat))]∧Has 0 w0 W (dF p pw 3 1 true::bJ H5 pw w4::Fz H5:: [])) ?_ ?_
  ·cases hAB:decide ((B:Int) > (A:Int)) with
   |true=>
    have h9:=of_decide_eq_true hAB;rw [hAB] at hs;refine sv hs hw fun a hs=>?_;rw [show IntKind.i64.wrap ((B:Int) - 1)=((lK A B:Nat):Int) by unfold lK;rw [if_pos (by omega),IntWalk.i64_in _ (by omega)];omega] at hs;exact ⟨hs.ot,hw⟩
   |false=>
    have h9:=of_decide_eq_false hAB;rw [hAB] at hs;refine sc hs ?_;rw [show (B:Int)=((lK A B:Nat):Int) by unfold lK;rw [if_neg (by omega)]] at hs;exact ⟨hs.ot,hw⟩
  clear hs hw;rintro a W ⟨hs,hw⟩;refine sv hs hw fun a hs=>?_;refine fD (M:=fun a W=>∃H6:Fh,(fr w0).le H6∧Slots a 162 [(6,ptr p),(8,.int .i64 (lK A B:Nat))]∧Has 0 w0 W (dF p pw 3 1 true::bJ H6 pw w5::Fz H6:: [])) ?_ ?_
  ·cases hfall:fall with
   |false=>
    rw [hfall] at hs ht5;injection ht5 with ht5;subst ht5;refine sc hs ?_;exact ⟨H5,hH,hs.ot,hw⟩
   |true=>
    rw [hfall] at hs ht5;unfold aCn at ht5;simp only at ht5;split at ht5
    ·rename_i hsm;obtain ⟨v,hv1,ht5⟩:=Option.bind_eq_some_iff.1 ht5;obtain ⟨⟨z,ez⟩,hz1,ht5⟩:=Option.bind_eq_some_iff.1 ht5;simp only at ht5;split at ht5
     ·rename_i he0;injection ht5 with ht5;subst he0 ht5;obtain ⟨kf,kc⟩:=aIw cut hv1 hsm;refine sv hs hw fun a hs=>?_;have hw:Has 0 w0 W (bJ H5 pw w4::dF p pw 3 1 true::Fz H5:: []):=hw.swap2;refine cl hs (aIt kf hci kc hw) fun a W hs hw=>?_;refine cl hs (oQ hw.swap2) fun a W hs hw=>?_;have hw:Has 0 w0 W (bJ H5 pw v::Fz H5::dF p pw 3 1 true:: []):=hw.pm;refine sv hs hw fun a hs=>?_;refine ch hs hH (aIu hz1 hH hT hw) fun H6 a W _ hH hs hw=>?_;have hw:Has 0 w0 W (dF p pw 3 1 true::bJ H6 pw z::Fz H6:: []):=hw.pm;refine cl hs (oQ hw) fun a W hs hw=>?_;refine sc hs ?_;exact ⟨H6,hH,hs.ot,hw⟩
     ·cases ht5
    ·cases ht5
  clear hs hw hH;rintro a W ⟨H6,hH,hs,hw⟩;refine sv hs hw fun a hs=>?_;have hw:Has 0 w0 W (bJ H6 pw w5::Fz H6::dF p pw 3 1 true:: []):=hw.pm;refine ch hs hH (aCk hmb ht6 hH hT hw) fun H7 a W _ hH hs hw=>?_;have hw:Has 0 w0 W (dF p pw 3 1 true::bJ H7 pw w6::Fz H7:: []):=hw.pm;refine cl hs (oQ hw) fun a W hs hw=>?_;have hw:Has 0 w0 W (dF p pw 3 1 true::bJ H7 pw w6::Fz H7:: []):=hw;refine sv hs hw fun a hs=>?_;have hn6:w6.n.length≤400:=by
   obtain ⟨k,hw⟩:=iV (hw.pm:Has 0 w0 W (bJ H7 pw w6::dF p pw 3 1 true::Fz H7:: []));exact (kJ (hw.pm:Has 0 w0 W (aL H7 k.pn w6.n::aR pw k::bC k w6::aX k w6::aZ k w6::aY k w6::aP H7 k.ps k.qs w6.servers::aC nameS k.qs w6.sd::aS H7 k.pc k.qc w6.clients::aC nameQ k.qc w6.cd::dF p pw 3 1 true::Fz H7:: []))).1.1
  refine Code.wp_mono (fun e a W (q:e= .exit 2∧∃H:Fh,(fr w0).le H∧Slots a 162 [(6,ptr p),(12,.int .i64 1)]∧Has 0 w0 W (dF p pw 3 1 true::bJ H pw w6::Fz H:: []))=>?_) ?_
  case refine_1=>
   obtain ⟨rfl,H,hH,hs,hw⟩:=q;refine sc hs ?_;obtain ⟨s,c3,hv3⟩:∃s,at? w6.servers 3=some s∧s.r.h.vote=1:=by
    unfold aCm at g7;split at g7
    ·rename_i s h9;exact ⟨s,h9,by simpa using g7⟩
    ·cases g7
   refine sv hs hw fun a hs=>?_;obtain ⟨k,gv,hw⟩:=yF hw.swap2;refine cl hs (nC 3 hw) fun a W hs hw=>?_;unfold dX at hs;rw [c3] at hs;obtain ⟨rs,a1,a2⟩:=kM (w0:=w0) c3;have hw:Has 0 w0 W (aP H k.ps k.qs w6.servers::dF p pw 3 1 true::Fz H:: []):=hw.sl;have hw:Has 0 w0 W (cE H (k.ps 3) (k.qs 3) s::aP H k.ps k.qs rs::dF p pw 3 1 true::Fz H:: []):=a1 hw;obtain ⟨_,_,pk,pr,pt,hw⟩:=kI hw;refine sc hs ?_;refine cl hs (xN hw) fun a W hs hw=>?_;have hw:Has 0 w0 W (aE H pr s.r::Fz H:: []):=hw.sl;refine sc hs ?_;refine cl hs (aBs hw) fun a W hs hw=>?_;refine sv hs hw fun a hs=>?_;rw [hv3] at hs;exact rt1 hs rfl rfl ⟨rfl,hw.endF (In.tl In.hd) hH⟩
  refine bX (σ:=Nat×Fh) (fun z=>[(6,ptr p),(12,.int .i64 (iW gP (w6.n.take z.1):Nat)),(13,.int .i64 (z.1:Int))]) (fun z=>dF p pw 3 1 true::bJ z.2 pw w6::Fz z.2:: []) (fun z=>z.1≤w6.n.length∧(fr w0).le z.2) (fun z=>w6.n.length - z.1) (0,H7) ⟨Nat.zero_le _,hH⟩ hs ⟨rfl,rfl,rfl,trivial⟩ hw ?_;clear hs hw hH;rintro ⟨i,H⟩ a W ⟨hi,hH⟩ hs hw;simp only at hi hH hs hw;refine sv hs hw fun a hs=>?_;obtain ⟨k,gv,hw⟩:=mC hw.swap2;refine cl hs (l8 hw) fun a W hs hw=>?_;refine cl hs (kK hw.swap2) fun a W hs hw=>?_;have hw:=(gv hw.swap2).swap2;refine sv hs hw fun a hs=>?_;refine cI hs (kt:=fun hcc=>?_) (kf:=fun hcc=>?_)
  ·have hi':i<w6.n.length:=by simpa using hcc
   obtain ⟨o,hoi,hd⟩:=dP hi';have hcn:=aJU (f:=gP) hoi;have hcl:iW gP (w6.n.take i)≤i:=Nat.le_trans (List.length_filter_le _ _) (by rw [List.length_take];omega);refine sv hs hw fun a hs=>?_;obtain ⟨k,gv,hw⟩:=mC hw.swap2;refine cl hs (l8 hw) fun a W hs hw=>?_;have hw:Has 0 w0 W (aL H k.pn w6.n::Fz H::aR pw k::bC k (w6)::aX k (w6)::aZ k (w6)::aY k (w6)::aP (H) k.ps k.qs (w6).servers::aC nameS k.qs (w6).sd::aS (H) k.pc k.qc (w6).clients::aC nameQ k.qc (w6).cd::dF p pw 3 1 true:: []):=hw.pm;refine sv hs hw fun a hs=>?_;refine aH hs (hc:=xZ hoi hw) (k:=?_);rintro e' W ⟨mv,H3,rfl,hle3,hmv,hmc,hw⟩;refine ⟨_,rfl,fun a hs=>?_⟩;obtain ⟨mad,mcap,rfl⟩:=hmv.slice;have hH:=hH.trans hle3;have hw:=hw.lz hle3;have hw:Has 0 w0 W (bJ H3 pw w6::Fz H3::dF p pw 3 1 true:: []):=eP (k:=k) (hw.pm);refine sv hs hw fun a hs=>?_;refine sn hs hw fun b14 a W hs hw=>?_;refine sx hs hw fun a W hs hw=>?_;have nxt:∀{a W} {c':Nat},iW gP (w6.n.take (i+1))=c'→Slots a 162 [(6,ptr p),(12,.int .i64 (c':Int)),(13,.int .i64 (IntKind.i64.wrap ((i:Int)+1)))]→Has 0 w0 W (aA b14 (aF o (.slice mad o.es.length mcap)) 38::bJ H3 pw w6::Fz H3::dF p pw 3 1 true:: [])→∃s':Nat×Fh,(s'.1≤w6.n.length∧(fr w0).le s'.2)∧w6.n.length - s'.1<w6.n.length - i∧Slots a 162 [(6,ptr p),(12,.int .i64 (iW gP (w6.n.take s'.1):Nat)),(13,.int .i64 (s'.1:Int))]∧Has 0 w0 W (dF p pw 3 1 true::bJ s'.2 pw w6::Fz s'.2:: []):=fun {a W c'} h1 hs hw=>⟨(i+1,H3),⟨hi',hH⟩,by show w6.n.length - (i+1)<w6.n.length - i;omega,by rw [i1 (by omega),←h1] at hs;exact hs,hw.sl⟩
   have no:gP o=false→iW gP (w6.n.take (i+1))=iW gP (w6.n.take i):=fun h=>by rw [hcn,h];rfl
   cases d1:(o.kind == 2) with
   |false=>
    have f1:=no (by unfold gP;rw [d1];rfl);rw [d1] at hs;refine sv hs hw fun a hs=>?_;exact nxt f1 (hs.ot) hw
   |true=>
   rw [d1] at hs;refine sv hs hw fun a hs=>?_;cases d2:(o.from_ == 3) with
   |false=>
    have f1:=no (by unfold gP;rw [d2];simp);rw [d2] at hs;refine sv hs hw fun a hs=>?_;exact nxt f1 (hs.ot) hw
   |true=>
   rw [d2] at hs;refine sv hs hw fun a hs=>?_;cases d4:o.yes with
   |false=>
    have f1:=no (by unfold gP;rw [d4];simp);rw [d4] at hs;refine sv hs hw fun a hs=>?_;exact nxt f1 (hs.ot) hw
   |true=>
    have f1:iW gP (w6.n.take (i+1))=iW gP (w6.n.take i)+1:=by rw [hcn];unfold gP;rw [d1,d2,d4];rfl
    rw [d4] at hs;refine sv hs hw fun a hs=>?_;rw [i1 (i:=iW gP (w6.n.take i)) (by omega)] at hs;exact nxt f1 (hs.ot) hw
  ·have hi':i=w6.n.length:=by simp at hcc;omega
   rw [hi',List.take_length,g6] at hs;refine sc hs ?_;exact ⟨rfl,H,hH,hs.ot,hw⟩
 refine bX (σ:=Nat×Nat×Nat×Fh) (fun z=>[(0,.int .i64 cut),(1,.bool fall),(6,ptr p),(7,.int .i64 (z.2.1:Int)),(8,.int .i64 (z.2.2.1:Int)),(9,.int .i64 (z.1:Int))]) (fun z=>dF p pw 3 1 true::bJ z.2.2.2 pw w3::Fz z.2.2.2:: []) (fun z=>z.1≤w3.n.length∧(fr w0).le z.2.2.2∧g8 (eJ 1) (w3.n.drop z.1) z.1 z.2.1=A∧g8 (eJ 2) (w3.n.drop z.1) z.1 z.2.2.1=B) (fun z=>w3.n.length - z.1) (0,0,0,H4) ⟨Nat.zero_le _,hH,hA.symm,hB.symm⟩ hs ⟨rfl,rfl,rfl,rfl,rfl,rfl,trivial⟩ hw ?_;clear hs hw hH;rintro ⟨i,c1,c2,H⟩ a W ⟨hi,hH,hA,hB⟩ hs hw;simp only at hi hH hA hB hs hw;refine sv hs hw fun a hs=>?_;obtain ⟨k,gv,hw⟩:=mC hw.swap2;refine cl hs (l8 hw) fun a W hs hw=>?_;refine cl hs (kK hw.swap2) fun a W hs hw=>?_;have hw:=(gv hw.swap2).swap2;refine sv hs hw fun a hs=>?_;refine cI hs (kt:=fun hcc=>?_) (kf:=fun hcc=>?_)
 ·have hi':i<w3.n.length:=by simpa using hcc
  obtain ⟨o,hoi,hd⟩:=dP hi';have hA:=aCx hd hA;have hB:=aCx hd hB;refine sv hs hw fun a hs=>?_;obtain ⟨k,gv,hw⟩:=mC hw.swap2;refine cl hs (l8 hw) fun a W hs hw=>?_;have hw:Has 0 w0 W (aL H k.pn w3.n::Fz H::aR pw k::bC k (w3)::aX k (w3)::aZ k (w3)::aY k (w3)::aP (H) k.ps k.qs (w3).servers::aC nameS k.qs (w3).sd::aS (H) k.pc k.qc (w3).clients::aC nameQ k.qc (w3).cd::dF p pw 3 1 true:: []):=hw.pm;refine sv hs hw fun a hs=>?_;refine aH hs (hc:=xZ hoi hw) (k:=?_);rintro e' W ⟨mv,H3,rfl,hle3,hmv,hmc,hw⟩;refine ⟨_,rfl,fun a hs=>?_⟩;obtain ⟨mad,mcap,rfl⟩:=hmv.slice;have hH:=hH.trans hle3;have hw:=hw.lz hle3;have hw:Has 0 w0 W (bJ H3 pw w3::Fz H3::dF p pw 3 1 true:: []):=eP (k:=k) (hw.pm);refine sv hs hw fun a hs=>?_;refine sn hs hw fun b10 a W hs hw=>?_;refine sx hs hw fun a W hs hw=>?_;have nxt:∀{a W} {c1' c2':Nat},g8 (eJ 1) (w3.n.drop (i+1)) (i+1) c1'=A→g8 (eJ 2) (w3.n.drop (i+1)) (i+1) c2'=B→Slots a 162 [(0,.int .i64 cut),(1,.bool fall),(6,ptr p),(7,.int .i64 (c1':Int)),(8,.int .i64 (c2':Int)),(9,.int .i64 (IntKind.i64.wrap ((i:Int)+1)))]→Has 0 w0 W (aA b10 (aF o (.slice mad o.es.length mcap)) 38::bJ H3 pw w3::Fz H3::dF p pw 3 1 true:: [])→∃s':Nat×Nat×Nat×Fh,(s'.1≤w3.n.length∧(fr w0).le s'.2.2.2∧g8 (eJ 1) (w3.n.drop s'.1) s'.1 s'.2.1=A∧g8 (eJ 2) (w3.n.drop s'.1) s'.1 s'.2.2.1=B)∧w3.n.length - s'.1<w3.n.length - i∧Slots a 162 [(0,.int .i64 cut),(1,.bool fall),(6,ptr p),(7,.int .i64 (s'.2.1:Int)),(8,.int .i64 (s'.2.2.1:Int)),(9,.int .i64 (s'.1:Int))]∧Has 0 w0 W (dF p pw 3 1 true::bJ s'.2.2.2 pw w3::Fz s'.2.2.2:: []):=fun {a W c1' c2'} h1 h2 hs hw=>⟨(i+1,c1',c2',H3),⟨hi',hH,h1,h2⟩,by show w3.n.length - (i+1)<w3.n.length - i;omega,by rw [i1 (by omega)] at hs;exact hs,hw.sl⟩
  cases d3:(o.to_ == 3) with
  |false=>
   have f1:eJ 1 o=false:=by unfold eJ;rw [d3];rfl
   have f2:eJ 2 o=false:=by unfold eJ;rw [d3];rfl
   rw [f1,if_neg (by decide)] at hA;rw [f2,if_neg (by decide)] at hB;rw [d3] at hs;refine sv hs hw fun a hs=>?_;rw [d3] at hs;refine sv hs hw fun a hs=>?_;exact nxt hA hB (hs.ot) hw
  |true=>
   rw [d3] at hs;refine sv hs hw fun a hs=>?_;cases d1:(o.from_ == 1) with
   |true=>
    have d2:(o.from_ == 2)=false:=by
     have:o.from_=1:=by simpa using d1
     rw [this];rfl
    have f1:eJ 1 o=true:=by unfold eJ;rw [d3,d1];rfl
    have f2:eJ 2 o=false:=by unfold eJ;rw [d2];simp
    rw [f1,if_pos rfl] at hA;rw [f2,if_neg (by decide)] at hB;rw [d1] at hs;refine sv hs hw fun a hs=>?_;rw [d3] at hs;refine sv hs hw fun a hs=>?_;rw [d2] at hs;refine sv hs hw fun a hs=>?_;exact nxt hA hB (hs.ot) hw
   |false=>
    have f1:eJ 1 o=false:=by unfold eJ;rw [d1];simp
    rw [f1,if_neg (by decide)] at hA;rw [d1] at hs;refine sv hs hw fun a hs=>?_;rw [d3] at hs;refine sv hs hw fun a hs=>?_;cases d2:(o.from_ == 2) with
    |true=>
     have f2:eJ 2 o=true:=by unfold eJ;rw [d3,d2];rfl
     rw [f2,if_pos rfl] at hB;rw [d2] at hs;refine sv hs hw fun a hs=>?_;exact nxt hA hB (hs.ot) hw
    |false=>
     have f2:eJ 2 o=false:=by unfold eJ;rw [d2];simp
     rw [f2,if_neg (by decide)] at hB;rw [d2] at hs;refine sv hs hw fun a hs=>?_;exact nxt hA hB (hs.ot) hw
 ·have hi':i=w3.n.length:=by simp at hcc;omega
  rw [hi',List.drop_length] at hA hB;have hA:c1=A:=hA;have hB:c2=B:=hB;subst hA hB;refine sc hs ?_;exact ⟨rfl,H,hH,hs.ot,hw⟩
end
end Go.Proofs.YtgpbngfehfbndaaGreatDoor.Sw
