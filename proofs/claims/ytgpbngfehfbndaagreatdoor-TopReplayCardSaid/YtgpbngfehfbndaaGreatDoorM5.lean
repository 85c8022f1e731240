/-
  Texts of the proof, one behind the other (part 5).
-/
import Derived.Test.YtgpbngfehfbndaaGreatDoorM2
import Derived.Test.YtgpbngfehfbndaaGreatDoorM4
set_option maxHeartbeats 16000000
set_option linter.unusedVariables false
set_option maxRecDepth 10000
namespace Go.Proofs.YtgpbngfehfbndaaGreatDoor.Sw
open Go.RowKit Go.Sx
def aO (H:Fh) (p:Nat) (t:dU):Res:=Ex fun x:Nat×Value×List Value=>aA p [.int .i64 t.ix,.pointer (some ⟨x.1,0,none⟩),x.2.1] 201::aS H x.1 t.f::Sx.Own 68 5 x.2.1 t.rows.length x.2.2::bN (Ch (RowIn H) t.rows x.2.2):: []
section
variable {G p pf:Nat} {w W:World} {R:List Res} {t:dU} {H H':Fh} {v:Value} {xs:List Value}
theorem fU (h:Has G w W (aA p [.int .i64 t.ix,.pointer (some ⟨pf,0,none⟩),v] 201::aS H pf t.f::Sx.Own 68 5 v t.rows.length xs::R)) (hc:Ch (RowIn H) t.rows xs):Has G w W (aO H p t::R):=
 Has.shut (pf,v,xs) ((h.fact hc).pm)
theorem kO (h:Has G w W (aO H p t::R)):∃pf vad vcap xs,Ch (RowIn H) t.rows xs∧Has G w W (aA p [.int .i64 t.ix,.pointer (some ⟨pf,0,none⟩),.slice vad t.rows.length vcap] 201::aS H pf t.f::Sx.Own 68 5 (.slice vad t.rows.length vcap) t.rows.length xs::R):=by
 obtain ⟨⟨pf,v,xs⟩,h⟩:=Has.open h
 have h:Has G w W (aA p [.int .i64 t.ix,.pointer (some ⟨pf,0,none⟩),v] 201::aS H pf t.f::Sx.Own 68 5 v t.rows.length xs::bN (Ch (RowIn H) t.rows xs)::R):=h
 have hf:=h.told (In.tl (In.tl (In.tl In.hd)))
 have h:Has G w W (aA p [.int .i64 t.ix,.pointer (some ⟨pf,0,none⟩),v] 201::aS H pf t.f::Sx.Own 68 5 v t.rows.length xs::R):=h.sub (List.Sublist.cons_cons _ (List.Sublist.cons_cons _ (List.Sublist.cons_cons _ (List.Sublist.cons _ (List.Sublist.refl _)))))
 have h2:Has G w W (Sx.Own 68 5 v t.rows.length xs::aA p [.int .i64 t.ix,.pointer (some ⟨pf,0,none⟩),v] 201::aS H pf t.f::R):=h.pm
 obtain ⟨ad,cap,rfl⟩:=h2.own_slice
 exact ⟨pf,ad,cap,xs,hf,h⟩
theorem wK (h:Has G w W (aO H p t::R)) (hl:H.le H'):Has G w W (aO H' p t::R):=by
 obtain ⟨pf,ad,cap,xs,h1,h2⟩:=kO h
 exact fU (jX h2.swap2 hl).swap2 (h1.mono (RowIn.le hl))
end
def emptyT:dU:=⟨0,fT,[]⟩
theorem aAr (w0 W:World) (H:Fh) (R:List Res) (hw:Has 0 w0 W R):
  Calls Tryz.prog 89 ⟨[]⟩ W fun e W'=>∃p,e= .returned (.pointer (some ⟨p,0,none⟩))∧Has 0 w0 W' (aO H p emptyT::R):=by
 refine enter Tryz.func89 Tryz.ntmps89 rfl rfl fun a hs=>?_
 refine zA hs hw ?_;clear hs;intro a hs
 refine aF hs (hc:=aA8 w0 _ H _ hw) (k:=?_);rintro e0 W1 ⟨c,rfl,hw1⟩;refine ⟨_,rfl,?_⟩;clear hs hw;intro a hs;have hw:=hw1;clear hw1
 repeat (first|(refine sxv hs hw ?_;clear hs;intro a hs)|refine sxc hs ?_|(refine sxa hs hw ?_;clear hs hw;intro a b W hw hs)|(refine sxs hs hw ?_;clear hs hw;intro W hs hw))
 refine rt1 hs rfl rfl ⟨_,rfl,?_⟩
 have hw:=hw.nilOwn 68 5
 exact fU (t:=emptyT) (xs:=[]) (hw.pm) rfl
theorem aAs (w0 W:World) (H:Fh) (r:cD) (sv:Value) (R:List Res) (hl:r.b.l.length≤1000) (hr:cH H sv r.b.l) (hw:Has 0 w0 W (Fz H::R)):
  Calls Tryz.prog 184 ⟨[.agg ⟨aJ r sv⟩]⟩ W fun e W'=>∃sv' H',e= .returned (.agg ⟨aJ r sv'⟩)∧H.le H'∧cH H' sv' r.b.l∧Has 0 w0 W' (Fz H'::R):=by
 obtain ⟨sad,scap,rfl⟩:=hr.slice
 refine enter Tryz.func184 Tryz.ntmps184 rfl rfl fun a hs=>?_
 repeat (first|(refine sxv hs hw ?_;clear hs;intro a hs)|refine sxc hs ?_|(refine sxa hs hw ?_;clear hs hw;intro a b W hw hs)|(refine sxs hs hw ?_;clear hs hw;intro W hs hw))
 obtain ⟨b2,q2⟩:=nm1 hw;subst q2
 obtain ⟨b1,q1⟩:=nm2 hw;subst q1
 have hw:Has 0 w0 _ (Fz H::aA b2 [.int .i64 0,.int .i64 0,.int .i64 0,.slice none 0 0,.int .i64 0] 68::aA b1 (aJ r (.slice sad r.b.l.length scap)) 68::R):=hw.pm
 refine aF hs (hc:=rY w0 _ H r.b.l _ _ hl hr hw) (k:=?_);rintro e0 W1 ⟨sv',H',rfl,h1,h2,hw1⟩;refine ⟨_,rfl,?_⟩;clear hs hw;intro a hs;have hw:=hw1;clear hw1
 obtain ⟨tad,tcap,rfl⟩:=h2.slice
 refine zB hs hw ?_;clear hs hw;intro a W hs hw
 refine rc1 hs rfl rfl hw (In.tl In.hd) rfl ?_
 exact ⟨_,H',rfl,h1,h2,hw.drop2.drop2⟩
theorem sC (w0 W:World) (H:Fh) (p:Nat) (t:dU) (R:List Res) (hw:Has 0 w0 W (aO H p t::R)):
  Calls Tryz.prog 66 ⟨[.pointer (some ⟨p,0,none⟩)]⟩ W fun e W'=>e= .returned (.int .i64 t.ix)∧Has 0 w0 W' (aO H p t::R):=by
 obtain ⟨pf,ad,cap,xs,hc,hw⟩:=kO hw
 refine enter Tryz.func66 Tryz.ntmps66 rfl rfl fun a hs=>?_
 refine zC hs hw ?_;clear hs;intro a hs
 exact rt1 hs rfl rfl ⟨rfl,fU hw hc⟩
theorem aFy (w0 W:World) (H:Fh) (p:Nat) (t:dU) (e:bZ) (R:List Res) (hl:t.rows.length≤1000000) (hd:e.data.size≤1000000) (hH:(fr w0).le H) (hT:Tabs w0) (hw:Has 0 w0 W (aO H p t::Fz H::R)):
  Calls Tryz.prog 126 ⟨[.pointer (some ⟨p,0,none⟩),.agg ⟨bE e⟩]⟩ W fun x W'=>∃sv' H',x= .returned (.tuple ⟨[.agg ⟨aJ (eB t e).2.1 sv'⟩,.bool (eB t e).2.2]⟩)∧H.le H'∧cH H' sv' (eB t e).2.1.b.l∧Has 0 w0 W' (aO H' p (eB t e).1::Fz H'::R):=by
 obtain ⟨pf,vad,vcap,xs,hch,hw⟩:=kO hw
 refine enter Tryz.func126 Tryz.ntmps126 rfl rfl fun a hs=>?_
 repeat (first|(refine sxv hs hw ?_;clear hs;intro a hs)|refine sxc hs ?_|(refine sxa hs hw ?_;clear hs hw;intro a b W hw hs)|(refine sxs hs hw ?_;clear hs hw;intro W hs hw))
 obtain ⟨b4,q4⟩:=nm1 hw;subst q4
 obtain ⟨b3,q3⟩:=nm2 hw;subst q3
 have hw:Has 0 w0 _ (aA p [.int .i64 t.ix,.pointer (some ⟨pf,0,none⟩),.slice vad t.rows.length vcap] 201::aS H pf t.f::Sx.Own 68 5 (.slice vad t.rows.length vcap) t.rows.length xs::aA b4 zrc 68::aA b3 (bE e) 137::Fz H::R):=hw.pm
 refine gK (V:=[.pointer (some ⟨p,0,none⟩),.bool false,.bool false,.pointer (some ⟨b3,0+0,none⟩),.int .i64 e.ix,.pointer (some ⟨p,0,none⟩),.pointer (some ⟨p,0,none⟩),.pointer (some ⟨p,0+0,none⟩),.int .i64 t.ix,.int .i64 (IntKind.i64.wrap (t.ix+1)),.bool (e.ix !=(IntKind.i64.wrap (t.ix+1))),.bool (e.ix !=(IntKind.i64.wrap (t.ix+1)))])
  (Rs:=fun D=>aA p [.int .i64 t.ix,.pointer (some ⟨pf,0,none⟩),.slice vad t.rows.length vcap] 201::aS H pf t.f::Sx.Own 68 5 (.slice vad t.rows.length vcap) t.rows.length xs::aA b4 zrc 68::aA b3 (bE e) 137::Fz H::R) hs hw (ho:=⟨?_,?c1_3,?_,?_,?_,?_,?_,?_,?_,?_,?_,?_,trivial⟩) (k:=?k_3)
 case c1_3=>
  intro LD D a W hcl hi hp hs hw
  refine zC hs hw ?_;clear hs;intro a hs
  exact ⟨hs,hw⟩
 case k_3=>
  clear hs hw
  intro a W hs hw
  replace hs:Slots a 68 [(21,.bool (e.ix !=(IntKind.i64.wrap (t.ix+1)))),(0,.pointer (some ⟨p,0,none⟩)),(3,.pointer (some ⟨b3,0,none⟩)),(4,.pointer (some ⟨b4,0,none⟩)),(5,.bool false)]:=hs.of ⟨rfl,rfl,rfl,rfl,rfl,trivial⟩
  replace hw:Has 0 w0 W (aA p [.int .i64 t.ix,.pointer (some ⟨pf,0,none⟩),.slice vad t.rows.length vcap] 201::aS H pf t.f::Sx.Own 68 5 (.slice vad t.rows.length vcap) t.rows.length xs::aA b4 zrc 68::aA b3 (bE e) 137::Fz H::R):=hw
  cases hne:(e.ix !=(IntKind.i64.wrap (t.ix+1))) with
  |true=>
   rw [hne] at hs
   have hX:eB t e=(t,zeroRow,false):=by unfold eB;rw [if_neg (by simpa using hne)]
   rw [hX]
   refine zB hs hw ?_;clear hs hw;intro a W hs hw
   have hw:=fU hw hch
   refine rc2 hs rfl rfl hw (In.tl In.hd) rfl rfl ?_
   exact ⟨.slice none 0 0,H,rfl,Fh.le.refl _,jW H,hw.sub (List.Sublist.cons_cons _ (List.Sublist.cons _ (List.Sublist.cons _ (List.Sublist.refl _))))⟩
  |false=>
  rw [hne] at hs
  have hix:e.ix=(IntKind.i64.wrap (t.ix+1)):=by simpa using hne
  refine zB hs hw ?_;clear hs hw;intro a W hs hw
  have hw:Has 0 w0 W (aA p [.int .i64 (IntKind.i64.wrap (t.ix+1)),.pointer (some ⟨pf,0,none⟩),.slice vad t.rows.length vcap] 201::aS H pf t.f::Sx.Own 68 5 (.slice vad t.rows.length vcap) t.rows.length xs::aA b4 zrc 68::aA b3 (bE e) 137::Fz H::R):=hw
  refine nL (s:=e.data) hs hw (by omega) (c:=?_);clear hs hw;intro a bb bcap0 ext W hw hrb hs
  obtain ⟨⟨⟨c,q,l⟩,err⟩,hdec⟩:∃x,eT e.data.data.toList=x:=⟨_,rfl⟩
  have hdl:e.data.data.toList.length≤1000000:=by rw [Array.length_toList];exact hd
  have hlen:=hw.endF (by repeat (first|exact In.hd|apply In.tl)) hH
  refine aF hs (hc:=wJ _ c q l err hdec _ _ hdl hrb (hT.keep hlen)) (k:=?_);rintro e0 W1 ⟨dad,dcap,rfl,hw1⟩;refine ⟨_,rfl,?_⟩;clear hs;intro a hs;replace hw:=hw.call hw1;clear hw1
  have hw:Has 0 w0 _ (Sx.Own 55 9 (.slice dad l.length dcap) l.length (l.flatMap bT)::Fz H::aA p [.int .i64 (IntKind.i64.wrap (t.ix+1)),.pointer (some ⟨pf,0,none⟩),.slice vad t.rows.length vcap] 201::aS H pf t.f::Sx.Own 68 5 (.slice vad t.rows.length vcap) t.rows.length xs::aA b4 zrc 68::aA b3 (bE e) 137::R):=(hw.perm (B:=Sx.Own 55 9 (.slice dad l.length dcap) l.length (l.flatMap bT)::Fz H::aA p [.int .i64 (IntKind.i64.wrap (t.ix+1)),.pointer (some ⟨pf,0,none⟩),.slice vad t.rows.length vcap] 201::aS H pf t.f::Sx.Own 68 5 (.slice vad t.rows.length vcap) t.rows.length xs::aA b4 zrc 68::aA b3 (bE e) 137::eM bb (bys e.data.data.toList ++ ext) 5::R) (by repeat (first|exact List.Perm.refl _|refine nB (by repeat (first|exact Pick.hd|apply Pick.tl)) ?_))).sub (List.Sublist.cons_cons _ (List.Sublist.cons_cons _ (List.Sublist.cons_cons _ (List.Sublist.cons_cons _ (List.Sublist.cons_cons _ (List.Sublist.cons_cons _ (List.Sublist.cons_cons _ (List.Sublist.cons _ (List.Sublist.refl _)))))))))
  obtain ⟨H1,hle01,hw,hbl⟩:=hw.freeze_own
  have hH1:=hH.trans hle01
  replace hch:=hch.mono (RowIn.le hle01)
  have hw:Has 0 w0 _ (aS H pf t.f::aA p [.int .i64 (IntKind.i64.wrap (t.ix+1)),.pointer (some ⟨pf,0,none⟩),.slice vad t.rows.length vcap] 201::Sx.Own 68 5 (.slice vad t.rows.length vcap) t.rows.length xs::aA b4 zrc 68::aA b3 (bE e) 137::Fz H1::R):=hw.pm
  have hw:=(jX hw hle01).swap2
  repeat (first|(refine sxv hs hw ?_;clear hs;intro a hs)|refine sxc hs ?_|(refine sxa hs hw ?_;clear hs hw;intro a b W hw hs)|(refine sxs hs hw ?_;clear hs hw;intro W hs hw))
  obtain ⟨b6,q6⟩:=nm1 hw;subst q6
  have hw:Has 0 w0 _ (aA p [.int .i64 (IntKind.i64.wrap (t.ix+1)),.pointer (some ⟨pf,0,none⟩),.slice vad t.rows.length vcap] 201::aS H1 pf t.f::Sx.Own 68 5 (.slice vad t.rows.length vcap) t.rows.length xs::aA b4 zrc 68::aA b3 (bE e) 137::Fz H1::aA b6 [.int .i64 c,.int .i64 q,.slice dad l.length dcap] 66::R):=hw.pm
  have hz:∀{a:Act},eB t e=(⟨(IntKind.i64.wrap (t.ix+1)),t.f,t.rows⟩,zeroRow,false)→True:=fun _=>trivial
  cases hk:(e.kind !=2) with
  |true=>
   rw [hk] at hs
   have hX:eB t e=(⟨(IntKind.i64.wrap (t.ix+1)),t.f,t.rows⟩,zeroRow,false):=by
    have hk2:(e.kind == 2)=false:=by simpa using hk
    unfold eB;rw [if_pos hix,hk2]
   rw [hX]
   refine zB hs hw ?_;clear hs hw;intro a W hs hw
   have hw:=fU (t:=⟨(IntKind.i64.wrap (t.ix+1)),t.f,t.rows⟩) hw hch
   refine rc2 hs rfl rfl hw (In.tl In.hd) rfl rfl ?_
   exact ⟨.slice none 0 0,H1,rfl,hle01,jW H1,hw.sub (List.Sublist.cons_cons _ (List.Sublist.cons _ (List.Sublist.cons _ (List.Sublist.cons_cons _ (List.Sublist.cons _ (List.Sublist.refl _))))))⟩
  |false=>
  rw [hk] at hs
  have hk2:(e.kind == 2)=true:=by simpa using hk
  cases hdo:decode e.data.data.toList with
  |none=>
   have hX:eB t e=(⟨(IntKind.i64.wrap (t.ix+1)),t.f,t.rows⟩,zeroRow,false):=by unfold eB;rw [if_pos hix,hk2,hdo]
   rw [hX]
   have he:err=1:=by unfold eT at hdec;rw [hdo] at hdec;simp at hdec;exact hdec.2.symm
   subst he
   refine zB hs hw ?_;clear hs hw;intro a W hs hw
   have hw:=fU (t:=⟨(IntKind.i64.wrap (t.ix+1)),t.f,t.rows⟩) hw hch
   refine rc2 hs rfl rfl hw (In.tl In.hd) rfl rfl ?_
   exact ⟨.slice none 0 0,H1,rfl,hle01,jW H1,hw.sub (List.Sublist.cons_cons _ (List.Sublist.cons _ (List.Sublist.cons _ (List.Sublist.cons_cons _ (List.Sublist.cons _ (List.Sublist.refl _))))))⟩
  |some pd=>
  have hpe:pd=(c,q,l)∧err=0:=by unfold eT at hdec;rw [hdo] at hdec;simp at hdec;exact ⟨hdec.1,hdec.2.symm⟩
  obtain ⟨rfl,rfl⟩:=hpe
  have hA1:eB t e=pK (IntKind.i64.wrap (t.ix+1)) t ⟨c,q,l⟩:=by unfold eB;rw [if_pos hix,hk2,hdo]
  have hdk:=aAm hdl hdo
  obtain ⟨bt,hbt⟩:∃b:cR,b=⟨c,q,l⟩:=⟨_,rfl⟩
  have hbo:gW bt:=by rw [hbt];exact ⟨hdk.1,hdk.2.1,hdk.2.2.2⟩
  rw [←hbt] at hA1
  obtain ⟨rfl,rfl,rfl⟩:c=bt.c∧q=bt.q∧l=bt.l:=by rw [hbt];exact ⟨rfl,rfl,rfl⟩
  clear hbt hdo hdec hdk hz
  obtain ⟨bad,hbad⟩:∃x,x=dad:=⟨_,rfl⟩
  obtain ⟨bcap,hbcap⟩:∃x,x=dcap:=⟨_,rfl⟩
  subst hbad hbcap
  obtain ⟨N,hN⟩:∃N,next t.f bt=N:=⟨_,rfl⟩
  have hbl:cH H1 (.slice bad bt.l.length bcap) bt.l:=hbl
  refine zA hs hw ?_;clear hs;intro a hs
  have hw:Has 0 w0 _ (Fz H1::aS H1 pf t.f::bK::bK::bK::aA p [.int .i64 (IntKind.i64.wrap (t.ix+1)),.pointer (some ⟨pf,0,none⟩),.slice vad t.rows.length vcap] 201::aA b6 (aL bt (.slice bad bt.l.length bcap)) 66::Sx.Own 68 5 (.slice vad t.rows.length vcap) t.rows.length xs::aA b4 zrc 68::aA b3 (bE e) 137::R):=(hw.free.free.free).pm
  refine fL (σ:=Value×Fh×Nat) (V:=fun u=>[.pointer (some ⟨p,0,none⟩),.pointer (some ⟨p,0,none⟩),.pointer (some ⟨p,0+1,none⟩),.pointer (some ⟨pf,0,none⟩),.agg ⟨aL bt (.slice bad bt.l.length bcap)⟩,.tuple ⟨[.agg ⟨aJ N.2.1 (u 5).1⟩,.bool N.2.2]⟩,.tuple ⟨[.agg ⟨aJ N.2.1 (u 6).1⟩,.bool N.2.2]⟩,.agg ⟨aJ N.2.1 (u 7).1⟩,.bool N.2.2,.pointer (some ⟨(u 9).2.2,0,none⟩),.bool true,.bool N.2.2])
   (Rs:=fun u D=>(if D 5 then FzF (u 5).2.1 (H1.le (u 5).2.1∧cH (u 5).2.1 (u 5).1 N.2.1.b.l) else Fz H1)::(if D 5 then aS (u 5).2.1 pf N.1 else aS H1 pf t.f)::(if D 9 then aA (u 9).2.2 (if D 10 then aJ N.2.1 (u 5).1 else zrc) 68 else bK)::(if D 6 then bN (u 6=u 5) else bK)::(if D 7 then bN (u 7=u 6) else bK)::aA p [.int .i64 (IntKind.i64.wrap (t.ix+1)),.pointer (some ⟨pf,0,none⟩),.slice vad t.rows.length vcap] 201::aA b6 (aL bt (.slice bad bt.l.length bcap)) 66::Sx.Own 68 5 (.slice vad t.rows.length vcap) t.rows.length xs::aA b4 zrc 68::aA b3 (bE e) 137::R) (fun _=>(.nilIface,H1,0)) hs hw (hVu:=?vu_2) (ho:=⟨?_,?_,?_,?_,?_,?c5_2,?c6_2,?c7_2,?_,?c9_2,?c10_2,?_,trivial⟩) (k:=?k_2)
  case vu_2=>
   intro u u' j h
   rcases j with _|_|_|_|_|_|_|_|_|_|_|_|j
   all_goals first|rfl|simp [h]
  case c5_2=>
   intro u LD D a W hcl hi hp hs hw
   have h6:=Go.Sx.not_done hcl hi 6 (by kernel_rfl)
   have h7:=Go.Sx.not_done hcl h6 7 (by kernel_rfl)
   have h10:=Go.Sx.not_done hcl h7 10 (by kernel_rfl)
   simp only [hi,h6,h7,h10,Bool.false_eq_true,if_false] at hw
   have hw:=hw.swap2
   refine aF hs (hc:=wB w0 _ H1 pf t.f bt _ _ hbo hbl hH1 hT hw) (k:=?_);rw [hN];rintro e0 W1 ⟨sv',H2,rfl,hle,hsv,hw1⟩;refine ⟨_,rfl,?_⟩;clear hs hw;intro a hs;have hw:=hw1;clear hw1
   refine zG hs ?_
   refine Or.inr ⟨(sv',H2,0),hs,?_⟩
   have hw:=(hw.swap2).fzf (q:=H1.le H2∧cH H2 sv' N.2.1.b.l) ⟨hle,hsv⟩
   show Has 0 w0 _ (_::_::(if D 9 then aA (u 9).2.2 (if (Nat.beq 10 5 || D 10)=true then _ else _) _ else bK)::(if (Nat.beq 6 5 || D 6)=true then _ else _)::(if (Nat.beq 7 5 || D 7)=true then _ else _)::_)
   rw [h6,h7,h10]
   exact hw
  case c6_2=>
   intro u LD D a W hcl hi hp hs hw
   have h7:=Go.Sx.not_done hcl hi 7 (by kernel_rfl)
   simp only [hi,h7,Bool.false_eq_true,if_false] at hw
   refine zA hs hw ?_;clear hs;intro a hs
   refine Or.inr ⟨u 5,hs,?_⟩
   show Has 0 w0 _ (_::_::_::bN (u 5=u 5)::(if (Nat.beq 7 6 || D 7)=true then _ else _)::_)
   rw [h7]
   exact (hw.fact rfl).fill (Upd.tl (Upd.tl (Upd.tl Upd.hd)))
  case c7_2=>
   intro u LD D a W hcl hi hp hs hw
   simp only [hi,Bool.false_eq_true,if_false] at hw
   refine zA hs hw ?_;clear hs;intro a hs
   refine Or.inr ⟨u 6,hs,?_⟩
   show Has 0 w0 _ (_::_::_::_::bN (u 6=u 6)::_)
   exact (hw.fact rfl).fill (Upd.tl (Upd.tl (Upd.tl (Upd.tl Upd.hd))))
  case c9_2=>
   intro u LD D a W hcl hi hp hs hw
   have h10:=Go.Sx.not_done hcl hi 10 (by kernel_rfl)
   simp only [hi,Bool.false_eq_true,if_false] at hw
   repeat (first|(refine sxv hs hw ?_;clear hs;intro a hs)|refine sxc hs ?_|(refine sxa hs hw ?_;clear hs hw;intro a b W hw hs)|(refine sxs hs hw ?_;clear hs hw;intro W hs hw))
   refine Or.inr ⟨(.nilIface,H1,_),hs,?_⟩
   show Has 0 w0 _ (_::_::aA _ (if (Nat.beq 10 9 || D 10)=true then _ else _) _::_)
   rw [h10]
   exact hw.fill (Upd.tl (Upd.tl Upd.hd))
  case c10_2=>
   intro u LD D a W hcl hi hp hs hw
   have h7:=Go.Sx.done hp 7 (by kernel_rfl)
   have h9:=Go.Sx.done hp 9 (by kernel_rfl)
   have h6:=Go.Sx.done (hcl 7 _ rfl h7) 6 (by kernel_rfl)
   have h5:=Go.Sx.done (hcl 6 _ rfl h6) 5 (by kernel_rfl)
   have e1:(if D 7=true then bN (u 7=u 6) else bK)=bN (u 7=u 6):=by rw [h7];rfl
   have e2:(if D 6=true then bN (u 6=u 5) else bK)=bN (u 6=u 5):=by rw [h6];rfl
   have g7:u 7=u 5:=by
    have hw2:=hw
    simp only [e1,e2] at hw2
    exact (hw2.told (In.tl (In.tl (In.tl (In.tl In.hd))))).trans (hw2.told (In.tl (In.tl (In.tl In.hd))))
   simp only [hi,h5,h9,Bool.false_eq_true,if_false,if_true] at hw
   obtain ⟨⟨_,hsv⟩,_⟩:=hw.unfzf
   obtain ⟨tad,tcap,e13⟩:=hsv.slice
   refine d6 hs (hw:=hw) (vs:=aJ N.2.1 (u 7).1) (h1:=by rw [g7,e13];rfl) (k:=?_);clear hs hw;intro W hs hw
   rw [show (u 7).1=(u 5).1 from by rw [g7]] at hw
   refine zG hs ?_
   refine Or.inl ⟨hs,?_⟩
   show Has 0 w0 _ ((if (Nat.beq 5 10 || D 5)=true then _ else _)::(if (Nat.beq 5 10 || D 5)=true then _ else _)::(if (Nat.beq 9 10 || D 9)=true then _ else _)::_)
   rw [h5,h9]
   exact hw
  case k_2=>
   clear hs hw
   intro u a W hs hw
   replace hw:Has 0 w0 W (FzF (u 5).2.1 (H1.le (u 5).2.1∧cH (u 5).2.1 (u 5).1 N.2.1.b.l)::aS (u 5).2.1 pf N.1::aA (u 9).2.2 (aJ N.2.1 (u 5).1) 68::bN (u 6=u 5)::bN (u 7=u 6)::aA p [.int .i64 (IntKind.i64.wrap (t.ix+1)),.pointer (some ⟨pf,0,none⟩),.slice vad t.rows.length vcap] 201::aA b6 (aL bt (.slice bad bt.l.length bcap)) 66::Sx.Own 68 5 (.slice vad t.rows.length vcap) t.rows.length xs::aA b4 zrc 68::aA b3 (bE e) 137::R):=hw
   replace hw:=hw.sub (L':=FzF (u 5).2.1 (H1.le (u 5).2.1∧cH (u 5).2.1 (u 5).1 N.2.1.b.l)::aS (u 5).2.1 pf N.1::aA (u 9).2.2 (aJ N.2.1 (u 5).1) 68::aA p [.int .i64 (IntKind.i64.wrap (t.ix+1)),.pointer (some ⟨pf,0,none⟩),.slice vad t.rows.length vcap] 201::aA b6 (aL bt (.slice bad bt.l.length bcap)) 66::Sx.Own 68 5 (.slice vad t.rows.length vcap) t.rows.length xs::aA b4 zrc 68::aA b3 (bE e) 137::R) (List.Sublist.cons_cons _ (List.Sublist.cons_cons _ (List.Sublist.cons_cons _ (List.Sublist.cons _ (List.Sublist.cons _ (List.Sublist.refl _))))))
   replace hs:Slots a 68 [(0,.pointer (some ⟨p,0,none⟩)),(4,.pointer (some ⟨b4,0,none⟩)),(8,.pointer (some ⟨(u 9).2.2,0,none⟩)),(9,.bool N.2.2)]:=hs.of ⟨rfl,rfl,rfl,rfl,trivial⟩
   generalize (u 9).2.2=b8 at *
   generalize (u 5).2.1=H2 at *
   generalize (u 5).1=sv2 at *
   clear u
   obtain ⟨⟨hle2,hsv⟩,hw⟩:=hw.unfzf
   obtain ⟨xad,xcap,rfl⟩:=hsv.slice
   replace hch:=hch.mono (RowIn.le hle2)
   cases hok:N.2.2 with
   |false=>
    rw [hok] at hs
    have hX:eB t e=(⟨(IntKind.i64.wrap (t.ix+1)),t.f,t.rows⟩,zeroRow,false):=by rw [hA1];unfold pK;rw [hN,hok]
    rw [hX]
    have hNe:N=(t.f,zeroRow,false):=by
     rw [←hN] at hok⊢
     unfold next at hok⊢
     cases hb:iZ t.f bt with
     |true=>rw [hb] at hok;cases hok
     |false=>rfl
    subst hNe
    have hw:Has 0 w0 W (aA p [.int .i64 (IntKind.i64.wrap (t.ix+1)),.pointer (some ⟨pf,0,none⟩),.slice vad t.rows.length vcap] 201::aS H2 pf t.f::Sx.Own 68 5 (.slice vad t.rows.length vcap) t.rows.length xs::aA b8 (aJ zeroRow (.slice xad zeroRow.b.l.length xcap)) 68::aA b4 zrc 68::Fz H2::aA b6 (aL bt (.slice bad bt.l.length bcap)) 66::aA b3 (bE e) 137::R):=hw.pm
    have hw:=fU (t:=⟨(IntKind.i64.wrap (t.ix+1)),t.f,t.rows⟩) hw hch
    refine zB hs hw ?_;clear hs hw;intro a W hs hw
    refine rc2 hs rfl rfl hw (In.tl (In.tl In.hd)) rfl rfl ?_
    have hw:=hw.sub (L':=aO H2 p ⟨(IntKind.i64.wrap (t.ix+1)),t.f,t.rows⟩::Fz H2::R) (List.Sublist.cons_cons _ (List.Sublist.cons _ (List.Sublist.cons _ (List.Sublist.cons_cons _ (List.Sublist.cons _ (List.Sublist.cons _ (List.Sublist.refl _)))))))
    exact ⟨_,H2,rfl,hle01.trans hle2,hsv,hw⟩
   |true=>
    rw [hok] at hs
    have hX:eB t e=(⟨(IntKind.i64.wrap (t.ix+1)),N.1,t.rows ++ [N.2.1]⟩,N.2.1,true):=by rw [hA1];unfold pK;rw [hN,hok]
    rw [hX]
    have hr8:N.2.1.b.l.length≤1000:=by
     have h1:(next t.f bt).2.2=true:=by rw [hN];exact hok
     have h2:=aAf h1
     rw [hN] at h2
     rw [h2]
     have:=(wA (wI (r6 h1).1)).2.2
     omega
    have hw:Has 0 w0 W (aA p [.int .i64 (IntKind.i64.wrap (t.ix+1)),.pointer (some ⟨pf,0,none⟩),.slice vad t.rows.length vcap] 201::Fz H2::bK::Sx.Own 68 5 (.slice vad t.rows.length vcap) t.rows.length xs::aA b8 (aJ N.2.1 (.slice xad N.2.1.b.l.length xcap)) 68::aS H2 pf N.1::aA b6 (aL bt (.slice bad bt.l.length bcap)) 66::aA b4 zrc 68::aA b3 (bE e) 137::R):=(hw.free).pm
    refine zA hs hw ?_;clear hs;intro a hs
    refine fL (σ:=Value×Fh×Nat×Option Addr) (V:=fun u=>[.pointer (some ⟨p,0,none⟩),.pointer (some ⟨p,0,none⟩),.pointer (some ⟨p,0,none⟩),.pointer (some ⟨p,0+2,none⟩),.slice vad t.rows.length vcap,.agg ⟨aJ N.2.1 (.slice xad N.2.1.b.l.length xcap)⟩,.agg ⟨aJ N.2.1 (u 6).1⟩,.slice (some ⟨(u 7).2.2.1,0,none⟩) 1 1,.slice (u 8).2.2.2 (t.rows ++ [N.2.1]).length (u 8).2.2.1,.pointer (some ⟨p,0,none⟩),.pointer (some ⟨p,0+2,none⟩),.bool true])
     (Rs:=fun u D=>aA p [.int .i64 (IntKind.i64.wrap (t.ix+1)),.pointer (some ⟨pf,0,none⟩),(if D 11 then .slice (u 8).2.2.2 (t.rows ++ [N.2.1]).length (u 8).2.2.1 else .slice vad t.rows.length vcap)] 201::(if D 6 then FzF (u 6).2.1 (H2.le (u 6).2.1∧cH (u 6).2.1 (u 6).1 N.2.1.b.l) else Fz H2)::(if D 7 then aA (u 7).2.2.1 (aJ N.2.1 (u 6).1) 68 else bK)::(if D 8 then Sx.Own 68 5 (.slice (u 8).2.2.2 (t.rows ++ [N.2.1]).length (u 8).2.2.1) (t.rows ++ [N.2.1]).length (xs ++ aJ N.2.1 (u 6).1) else Sx.Own 68 5 (.slice vad t.rows.length vcap) t.rows.length xs)::aA b8 (aJ N.2.1 (.slice xad N.2.1.b.l.length xcap)) 68::aS H2 pf N.1::aA b6 (aL bt (.slice bad bt.l.length bcap)) 66::aA b4 zrc 68::aA b3 (bE e) 137::R) (fun _=>(.nilIface,H2,0,none)) hs hw (hVu:=?vu_1) (ho:=⟨?_,?_,?_,?_,?c4_1,?_,?c6_1,?c7_1,?c8_1,?_,?_,?c11_1,trivial⟩) (k:=?k_1)
    case vu_1=>
     intro u u' j h
     rcases j with _|_|_|_|_|_|_|_|_|_|_|_|j
     all_goals first|rfl|simp [h]
    case c4_1=>
     intro u LD D a W hcl hi hp hs hw
     have hA:=Go.Sx.not_done hcl hi 8 (by kernel_rfl)
     have hS:=Go.Sx.not_done hcl hA 11 (by kernel_rfl)
     have hw0:=hw
     simp only [hS,Bool.false_eq_true,if_false] at hw
     refine zA hs hw ?_;clear hs;intro a hs
     exact Or.inl ⟨hs,hw0⟩
    case c6_1=>
     intro u LD D a W hcl hi hp hs hw
     have hB:=Go.Sx.not_done hcl hi 7 (by kernel_rfl)
     have hA:=Go.Sx.not_done hcl hB 8 (by kernel_rfl)
     have hS:=Go.Sx.not_done hcl hA 11 (by kernel_rfl)
     simp only [hi,hB,hA,hS,Bool.false_eq_true,if_false] at hw
     repeat (first|(refine sxv hs hw ?_;clear hs;intro a hs)|refine sxc hs ?_|(refine sxa hs hw ?_;clear hs hw;intro a b W hw hs)|(refine sxs hs hw ?_;clear hs hw;intro W hs hw))
     have hw:Has 0 w0 W (Fz H2::aA p [.int .i64 (IntKind.i64.wrap (t.ix+1)),.pointer (some ⟨pf,0,none⟩),.slice vad t.rows.length vcap] 201::bK::Sx.Own 68 5 (.slice vad t.rows.length vcap) t.rows.length xs::aA b8 (aJ N.2.1 (.slice xad N.2.1.b.l.length xcap)) 68::aS H2 pf N.1::aA b6 (aL bt (.slice bad bt.l.length bcap)) 66::aA b4 zrc 68::aA b3 (bE e) 137::R):=hw.pm
     refine aF hs (hc:=aAs w0 _ H2 N.2.1 _ _ hr8 hsv hw) (k:=?_);rintro e0 W1 ⟨sv',H',rfl,h1,h2,hw1⟩;refine ⟨_,rfl,?_⟩;clear hs hw;intro a hs;have hw:=hw1;clear hw1
     refine zG hs ?_
     refine Or.inr ⟨(sv',H',0,none),hs,?_⟩
     have hw:=hw.fzf (q:=H2.le H'∧cH H' sv' N.2.1.b.l) ⟨h1,h2⟩
     show Has 0 w0 _ (aA p [_,_,(if (Nat.beq 11 6 || D 11)=true then _ else _)] _::_::(if (Nat.beq 7 6 || D 7)=true then _ else _)::(if (Nat.beq 8 6 || D 8)=true then _ else _)::_)
     rw [hB,hA,hS]
     exact hw.pm
    case c7_1=>
     intro u LD D a W hcl hi hp hs hw
     have hB:=hi
     have h6:=Go.Sx.done hp 6 (by kernel_rfl)
     have hA:=Go.Sx.not_done hcl hB 8 (by kernel_rfl)
     have hS:=Go.Sx.not_done hcl hA 11 (by kernel_rfl)
     simp only [hi,h6,hA,hS,Bool.false_eq_true,if_false,if_true] at hw
     repeat (first|(refine sxv hs hw ?_;clear hs;intro a hs)|refine sxc hs ?_|(refine sxa hs hw ?_;clear hs hw;intro a b W hw hs)|(refine sxs hs hw ?_;clear hs hw;intro W hs hw))
     refine Or.inr ⟨(.nilIface,H2,_,none),hs,?_⟩
     show Has 0 w0 _ (aA p [_,_,(if (Nat.beq 11 7 || D 11)=true then _ else _)] _::(if (Nat.beq 6 7 || D 6)=true then _ else _)::_::(if (Nat.beq 8 7 || D 8)=true then _ else _)::_)
     rw [h6,hA,hS]
     exact hw.fill (Upd.tl (Upd.tl Upd.hd))
    case c8_1=>
     intro u LD D a W hcl hi hp hs hw
     have hB:=Go.Sx.done hp 7 (by kernel_rfl)
     have h6:=Go.Sx.done (hcl 7 _ rfl hB) 6 (by kernel_rfl)
     have hS:=Go.Sx.not_done hcl hi 11 (by kernel_rfl)
     simp only [hi,hB,h6,hS,Bool.false_eq_true,if_false,if_true] at hw
     have hw:Has 0 w0 W (FzF (u 6).2.1 (H2.le (u 6).2.1∧cH (u 6).2.1 (u 6).1 N.2.1.b.l)::Sx.Own 68 5 (.slice vad t.rows.length vcap) t.rows.length xs::aA p [.int .i64 (IntKind.i64.wrap (t.ix+1)),.pointer (some ⟨pf,0,none⟩),.slice vad t.rows.length vcap] 201::aA (u 7).2.2.1 (aJ N.2.1 (u 6).1) 68::aA b8 (aJ N.2.1 (.slice xad N.2.1.b.l.length xcap)) 68::aS H2 pf N.1::aA b6 (aL bt (.slice bad bt.l.length bcap)) 66::aA b4 zrc 68::aA b3 (bE e) 137::R):=hw.pm
     obtain ⟨⟨hle,hv⟩,_⟩:=hw.unfzf
     have hw:Has 0 w0 W (Sx.Own 68 5 (.slice vad t.rows.length vcap) t.rows.length xs::FzF (u 6).2.1 (H2.le (u 6).2.1∧cH (u 6).2.1 (u 6).1 N.2.1.b.l)::aA p [.int .i64 (IntKind.i64.wrap (t.ix+1)),.pointer (some ⟨pf,0,none⟩),.slice vad t.rows.length vcap] 201::aA (u 7).2.2.1 (aJ N.2.1 (u 6).1) 68::aA b8 (aJ N.2.1 (.slice xad N.2.1.b.l.length xcap)) 68::aS H2 pf N.1::aA b6 (aL bt (.slice bad bt.l.length bcap)) 66::aA b4 zrc 68::aA b3 (bE e) 137::R):=hw.swap2
     have hone:=RowIn.ones (H:=(u 6).2.1) N.2.1 (aJ N.2.1 (u 6).1) ⟨_,rfl,hv⟩
     refine jB hs (hw:=hw) (hi:=In.tl (In.tl In.hd)) (ch:=(hch.mono (RowIn.le hle))) (ha:=(⟨_,rfl,hv⟩:RowIn (u 6).2.1 N.2.1 (aJ N.2.1 (u 6).1))) (hl:=rfl) (h1:=by rw [List.all_eq_true];exact hone) (hb:=by omega) (h63:=by omega) (k:=?_)
     clear hs hw;intro a ad cap W hs hw hc2
     refine zG hs ?_
     refine Or.inr ⟨(.nilIface,H2,cap,ad),hs,?_⟩
     show Has 0 w0 _ (aA p [_,_,(if (Nat.beq 11 8 || D 11)=true then _ else _)] _::(if (Nat.beq 6 8 || D 6)=true then _ else _)::(if (Nat.beq 7 8 || D 7)=true then _ else _)::_::_)
     rw [h6,hB,hS]
     exact hw.pm
    case c11_1=>
     intro u LD D a W hcl hi hp hs hw
     have hA:=Go.Sx.done hp 8 (by kernel_rfl)
     simp only [hi,hA,Bool.false_eq_true,if_false,if_true] at hw
     repeat (first|(refine sxv hs hw ?_;clear hs;intro a hs)|refine sxc hs ?_|(refine sxa hs hw ?_;clear hs hw;intro a b W hw hs)|(refine sxs hs hw ?_;clear hs hw;intro W hs hw))
     refine Or.inl ⟨hs,?_⟩
     show Has 0 w0 _ (_::_::_::(if (Nat.beq 8 11 || D 8)=true then _ else _)::_)
     rw [hA]
     exact hw
    case k_1=>
     clear hs hw
     intro u a W hs hw
     replace hw:Has 0 w0 W (aA p [.int .i64 (IntKind.i64.wrap (t.ix+1)),.pointer (some ⟨pf,0,none⟩),.slice (u 8).2.2.2 (t.rows ++ [N.2.1]).length (u 8).2.2.1] 201::FzF (u 6).2.1 (H2.le (u 6).2.1∧cH (u 6).2.1 (u 6).1 N.2.1.b.l)::aA (u 7).2.2.1 (aJ N.2.1 (u 6).1) 68::Sx.Own 68 5 (.slice (u 8).2.2.2 (t.rows ++ [N.2.1]).length (u 8).2.2.1) (t.rows ++ [N.2.1]).length (xs ++ aJ N.2.1 (u 6).1)::aA b8 (aJ N.2.1 (.slice xad N.2.1.b.l.length xcap)) 68::aS H2 pf N.1::aA b6 (aL bt (.slice bad bt.l.length bcap)) 66::aA b4 zrc 68::aA b3 (bE e) 137::R):=hw
     replace hs:Slots a 68 [(0,.pointer (some ⟨p,0,none⟩)),(4,.pointer (some ⟨b4,0,none⟩)),(8,.pointer (some ⟨b8,0,none⟩)),(9,.bool true)]:=hs.of ⟨rfl,rfl,rfl,rfl,trivial⟩
     generalize (u 8).2.2.2=rad at *
     generalize (u 8).2.2.1=rcap at *
     generalize (u 7).2.2.1=bx at *
     generalize (u 6).2.1=H3 at *
     generalize (u 6).1=v3 at *
     clear u
     have hw:Has 0 w0 W (FzF H3 (H2.le H3∧cH H3 v3 N.2.1.b.l)::aA p [.int .i64 (IntKind.i64.wrap (t.ix+1)),.pointer (some ⟨pf,0,none⟩),.slice rad (t.rows ++ [N.2.1]).length rcap] 201::aA bx (aJ N.2.1 v3) 68::Sx.Own 68 5 (.slice rad (t.rows ++ [N.2.1]).length rcap) (t.rows ++ [N.2.1]).length (xs ++ aJ N.2.1 v3)::aA b8 (aJ N.2.1 (.slice xad N.2.1.b.l.length xcap)) 68::aS H2 pf N.1::aA b6 (aL bt (.slice bad bt.l.length bcap)) 66::aA b4 zrc 68::aA b3 (bE e) 137::R):=hw.pm
     obtain ⟨⟨hle3,hv⟩,hw⟩:=hw.unfzf
     have hw:Has 0 w0 W (aS H2 pf N.1::aA p [.int .i64 (IntKind.i64.wrap (t.ix+1)),.pointer (some ⟨pf,0,none⟩),.slice rad (t.rows ++ [N.2.1]).length rcap] 201::Sx.Own 68 5 (.slice rad (t.rows ++ [N.2.1]).length rcap) (t.rows ++ [N.2.1]).length (xs ++ aJ N.2.1 v3)::aA b8 (aJ N.2.1 (.slice xad N.2.1.b.l.length xcap)) 68::aA b4 zrc 68::Fz H3::aA b6 (aL bt (.slice bad bt.l.length bcap)) 66::aA b3 (bE e) 137::aA bx (aJ N.2.1 v3) 68::R):=hw.pm
     have hw:=(jX hw hle3).swap2
     have hw:=fU (t:=⟨(IntKind.i64.wrap (t.ix+1)),N.1,t.rows ++ [N.2.1]⟩) hw ((hch.mono (RowIn.le hle3)).app (Ch.unit ⟨_,rfl,hv⟩))
     refine zB hs hw ?_;clear hs hw;intro a W hs hw
     refine rc2 hs rfl rfl hw (In.tl (In.tl In.hd)) rfl rfl ?_
     have hw:=hw.sub (L':=aO H3 p ⟨(IntKind.i64.wrap (t.ix+1)),N.1,t.rows ++ [N.2.1]⟩::Fz H3::R) (List.Sublist.cons_cons _ (List.Sublist.cons _ (List.Sublist.cons _ (List.Sublist.cons_cons _ (List.Sublist.cons _ (List.Sublist.cons _ (List.Sublist.cons _ (List.Sublist.refl _))))))))
     exact ⟨_,H3,rfl,(hle01.trans hle2).trans hle3,hsv.le hle3,hw⟩
    all_goals
     intro u LD D a W hcl hi hp hs hw
     refine zA hs hw ?_;clear hs;intro a hs
     exact Or.inl ⟨hs,hw⟩
  all_goals
   intro u LD D a W hcl hi hp hs hw
   refine zA hs hw ?_;clear hs;intro a hs
   exact Or.inl ⟨hs,hw⟩
 all_goals
  intro LD D a W hcl hi hp hs hw
  refine zA hs hw ?_;clear hs;intro a hs
  exact ⟨hs,hw⟩
end Go.Proofs.YtgpbngfehfbndaaGreatDoor.Sw
namespace Go.Sx
open Go.RowKit
theorem Has.newOwn {G:Nat} {w W W':World} {R:List Res} {E:TypeId} {size n:Nat} {v:Value} {xs:List Value} (h:Has G w W R) (hb:Below W.heap.size W W') (ho:OwnAt (fun b=>W.heap.size≤b∧b<W'.heap.size) W' E size v n xs):Has G w W' (Own E size v n xs::R):=by
 have h1:=h.below hb
 refine ⟨h1.ext,h1.glob,_,?_,ho,?_⟩
 ·rintro b ⟨hb1,hb2⟩
  exact ⟨Nat.le_trans h.globW hb1,hb2⟩
 ·refine (h.has.loc fun b hb'=>hb.block b hb'.2).mono fun b hb'=>⟨⟨hb'.1,Nat.lt_of_lt_of_le hb'.2 hb.size⟩,by omega⟩
section
variable {P:Program} {W:World}
theorem aFz {t tx ty E T:TypeId} {i:TypeInfo} {z:Value} (ht:P.underlying t=some (.slice E)) (hi:P.info? E=some i) (hz:i.zero=some z) (hzs:z.cells.size=i.size)
  {g k:Nat} {cur xs:List Value} (hg:W.heap[g]? =some (.cells ⟨cur⟩ T (0,0))) (hk:k*i.size≤cur.length) (htk:cur.take (k*i.size)=xs) {x:Value} {m:Nat} {news:List Value} (hs:Src P i.size tx x m news W) (hm:0<m) (h63:k+m≤9223372036854775807) (hb:(k+m)*i.bytes≤140737488355328):
  ∃ad cap W',(Builtin.append_ #[t,tx] ty #[.slice (some ⟨g,0,none⟩) k k,x]).run P W= .ok (.slice ad (k+m) cap) W'∧OwnAt (fun b=>W.heap.size≤b∧b<W'.heap.size) W' E i.size (.slice ad (k+m) cap) (k+m) (xs ++ news)∧Below W.heap.size W W':=by
 have hnl:news.length=m*i.size:=hs.newsLen
 have hxl:xs.length=k*i.size:=by rw [←htk,List.length_take];omega
 have hlen:(xs ++ news).length=(k+m)*i.size:=by rw [List.length_append,hxl,hnl,Nat.add_mul]
 have hold:(Builtin.firstCells i.size k (.slice (some ⟨g,0,none⟩) k k)).run P W.drew= .ok xs.toArray W.drew:=by
  have:=uH (P:=P) (W:=W.drew) (b:=g) (T:=T) (cs:=cur) hg 0 (k*i.size) (by omega)
  simp only [List.drop_zero,htk] at this
  simpa [Builtin.firstCells] using this
 have hr:=run_append_grow_src (P:=P) W t tx ty E i z ht hi hz (some ⟨g,0,none⟩) k k xs hold x m news hs (by omega) (by omega) (growslice_fits (by omega) hb)
 have hge:=grownCap_ge W (k+m) k E
 have hcm:grownCap W (k+m) k E≤maxLen:=grownCap_le_maxLen W (k+m) k E (by unfold maxLen;omega)
 refine ⟨_,_,_,hr,⟨hlen,.inr ⟨W.heap.size,_,((xs ++ news).toArray ++ Builtin.zeroCells z.cells (grownCap W (k+m) k E - (k+m))).toList,rfl,⟨Nat.le_refl _,jA (heap_alloc_new W.drew _)⟩,heap_alloc_new W.drew _,hge,hcm,?_,?_⟩⟩,rfl,rfl,rfl,by simp,fun b hb=>heap_alloc_old W.drew _ hb⟩
 ·simp only [Array.toList_append,List.length_append,Array.length_toList,size_zeroCells,hzs]
  rw [←List.length_append,hlen,←Nat.add_mul]
  congr 1
  omega
 ·simp only [Array.toList_append]
  rw [←hlen]
  exact List.take_left
end
section
variable {P:Program} {ops:Array Oper} {aD:List Oper} {Q:Exit→Act→World→Prop} {a:Act} {n G:Nat} {L:List (Nat×Value)} {w W:World} {R:List Res} {d:Nat} {T S S' E E':TypeId} {p:String} {e:Array Edge} {x y hi mx:Operand} {v u:Value} {cur xs news:List Value} {g k m len cap size bytes:Nat} {q q':IntKind} {z:List Value}
theorem aGA {agg:Bool} [sl:Sl P S E] [t:Ty P E agg z] (hs:Slots a n L) (hk:k≤cap) (hx:ev L x=some (.slice (some ⟨g,0,none⟩) len cap):=by with_unfolding_all exact rfl) (hh:ev L hi=some (.int q (k:Int)):=by with_unfolding_all exact rfl) (hm:ev L mx=some (.int q' (k:Int)):=by with_unfolding_all exact rfl) (hd:Nat.blt d n=true:=by with_unfolding_all exact rfl)
  (c:∀a',Slots a' n ((d,.slice (some ⟨g,0,none⟩) k k)::L)→wpList P ops Q aD a' W):wpList P ops Q (⟨some d,.slice S x none (some hi) (some mx),T,p,e,none⟩::aD) a W:=by
 have hb:∀(y:Nat) (c:BoundsCode) (q:IntKind),k≤y→(Instr.sliceBound (.int q (k:Int)) y c).run P W= .ok k W:=by
  intro y c q hy
  have:(0:Int)≤(k:Int)∧(k:Int)≤(y:Int):=⟨by omega,by omega⟩
  simp only [Instr.sliceBound,asIntOf,Sem.run_bind,Sem.run_pure,Result.andThen_ok]
  rw [if_pos this]
  simp
 have hbs:(Instr.sliceBounds true len cap none (some (.int q (k:Int))) (some (.int q' (k:Int)))).run P W= .ok (0,k,k) W:=by
  unfold Instr.sliceBounds
  simp [hb cap .slice3Acap q' hk,hb k .slice3B q (Nat.le_refl _)]
 refine bO hs hd (v:= .slice (some ⟨g,0,none⟩) k k) (W':=W) ?_ c
 simp only [execOp,Option.map_some,Option.map_none,hs.ev hx,hs.ev hh,hs.ev hm,Instr.sliceAt,Instr.slice,Sem.run_bind,run_underlying sl.out,Result.andThen_ok,hbs,t.sizeOf,Sem.run_pure]
 by_cases h0:k=0
 ·subst h0;simp
 ·rw [if_neg h0];simp [eF]
theorem aGB [sl:Sl P S E] [el:El P E size bytes] (hs:Slots a n L) (hw:Has G w W R) (hg:W.heap[g]? =some (.cells ⟨cur⟩ E' (0,0))) (hk:k*size≤cur.length) (htk:cur.take (k*size)=xs) (hsrc:Src P size S' u m news W) (hm:0<m) (h63:k+m≤9223372036854775807) (hb:(k+m)*bytes≤140737488355328) (hx:ev L x=some (.slice (some ⟨g,0,none⟩) k k):=by with_unfolding_all exact rfl) (hy:ev L y=some u:=by with_unfolding_all exact rfl) (hd:Nat.blt d n=true:=by with_unfolding_all exact rfl)
  (c:∀a' ad cap W',Slots a' n ((d,.slice ad (k+m) cap)::L)→Has G w W' (Own E size (.slice ad (k+m) cap) (k+m) (xs ++ news)::R)→wpList P ops Q aD a' W'):wpList P ops Q (⟨some d,.call {callee:= .builtin .append,args:=#[x,y],argTypes:=#[S,S']},T,p,e,none⟩::aD) a W:=by
 obtain ⟨i,z,h1,h2,h3,h4,h5⟩:=el.out
 subst h4 h5
 obtain ⟨ad,cap,W',hr,ho,hbl⟩:=aFz (P:=P) (ty:=T) sl.out h1 h2 h3 hg hk htk hsrc hm h63 hb
 refine bO hs hd (v:= .slice ad (k+m) cap) (W':=W') ?_ fun a' hs'=>c a' ad cap W' hs' (hw.newOwn hbl ho)
 simp only [execOp,resolve,invoke,builtin,Sem.run_bind,Sem.run_pure,Result.andThen_ok,List.map_toArray,List.map_cons,List.map_nil,hs.ev hx,hs.ev hy,hr]
end
section
variable {P:Program} {ops:Array Oper} {aD:List Oper} {Q:Exit→Act→World→Prop} {a:Act} {n G:Nat} {L:List (Nat×Value)} {w W:World} {R:List Res} {d:Nat} {T S E:TypeId} {p:String} {e:Array Edge} {x lo:Operand} {g k m cap size:Nat} {q:IntKind} {z cur:List Value} {H:Fh}
def iE (g size k cap m:Nat):Value:= .slice (if cap=m then some ⟨g,0,none⟩ else some ⟨g,m*size,none⟩) (k - m) (cap - m)
theorem wL {agg:Bool} [sl:Sl P S E] [t:Ty P E agg z] (hs:Slots a n L) (h1:m≤k) (hc:k≤cap) (hx:ev L x=some (.slice (some ⟨g,0,none⟩) k cap):=by with_unfolding_all exact rfl) (hl:ev L lo=some (.int q (m:Int)):=by with_unfolding_all exact rfl) (hd:Nat.blt d n=true:=by with_unfolding_all exact rfl)
  (c:∀a',Slots a' n ((d,iE g z.length k cap m)::L)→wpList P ops Q aD a' W):wpList P ops Q (⟨some d,.slice S x (some lo) none none,T,p,e,none⟩::aD) a W:=by
 have hb:(Instr.sliceBound (.int q (m:Int)) k .sliceB).run P W= .ok m W:=by
  have:(0:Int)≤(m:Int)∧(m:Int)≤(k:Int):=⟨by omega,by omega⟩
  simp only [Instr.sliceBound,asIntOf,Sem.run_bind,Sem.run_pure,Result.andThen_ok]
  rw [if_pos this]
  simp
 have hbs:(Instr.sliceBounds true k cap (some (.int q (m:Int))) none none).run P W= .ok (m,k,cap) W:=by
  unfold Instr.sliceBounds
  simp [hb]
 refine bO hs hd (v:=iE g z.length k cap m) (W':=W) ?_ c
 simp only [execOp,Option.map_some,Option.map_none,hs.ev hx,hs.ev hl,Instr.sliceAt,Instr.slice,Sem.run_bind,run_underlying sl.out,Result.andThen_ok,hbs,t.sizeOf,Sem.run_pure]
 unfold iE
 by_cases h0:cap=m
 ·simp [h0]
 ·rw [if_neg h0,if_neg h0];simp [eF]
theorem aAt (hg:W.heap[g]? =some (.cells ⟨cur⟩ E (0,0))) (hl:cur.length=cap*size) (hc:k≤cap) (h1:m≤k) (hm:cap≤maxLen):Rd W size (iE g size k cap m) (k - m) ((cur.take (k*size)).drop (m*size)):=by
 have e1:k*size≤cap*size:=Nat.mul_le_mul_right _ hc
 have e2:m*size≤k*size:=Nat.mul_le_mul_right _ h1
 unfold iE
 refine ⟨by rw [List.length_drop,List.length_take,Nat.sub_mul];omega,_,_,rfl,by omega,by unfold maxLen at hm;omega,?_⟩
 by_cases h0:cap=m
 ·exact .inl (by omega)
 ·refine .inr ⟨g,m*size,by rw [if_neg h0],jA hg,fun j u hu=>?_⟩
  rw [List.getElem?_drop,List.getElem?_take] at hu
  split at hu
  ·rw [hC hg];exact hu
  ·cases hu
end
section
variable {P:Program} {ops:Array Oper} {aD:List Oper} {Q:Exit→Act→World→Prop} {a:Act} {n:Nat} {L:List (Nat×Value)} {W:World} {d:Nat} {T S E:TypeId} {p:String} {e:Array Edge} {x hi:Operand} {g o k m cap:Nat} {q:IntKind} {z:List Value}
theorem wM {agg:Bool} [sl:Sl P S E] [t:Ty P E agg z] (hs:Slots a n L) (h1:m≤k) (hc:k≤cap) (h0:0<cap) (hx:ev L x=some (.slice (some ⟨g,o,none⟩) k cap):=by with_unfolding_all exact rfl) (hl:ev L hi=some (.int q (m:Int)):=by with_unfolding_all exact rfl) (hd:Nat.blt d n=true:=by with_unfolding_all exact rfl)
  (c:∀a',Slots a' n ((d,.slice (some ⟨g,o,none⟩) m cap)::L)→wpList P ops Q aD a' W):wpList P ops Q (⟨some d,.slice S x none (some hi) none,T,p,e,none⟩::aD) a W:=by
 have hb:(Instr.sliceBound (.int q (m:Int)) cap .sliceAcap).run P W= .ok m W:=by
  have:(0:Int)≤(m:Int)∧(m:Int)≤(cap:Int):=⟨by omega,by omega⟩
  simp only [Instr.sliceBound,asIntOf,Sem.run_bind,Sem.run_pure,Result.andThen_ok]
  rw [if_pos this]
  simp
 have hbs:(Instr.sliceBounds true k cap none (some (.int q (m:Int))) none).run P W= .ok (0,m,cap) W:=by
  unfold Instr.sliceBounds
  simp [hb]
 refine bO hs hd (v:= .slice (some ⟨g,o,none⟩) m cap) (W':=W) ?_ c
 simp only [execOp,Option.map_some,Option.map_none,hs.ev hx,hs.ev hl,Instr.sliceAt,Instr.slice,Sem.run_bind,run_underlying sl.out,Result.andThen_ok,hbs,t.sizeOf,Sem.run_pure]
 by_cases h9:cap=0
 ·omega
 ·simp [h9,eF]
end
end Go.Sx
namespace Go.Proofs.YtgpbngfehfbndaaGreatDoor.Sw
open Go.RowKit Go.Sx
def gL (t:dU) (fr_ n:Int):List cD:=
 if fr_<1∨(t.rows.length:Int)<fr_∨n<1 then [] else (t.rows.drop (fr_ - 1).toNat).take (min n.toNat 10)
section
variable {P:Program} {ops:Array Oper} {aD:List Oper} {Q:Exit→Act→World→Prop} {a:Act} {n:Nat} {L:List (Nat×Value)} {W:World} {d:Nat} {T:TypeId} {p:String} {e:Array Edge} {x y z:Operand} {i j k:Int} {q q' q'':IntKind}
theorem aGC {ts:Array TypeId} (hs:Slots a n L) (v:Int) (hv:(if k<(if j<i then j else i) then k else (if j<i then j else i))=v) (hx:ev L x=some (.int q i):=by with_unfolding_all exact rfl) (hy:ev L y=some (.int q' j):=by with_unfolding_all exact rfl) (hz:ev L z=some (.int q'' k):=by with_unfolding_all exact rfl) (hd:Nat.blt d n=true:=by with_unfolding_all exact rfl)
  (c:∀a',Slots a' n ((d,.int q v)::L)→wpList P ops Q aD a' W):wpList P ops Q (⟨some d,.call {callee:= .builtin .min,args:=#[x,y,z],argTypes:=ts},T,p,e,none⟩::aD) a W:=by
 subst hv
 exact bO hs hd (by simp only [execOp,resolve,invoke,builtin,List.map_toArray,List.map_cons,List.map_nil,hs.ev hx,hs.ev hy,hs.ev hz,Sem.run_bind,Sem.run_pure,Result.andThen_ok,run_min_int3]) c
end
theorem aGD (w0 W:World) (H:Fh) (p:Nat) (t:dU) (from_ n:Int) (R:List Res) (hl:t.rows.length≤1000000) (h8:∀r∈t.rows,r.b.l.length≤1000) (hw:Has 0 w0 W (aO H p t::Fz H::R)):
  Calls Tryz.prog 110 ⟨[.pointer (some ⟨p,0,none⟩),.int .i64 from_,.int .i64 n]⟩ W fun e W'=>∃v H',e= .returned v∧H.le H'∧i0 H' v (gL t from_ n)∧Has 0 w0 W' (aO H' p t::Fz H'::R):=by
 obtain ⟨pf,vad,vcap,xs,hch,hw⟩:=kO hw
 have hnil:i0 H (.slice none 0 0) []:=⟨[],RdH.nil _ _ _ (by omega),rfl⟩
 refine enter Tryz.func110 Tryz.ntmps110 rfl rfl fun a hs=>?_
 refine zC hs hw ?_;clear hs;intro a hs
 cases c1:decide (from_<1) with
 |true=>
  rw [c1] at hs
  have hX:gL t from_ n= []:=by unfold gL;rw [if_pos (.inl (of_decide_eq_true c1))]
  rw [hX]
  refine zC hs hw ?_;clear hs;intro a hs
  exact rt1 hs rfl rfl ⟨_,H,rfl,Fh.le.refl _,hnil,fU hw hch⟩
 |false=>
 rw [c1] at hs
 have g1:=of_decide_eq_false c1
 refine zC hs hw ?_;clear hs;intro a hs
 cases c2:decide (from_ > (t.rows.length:Int)) with
 |true=>
  rw [c2] at hs
  have hX:gL t from_ n= []:=by unfold gL;rw [if_pos (.inr (.inl (of_decide_eq_true c2)))]
  rw [hX]
  refine zC hs hw ?_;clear hs;intro a hs
  exact rt1 hs rfl rfl ⟨_,H,rfl,Fh.le.refl _,hnil,fU hw hch⟩
 |false=>
 rw [c2] at hs
 have g2:=of_decide_eq_false c2
 refine zC hs hw ?_;clear hs;intro a hs
 cases c3:decide (n<1) with
 |true=>
  rw [c3] at hs
  have hX:gL t from_ n= []:=by unfold gL;rw [if_pos (.inr (.inr (of_decide_eq_true c3)))]
  rw [hX]
  refine zC hs hw ?_;clear hs;intro a hs
  exact rt1 hs rfl rfl ⟨_,H,rfl,Fh.le.refl _,hnil,fU hw hch⟩
 |false=>
 rw [c3] at hs
 have g3:=of_decide_eq_false c3
 obtain ⟨k,hk⟩:∃k:Nat,from_ - 1=(k:Int):=⟨(from_ - 1).toNat,by omega⟩
 obtain ⟨mn,hmn⟩:∃m:Nat,m=min (t.rows.length - k) (min n.toNat 10):=⟨_,rfl⟩
 have hX:gL t from_ n=(t.rows.drop k).take mn:=by
  unfold gL
  rw [if_neg (by omega),hk,Int.toNat_natCast]
  have hld:(t.rows.drop k).length=t.rows.length - k:=List.length_drop
  by_cases h:min n.toNat 10≤t.rows.length - k
  ·rw [show mn=min n.toNat 10 by omega]
  ·rw [List.take_of_length_le (by omega),List.take_of_length_le (by omega)]
 rw [hX]
 have hkM:k<t.rows.length:=by omega
 have hw:Has 0 w0 W (Sx.Own 68 5 (.slice vad t.rows.length vcap) t.rows.length xs::aA p [.int .i64 t.ix,.pointer (some ⟨pf,0,none⟩),.slice vad t.rows.length vcap] 201::aS H pf t.f::Fz H::R):=hw.pm
 obtain ⟨g,cur,rfl,hcur,hcl0,hkc,hcm,hw⟩:=hw.open_own (by omega)
 refine zC hs hw ?_;clear hs;intro a hs
 have ew:IntKind.i64.wrap (from_ - 1)=(k:Int):=by rw [hk,IntWalk.i64_in _ (by omega)]
 rw [ew] at hs
 refine wL hs (z:=zrc) (m:=k) (h1:=by omega) (hc:=hkc) (c:=?_);clear hs;intro a hs
 have et:iE g zrc.length t.rows.length vcap k= .slice (some ⟨g,k*5,none⟩) (t.rows.length - k) (vcap - k):=by
  unfold iE
  rw [if_neg (by omega)]
  rfl
 rw [et] at hs
 refine zC hs hw ?_;clear hs;intro a hs
 refine aGC hs (v:=(mn:Int)) (i:=((t.rows.length - k:Nat):Int)) (j:=n) (k:=10) (hv:=by rw [hmn];split <;> split <;> omega) (c:=?_);clear hs;intro a hs
 refine wM hs (z:=zrc) (m:=mn) (k:=t.rows.length - k) (cap:=vcap - k) (h1:=by omega) (hc:=by omega) (h0:=by omega) (c:=?_);clear hs;intro a hs
 refine zA hs hw ?_;clear hs;intro a hs
 have hw:=hw.nilOwn 68 5
 have hmr:mn≤t.rows.length - k:=by omega
 have hml:((t.rows.drop k).take mn).length=mn:=by rw [List.length_take,List.length_drop];omega
 obtain ⟨ro,hro⟩:∃x,(t.rows.drop k).take mn=x:=⟨_,rfl⟩
 rw [hro] at hml⊢
 have hroi:∀j r,ro[j]? =some r→t.rows[k+j]? =some r:=by
  intro j r h
  rw [←hro,List.getElem?_take] at h
  split at h
  ·rw [List.getElem?_drop] at h;exact h
  ·cases h
 refine bX (σ:=Nat×Option Addr×Nat×List Value×Fh) (fun u=>[(42,.slice (some ⟨g,k*5,none⟩) mn (vcap - k)),(43,.int .i64 (mn:Int)),(44,.int .i64 (u.1:Int)),(8,.slice u.2.1 (ro.take u.1).length u.2.2.1)]) (fun u=>Sx.Own 68 5 (.slice u.2.1 (ro.take u.1).length u.2.2.1) (ro.take u.1).length u.2.2.2.1::Fz u.2.2.2.2::aA g cur 68::aA p [.int .i64 t.ix,.pointer (some ⟨pf,0,none⟩),.slice (some ⟨g,0,none⟩) t.rows.length vcap] 201::aS H pf t.f::R) (fun u=>u.1≤mn∧H.le u.2.2.2.2∧Ch (RowIn u.2.2.2.2) (ro.take u.1) u.2.2.2.1) (fun u=>mn - u.1) (0,none,0,[],H) ⟨Nat.zero_le _,Fh.le.refl _,rfl⟩ hs ⟨rfl,rfl,rfl,rfl,trivial⟩ (hw.pm) ?_
 clear hs hw
 rintro ⟨j,oad,ocap,ys,H'⟩ a W ⟨hj,hH',hch2⟩ hs hw
 simp only at hj hH' hch2 hs hw
 refine zA hs hw ?_;clear hs;intro a hs
 refine cI hs (kt:=fun hcc=>?_) (kf:=fun hcc=>?_)
 ·have hj':j<mn:=by simpa using hcc
  obtain ⟨r,hri⟩:∃o,ro[j]? =some o:=⟨ro[j]'(by omega),List.getElem?_eq_getElem _⟩
  have hri0:=hroi j r hri
  have hok:=h8 r (List.mem_of_getElem? hri0)
  have htk:(ro.take j).length≤1000000:=by rw [List.length_take];omega
  obtain ⟨c0,⟨ov0,rfl,hov⟩,hcut⟩:=hch.mem RowIn.len hri0
  obtain ⟨rad,rcap,rfl⟩:=hov.slice
  refine zG hs ?_
  refine eG hs (z:=zrc) (h0:=by omega) (h1:=by omega) (c:=?_);clear hs;intro a hs
  refine eC hs (z:=zrc) (cs:=aJ r (.slice rad r.b.l.length rcap)) (hc:=fun m u h=>by
   rw [hC (hw.block (In.tl (In.tl In.hd))).1]
   have:=Ch.at_cur (R:=RowIn H) (l:=t.rows) (a:=r) (j:=m) hcut hcur h
   rw [←this]
   congr 1
   show k*5+j*5+m=(k+j)*5+m
   omega) (hl:=by rfl) (c:=?_);clear hs;intro a hs
  repeat (first|(refine sxv hs hw ?_;clear hs;intro a hs)|refine sxc hs ?_|(refine sxa hs hw ?_;clear hs hw;intro a b W hw hs)|(refine sxs hs hw ?_;clear hs hw;intro W hs hw))
  obtain ⟨b5,q5⟩:=nm1 hw;subst q5
  have hw:Has 0 w0 _ (Fz H'::Sx.Own 68 5 (.slice oad (ro.take j).length ocap) (ro.take j).length ys::aA g cur 68::aA p [.int .i64 t.ix,.pointer (some ⟨pf,0,none⟩),.slice (some ⟨g,0,none⟩) t.rows.length vcap] 201::aS H pf t.f::aA b5 (aJ r (.slice rad r.b.l.length rcap)) 68::R):=hw.pm
  refine aF hs (hc:=aAs w0 _ H' r _ _ hok (hov.le hH') hw) (k:=?_);rintro e0 W1 ⟨nv,H2,rfl,hle,hnv,hw1⟩;refine ⟨_,rfl,?_⟩;clear hs hw;intro a hs;have hw:=hw1;clear hw1
  obtain ⟨nad,ncap,rfl⟩:=hnv.slice
  repeat (first|(refine sxv hs hw ?_;clear hs;intro a hs)|refine sxc hs ?_|(refine sxa hs hw ?_;clear hs hw;intro a b W hw hs)|(refine sxs hs hw ?_;clear hs hw;intro W hs hw))
  obtain ⟨bx,qx⟩:=nm1 hw;subst qx
  have hw:Has 0 w0 _ (Sx.Own 68 5 (.slice oad (ro.take j).length ocap) (ro.take j).length ys::aA bx (aJ r (.slice nad r.b.l.length ncap)) 68::Fz H2::aA g cur 68::aA p [.int .i64 t.ix,.pointer (some ⟨pf,0,none⟩),.slice (some ⟨g,0,none⟩) t.rows.length vcap] 201::aS H pf t.f::aA b5 (aJ r (.slice rad r.b.l.length rcap)) 68::R):=hw.pm
  refine jB hs (hw:=hw) (hi:=In.hd) (ch:=hch2.mono (RowIn.le hle)) (ha:=(⟨_,rfl,hnv⟩:RowIn H2 r (aJ r (.slice nad r.b.l.length ncap)))) (hl:=rfl) (h1:=rfl) (hb:=by omega) (h63:=by omega) (k:=?_)
  clear hs hw;intro a ad2 cap2 W hs hw hc2
  rw [←fS hri] at hs hw hc2
  refine zA hs hw ?_;clear hs;intro a hs
  have hw:=hw.sub (L':=Sx.Own 68 5 (.slice ad2 (ro.take (j+1)).length cap2) (ro.take (j+1)).length (ys ++ aJ r (.slice nad r.b.l.length ncap))::Fz H2::aA g cur 68::aA p [.int .i64 t.ix,.pointer (some ⟨pf,0,none⟩),.slice (some ⟨g,0,none⟩) t.rows.length vcap] 201::aS H pf t.f::R) (List.Sublist.cons_cons _ (List.Sublist.cons _ (List.Sublist.cons_cons _ (List.Sublist.cons_cons _ (List.Sublist.cons_cons _ (List.Sublist.cons_cons _ (List.Sublist.cons _ (List.Sublist.refl _))))))))
  exact bR (j+1,ad2,cap2,ys ++ aJ r (.slice nad r.b.l.length ncap),H2) hs hw ⟨hj',hH'.trans hle,hc2⟩ (by show mn - (j+1)<mn - j;omega) ⟨rfl,rfl,bS (by show IntKind.i64.wrap ((j:Int)+1)=((j+1:Nat):Int);rw [IntWalk.i64_in _ (by omega)];omega),rfl,trivial⟩
 ·have hj':j=mn:=by
   have:¬j<mn:=by simpa using hcc
   omega
  have htr:ro.take j=ro:=List.take_of_length_le (by omega)
  rw [htr] at hs hw hch2
  refine zA hs hw ?_;clear hs;intro a hs
  have hw:Has 0 w0 W (aA g cur 68::Sx.Own 68 5 (.slice oad ro.length ocap) ro.length ys::Fz H'::aA p [.int .i64 t.ix,.pointer (some ⟨pf,0,none⟩),.slice (some ⟨g,0,none⟩) t.rows.length vcap] 201::aS H pf t.f::R):=hw.pm
  have hw:=hw.shut_own (k:=t.rows.length) (size:=5) hcur hcl0 hkc hcm
  have hw:Has 0 w0 W (Sx.Own 68 5 (.slice oad ro.length ocap) ro.length ys::Fz H'::Sx.Own 68 5 (.slice (some ⟨g,0,none⟩) t.rows.length vcap) t.rows.length xs::aA p [.int .i64 t.ix,.pointer (some ⟨pf,0,none⟩),.slice (some ⟨g,0,none⟩) t.rows.length vcap] 201::aS H pf t.f::R):=hw.pm
  obtain ⟨H2,hle,hw,hrd⟩:=hw.freeze_own
  have hw:Has 0 w0 W (aS H pf t.f::aA p [.int .i64 t.ix,.pointer (some ⟨pf,0,none⟩),.slice (some ⟨g,0,none⟩) t.rows.length vcap] 201::Sx.Own 68 5 (.slice (some ⟨g,0,none⟩) t.rows.length vcap) t.rows.length xs::Fz H2::R):=hw.pm
  have hle2:=hH'.trans hle
  have hw:=fU (jX hw hle2).swap2 (hch.mono (RowIn.le hle2))
  exact rt1 hs rfl rfl ⟨_,H2,rfl,hle2,⟨ys,hrd,hch2.mono (RowIn.le hle)⟩,hw⟩
theorem aAu {l:List cD} (h:∀r∈l,(dX r).length≤1300):(l.flatMap dX).length≤l.length*1300:=by
 induction l with
 |nil=>simp
 |cons r l ih=>
  have h1:=h r (by simp)
  have h2:=ih fun q hq=>h q (by simp [hq])
  simp only [List.flatMap_cons,List.length_append,List.length_cons]
  omega
theorem aAv {r:cD} (h:dP r.b=true):(dX r).length≤1300:=by
 have h1:(cT r.b).length≤1200:=(mI h).2.2.2.2
 have h2:=Ph.putI_length_le ((cT r.b).length:Int)
 unfold dX Ph.putT
 rw [List.length_append]
 omega
theorem aAw (w0 W : World) (H : Fh) (p : Nat) (t : dU) (R : List Res) (hl : t.rows.length ≤ 200000) (hix : i64 t.ix) (hb : ∀ r ∈ t.rows, gW r.b ∧ dP r.b = true) (hH : (fr w0).le H) (hT : Tabs w0) (hw : Has 0 w0 W (aO H p t :: Fz H :: R)) :
    Calls Tryz.prog 69 ⟨[.pointer (some ⟨p, 0, none⟩)]⟩ W fun e W' => e = .returned (.string ⟨(jI t).toArray⟩) ∧ Has 0 w0 W' (aO H p t :: Fz H :: R) := by
  obtain ⟨pf, vad, vcap, xs, hch, hw⟩ := kO hw
  refine enter Tryz.func69 Tryz.ntmps69 rfl rfl fun a hs => ?_
  refine zC hs hw ?_; clear hs; intro a hs
  have hpi := Ph.putI_length_le t.ix
  have hpl := Ph.putI_length_le (t.rows.length : Int)
  have hw : Has 0 w0 _ (Sx.OwnB 5 (.slice none 0 0) [] :: aA p [.int .i64 t.ix, .pointer (some ⟨pf, 0, none⟩), .slice vad t.rows.length vcap] 201 :: aS H pf t.f :: Sx.Own 68 5 (.slice vad t.rows.length vcap) t.rows.length xs :: Fz H :: R) := (hw.nilOwn 5 1).pm
  refine fL (σ := Option Addr × Nat) (V := fun u => [.pointer (some ⟨p, 0, none⟩), .pointer (some ⟨p, 0, none⟩), .pointer (some ⟨p, 0 + 0, none⟩), .int .i64 t.ix, (.slice (u 4).1 (Ph.putI t.ix).length (u 4).2), .pointer (some ⟨p, 0, none⟩), .pointer (some ⟨p, 0, none⟩), .pointer (some ⟨p, 0 + 2, none⟩), .slice vad t.rows.length vcap, .int .i64 (t.rows.length : Int), (.slice (u 10).1 ((Ph.putI t.ix) ++ (Ph.putI (t.rows.length : Int))).length (u 10).2), (.slice (u 11).1 ((Ph.putI t.ix) ++ (Ph.putI (t.rows.length : Int))).length (u 11).2)])
    (Rs := fun u D => (if D 11 then Sx.OwnB 5 (.slice (u 11).1 ((Ph.putI t.ix) ++ (Ph.putI (t.rows.length : Int))).length (u 11).2) ((Ph.putI t.ix) ++ (Ph.putI (t.rows.length : Int))) else if D 10 then Sx.OwnB 5 (.slice (u 10).1 ((Ph.putI t.ix) ++ (Ph.putI (t.rows.length : Int))).length (u 10).2) ((Ph.putI t.ix) ++ (Ph.putI (t.rows.length : Int))) else if D 4 then Sx.OwnB 5 (.slice (u 4).1 (Ph.putI t.ix).length (u 4).2) (Ph.putI t.ix) else Sx.OwnB 5 (.slice none 0 0) []) :: aA p [.int .i64 t.ix, .pointer (some ⟨pf, 0, none⟩), .slice vad t.rows.length vcap] 201 :: aS H pf t.f :: Sx.Own 68 5 (.slice vad t.rows.length vcap) t.rows.length xs :: Fz H :: R) (fun _ => (none, 0)) hs hw (hVu := ?vu_1) (ho := ⟨?_, ?_, ?_, ?_, ?c4_1, ?_, ?_, ?_, ?_, ?_, ?c10_1, ?c11_1, trivial⟩) (k := ?k_1)
  case vu_1 =>
    intro u u' j h
    rcases j with _ | _ | _ | _ | _ | _ | _ | _ | _ | _ | _ | _ | j
    all_goals first | rfl | simp [h]
  case c4_1 =>
    intro u LD D a W hcl hi hp hs hw
    have hA := Go.Sx.not_done hcl hi 10 (by kernel_rfl)
    have hB := Go.Sx.not_done hcl hA 11 (by kernel_rfl)
    simp only [hi, hA, hB, Bool.false_eq_true, if_false] at hw
    refine aF hs (hc := eJ w0 _ (.slice none 0 0) [] t.ix _ hix.1 hix.2 (by simp) hw) (k := ?_); rintro e0 W1 ⟨ad, cap, rfl, hw1⟩; refine ⟨_, rfl, ?_⟩; clear hs hw; intro a hs; have hw := hw1; clear hw1
    rw [List.nil_append] at hs hw
    refine zG hs ?_
    refine Or.inr ⟨(ad, cap), hs, ?_⟩
    show Has 0 w0 _ ((if (Nat.beq 11 4 || D 11) = true then _ else if (Nat.beq 10 4 || D 10) = true then _ else _) :: _)
    rw [hA, hB]
    exact hw
  case c10_1 =>
    intro u LD D a W hcl hi hp hs hw
    have hB := Go.Sx.not_done hcl hi 11 (by kernel_rfl)
    have h4 := Go.Sx.done hp 4 (by kernel_rfl)
    simp only [hi, h4, hB, Bool.false_eq_true, if_false, if_true] at hw
    refine aF hs (hc := eJ w0 _ _ (Ph.putI t.ix) (t.rows.length : Int) _ (by omega) (by omega) (by omega) hw) (k := ?_); rintro e0 W1 ⟨ad, cap, rfl, hw1⟩; refine ⟨_, rfl, ?_⟩; clear hs hw; intro a hs; have hw := hw1; clear hw1
    refine zG hs ?_
    refine Or.inr ⟨(ad, cap), hs, ?_⟩
    show Has 0 w0 _ ((if (Nat.beq 11 10 || D 11) = true then _ else _) :: _)
    rw [hB]
    exact hw
  case c11_1 =>
    intro u LD D a W hcl hi hp hs hw
    have hA := Go.Sx.done hp 10 (by kernel_rfl)
    simp only [hi, hA, Bool.false_eq_true, if_false, if_true] at hw
    refine zA hs hw ?_; clear hs; intro a hs
    exact Or.inr ⟨u 10, hs, hw⟩
  case k_1 =>
    clear hs hw
    intro u a W hs hw
    replace hw : Has 0 w0 W (Sx.OwnB 5 (.slice (u 11).1 ((Ph.putI t.ix) ++ (Ph.putI (t.rows.length : Int))).length (u 11).2) ((Ph.putI t.ix) ++ (Ph.putI (t.rows.length : Int))) :: aA p [.int .i64 t.ix, .pointer (some ⟨pf, 0, none⟩), .slice vad t.rows.length vcap] 201 :: aS H pf t.f :: Sx.Own 68 5 (.slice vad t.rows.length vcap) t.rows.length xs :: Fz H :: R) := hw
    replace hs : Slots a 37 [(3, (.slice (u 11).1 ((Ph.putI t.ix) ++ (Ph.putI (t.rows.length : Int))).length (u 11).2)), (0, .pointer (some ⟨p, 0, none⟩))] := hs.of ⟨rfl, rfl, trivial⟩
    generalize (u 11).1 = ad1 at *
    generalize (u 11).2 = cap1 at *
    clear u
    have ez : (Ph.putI t.ix) ++ (Ph.putI (t.rows.length : Int)) = (Ph.putI t.ix ++ (Ph.putI (t.rows.length : Int) ++ (t.rows.take 0).flatMap dX)) := by simp
    rw [ez] at hs hw
    refine zC hs hw ?_; clear hs; intro a hs
    refine bX (σ := Nat × Option Addr × Nat) (fun u => [(22, .slice vad t.rows.length vcap), (23, .int .i64 (t.rows.length : Int)), (24, .int .i64 (u.1 : Int)), (3, .slice u.2.1 (Ph.putI t.ix ++ (Ph.putI (t.rows.length : Int) ++ (t.rows.take u.1).flatMap dX)).length u.2.2)]) (fun u => Sx.OwnB 5 (.slice u.2.1 (Ph.putI t.ix ++ (Ph.putI (t.rows.length : Int) ++ (t.rows.take u.1).flatMap dX)).length u.2.2) (Ph.putI t.ix ++ (Ph.putI (t.rows.length : Int) ++ (t.rows.take u.1).flatMap dX)) :: aA p [.int .i64 t.ix, .pointer (some ⟨pf, 0, none⟩), .slice vad t.rows.length vcap] 201 :: aS H pf t.f :: Sx.Own 68 5 (.slice vad t.rows.length vcap) t.rows.length xs :: Fz H :: R) (fun u => u.1 ≤ t.rows.length) (fun u => t.rows.length - u.1) (0, ad1, cap1) (Nat.zero_le _) hs ⟨rfl, rfl, rfl, rfl, trivial⟩ hw ?_
    clear hs hw
    rintro ⟨j, oad, ocap⟩ a W hj hs hw
    simp only at hj hs hw
    refine zA hs hw ?_; clear hs; intro a hs
    refine cI hs (kt := fun hcc => ?_) (kf := fun hcc => ?_)
    · have hj' : j < t.rows.length := by simpa using hcc
      obtain ⟨r, hri⟩ : ∃ o, t.rows[j]? = some o := ⟨t.rows[j], List.getElem?_eq_getElem hj'⟩
      obtain ⟨hbo, hmb⟩ := hb r (List.mem_of_getElem? hri)
      have hfl : ((t.rows.take j).flatMap dX).length ≤ (t.rows.take j).length * 1300 := aAu fun q hq => aAv (hb q (List.mem_of_mem_take hq)).2
      have htl : (t.rows.take j).length ≤ 200000 := by rw [List.length_take]; omega
      have hacc : (Ph.putI t.ix ++ (Ph.putI (t.rows.length : Int) ++ (t.rows.take j).flatMap dX)).length ≤ 300000000 := by
        simp only [List.length_append]
        omega
      have hnext : (Ph.putI t.ix ++ (Ph.putI (t.rows.length : Int) ++ (t.rows.take j).flatMap dX)) ++ Ph.putT (cT r.b) = (Ph.putI t.ix ++ (Ph.putI (t.rows.length : Int) ++ (t.rows.take (j + 1)).flatMap dX)) := by
        rw [fS hri]
        simp [dX]
      have he12 : (cT r.b).length ≤ 1200 := (mI hmb).2.2.2.2
      obtain ⟨acc, hae⟩ : ∃ x, (Ph.putI t.ix ++ (Ph.putI (t.rows.length : Int) ++ (t.rows.take j).flatMap dX)) = x := ⟨_, rfl⟩
      rw [hae] at hs hw hacc hnext
      refine zG hs ?_
      refine fZ hs (r := hw.rd_own (In.tl (In.tl (In.tl In.hd)))) (hk := RowIn.len) (ch := hch) (ho := hri) (hlen := rfl) (c := ?_); clear hs; intro a g off c hc hcl hpc hlt hs
      obtain ⟨rv, rfl, hrv⟩ := hc
      obtain ⟨rad, rcap, rfl⟩ := hrv.slice
      refine eC hs (cs := aJ r (.slice rad r.b.l.length rcap)) (hc := hpc) (hl := by rfl) (c := ?_); clear hs; intro a hs
      clear hpc
      repeat (first | (refine sxv hs hw ?_; clear hs; intro a hs) | refine sxc hs ?_ | (refine sxa hs hw ?_; clear hs hw; intro a b W hw hs) | (refine sxs hs hw ?_; clear hs hw; intro W hs hw))
      refine aF hs (hc := pD r.b.c r.b.q r.b.l _ _ hbo.c hbo.q hbo.ops (hw.rdH (by repeat (first | exact In.hd | apply In.tl)) hrv) (hT.keep (hw.endF (by repeat (first | exact In.hd | apply In.tl)) hH))) (k := ?_); rintro e0 W1 ⟨ead, ecap, rfl, _, hw1⟩; refine ⟨_, rfl, ?_⟩; clear hs; intro a hs; replace hw := hw.call hw1; clear hw1
      have hif : (if dM r.b.c r.b.q r.b.l = true then d9 r.b.c r.b.q r.b.l else []) = cT r.b := by rw [if_pos (show dM r.b.c r.b.q r.b.l = true from hmb)]; rfl
      rw [hif] at hs hw
      refine l7 hs (r := hw.rd_own In.hd) (k := ?_); clear hs; intro a hs
      obtain ⟨b5, q5⟩ : ∃ x : Nat, x = 0 := ⟨0, rfl⟩
      clear b5 q5
      have hw := hw.sub (List.Sublist.cons _ (List.Sublist.refl _))
      have hw := hw.swap2
      refine aF hs (hc := oR w0 _ _ acc ⟨(cT r.b).toArray⟩ _ (by show (cT r.b).length ≤ _; omega) (by omega) hw) (k := ?_); rintro e0 W1 ⟨ad, cap, rfl, hw1⟩; refine ⟨_, rfl, ?_⟩; clear hs hw; intro a hs; have hw := hw1; clear hw1
      have hds : ((⟨(cT r.b).toArray⟩ : ByteArray).data.toList) = cT r.b := rfl
      rw [hds, hnext] at hs hw
      refine zA hs hw ?_; clear hs; intro a hs
      have hw := hw.sub (L' := Sx.OwnB 5 (.slice ad (Ph.putI t.ix ++ (Ph.putI (t.rows.length : Int) ++ (t.rows.take (j + 1)).flatMap dX)).length cap) (Ph.putI t.ix ++ (Ph.putI (t.rows.length : Int) ++ (t.rows.take (j + 1)).flatMap dX)) :: aA p [.int .i64 t.ix, .pointer (some ⟨pf, 0, none⟩), .slice vad t.rows.length vcap] 201 :: aS H pf t.f :: Sx.Own 68 5 (.slice vad t.rows.length vcap) t.rows.length xs :: Fz H :: R) (List.Sublist.cons_cons _ (List.Sublist.cons _ (List.Sublist.refl _)))
      exact bR (j + 1, ad, cap) hs hw hj' (by show t.rows.length - (j + 1) < t.rows.length - j; omega) ⟨rfl, rfl, bS (by show IntKind.i64.wrap ((j : Int) + 1) = ((j + 1 : Nat) : Int); rw [IntWalk.i64_in _ (by omega)]; omega), rfl, trivial⟩
    · have hj' : j = t.rows.length := by have : ¬ j < t.rows.length := by simpa using hcc
                                         omega
      have hdt : (Ph.putI t.ix ++ (Ph.putI (t.rows.length : Int) ++ (t.rows.take j).flatMap dX)) = jI t := by
        rw [hj', List.take_length]; rfl
      rw [hdt] at hs hw
      refine zA hs hw ?_; clear hs; intro a hs
      refine l7 hs (r := hw.rd_own In.hd) (k := ?_); clear hs; intro a hs
      refine zA hs hw ?_; clear hs; intro a hs
      have hw := hw.sub (List.Sublist.cons _ (List.Sublist.refl _))
      exact rt1 hs rfl rfl ⟨rfl, fU hw hch⟩
  all_goals
    intro u LD D a W hcl hi hp hs hw
    refine zA hs hw ?_; clear hs; intro a hs
    exact Or.inl ⟨hs, hw⟩
end Go.Proofs.YtgpbngfehfbndaaGreatDoor.Sw
namespace Go.Sx
open Go.RowKit
theorem Has.rdM {G b cap:Nat} {w W W0:World} {R:List Res} {E:TypeId} {l:List UInt8} {ext:List Value} (h:Has G w W R) (i:In (eM b (bys l ++ ext) E) R) (r0:RdB W0 (.slice (some ⟨b,0,none⟩) l.length cap) l):RdB W (.slice (some ⟨b,0,none⟩) l.length cap) l:=by
 obtain ⟨h1,ad,c2,e,h3,h4,h5⟩:=r0
 injection e with e1 e2 e3
 subst e1 e3
 refine ⟨h1,_,_,rfl,h3,h4,.inr ⟨b,0,rfl,(h.blockM i).2.2,fun j u hj=>?_⟩⟩
 rw [aAq (h.blockM i).1,Nat.zero_add]
 have hj2:=(List.getElem?_eq_some_iff.1 hj).1
 rw [List.getElem?_append_left hj2];exact hj
end Go.Sx
namespace Go.Proofs.YtgpbngfehfbndaaGreatDoor.Sw
open Go.RowKit Go.Sx
theorem mJ {l:List UInt8} (h:kM l=none):eZ l=none:=by unfold eZ;rw [h]
theorem aGE (m : Nat) (f : dV) (rs : List cD) (s : List UInt8) : jY (m + 1) f rs s = match (Ph.getT s).2.2 == 0, decode (Ph.getT s).1 with
    | true, some p => (match (next f (lO p)).2.2 with
       | true => jY m (next f (lO p)).1 (rs ++ [(next f (lO p)).2.1]) (s.drop (Ph.getT s).2.1)
       | false => none)
    | _, _ => none := rfl
theorem aGF (w0 W:World) (H:Fh) (s:ByteArray) (R:List Res) (hl:s.size≤200000) (hH:(fr w0).le H) (hT:Tabs w0) (hw:Has 0 w0 W (Fz H::R)):
  Calls Tryz.prog 91 ⟨[.string s]⟩ W fun e W'=>∃H',H.le H'∧((eZ s.data.toList=none∧e= .returned (.tuple ⟨[.pointer none,.int .i64 1]⟩)∧Has 0 w0 W' (Fz H'::R))∨∃t p,eZ s.data.toList=some t∧e= .returned (.tuple ⟨[.pointer (some ⟨p,0,none⟩),.int .i64 0]⟩)∧Has 0 w0 W' (aO H' p t::Fz H'::R)):=by
 refine enter Tryz.func91 Tryz.ntmps91 rfl rfl fun a hs=>?_
 refine zA hs hw ?_;clear hs;intro a hs
 refine nL (s:=s) hs hw (by omega) (c:=?_);clear hs hw;intro a bb cap0 ext W hw hr0 hs
 have hll:s.data.toList.length≤200000:=by rw [Array.length_toList];exact hl
 generalize s.data.toList=l at *
 refine zA hs hw ?_;clear hs;intro a hs
 refine aF hs (hc:=nI _ _ l (hw.rdM In.hd hr0)) (k:=?_);rintro e0 W1 ⟨rfl,rfl⟩;refine ⟨_,rfl,?_⟩;clear hs;intro a hs
 have hk1:=Ph.getI_le l
 obtain ⟨⟨ix,k,err⟩,hg⟩:∃x,Ph.getI l=x:=⟨_,rfl⟩
 rw [hg] at hs hk1
 simp only at hs hk1
 refine zA hs hw ?_;clear hs;intro a hs
 cases c1:(err !=0) with
 |true=>
  rw [c1] at hs
  have he:err≠0:=by simpa using c1
  have hX:eZ l=none:=mJ (by unfold kM;rw [hg,if_neg (fun h=>he h.1)])
  refine zA hs hw ?_;clear hs;intro a hs
  exact rt2 hs rfl rfl rfl ⟨H,Fh.le.refl _,.inl ⟨hX,rfl,hw.sub (List.Sublist.cons _ (List.Sublist.refl _))⟩⟩
 |false=>
 rw [c1] at hs
 have he1:err=0:=by simpa using c1
 refine zA hs hw ?_;clear hs;intro a hs
 cases c2:decide (ix<0) with
 |true=>
  rw [c2] at hs
  have g2:=of_decide_eq_true c2
  have hX:eZ l=none:=mJ (by unfold kM;rw [hg,if_neg (fun h=>by have:=h.2.1;simp only at this;omega)])
  refine zA hs hw ?_;clear hs;intro a hs
  exact rt2 hs rfl rfl rfl ⟨H,Fh.le.refl _,.inl ⟨hX,rfl,hw.sub (List.Sublist.cons _ (List.Sublist.refl _))⟩⟩
 |false=>
 rw [c2] at hs
 have g2:=of_decide_eq_false c2
 refine zA hs hw ?_;clear hs;intro a hs
 cases c3:decide (ix > 1099511627776) with
 |true=>
  rw [c3] at hs
  have g3:=of_decide_eq_true c3
  have hX:eZ l=none:=mJ (by unfold kM;rw [hg,if_neg (fun h=>by have:=h.2.2;simp only at this;omega)])
  refine zA hs hw ?_;clear hs;intro a hs
  exact rt2 hs rfl rfl rfl ⟨H,Fh.le.refl _,.inl ⟨hX,rfl,hw.sub (List.Sublist.cons _ (List.Sublist.refl _))⟩⟩
 |false=>
 rw [c3] at hs
 have g3:=of_decide_eq_false c3
 refine zA hs hw ?_;clear hs;intro a hs
 refine oP (hs:=hs) (r:=hw.rdM In.hd hr0) (h0:=by omega) (h1:=by omega) (c:=?_);clear hs;intro a ad1 cap1 r1 hs
 rw [Int.toNat_natCast] at hs r1
 refine aF hs (hc:=nI _ _ (l.drop k) r1) (k:=?_);rintro e0 W1 ⟨rfl,rfl⟩;refine ⟨_,rfl,?_⟩;clear hs r1;intro a hs
 have hk2:=Ph.getI_le (l.drop k)
 obtain ⟨⟨n,m,err2⟩,hg2⟩:∃x,Ph.getI (l.drop k)=x:=⟨_,rfl⟩
 rw [hg2] at hs hk2
 rw [List.length_drop] at hk2
 simp only at hs hk2
 have hhd:kM l=if err2=0∧0≤n∧n≤ix∧n≤l.length then some (ix,n.toNat,l.drop (k+m)) else none:=by
  unfold kM
  rw [hg]
  simp only
  rw [hg2,if_pos ⟨he1,by omega,by omega⟩]
 refine zA hs hw ?_;clear hs;intro a hs
 cases c4:(err2 !=0) with
 |true=>
  rw [c4] at hs
  have he:err2≠0:=by simpa using c4
  have hX:eZ l=none:=mJ (by rw [hhd,if_neg (fun h=>he h.1)])
  refine zA hs hw ?_;clear hs;intro a hs
  exact rt2 hs rfl rfl rfl ⟨H,Fh.le.refl _,.inl ⟨hX,rfl,hw.sub (List.Sublist.cons _ (List.Sublist.refl _))⟩⟩
 |false=>
 rw [c4] at hs
 have he2:err2=0:=by simpa using c4
 refine zA hs hw ?_;clear hs;intro a hs
 cases c5:decide (n<0) with
 |true=>
  rw [c5] at hs
  have g5:=of_decide_eq_true c5
  have hX:eZ l=none:=mJ (by rw [hhd,if_neg (fun h=>by have:=h.2.1;omega)])
  refine zA hs hw ?_;clear hs;intro a hs
  exact rt2 hs rfl rfl rfl ⟨H,Fh.le.refl _,.inl ⟨hX,rfl,hw.sub (List.Sublist.cons _ (List.Sublist.refl _))⟩⟩
 |false=>
 rw [c5] at hs
 have g5:=of_decide_eq_false c5
 refine zA hs hw ?_;clear hs;intro a hs
 cases c6:decide (n > ix) with
 |true=>
  rw [c6] at hs
  have g6:=of_decide_eq_true c6
  have hX:eZ l=none:=mJ (by rw [hhd,if_neg (fun h=>by have:=h.2.2.1;omega)])
  refine zA hs hw ?_;clear hs;intro a hs
  exact rt2 hs rfl rfl rfl ⟨H,Fh.le.refl _,.inl ⟨hX,rfl,hw.sub (List.Sublist.cons _ (List.Sublist.refl _))⟩⟩
 |false=>
 rw [c6] at hs
 have g6:=of_decide_eq_false c6
 refine zA hs hw ?_;clear hs;intro a hs
 cases c7:decide (n > (l.length:Int)) with
 |true=>
  rw [c7] at hs
  have g7:=of_decide_eq_true c7
  have hX:eZ l=none:=mJ (by rw [hhd,if_neg (fun h=>by have:=h.2.2.2;omega)])
  refine zA hs hw ?_;clear hs;intro a hs
  exact rt2 hs rfl rfl rfl ⟨H,Fh.le.refl _,.inl ⟨hX,rfl,hw.sub (List.Sublist.cons _ (List.Sublist.refl _))⟩⟩
 |false=>
 rw [c7] at hs
 have g7:=of_decide_eq_false c7
 obtain ⟨nn,rfl⟩:=Int.eq_ofNat_of_zero_le (show 0≤n by omega)
 rw [if_pos ⟨he2,by omega,by omega,by omega⟩,Int.toNat_natCast] at hhd
 have hload:eZ l=match jY nn fT [] (l.drop (k+m)) with
   |none=>none
   |some (f,rs)=>if jI ⟨ix,f,rs⟩=l then some ⟨ix,f,rs⟩ else none:=by
  unfold eZ;rw [hhd];rfl
 refine zG hs ?_
 refine aF hs (hc:=aAr w0 _ H _ hw) (k:=?_);rintro e0 W1 ⟨p,rfl,hw1⟩;refine ⟨_,rfl,?_⟩;clear hs hw;intro a hs;have hw:=hw1;clear hw1
 refine zE hs hw ?_;clear hs;intro a hs
 have ea:IntKind.i64.wrap ((k:Int)+(m:Int))=((k+m:Nat):Int):=by rw [IntWalk.i64_in _ (by omega)];omega
 rw [ea] at hs
 refine sq ?_
 refine fC (M:=fun a W=>∃(t:dU) (H':Fh),H.le H'∧t.ix=0∧jY nn fT [] (l.drop (k+m))=some (t.f,t.rows)∧t.rows.length=nn∧(∀r∈t.rows,gW r.b∧dP r.b=true)∧Slots a 122 [(4,.slice (some ⟨bb,0,none⟩) l.length cap0),(5,.int .i64 ix),(10,.pointer (some ⟨p,0,none⟩))]∧Has 0 w0 W (aO H' p t::Fz H'::eM bb (bys l ++ ext) 5::R)) ?_ ?_
 ·refine zA hs hw ?_;clear hs;intro a hs
  refine bX (σ:=Nat×dU×Nat×Fh) (fun u=>[(4,.slice (some ⟨bb,0,none⟩) l.length cap0),(5,.int .i64 ix),(10,.pointer (some ⟨p,0,none⟩)),(11,.int .i64 (u.2.2.1:Int)),(65,.int .i64 (nn:Int)),(66,.int .i64 (u.1:Int))]) (fun u=>aO u.2.2.2 p u.2.1::Fz u.2.2.2::eM bb (bys l ++ ext) 5::R) (fun u=>u.1≤nn∧u.2.1.ix=0∧u.2.1.rows.length=u.1∧u.2.2.1≤l.length∧H.le u.2.2.2∧jY (nn - u.1) u.2.1.f u.2.1.rows (l.drop u.2.2.1)=jY nn fT [] (l.drop (k+m))∧∀r∈u.2.1.rows,gW r.b∧dP r.b=true) (fun u=>nn - u.1) (0,emptyT,k+m,H) ⟨Nat.zero_le _,rfl,rfl,by show k+m≤l.length;omega,Fh.le.refl _,rfl,by simp [emptyT]⟩ hs ⟨rfl,rfl,rfl,rfl,rfl,rfl,trivial⟩ (hw.pm) ?_
  clear hs hw
  rintro ⟨j,t,at_,H0⟩ a W ⟨hj,hix,hrl,hat,hH0,hgo,hbk⟩ hs hw
  simp only at hj hix hrl hat hH0 hgo hbk hs hw
  refine zA hs hw ?_;clear hs;intro a hs
  refine cI hs (kt:=fun hcc=>?_) (kf:=fun hcc=>?_)
  ·have hj':j<nn:=by simpa using hcc
   rw [show nn - j=(nn - (j+1))+1 by omega,aGE] at hgo
   refine zA hs hw ?_;clear hs;intro a hs
   refine oP (hs:=hs) (r:=hw.rdM (In.tl (In.tl In.hd)) hr0) (h0:=by omega) (h1:=by omega) (c:=?_);clear hs;intro a ad2 cap2 r2 hs
   rw [Int.toNat_natCast] at hs r2
   refine aF hs (hc:=wE _ _ (l.drop at_) r2) (k:=?_);rintro e0 W1 ⟨rfl,rfl⟩;refine ⟨_,rfl,?_⟩;clear hs r2;intro a hs
   have hk3:=sB (l.drop at_)
   have hts:=sA (l.drop at_)
   obtain ⟨⟨x,kx,err3⟩,hg3⟩:∃x,Ph.getT (l.drop at_)=x:=⟨_,rfl⟩
   rw [hg3] at hs hk3 hgo hts
   rw [List.length_drop] at hk3 hts
   simp only at hs hk3 hgo hts
   refine zA hs hw ?_;clear hs;intro a hs
   cases c8:(err3 !=0) with
   |true=>
    rw [c8] at hs
    have he:(err3 == 0)=false:=by simpa using c8
    rw [he] at hgo
    have hX:eZ l=none:=by rw [hload,←hgo]
    refine zA hs hw ?_;clear hs;intro a hs
    exact rt2 hs rfl rfl rfl ⟨H0,hH0,.inl ⟨hX,rfl,hw.sub (List.Sublist.cons _ (List.Sublist.cons_cons _ (List.Sublist.cons _ (List.Sublist.refl _))))⟩⟩
   |false=>
   rw [c8] at hs
   have he3:(err3 == 0)=true:=by simpa using c8
   rw [he3] at hgo
   refine zA hs hw ?_;clear hs;intro a hs
   have ea2:IntKind.i64.wrap ((at_:Int)+(kx:Int))=((at_+kx:Nat):Int):=by rw [IntWalk.i64_in _ (by omega)];omega
   rw [ea2] at hs
   refine nL (s:=⟨x.toArray⟩) hs hw (by show x.length≤_;have:x.length≤l.length - at_:=hts;omega) (c:=?_);clear hs hw;intro a bx0 cap3 ext3 W hw hr3 hs
   have hw:=hw.sub (List.Sublist.cons _ (List.Sublist.refl _))
   have hxl:x.length≤1000000:=by have:x.length≤l.length - at_:=hts;omega
   obtain ⟨⟨⟨c,q,ol⟩,err⟩,hdec⟩:∃y,eT x=y:=⟨_,rfl⟩
   refine aF hs (hc:=wJ x c q ol err hdec _ _ hxl hr3 (hT.keep (hw.endF (In.tl In.hd) (hH.trans hH0)))) (k:=?_);rintro e0 W1 ⟨dad,dcap,rfl,hw1⟩;refine ⟨_,rfl,?_⟩;clear hs;intro a hs;replace hw:=hw.call hw1;clear hw1
   have hw:Has 0 w0 _ (Sx.Own 55 9 (.slice dad ol.length dcap) ol.length (ol.flatMap bT)::Fz H0::aO H0 p t::eM bb (bys l ++ ext) 5::R):=hw.pm
   obtain ⟨H1,hle01,hw,hbl⟩:=hw.freeze_own
   have hH1:=hH.trans (hH0.trans hle01)
   have hw:=(wK hw.swap2 hle01)
   repeat (first|(refine sxv hs hw ?_;clear hs;intro a hs)|refine sxc hs ?_|(refine sxa hs hw ?_;clear hs hw;intro a b W hw hs)|(refine sxs hs hw ?_;clear hs hw;intro W hs hw))
   obtain ⟨b15,q15⟩:=nm1 hw;subst q15
   have hw:Has 0 w0 _ (aO H1 p t::Fz H1::eM bb (bys l ++ ext) 5::aA b15 [.int .i64 c,.int .i64 q,.slice dad ol.length dcap] 66::R):=hw.pm
   cases hdo:decode x with
   |none=>
    have he:err=1:=by unfold eT at hdec;rw [hdo] at hdec;simp at hdec;exact hdec.2.symm
    subst he
    rw [hdo] at hgo
    have hX:eZ l=none:=by rw [hload,←hgo]
    refine zA hs hw ?_;clear hs;intro a hs
    exact rt2 hs rfl rfl rfl ⟨H1,hH0.trans hle01,.inl ⟨hX,rfl,hw.sub (List.Sublist.cons _ (List.Sublist.cons_cons _ (List.Sublist.cons _ (List.Sublist.cons _ (List.Sublist.refl _)))))⟩⟩
   |some pd=>
   have hpe:pd=(c,q,ol)∧err=0:=by unfold eT at hdec;rw [hdo] at hdec;simp at hdec;exact ⟨hdec.1,hdec.2.symm⟩
   obtain ⟨rfl,rfl⟩:=hpe
   have hdk:=aAm hxl hdo
   rw [hdo] at hgo
   obtain ⟨bt,hbt⟩:∃b:cR,b=⟨c,q,ol⟩:=⟨_,rfl⟩
   have hbo:gW bt:=by rw [hbt];exact ⟨hdk.1,hdk.2.1,hdk.2.2.2⟩
   have hbe:lO (c,q,ol)=bt:=by rw [hbt];rfl
   simp only at hgo
   rw [hbe] at hgo
   obtain ⟨rfl,rfl,rfl⟩:c=bt.c∧q=bt.q∧ol=bt.l:=by rw [hbt];exact ⟨rfl,rfl,rfl⟩
   clear hbt hdo hdec hdk hbe
   obtain ⟨bad,hbad⟩:∃x,x=dad:=⟨_,rfl⟩
   obtain ⟨bcap,hbcap⟩:∃x,x=dcap:=⟨_,rfl⟩
   subst hbad hbcap
   obtain ⟨N,hN⟩:∃N,next t.f bt=N:=⟨_,rfl⟩
   rw [hN] at hgo
   have hbl:cH H1 (.slice bad bt.l.length bcap) bt.l:=hbl
   obtain ⟨pf,vad,vcap,xs,hch,hw⟩:=kO hw
   rw [hix] at hw
   refine zG hs ?_
   have hw:Has 0 w0 _ (Fz H1::aS H1 pf t.f::bK::bK::bK::aA p [.int .i64 0,.pointer (some ⟨pf,0,none⟩),.slice vad t.rows.length vcap] 201::aA b15 (aL bt (.slice bad bt.l.length bcap)) 66::Sx.Own 68 5 (.slice vad t.rows.length vcap) t.rows.length xs::eM bb (bys l ++ ext) 5::R):=(hw.free.free.free).pm
   refine fL (σ:=Value×Fh×Nat) (V:=fun u=>[.pointer (some ⟨p,0,none⟩),.pointer (some ⟨p,0,none⟩),.pointer (some ⟨p,0+1,none⟩),.pointer (some ⟨pf,0,none⟩),.agg ⟨aL bt (.slice bad bt.l.length bcap)⟩,.tuple ⟨[.agg ⟨aJ N.2.1 (u 5).1⟩,.bool N.2.2]⟩,.tuple ⟨[.agg ⟨aJ N.2.1 (u 6).1⟩,.bool N.2.2]⟩,.agg ⟨aJ N.2.1 (u 7).1⟩,.bool N.2.2,.pointer (some ⟨(u 9).2.2,0,none⟩),.bool true,.bool N.2.2])
    (Rs:=fun u D=>(if D 5 then FzF (u 5).2.1 (H1.le (u 5).2.1∧cH (u 5).2.1 (u 5).1 N.2.1.b.l) else Fz H1)::(if D 5 then aS (u 5).2.1 pf N.1 else aS H1 pf t.f)::(if D 9 then aA (u 9).2.2 (if D 10 then aJ N.2.1 (u 5).1 else zrc) 68 else bK)::(if D 6 then bN (u 6=u 5) else bK)::(if D 7 then bN (u 7=u 6) else bK)::aA p [.int .i64 0,.pointer (some ⟨pf,0,none⟩),.slice vad t.rows.length vcap] 201::aA b15 (aL bt (.slice bad bt.l.length bcap)) 66::Sx.Own 68 5 (.slice vad t.rows.length vcap) t.rows.length xs::eM bb (bys l ++ ext) 5::R) (fun _=>(.nilIface,H1,0)) hs hw (hVu:=?vu_2) (ho:=⟨?_,?_,?_,?_,?_,?c5_2,?c6_2,?c7_2,?_,?c9_2,?c10_2,?_,trivial⟩) (k:=?k_2)
   case vu_2=>
    intro u u' j h
    rcases j with _|_|_|_|_|_|_|_|_|_|_|_|j
    all_goals first|rfl|simp [h]
   case c5_2=>
    intro u LD D a W hcl hi hp hs hw
    have h6:=Go.Sx.not_done hcl hi 6 (by kernel_rfl)
    have h7:=Go.Sx.not_done hcl h6 7 (by kernel_rfl)
    have h10:=Go.Sx.not_done hcl h7 10 (by kernel_rfl)
    simp only [hi,h6,h7,h10,Bool.false_eq_true,if_false] at hw
    have hw:=hw.swap2
    refine aF hs (hc:=wB w0 _ H1 pf t.f bt _ _ hbo hbl hH1 hT hw) (k:=?_);rw [hN];rintro e0 W1 ⟨sv',H2,rfl,hle,hsv,hw1⟩;refine ⟨_,rfl,?_⟩;clear hs hw;intro a hs;have hw:=hw1;clear hw1
    refine zG hs ?_
    refine Or.inr ⟨(sv',H2,0),hs,?_⟩
    have hw:=(hw.swap2).fzf (q:=H1.le H2∧cH H2 sv' N.2.1.b.l) ⟨hle,hsv⟩
    show Has 0 w0 _ (_::_::(if D 9 then aA (u 9).2.2 (if (Nat.beq 10 5 || D 10)=true then _ else _) _ else bK)::(if (Nat.beq 6 5 || D 6)=true then _ else _)::(if (Nat.beq 7 5 || D 7)=true then _ else _)::_)
    rw [h6,h7,h10]
    exact hw
   case c6_2=>
    intro u LD D a W hcl hi hp hs hw
    have h7:=Go.Sx.not_done hcl hi 7 (by kernel_rfl)
    simp only [hi,h7,Bool.false_eq_true,if_false] at hw
    refine zA hs hw ?_;clear hs;intro a hs
    refine Or.inr ⟨u 5,hs,?_⟩
    show Has 0 w0 _ (_::_::_::bN (u 5=u 5)::(if (Nat.beq 7 6 || D 7)=true then _ else _)::_)
    rw [h7]
    exact (hw.fact rfl).fill (Upd.tl (Upd.tl (Upd.tl Upd.hd)))
   case c7_2=>
    intro u LD D a W hcl hi hp hs hw
    simp only [hi,Bool.false_eq_true,if_false] at hw
    refine zA hs hw ?_;clear hs;intro a hs
    refine Or.inr ⟨u 6,hs,?_⟩
    show Has 0 w0 _ (_::_::_::_::bN (u 6=u 6)::_)
    exact (hw.fact rfl).fill (Upd.tl (Upd.tl (Upd.tl (Upd.tl Upd.hd))))
   case c9_2=>
    intro u LD D a W hcl hi hp hs hw
    have h10:=Go.Sx.not_done hcl hi 10 (by kernel_rfl)
    simp only [hi,Bool.false_eq_true,if_false] at hw
    repeat (first|(refine sxv hs hw ?_;clear hs;intro a hs)|refine sxc hs ?_|(refine sxa hs hw ?_;clear hs hw;intro a b W hw hs)|(refine sxs hs hw ?_;clear hs hw;intro W hs hw))
    refine Or.inr ⟨(.nilIface,H1,_),hs,?_⟩
    show Has 0 w0 _ (_::_::aA _ (if (Nat.beq 10 9 || D 10)=true then _ else _) _::_)
    rw [h10]
    exact hw.fill (Upd.tl (Upd.tl Upd.hd))
   case c10_2=>
    intro u LD D a W hcl hi hp hs hw
    have h7:=Go.Sx.done hp 7 (by kernel_rfl)
    have h9:=Go.Sx.done hp 9 (by kernel_rfl)
    have h6:=Go.Sx.done (hcl 7 _ rfl h7) 6 (by kernel_rfl)
    have h5:=Go.Sx.done (hcl 6 _ rfl h6) 5 (by kernel_rfl)
    have e1:(if D 7=true then bN (u 7=u 6) else bK)=bN (u 7=u 6):=by rw [h7];rfl
    have e2:(if D 6=true then bN (u 6=u 5) else bK)=bN (u 6=u 5):=by rw [h6];rfl
    have g7:u 7=u 5:=by
     have hw2:=hw
     simp only [e1,e2] at hw2
     exact (hw2.told (In.tl (In.tl (In.tl (In.tl In.hd))))).trans (hw2.told (In.tl (In.tl (In.tl In.hd))))
    simp only [hi,h5,h9,Bool.false_eq_true,if_false,if_true] at hw
    obtain ⟨⟨_,hsv⟩,_⟩:=hw.unfzf
    obtain ⟨tad,tcap,e13⟩:=hsv.slice
    refine d6 hs (hw:=hw) (vs:=aJ N.2.1 (u 7).1) (h1:=by rw [g7,e13];rfl) (k:=?_);clear hs hw;intro W hs hw
    rw [show (u 7).1=(u 5).1 from by rw [g7]] at hw
    refine zG hs ?_
    refine Or.inl ⟨hs,?_⟩
    show Has 0 w0 _ ((if (Nat.beq 5 10 || D 5)=true then _ else _)::(if (Nat.beq 5 10 || D 5)=true then _ else _)::(if (Nat.beq 9 10 || D 9)=true then _ else _)::_)
    rw [h5,h9]
    exact hw
   case k_2=>
    clear hs hw
    intro u a W hs hw
    replace hw:Has 0 w0 W (FzF (u 5).2.1 (H1.le (u 5).2.1∧cH (u 5).2.1 (u 5).1 N.2.1.b.l)::aS (u 5).2.1 pf N.1::aA (u 9).2.2 (aJ N.2.1 (u 5).1) 68::bN (u 6=u 5)::bN (u 7=u 6)::aA p [.int .i64 0,.pointer (some ⟨pf,0,none⟩),.slice vad t.rows.length vcap] 201::aA b15 (aL bt (.slice bad bt.l.length bcap)) 66::Sx.Own 68 5 (.slice vad t.rows.length vcap) t.rows.length xs::eM bb (bys l ++ ext) 5::R):=hw
    replace hw:=hw.sub (L':=FzF (u 5).2.1 (H1.le (u 5).2.1∧cH (u 5).2.1 (u 5).1 N.2.1.b.l)::aS (u 5).2.1 pf N.1::aA (u 9).2.2 (aJ N.2.1 (u 5).1) 68::aA p [.int .i64 0,.pointer (some ⟨pf,0,none⟩),.slice vad t.rows.length vcap] 201::aA b15 (aL bt (.slice bad bt.l.length bcap)) 66::Sx.Own 68 5 (.slice vad t.rows.length vcap) t.rows.length xs::eM bb (bys l ++ ext) 5::R) (List.Sublist.cons_cons _ (List.Sublist.cons_cons _ (List.Sublist.cons_cons _ (List.Sublist.cons _ (List.Sublist.cons _ (List.Sublist.refl _))))))
    replace hs:Slots a 122 [(4,.slice (some ⟨bb,0,none⟩) l.length cap0),(5,.int .i64 ix),(10,.pointer (some ⟨p,0,none⟩)),(11,.int .i64 ((at_+kx:Nat):Int)),(65,.int .i64 (nn:Int)),(66,.int .i64 (j:Int)),(16,.pointer (some ⟨(u 9).2.2,0,none⟩)),(17,.bool N.2.2)]:=hs.of ⟨rfl,rfl,rfl,rfl,rfl,rfl,rfl,rfl,trivial⟩
    generalize (u 9).2.2=b8 at *
    generalize (u 5).2.1=H2 at *
    generalize (u 5).1=sv2 at *
    clear u
    obtain ⟨⟨hle2,hsv⟩,hw⟩:=hw.unfzf
    obtain ⟨xad,xcap,rfl⟩:=hsv.slice
    replace hch:=hch.mono (RowIn.le hle2)
    have hrl2:t.rows.length≤200000:=by omega
    cases hok:N.2.2 with
    |false=>
     rw [hok] at hs hgo
     have hX:eZ l=none:=by rw [hload,←hgo]
     refine zA hs hw ?_;clear hs;intro a hs
     have hw:=hw.sub (L':=Fz H2::R) (List.Sublist.cons_cons _ (List.Sublist.cons _ (List.Sublist.cons _ (List.Sublist.cons _ (List.Sublist.cons _ (List.Sublist.cons _ (List.Sublist.cons _ (List.Sublist.refl _))))))))
     exact rt2 hs rfl rfl rfl ⟨H2,(hH0.trans hle01).trans hle2,.inl ⟨hX,rfl,hw⟩⟩
    |true=>
     rw [hok] at hs hgo
     simp only at hgo
     have hw:Has 0 w0 W (aA p [.int .i64 0,.pointer (some ⟨pf,0,none⟩),.slice vad t.rows.length vcap] 201::Fz H2::bK::Sx.Own 68 5 (.slice vad t.rows.length vcap) t.rows.length xs::aA b8 (aJ N.2.1 (.slice xad N.2.1.b.l.length xcap)) 68::aS H2 pf N.1::aA b15 (aL bt (.slice bad bt.l.length bcap)) 66::eM bb (bys l ++ ext) 5::R):=(hw.free).pm
     refine zA hs hw ?_;clear hs;intro a hs
     refine fL (σ:=Value×Fh×Nat×Option Addr) (V:=fun u=>[.pointer (some ⟨p,0,none⟩),.pointer (some ⟨p,0,none⟩),.pointer (some ⟨p,0,none⟩),.pointer (some ⟨p,0+2,none⟩),.slice vad t.rows.length vcap,.agg ⟨aJ N.2.1 (.slice xad N.2.1.b.l.length xcap)⟩,.slice (some ⟨(u 6).2.2.1,0,none⟩) 1 1,.slice (u 7).2.2.2 (t.rows ++ [N.2.1]).length (u 7).2.2.1,.pointer (some ⟨p,0,none⟩),.pointer (some ⟨p,0+2,none⟩),.bool true])
      (Rs:=fun u D=>aA p [.int .i64 0,.pointer (some ⟨pf,0,none⟩),(if D 10 then .slice (u 7).2.2.2 (t.rows ++ [N.2.1]).length (u 7).2.2.1 else .slice vad t.rows.length vcap)] 201::Fz H2::(if D 6 then aA (u 6).2.2.1 (aJ N.2.1 (.slice xad N.2.1.b.l.length xcap)) 68 else bK)::(if D 7 then Sx.Own 68 5 (.slice (u 7).2.2.2 (t.rows ++ [N.2.1]).length (u 7).2.2.1) (t.rows ++ [N.2.1]).length (xs ++ aJ N.2.1 (.slice xad N.2.1.b.l.length xcap)) else Sx.Own 68 5 (.slice vad t.rows.length vcap) t.rows.length xs)::aA b8 (aJ N.2.1 (.slice xad N.2.1.b.l.length xcap)) 68::aS H2 pf N.1::aA b15 (aL bt (.slice bad bt.l.length bcap)) 66::eM bb (bys l ++ ext) 5::R) (fun _=>(.nilIface,H2,0,none)) hs hw (hVu:=?vu_1) (ho:=⟨?_,?_,?_,?_,?c4_1,?_,?c6_1,?c7_1,?_,?_,?c10_1,trivial⟩) (k:=?k_1)
     case vu_1=>
      intro u u' j h
      rcases j with _|_|_|_|_|_|_|_|_|_|_|j
      all_goals first|rfl|simp [h]
     case c4_1=>
      intro u LD D a W hcl hi hp hs hw
      have hA:=Go.Sx.not_done hcl hi 7 (by kernel_rfl)
      have hS:=Go.Sx.not_done hcl hA 10 (by kernel_rfl)
      have hw0:=hw
      simp only [hS,Bool.false_eq_true,if_false] at hw
      refine zA hs hw ?_;clear hs;intro a hs
      exact Or.inl ⟨hs,hw0⟩
     case c6_1=>
      intro u LD D a W hcl hi hp hs hw
      have hB:=hi
      have hA:=Go.Sx.not_done hcl hB 7 (by kernel_rfl)
      have hS:=Go.Sx.not_done hcl hA 10 (by kernel_rfl)
      simp only [hi,hA,hS,Bool.false_eq_true,if_false] at hw
      repeat (first|(refine sxv hs hw ?_;clear hs;intro a hs)|refine sxc hs ?_|(refine sxa hs hw ?_;clear hs hw;intro a b W hw hs)|(refine sxs hs hw ?_;clear hs hw;intro W hs hw))
      refine Or.inr ⟨(.nilIface,H2,_,none),hs,?_⟩
      show Has 0 w0 _ (aA p [_,_,(if (Nat.beq 10 6 || D 10)=true then _ else _)] _::_::_::(if (Nat.beq 7 6 || D 7)=true then _ else _)::_)
      rw [hA,hS]
      exact hw.fill (Upd.tl (Upd.tl Upd.hd))
     case c7_1=>
      intro u LD D a W hcl hi hp hs hw
      have hB:=Go.Sx.done hp 6 (by kernel_rfl)
      have hS:=Go.Sx.not_done hcl hi 10 (by kernel_rfl)
      simp only [hi,hB,hS,Bool.false_eq_true,if_false,if_true] at hw
      have hw:Has 0 w0 W (Fz H2::Sx.Own 68 5 (.slice vad t.rows.length vcap) t.rows.length xs::aA p [.int .i64 0,.pointer (some ⟨pf,0,none⟩),.slice vad t.rows.length vcap] 201::aA (u 6).2.2.1 (aJ N.2.1 (.slice xad N.2.1.b.l.length xcap)) 68::aA b8 (aJ N.2.1 (.slice xad N.2.1.b.l.length xcap)) 68::aS H2 pf N.1::aA b15 (aL bt (.slice bad bt.l.length bcap)) 66::eM bb (bys l ++ ext) 5::R):=hw.pm
      have hw:Has 0 w0 W (Sx.Own 68 5 (.slice vad t.rows.length vcap) t.rows.length xs::Fz H2::aA p [.int .i64 0,.pointer (some ⟨pf,0,none⟩),.slice vad t.rows.length vcap] 201::aA (u 6).2.2.1 (aJ N.2.1 (.slice xad N.2.1.b.l.length xcap)) 68::aA b8 (aJ N.2.1 (.slice xad N.2.1.b.l.length xcap)) 68::aS H2 pf N.1::aA b15 (aL bt (.slice bad bt.l.length bcap)) 66::eM bb (bys l ++ ext) 5::R):=hw.swap2
      have hone:=RowIn.ones (H:=H2) N.2.1 (aJ N.2.1 (.slice xad N.2.1.b.l.length xcap)) ⟨_,rfl,hsv⟩
      refine jB hs (hw:=hw) (hi:=In.tl (In.tl In.hd)) (ch:=hch) (ha:=(⟨_,rfl,hsv⟩:RowIn H2 N.2.1 (aJ N.2.1 (.slice xad N.2.1.b.l.length xcap)))) (hl:=rfl) (h1:=by rw [List.all_eq_true];exact hone) (hb:=by omega) (h63:=by omega) (k:=?_)
      clear hs hw;intro a ad cap W hs hw hc2
      refine zG hs ?_
      refine Or.inr ⟨(.nilIface,H2,cap,ad),hs,?_⟩
      show Has 0 w0 _ (aA p [_,_,(if (Nat.beq 10 7 || D 10)=true then _ else _)] _::_::(if (Nat.beq 6 7 || D 6)=true then _ else _)::_::_)
      rw [hB,hS]
      exact hw.pm
     case c10_1=>
      intro u LD D a W hcl hi hp hs hw
      have hA:=Go.Sx.done hp 7 (by kernel_rfl)
      simp only [hi,hA,Bool.false_eq_true,if_false,if_true] at hw
      repeat (first|(refine sxv hs hw ?_;clear hs;intro a hs)|refine sxc hs ?_|(refine sxa hs hw ?_;clear hs hw;intro a b W hw hs)|(refine sxs hs hw ?_;clear hs hw;intro W hs hw))
      refine Or.inl ⟨hs,?_⟩
      show Has 0 w0 _ (_::_::_::(if (Nat.beq 7 10 || D 7)=true then _ else _)::_)
      rw [hA]
      exact hw
     case k_1=>
      clear hs hw
      intro u a W hs hw
      replace hw:Has 0 w0 W (aA p [.int .i64 0,.pointer (some ⟨pf,0,none⟩),.slice (u 7).2.2.2 (t.rows ++ [N.2.1]).length (u 7).2.2.1] 201::Fz H2::aA (u 6).2.2.1 (aJ N.2.1 (.slice xad N.2.1.b.l.length xcap)) 68::Sx.Own 68 5 (.slice (u 7).2.2.2 (t.rows ++ [N.2.1]).length (u 7).2.2.1) (t.rows ++ [N.2.1]).length (xs ++ aJ N.2.1 (.slice xad N.2.1.b.l.length xcap))::aA b8 (aJ N.2.1 (.slice xad N.2.1.b.l.length xcap)) 68::aS H2 pf N.1::aA b15 (aL bt (.slice bad bt.l.length bcap)) 66::eM bb (bys l ++ ext) 5::R):=hw
      replace hs:Slots a 122 [(4,.slice (some ⟨bb,0,none⟩) l.length cap0),(5,.int .i64 ix),(10,.pointer (some ⟨p,0,none⟩)),(11,.int .i64 ((at_+kx:Nat):Int)),(65,.int .i64 (nn:Int)),(66,.int .i64 (j:Int))]:=hs.of ⟨rfl,rfl,rfl,rfl,rfl,rfl,trivial⟩
      generalize (u 7).2.2.2=rad at *
      generalize (u 7).2.2.1=rcap at *
      generalize (u 6).2.2.1=bx at *
      clear u
      have hw:Has 0 w0 W (aA p [.int .i64 0,.pointer (some ⟨pf,0,none⟩),.slice rad (t.rows ++ [N.2.1]).length rcap] 201::aS H2 pf N.1::Sx.Own 68 5 (.slice rad (t.rows ++ [N.2.1]).length rcap) (t.rows ++ [N.2.1]).length (xs ++ aJ N.2.1 (.slice xad N.2.1.b.l.length xcap))::Fz H2::eM bb (bys l ++ ext) 5::aA b8 (aJ N.2.1 (.slice xad N.2.1.b.l.length xcap)) 68::aA b15 (aL bt (.slice bad bt.l.length bcap)) 66::aA bx (aJ N.2.1 (.slice xad N.2.1.b.l.length xcap)) 68::R):=hw.pm
      have hw:=fU (t:=⟨0,N.1,t.rows ++ [N.2.1]⟩) hw (hch.app (Ch.unit ⟨_,rfl,hsv⟩))
      refine zA hs hw ?_;clear hs;intro a hs
      have hw:=hw.sub (L':=aO H2 p ⟨0,N.1,t.rows ++ [N.2.1]⟩::Fz H2::eM bb (bys l ++ ext) 5::R) (List.Sublist.cons_cons _ (List.Sublist.cons_cons _ (List.Sublist.cons_cons _ (List.Sublist.cons _ (List.Sublist.cons _ (List.Sublist.cons _ (List.Sublist.refl _)))))))
      refine bR (j+1,⟨0,N.1,t.rows ++ [N.2.1]⟩,at_+kx,H2) hs hw ⟨hj',rfl,by show (t.rows ++ [N.2.1]).length=j+1;rw [List.length_append,hrl];rfl,by show at_+kx≤l.length;omega,(hH0.trans hle01).trans hle2,?_,fun r hr=>?_⟩ (by show nn - (j+1)<nn - j;omega) ⟨rfl,rfl,rfl,rfl,rfl,bS (by show IntKind.i64.wrap ((j:Int)+1)=((j+1:Nat):Int);rw [IntWalk.i64_in _ (by omega)];omega),trivial⟩
      ·rw [List.drop_drop] at hgo
       exact hgo
      ·rcases List.mem_append.1 hr with hr|hr
       ·exact hbk r hr
       ·obtain rfl:=List.mem_singleton.1 hr
        have h1:(next t.f bt).2.2=true:=by rw [hN];exact hok
        have h2:=aAf h1
        rw [hN] at h2
        rw [h2]
        exact ⟨hbo,wI (r6 h1).1⟩
     all_goals
      intro u LD D a W hcl hi hp hs hw
      refine zA hs hw ?_;clear hs;intro a hs
      exact Or.inl ⟨hs,hw⟩
   all_goals
    intro u LD D a W hcl hi hp hs hw
    refine zA hs hw ?_;clear hs;intro a hs
    exact Or.inl ⟨hs,hw⟩
  ·have hj':j=nn:=by
    have:¬j<nn:=by simpa using hcc
    omega
   rw [hj',Nat.sub_self] at hgo
   refine zG hs ?_
   exact ⟨t,H0,hH0,hix,hgo.symm,by omega,hbk,hs.of ⟨rfl,rfl,rfl,trivial⟩,hw⟩
 ·clear hs hw
  rintro a W ⟨t,H1,hle,hix,hgo,hrl,hbk,hs,hw⟩
  rw [hgo] at hload
  simp only at hload
  obtain ⟨pf,vad,vcap,xs,hch,hw⟩:=kO hw
  refine zD hs hw ?_;clear hs hw;intro a W hs hw
  have hw:Has 0 w0 W (aA p [.int .i64 ix,.pointer (some ⟨pf,0,none⟩),.slice vad t.rows.length vcap] 201::aS H1 pf t.f::Sx.Own 68 5 (.slice vad t.rows.length vcap) t.rows.length xs::Fz H1::eM bb (bys l ++ ext) 5::R):=hw
  have hw:=fU (t:=⟨ix,t.f,t.rows⟩) hw hch
  refine aF hs (hc:=aAw w0 _ H1 p ⟨ix,t.f,t.rows⟩ _ (by show t.rows.length≤200000;omega) ⟨by show _≤ix;omega,by show ix≤_;omega⟩ hbk (hH.trans hle) hT hw) (k:=?_);rintro e0 W1 ⟨rfl,hw1⟩;refine ⟨_,rfl,?_⟩;clear hs hw;intro a hs;have hw:=hw1;clear hw1
  have hdl:(jI ⟨ix,t.f,t.rows⟩).length≤300000000:=by
   have h1:=Ph.putI_length_le ix
   have h2:=Ph.putI_length_le (t.rows.length:Int)
   have h3:=aAu (l:=t.rows) fun r hr=>aAv (hbk r hr).2
   unfold jI
   simp only [List.length_append]
   omega
  generalize jI ⟨ix,t.f,t.rows⟩=dt at *
  refine nL (s:=⟨dt.toArray⟩) hs hw (by show dt.length≤_;omega) (c:=?_);clear hs hw;intro a bd cap4 ext4 W hw hr4 hs
  refine zA hs hw ?_;clear hs;intro a hs
  refine aF hs (hc:=aA4 dt l _ _ _ hr4 (hw.rdM (In.tl (In.tl (In.tl In.hd))) hr0)) (k:=?_);rintro e0 W1 ⟨rfl,hb⟩;refine ⟨_,rfl,?_⟩;clear hs;intro a hs;replace hw:=hw.below hb;clear hb
  by_cases heq:dt=l
  ·rw [if_pos heq] at hload
   rw [heq,beq_self_eq_true] at hs
   refine zA hs hw ?_;clear hs;intro a hs
   exact rt2 hs rfl rfl rfl ⟨H1,hle,.inr ⟨_,p,hload,rfl,hw.sub (List.Sublist.cons _ (List.Sublist.cons_cons _ (List.Sublist.cons_cons _ (List.Sublist.cons _ (List.Sublist.refl _)))))⟩⟩
  ·rw [if_neg heq] at hload
   have hne:(dt == l)=false:=by simpa using heq
   rw [hne] at hs
   refine zA hs hw ?_;clear hs;intro a hs
   exact rt2 hs rfl rfl rfl ⟨H1,hle,.inl ⟨hload,rfl,hw.sub (List.Sublist.cons _ (List.Sublist.cons _ (List.Sublist.cons_cons _ (List.Sublist.cons _ (List.Sublist.refl _)))))⟩⟩
abbrev w64 (x:Int):Int:=IntKind.i64.wrap x
def gD:Option Int→List Int→Bool
 |_,[]=>true
 |none,x::r=>!decide (x<1) && !decide (x > 7) && gD (some x) r
 |some q,x::r=>!decide (x<1) && !decide (x > 7) && !decide (q≥x) && gD (some x) r
def dD (l:List Int):Bool:=gD none l && decide ((l.length:Int) > 0)
def iF (l:List Int):List UInt8:=match dD l with|false=>[]|true=>l.map fun x=>UInt8.ofNat (48+x).toNat
def dK (s:List UInt8):List Int×Bool:=match dD (s.map fun c=>(c.toNat:Int) - 48) with|false=>([],false)|true=>(s.map fun c=>(c.toNat:Int) - 48,true)
def has (l:List Int) (x:Int):Bool:=l.any (· == x)
def mK (S:List Int) (j:Nat):List Int:=(S.set (j+1) (S.getD j 0)).set j (S.getD (j+1) 0)
def gE:Nat→List Int→List Int
 |0,S=>S
 |j+1,S=>match decide (S.getD (j+1) 0<S.getD j 0) with|true=>gE j (mK S j)|false=>S
def iG:Nat→Nat→List Int→List Int
 |0,_,S=>S
 |f+1,i,S=>iG f (i+1) (gE i S)
def dR (l:List Int):List Int:=iG (l.length - 1) 1 l
def pL (l:List Int) (x:Int):List Int×Bool:=match dD l && dD (dR (l ++ [x])) with|false=>([],false)|true=>(dR (l ++ [x]),true)
def nM (a b:List Int):Bool:=dD a && dD b && decide (((List.range 7).filter fun (k:Nat)=>has a ((k:Int)+1) !=has b ((k:Int)+1)).length≤1)
def sD (l yes:List Int):Bool:=dD l && decide (2*((l.filter fun x=>has yes x).length:Int) > (l.length:Int))
def nth (l:List Int) (i:Int):Int:=l.getD i.toNat 0
def sE (l at_:List Int):Int:=match dD l with
 |false=>0
 |true=>nth (dR (l.map fun x=>if x<(at_.length:Int) then nth at_ x else 0)) (((l.length:Int) - 1).tdiv 2)
structure eA where
 ix:Int
 term:Int
 conf:ByteArray
 data:ByteArray
structure fN where
 term:Int
 vote:Int
structure LogD where
 s:eA
 l:List bZ
def zeroSnap:eA:=⟨0,0,⟨#[]⟩,⟨#[]⟩⟩
def gM:Int→Int→List bZ→Bool
 |_,_,[]=>true
 |i,t,e::r=>!(e.ix !=w64 (i+1)) && !decide (e.term<t) && gM e.ix e.term r
def cX (x:Int):Bool:=!decide (x<0) && !decide (x > 1099511627776)
def wN (s:eA) (l:List bZ):Bool:=cX s.ix && cX s.term && !decide ((l.length:Int) > 200) && gM s.ix s.term l
def LogD.first (l:LogD):Int:=w64 (l.s.ix+1)
def LogD.last (l:LogD):Int:=w64 (l.s.ix+(l.l.length:Int))
def gN:bZ:=⟨0,0,0,⟨#[]⟩⟩
def LogD.at (l:LogD) (i:Int):bZ:=l.l.getD (w64 (i - l.first)).toNat gN
def LogD.term (l:LogD) (i:Int):Int×Bool:=
 if i<l.s.ix∨l.last<i then (0,false) else if i=l.s.ix then (l.s.term,true) else ((l.at i).term,true)
def LogD.get (l:LogD) (i n:Int):List bZ:=
 if i<l.first∨l.last<i∨n<1 then [] else (l.l.drop (w64 (i - l.first)).toNat).take n.toNat
def LogD.fits (l:LogD) (i t:Int):Bool:=(l.term i).2 && ((l.term i).1 == t)
def LogD.skip (l:LogD):List bZ→List bZ
 | []=>[]
 |e::r=>if e.ix≤l.s.ix∨l.fits e.ix e.term=true then l.skip r else e::r
def LogD.put (l:LogD) (es:List bZ):LogD×Int×Bool:=
 match es with
 | []=>(l,0,true)
 |e::r=>
  if w64 (l.last+1)<e.ix∨gM (w64 (e.ix - 1)) e.term (e::r)=false then (l,0,false)
  else match l.skip (e::r) with
   | []=>(l,0,true)
   |x::y=>
    if x.term<(l.term (w64 (x.ix - 1))).1∨200<w64 (w64 (x.ix - l.first)+((x::y).length:Int)) then (l,0,false)
    else (⟨l.s,l.l.take (w64 (x.ix - l.first)).toNat ++ (x::y)⟩,x.ix,true)
def LogD.newer (l:LogD) (i t:Int):Bool:=decide (t > (l.term l.last).1) || (t == (l.term l.last).1) && decide (i≥l.last)
def LogD.pack (l:LogD) (s:eA):LogD×Bool:=
 if s.ix<l.first∨l.fits s.ix s.term=false then (l,false) else (⟨s,l.l.drop (w64 (s.ix - l.s.ix)).toNat⟩,true)
def jJ (k:Int):List bZ→Option (List Int×Int)
 | []=>none
 |e::r=>match (dK e.data.data.toList).2 && (e.kind == 3) with
  |true=>some ((dK e.data.data.toList).1,k)
  |false=>jJ (k - 1) r
def LogD.confAt (l:LogD) (i:Int):List Int×Int:=
 match jJ (min i l.last) ((l.l.take (min i l.last - l.s.ix).toNat).reverse) with
 |some x=>x
 |none=>match (dK l.s.conf.data.toList).2 with
  |true=>((dK l.s.conf.data.toList).1,l.s.ix)
  |false=>([],0)
def LogD.conf (l:LogD):List Int×Int:=l.confAt l.last
structure VotesD where
 l:List Int
 yes:List Int
 no:List Int
def i3 (l:List Int):VotesD:=⟨match dD l with|true=>l|false=>[],[],[]⟩
def VotesD.may (v:VotesD) (x:Int):Bool:=has v.l x && !has v.yes x && !has v.no x
def VotesD.yesD (v:VotesD) (x:Int):VotesD×Bool:=match v.may x with|true=>(⟨v.l,v.yes ++ [x],v.no⟩,true)|false=>(v,false)
def VotesD.noD (v:VotesD) (x:Int):VotesD×Bool:=match v.may x with|true=>(⟨v.l,v.yes,v.no ++ [x]⟩,true)|false=>(v,false)
def VotesD.won (v:VotesD):Bool:=sD v.l v.yes
def VotesD.lost (v:VotesD):Bool:=decide ((v.l.length:Int) > 0) && decide (w64 (2*w64 ((v.l.length:Int) - (v.no.length:Int)))≤(v.l.length:Int))
structure TrackD where
 next:List Int
 mat:List Int
def lP (last:Int):TrackD:=⟨List.replicate 8 (w64 ((if cX last=true then last else 0)+1)),List.replicate 8 0⟩
def srv (x:Int):Bool:=decide (x≥1) && decide (x≤7)
def TrackD.nextOf (t:TrackD) (x:Int):Int:=match srv x with|true=>nth t.next x|false=>0
def eD (l:List Int) (i x:Int):List Int:=l.set i.toNat x
def TrackD.yesD (t:TrackD) (x i:Int):TrackD×Bool:=
 match srv x && cX i with
 |false=>(t,false)
 |true=>(⟨eD t.next x (max (nth t.next x) (w64 (max (nth t.mat x) i+1))),eD t.mat x (max (nth t.mat x) i)⟩,decide (i > nth t.mat x))
def TrackD.noD (t:TrackD) (x i:Int):TrackD×Bool:=
 match srv x && cX i with
 |false=>(t,false)
 |true=>(⟨eD t.next x (max (min (w64 (nth t.next x - 1)) (w64 (i+1))) (w64 (nth t.mat x+1))),t.mat⟩,max (min (w64 (nth t.next x - 1)) (w64 (i+1))) (w64 (nth t.mat x+1)) !=nth t.next x)
def TrackD.sent (t:TrackD) (x i:Int):TrackD:=
 match srv x && cX i with
 |false=>t
 |true=>⟨eD t.next x (max (nth t.next x) (w64 (i+1))),t.mat⟩
def TrackD.mid (t:TrackD) (l:List Int) (self last:Int):Int:=sE l (match srv self with|true=>eD t.mat self last|false=>t.mat)
abbrev kP:=Option VotesD
abbrev jK:=Option TrackD
def sF (v:kP) (x:Int):kP:=v.map fun v=>(v.yesD x).1
def sG (v:kP) (x:Int):kP:=v.map fun v=>(v.noD x).1
def kQ (v:kP):Bool:=match v with|none=>false|some v=>v.won
def pM (v:kP):Bool:=match v with|none=>false|some v=>v.lost
def bJ (t:jK) (x:Int):Int:=match t with|none=>0|some t=>t.nextOf x
def mL (t:jK) (x i:Int):jK:=t.map fun t=>t.sent x i
def kR (t:jK) (l:List Int) (self last:Int):Int:=match t with|none=>0|some t=>t.mid l self last
def gO (t:jK) (x i:Int):jK×Bool:=match t with|none=>(none,false)|some t=>(some (t.noD x i).1,(t.noD x i).2)
def gF (t:jK) (x i:Int):jK×Bool:=match t with|none=>(none,false)|some t=>(some (t.yesD x i).1,(t.yesD x i).2)
structure bP where
 kind:Int
 from_:Int
 to_:Int
 term:Int
 ix:Int
 lterm:Int
 commit:Int
 yes:Bool
 es:List bZ
 snap:eA
def cP:bP:=⟨0,0,0,0,0,0,0,false,[],zeroSnap⟩
structure fV where
 msgs:List bP
 hard:Bool
 from_:Int
 snap:Bool
def bV:fV:=⟨[],false,0,false⟩
structure RaftD where
 id:Int
 h:fN
 l:LogD
 commit:Int
 role:Int
 leader:Int
 heard:Bool
 v:kP
 t:jK
 out:fV
def i5 (h:fN):Bool:=cX h.term && !decide (h.vote<0) && !decide (h.vote > 7)
def in1 (x:Int):Bool:=!decide (x<1) && !decide (x > 1099511627776)
def eN (e:bZ):Bool:=in1 e.ix && in1 e.term && !decide (e.kind<1) && !decide (e.kind > 3) && decide ((e.data.size:Int)≤2500)
def eU (s:eA):Bool:=cX s.ix && cX s.term && decide ((s.conf.size:Int)≤50) && decide ((s.data.size:Int)≤200000)
def pN (s:eA):Bool:=(s.ix == 0) && (s.term == 0) && (s.conf.size == 0) && (s.data.size == 0)
def jZ (m:bP):Int→Int→List bZ→Bool
 |_,_,[]=>true
 |i,t,e::r=>!(e.ix !=w64 (i+1)) && !decide (e.term<t) && !decide (e.term > m.term) && eN e && jZ m e.ix e.term r
def nN (m:bP):Bool:=jZ m m.ix m.lterm m.es && decide ((m.es.length:Int)≤8) && (decide ((m.es.length:Int)=0) || m.kind == 3)
def iH (m : bP) : Bool :=
  !decide (m.kind < 1) && !decide (m.kind > 5) && srv m.from_ && srv m.to_ && in1 m.term && cX m.ix && cX m.lterm && cX m.commit && nN m &&
  !(m.yes && m.kind != 2 && m.kind != 4) &&
  (match m.kind == 5 with
   | false => pN m.snap
   | true => (dK m.snap.conf.data.toList).2 && eU m.snap)
namespace RaftD
def hardD (r:RaftD) (h:fN):RaftD:={r with h:=h,out:={r.out with hard:=r.out.hard || !((h.term == r.h.term) && (h.vote == r.h.vote))}}
def yield (r:RaftD) (t:Int):RaftD:={r.hardD ⟨t,0⟩ with role:=0,leader:=0}
def say (r:RaftD) (m:bP):RaftD:={r with out:={r.out with msgs:=r.out.msgs ++ [{m with from_:=r.id,term:=r.h.term}]}}
def others (r:RaftD):List Int:=r.l.conf.1.filter fun x=>x !=r.id
def send (r:RaftD) (to_:Int):RaftD:=
 if bJ r.t to_<r.l.first then r.say {cP with kind:=5,to_:=to_,snap:=r.l.s}
 else
  let i:=w64 (bJ r.t to_ - 1)
  let es:=r.l.get (bJ r.t to_) 8
  {r with t:=mL r.t to_ (w64 (i+(es.length:Int)))}.say {cP with kind:=3,to_:=to_,ix:=i,lterm:=(r.l.term i).1,es:=es,commit:=r.commit}
def all (r:RaftD):RaftD:=match r.role == 2 with|false=>r|true=>r.others.foldl send r
def changed (r:RaftD) (i:Int):RaftD:=match decide (i > 0) && (r.out.from_ == 0 || decide (i<r.out.from_)) with|true=>{r with out:={r.out with from_:=i}}|false=>r
def put (r:RaftD) (kind:Int) (s:ByteArray):RaftD×Int:=
 let i:=w64 (r.l.last+1)
 let p:=r.l.put [⟨i,r.h.term,kind,s⟩]
 ({r with l:=p.1}.changed p.2.1,i)
def move (r:RaftD):RaftD:=
 let c:=r.l.conf
 let n:=kR r.t c.1 r.id r.l.last
 if n≤r.commit∨r.l.fits n r.h.term=false then r
 else match !has c.1 r.id && decide (c.2≤n) with
  |true=>{r with commit:=n,role:=0,leader:=0}
  |false=>{r with commit:=n}
def lead (r:RaftD):RaftD:=
 let r:={r with role:=2,leader:=r.id,t:=some (lP r.l.last)}
 let r:=if ((r.l.get r.l.first 200).length:Int)<200 then (r.put 1 ⟨#[]⟩).1 else r
 r.move.all
def asked (r:RaftD) (m:bP):RaftD:=
 match (r.h.vote == 0 || r.h.vote == m.from_) && r.l.newer m.ix m.lterm with
 |true=>{r.hardD ⟨r.h.term,m.from_⟩ with heard:=true}.say {cP with kind:=2,to_:=m.from_,yes:=true}
 |false=>r.say {cP with kind:=2,to_:=m.from_}
def voted (r:RaftD) (m:bP):RaftD:=
 match r.role == 1 with
 |false=>r
 |true=>
  let r:={r with v:=match m.yes with|true=>sF r.v m.from_|false=>sG r.v m.from_}
  match kQ r.v,pM r.v with
  |true,_=>r.lead
  |false,true=>{r with role:=0}
  |false,false=>r
def append (r:RaftD) (m:bP):RaftD:=
 match r.role == 2 with
 |true=>r
 |false=>
  let r:={r with role:=0,leader:=m.from_,heard:=true}
  match !r.l.fits m.ix m.lterm && decide (m.ix≥r.commit) with
  |true=>r.say {cP with kind:=4,to_:=m.from_,ix:=max (min r.l.last (w64 (m.ix - 1))) 0}
  |false=>
   let last:=w64 (m.ix+(m.es.length:Int))
   let p:=r.l.put (m.es.dropWhile fun e=>decide (e.ix≤r.commit))
   let q:={r with l:=p.1}.changed p.2.1
   match p.2.2 with
   |false=>q.say {cP with kind:=4,to_:=m.from_,ix:=q.l.last}
   |true=>{q with commit:=max q.commit (min m.commit last)}.say {cP with kind:=4,to_:=m.from_,yes:=true,ix:=last}
def ack (r:RaftD) (m:bP):RaftD:=
 if r.role≠2∨r.l.last<m.ix then r
 else match m.yes with
  |false=>
   match (gO r.t m.from_ m.ix).2 with
   |true=>{r with t:=(gO r.t m.from_ m.ix).1}.send m.from_
   |false=>{r with t:=(gO r.t m.from_ m.ix).1}
  |true=>
   let q:={r with t:=(gF r.t m.from_ m.ix).1}
   let q:=match (gF r.t m.from_ m.ix).2 with|true=>q.move|false=>q
   match (q.role == 2) && decide (bJ q.t m.from_≤q.l.last) with
   |true=>q.send m.from_
   |false=>q
def snapD (r:RaftD) (m:bP):RaftD:=
 match r.role == 2 with
 |true=>r
 |false=>
  let r:={r with role:=0,leader:=m.from_,heard:=true}
  if m.snap.ix≤r.commit then r.say {cP with kind:=4,to_:=m.from_,yes:=true,ix:=r.commit}
  else
   let l:=match (r.l.pack m.snap).2 with|true=>(r.l.pack m.snap).1|false=>⟨m.snap,[]⟩
   {r with l:=l,commit:=m.snap.ix,out:={r.out with snap:=true}}.say {cP with kind:=4,to_:=m.from_,yes:=true,ix:=m.snap.ix}
def did (r:RaftD):RaftD×fV:=({r with out:=bV},r.out)
def step (r:RaftD) (m:bP):RaftD×fV:=
 if iH m=false∨m.to_≠r.id∨m.from_=r.id then (r,bV)
 else if m.term<r.h.term then
  (if m.kind=1 then r.say {cP with kind:=2,to_:=m.from_} else if m.kind=3∨m.kind=5 then r.say {cP with kind:=4,to_:=m.from_} else r).did
 else
  let r:=if r.h.term<m.term then r.yield m.term else r
  (if m.kind=1 then r.asked m else if m.kind=2 then r.voted m else if m.kind=3 then r.append m else if m.kind=4 then r.ack m else r.snapD m).did
def fire (r : RaftD) : RaftD × fV :=
  (match r.role == 2, r.heard with
   | true, _ => r.all
   | false, true => { r with heard := false }
   | false, false =>
     match has r.l.conf.1 r.id && decide (r.h.term < 1099511627776) with
     | false => r
     | true =>
       let r := { r.hardD ⟨w64 (r.h.term + 1), r.id⟩ with role := 1, leader := 0, v := some ((i3 r.l.conf.1).yesD r.id).1 }
       match kQ r.v with
       | true => r.lead
       | false => r.others.foldl (fun r x => r.say { cP with kind := 1, to_ := x, ix := r.l.last, lterm := (r.l.term r.l.last).1 }) r).did
def propose (r:RaftD) (kind:Int) (s:ByteArray):RaftD×Int×fV×Int:=
 if r.role≠2 then (r,0,bV,9)
 else if (kind≠2∧kind≠3)∨2500<(s.size:Int)∨(kind=3∧((dK s.data.toList).2=false∨nM (dK s.data.toList).1 r.l.conf.1=false)) then (r,0,bV,1)
 else if kind=3∧(r.commit<r.l.conf.2∨r.l.fits r.commit r.h.term=false) then (r,0,bV,10)
 else if 200≤((r.l.get r.l.first 200).length:Int) then (r,0,bV,5)
 else
  let p:=r.put kind s
  (p.1.move.all.did.1,p.2,p.1.move.all.did.2,0)
def pack (r:RaftD) (i:Int) (s:ByteArray):RaftD×fV×Bool:=
 if i<r.l.first∨r.commit<i∨200000<(s.size:Int) then (r,bV,false)
 else
  let p:=r.l.pack ⟨i,(r.l.term i).1,⟨(iF (r.l.confAt i).1).toArray⟩,s⟩
  let q:={r with l:=p.1,out:={r.out with snap:=p.2}}.did
  (q.1,q.2,q.2.snap)
end RaftD
def pO (id:Int) (h:fN) (l:LogD) (commit:Int):Option RaftD:=
 if id<1∨7<id∨i5 h=false∨commit<l.s.ix∨l.last<commit then none
 else some ⟨id,h,l,commit,0,0,false,none,none,bV⟩
def aAx (f:dV) (c:Int):cD:=if 1≤c∧c≤5 then ((f.told[c.toNat]?).map (·.2)).getD zeroRow else zeroRow
def cK (f:dV) (c:Int):cD:=if cQ f c=0 then zeroRow else aAx f c
theorem aGG (w0 W:World) (H:Fh) (p:Nat) (f:dV) (R:List Res) (hw:Has 0 w0 W (aS H p f::R)):
  Calls Tryz.prog 108 ⟨[.pointer (some ⟨p,0,none⟩)]⟩ W fun e W'=>∃c,e= .returned (.pointer (some ⟨c,0,none⟩))∧Has 0 w0 W' (bI c f.d::aS H p f::R):=by
 obtain ⟨pd,xs,ht,hw⟩:=nG hw
 refine enter Tryz.func108 Tryz.ntmps108 rfl rfl fun a hs=>?_
 refine zC hs hw ?_;clear hs;intro a hs
 refine aF hs (hc:=pC w0 _ pd f.d _ hw.swap2) (k:=?_);rintro e0 W1 ⟨c,rfl,hw1⟩;refine ⟨_,rfl,?_⟩;clear hs hw;intro a hs;have hw:=hw1;clear hw1
 refine zC hs hw ?_;clear hs;intro a hs
 have hw:Has 0 w0 _ (aA p (dB f.place pd xs) 271::bI pd f.d::bI c f.d::R):=hw.pm
 exact rt1 hs rfl rfl ⟨c,rfl,(lL hw ht).swap2⟩
theorem aGH (w0 W:World) (H:Fh) (p:Nat) (f:dV) (c:Int) (R:List Res) (h8:∀x∈f.told,x.2.b.l.length≤8) (hw:Has 0 w0 W (aS H p f::Fz H::R)):
  Calls Tryz.prog 247 ⟨[.pointer (some ⟨p,0,none⟩),.int .i64 c]⟩ W fun e W'=>∃sv H',e= .returned (.tuple ⟨[.agg ⟨aJ (cK f c) sv⟩,.bool (!(cQ f c == 0))]⟩)∧H.le H'∧cH H' sv (cK f c).b.l∧Has 0 w0 W' (aS H p f::Fz H'::R):=by
 refine enter Tryz.func247 Tryz.ntmps247 rfl rfl fun a hs=>?_
 repeat (first|(refine sxv hs hw ?_;clear hs;intro a hs)|refine sxc hs ?_|(refine sxa hs hw ?_;clear hs hw;intro a b W hw hs)|(refine sxs hs hw ?_;clear hs hw;intro W hs hw)|((with_reducible first|refine eQ hs (k:=?_)|refine eR hs (k:=?_));clear hs;intro a hs))
 obtain ⟨b4,q4⟩:=nm1 hw;subst q4
 refine aF hs (hc:=rZ w0 _ H p f c _ hw.swap2) (k:=?_);rintro e0 W1 ⟨rfl,hw1⟩;refine ⟨_,rfl,?_⟩;clear hs hw;intro a hs;have hw:=hw1;clear hw1
 refine zC hs hw ?_;clear hs;intro a hs
 cases h0:(cQ f c == 0) with
 |true=>
  rw [h0] at hs
  have hT:cK f c=zeroRow:=by unfold cK;rw [if_pos (by simpa using h0)]
  refine zD hs hw ?_;clear hs hw;intro a W hs hw
  refine rc2 hs rfl rfl hw (In.tl In.hd) rfl rfl ?_
  rw [hT]
  exact ⟨.slice none 0 0,H,rfl,Fh.le.refl _,jW H,hw.sub (List.Sublist.cons_cons _ (List.Sublist.cons _ (List.Sublist.refl _)))⟩
 |false=>
  rw [h0] at hs
  have h0':¬cQ f c=0:=by simpa using h0
  have hc:1≤c∧c≤5:=by
   by_cases hc:1≤c∧c≤5
   ·exact hc
   ·exfalso;apply h0';unfold cQ;rw [if_neg hc]
  obtain ⟨pd,xs,ht,hw⟩:=nG hw
  obtain ⟨x,hx⟩:∃x,f.told[c.toNat]? =some x:=⟨f.told[c.toNat]'(by rw [ht.1];omega),List.getElem?_eq_getElem _⟩
  have hT:cK f c=x.2:=by unfold cK aAx;rw [if_neg h0',if_pos hc,hx];rfl
  have hx8:=h8 x (List.mem_of_getElem? hx)
  obtain ⟨sv,hsv,h6⟩:=aA6 ht hx
  rw [hT]
  refine zC hs hw ?_;clear hs;intro a hs
  refine lG hs (h0:=by omega) (h1:=by omega) (c:=?_);clear hs;intro a hs
  refine zC hs hw ?_;clear hs;intro a hs
  refine eC (z:=zrc) hs (cs:=aJ x.2 sv) (hc:=fun j u hu=>?hcc) (hl:=rfl) (c:=?_)
  case hcc=>
   rw [hC (hw.block In.hd).1]
   show (dB f.place pd xs)[0+2+c.toNat*6+1+j]? =_
   rw [show 0+2+c.toNat*6+1+j=c.toNat*6+(j+1)+1+1 by omega]
   have h9:=congrArg (fun t=>t[j+1]?) h6
   simp only [fX,List.getElem?_take,List.getElem?_drop,List.getElem?_cons_succ] at h9
   rw [hu] at h9
   split at h9
   ·simpa [dB] using h9
   ·cases h9
  clear hs;intro a hs
  have hw:Has 0 w0 _ (Fz H::aA p (dB f.place pd xs) 271::bI pd f.d::aA b4 zrc 68::R):=hw.pm
  refine aF hs (hc:=v8 w0 _ H x.2 sv _ (by omega) hsv hw) (k:=?_);rintro e0 W1 ⟨sv',H',rfl,hle,hsv',hw1⟩;refine ⟨_,rfl,?_⟩;clear hs hw;intro a hs;have hw:=hw1;clear hw1
  obtain ⟨tad,tcap,rfl⟩:=hsv'.slice
  refine zD hs hw ?_;clear hs hw;intro a W hs hw
  refine rc2 hs rfl rfl hw (In.tl (In.tl (In.tl In.hd))) rfl rfl ?_
  have hw:Has 0 w0 _ (aA p (dB f.place pd xs) 271::bI pd f.d::aA b4 (aJ x.2 (.slice tad x.2.b.l.length tcap)) 68::Fz H'::R):=hw.pm
  exact ⟨_,H',rfl,hle,hsv',(lL hw ht).sub (List.Sublist.cons_cons _ (List.Sublist.cons _ (List.Sublist.refl _)))⟩
def cS (h:fN):List UInt8:=frB 1 (Ph.putI h.term ++ Ph.putI h.vote)
def cJ (e:bZ):List UInt8:=frB 2 (Ph.putI e.ix ++ Ph.putI e.term ++ Ph.putI e.kind ++ Ph.putT e.data.data.toList)
def iI:Nat→List UInt8→List UInt8
 |0,_=>[]
 |n+1,s=>match s with| []=>[]|_=>frB 4 (s.take 3000) ++ iI n (s.drop 3000)
def cZ (s:eA):List UInt8:=frB 3 (Ph.putI s.ix ++ Ph.putI s.term ++ Ph.putT s.conf.data.toList ++ Ph.putI (s.data.data.toList.length:Int)) ++ iI 70 s.data.data.toList
structure wO where
 b:List UInt8
 lasts:Nat
 there:Bool
abbrev bM:=Option wO
def j0 (d:bM) (b:List UInt8):Option bM:=
 let f:=d.getD ⟨[],0,false⟩
 if f.b.length+b.length≤1048576 then some (some {f with b:=f.b ++ b}) else none
def pP (d:bM):Option bM:=d.map fun f=>some {f with lasts:=f.b.length,there:=true}
def mM (b:List UInt8):Option bM:=if b.length≤1048576 then some (some ⟨b,b.length,true⟩) else none
structure dY where
 h:fN
 s:eA
 log:List bZ
 size:Nat
def aAy (k:dY):List UInt8:=cZ k.s ++ cS k.h ++ k.log.flatMap cJ
def pQ (d:bM) (k:dY) (b:List UInt8) (n:dY):Option (bM×dY):=
 if k.size=0∨1048576<k.size+b.length then none
 else (j0 d b).map fun d=>(d,{n with size:=k.size+b.length})
def nO (d:bM) (k:dY) (h:fN):Option (bM×dY):=if i5 h=true then pQ d k (cS h) {k with h:=h} else none
def lQ (i:Int):List bZ→Bool
 | []=>true
 |e::r=>eN e && (e.ix == i) && lQ (i+1) r
def wP (d:bM) (k:dY) (l:List bZ):Option (bM×dY):=
 match l with
 | []=>some (d,k)
 |e::r=>
  let at_:=e.ix - k.s.ix - 1
  if at_<0∨(k.log.length:Int)<at_∨lQ e.ix (e::r)=false∨200<at_+((e::r).length:Int) then none
  else pQ d k ((e::r).flatMap cJ) {k with log:=k.log.take at_.toNat ++ (e::r)}
def pR (d:bM) (k:dY) (s:eA):Option (bM×dY):=
 if eU s=false∨s.ix<k.s.ix then none
 else
  let at_:=s.ix - k.s.ix - 1
  let log:=if at_<0∧s.term=k.s.term then k.log
   else if 0≤at_∧at_<(k.log.length:Int)∧(k.log.getD at_.toNat gN).term=s.term then k.log.drop (at_.toNat+1) else []
  let n:dY:={k with s:=s,log:=log}
  (mM (aAy n)).map fun d=>(d,{n with size:=(aAy n).length})
structure cY where
 k:dY
 r:RaftD
 t:dU
def pS (d:bM) (s:cY) (o:fV):Option (bM×dY):=
 if o.snap=true then none else do
 let x←if o.hard=true then nO d s.k s.r.h else some (d,s.k)
 let y←if 0<o.from_ then wP x.1 x.2 (s.r.l.get o.from_ 200) else some x
 if o.hard=true∨0<o.from_ then (pP y.1).map fun d=>(d,y.2) else some y
def nP:Nat→RaftD→dU→Option dU
 |0,_,_=>none
 |n+1,r,t=>if t.ix<r.commit then (match r.l.get (w64 (t.ix+1)) 1 with| []=>some t|e::_=>nP n r (eB t e).1) else some t
def gP (x:Int):Bool:=decide (-9223372036854775808≤x) && decide (x≤9223372036854775807)
def sH (o:OpD):Bool:=gP o.kind && gP o.vk && gP o.vn && gP o.ok && gP o.on && gP o.n && decide (o.key.size≤1000000) && decide (o.vs.size≤1000000) && decide (o.os.size≤1000000)
def mN (b:cR):Bool:=gP b.c && gP b.q && b.l.all sH && decide (b.l.length≤8)
def lR (r:cD):Bool:=gP r.place && gP r.err && mN r.b
def kS (t:dU):Bool:=decide (t.rows.length≤1000) && t.rows.all lR && t.f.told.all fun x=>decide (x.2.b.l.length≤8)
def kT (r:RaftD):Bool:=decide (r.out.msgs.length=0) && (match r.v with|none=>true|some o=>decide (o.yes.length≤100) && decide (o.no.length≤100))
def aGI (k:dY):Bool:=decide (k.log.length≤200) && decide (0<k.size)
def nQ (s:cY):Bool:=kT s.r && kS s.t && aGI s.k
def mO (d:bM) (s:cY) (o:fV):Option (bM×cY×List bP):=do
 let x←pS d s o
 let t←nP 300 s.r s.t
 if nQ ⟨x.2,s.r,t⟩=true then some (x.1,⟨x.2,s.r,t⟩,o.msgs) else none
def aAz (d:bM) (s:cY):Option (bM×cY×List bP):=mO d {s with r:=s.r.fire.1} s.r.fire.2
def wQ (d:bM) (s:cY) (m:bP):Option (bM×cY×List bP):=if m.kind=5 then none else mO d {s with r:=(s.r.step m).1} (s.r.step m).2
def emptyData:List UInt8:=jI emptyT
def sI (id:Int) (first:List Int):Option (bM×cY):=do
 let x←pR none ⟨⟨0,0⟩,zeroSnap,[],0⟩ ⟨0,0,⟨(iF first).toArray⟩,⟨emptyData.toArray⟩⟩
 let r←pO id x.2.h ⟨x.2.s,x.2.log⟩ x.2.s.ix
 if nQ ⟨x.2,r,emptyT⟩=true then some (x.1,⟨x.2,r,emptyT⟩) else none
def inR (lo hi:Int) (l:List Int):Bool:=l.all fun x=>!decide (x<lo) && !decide (x > hi)
theorem wR {b:Nat} {lo hi:Int} {l:List Int} {L L1:List Res} (hl:l.length≤100) [c:dH (fun l=>aA b (l.map (Value.int .i64)) 2) L l L1]:Get Tryz.prog 228 [.int .i64 lo,.int .i64 hi,.slice (some ⟨b,0,none⟩) l.length l.length] L (.bool (inR lo hi l)) L:=⟨fun {w W} hw=>by
 have hr:∀{W},Has 0 w W L→Rd W 1 (.slice (some ⟨b,0,none⟩) l.length l.length) l.length (l.map (Value.int .i64)):=fun h=>(h.pick c.p).rd_lit In.hd (by simp) (by omega)
 refine enter Tryz.func228 Tryz.ntmps228 rfl rfl fun a hs=>?_
 refine sv hs hw fun a hs=>?_
 refine bX (σ:=Nat) (fun i=>[(0,.int .i64 lo),(1,.int .i64 hi),(9,.slice (some ⟨b,0,none⟩) l.length l.length),(10,.int .i64 (l.length:Int)),(11,.int .i64 (i:Int))]) (fun _=>L) (fun i=>i≤l.length∧inR lo hi l=inR lo hi (l.drop i)) (fun i=>l.length - i) 0 ⟨Nat.zero_le _,rfl⟩ hs ⟨rfl,rfl,rfl,rfl,rfl,trivial⟩ hw ?_
 clear hs hw
 rintro i a W ⟨hi',hh⟩ hs hw
 refine sv hs hw fun a hs=>?_
 refine cI hs (kt:=fun hc=>?_) (kf:=fun hc=>?_)
 ·have hi2:i<l.length:=by simpa using hc
  obtain ⟨o,ho,hd⟩:=dS hi2
  rw [hd] at hh
  refine sc hs ?_
  refine iA hs (hr hw) ho rfl fun a b f hs=>?_
  refine sv hs hw fun a hs=>?_
  have hq:inR lo hi (o::l.drop (i+1))=(!decide (o<lo) && !decide (o > hi) && inR lo hi (l.drop (i+1))):=rfl
  cases c1:decide (o<lo) with
  |true=>
   rw [c1] at hs hq
   refine sv hs hw fun a hs=>?_
   exact rt1 hs rfl rfl ⟨by rw [hh,hq];rfl,hw⟩
  |false=>
  rw [c1] at hs hq
  refine sv hs hw fun a hs=>?_
  cases c2:decide (o > hi) with
  |true=>
   rw [c2] at hs hq
   refine sv hs hw fun a hs=>?_
   exact rt1 hs rfl rfl ⟨by rw [hh,hq];rfl,hw⟩
  |false=>
   rw [c2] at hs hq
   refine sv hs hw fun a hs=>?_
   exact bR (i+1) hs hw ⟨hi2,by rw [hh,hq];simp⟩ (by omega) ⟨rfl,rfl,rfl,rfl,bS (i1 (by omega)),trivial⟩
 ·have:l.drop i= []:=List.drop_eq_nil_of_le (by simp at hc;omega)
  refine sv hs hw fun a hs=>?_
  exact rt1 hs rfl rfl ⟨by rw [hh,this];rfl,hw⟩⟩
abbrev fG (hard:Bool) (h:fN) (e:bZ):List Value:=[.bool hard,.int .i64 h.term,.int .i64 h.vote,.int .i64 e.ix,.int .i64 e.term,.int .i64 e.kind,.string e.data]
section
variable {L:List Res} {h:fN} {e:bZ}
theorem aBA (lo hi x:Int):inR lo hi [x]=(!decide (x<lo) && !decide (x > hi)):=by simp [inR]
theorem aBB (lo hi x y:Int):inR lo hi [x,y]=((!decide (x<lo) && !decide (x > hi)) && (!decide (y<lo) && !decide (y > hi))):=by simp [inR]
theorem aGJ (x:Int):(!decide (x<0))=decide (x≥0):=by by_cases h:x<0 <;> simp [h] <;> omega
theorem aBC (x y:Int):(!decide (x > y))=decide (x≤y):=by by_cases h:x > y <;> simp [h] <;> omega
instance wal_May_hard:Get Tryz.prog 161 [.agg ⟨fG true h gN⟩] L (.bool (i5 h)) L:=⟨fun {w W} hw=>by
 refine enter Tryz.func161 Tryz.ntmps161 rfl rfl fun a hs=>?_
 refine sc hs ?_
 refine sn hs hw fun b a W hs hw=>?_
 refine sv hs hw fun a hs=>?_
 refine sn hs hw fun c a W hs hw=>?_
 refine cl hs ((wR (l:=[h.term]) (by simp) (c:=⟨Pick.hd⟩)).ok hw) fun a W hs hw=>?_
 rw [aBA] at hs
 have hm:i5 h=((!decide (h.term<0) && !decide (h.term > 1099511627776)) && decide (h.vote≥0) && decide (h.vote≤7)):=by unfold i5 cX;rw [aGJ h.vote,aBC h.vote]
 rw [hm]
 have drop:∀{W},Has 0 w W (aA c [.int .i64 h.term] 2::aA b (fG true h gN) 238::L)→Has 0 w W L:=fun h=>h.sub (List.Sublist.cons _ (List.Sublist.cons _ (List.Sublist.refl _)))
 cases c1:(!decide (h.term<0) && !decide (h.term > 1099511627776)) with
 |false=>
  rw [c1] at hs
  refine sv hs hw fun a hs=>?_
  exact rt1 hs rfl rfl ⟨rfl,drop hw⟩
 |true=>
 rw [c1] at hs
 refine sv hs hw fun a hs=>?_
 cases c2:decide (h.vote≥0) with
 |false=>
  rw [c2] at hs
  refine sv hs hw fun a hs=>?_
  exact rt1 hs rfl rfl ⟨rfl,drop hw⟩
 |true=>
 rw [c2] at hs
 refine sv hs hw fun a hs=>?_
 cases c3:decide (h.vote≤7) with
 |false=>
  rw [c3] at hs
  refine sv hs hw fun a hs=>?_
  exact rt1 hs rfl rfl ⟨rfl,drop hw⟩
 |true=>
 rw [c3] at hs
 refine sv hs hw fun a hs=>?_
 refine vL [(2,.i 0,.i 0),(2,.i 0,.i 0),(3,.i 0,.i 0),(9,.s ⟨#[]⟩,.s ⟨#[]⟩)] true (by simp [FV.eqv]) hs (by simp only [List.mem_cons,List.not_mem_nil,or_false];rintro v (rfl|rfl|rfl|rfl) <;> first|exact rR _ _|exact aAM _ _) fun a hs=>?_
 refine sv hs hw fun a hs=>?_
 exact rt1 hs rfl rfl ⟨rfl,drop hw⟩⟩
instance wal_May_ent:Get Tryz.prog 161 [.agg ⟨fG false ⟨0,0⟩ e⟩] L (.bool (eN e)) L:=⟨fun {w W} hw=>by
 refine enter Tryz.func161 Tryz.ntmps161 rfl rfl fun a hs=>?_
 refine sc hs ?_
 refine sn hs hw fun b a W hs hw=>?_
 refine sv hs hw fun a hs=>?_
 refine vL [(2,.i 0,.i 0),(3,.i 0,.i 0)] true (by simp [FV.eqv]) hs (by simp only [List.mem_cons,List.not_mem_nil,or_false];rintro v (rfl|rfl) <;> exact rR _ _) fun a hs=>?_
 refine sv hs hw fun a hs=>?_
 refine sn hs hw fun c a W hs hw=>?_
 refine rG hs (c:=?_)
 refine cl hs ((wR (l:=[e.ix,e.term]) (by simp) (c:=⟨Pick.hd⟩)).ok hw) fun a W hs hw=>?_
 rw [aBB] at hs
 have lt1:∀x:Int,(!decide (x<1))=decide (x≥1):=fun x=>by by_cases h:x<1 <;> simp [h] <;> omega
 have hm:eN e=((in1 e.ix && in1 e.term) && decide (e.kind≥1) && decide (e.kind≤3) && decide ((e.data.size:Int)≤2500)):=by unfold eN;rw [lt1 e.kind,aBC e.kind]
 rw [show ((!decide (e.ix<1) && !decide (e.ix > 1099511627776)) && (!decide (e.term<1) && !decide (e.term > 1099511627776)))=(in1 e.ix && in1 e.term) from rfl] at hs
 rw [hm]
 have drop:∀{W},Has 0 w W (aA c [.int .i64 e.ix,.int .i64 e.term] 2::aA b (fG false ⟨0,0⟩ e) 238::L)→Has 0 w W L:=fun h=>h.sub (List.Sublist.cons _ (List.Sublist.cons _ (List.Sublist.refl _)))
 cases c1:(in1 e.ix && in1 e.term) with
 |false=>
  rw [c1] at hs
  refine sv hs hw fun a hs=>?_
  exact rt1 hs rfl rfl ⟨rfl,drop hw⟩
 |true=>
 rw [c1] at hs
 refine sv hs hw fun a hs=>?_
 cases c2:decide (e.kind≥1) with
 |false=>
  rw [c2] at hs
  refine sv hs hw fun a hs=>?_
  exact rt1 hs rfl rfl ⟨rfl,drop hw⟩
 |true=>
 rw [c2] at hs
 refine sv hs hw fun a hs=>?_
 cases c3:decide (e.kind≤3) with
 |false=>
  rw [c3] at hs
  refine sv hs hw fun a hs=>?_
  exact rt1 hs rfl rfl ⟨rfl,drop hw⟩
 |true=>
 rw [c3] at hs
 refine sv hs hw fun a hs=>?_
 exact rt1 hs rfl rfl ⟨rfl,drop hw⟩⟩
end
section
variable {L:List Res} {h:fN} {e:bZ} {s:eA}
theorem aBD (hm:i5 h=true):New Tryz.prog 260 [.agg ⟨fG true h gN⟩] L (Option Addr×Nat) (fun s=> .slice s.1 (cS h).length s.2) (fun s=>bY (.slice s.1 (cS h).length s.2) (cS h)::L):=⟨fun {w W} hw=>by
 have hb:0≤h.term∧h.term≤1099511627776∧0≤h.vote∧h.vote≤7:=by
  unfold i5 cX at hm
  simp at hm
  omega
 have p1:=Ph.putI_length_le h.term
 have p2:=Ph.putI_length_le h.vote
 refine enter Tryz.func260 Tryz.ntmps260 rfl rfl fun a hs=>?_
 refine sc hs ?_
 refine sn hs hw fun b a W hs hw=>?_
 refine sv hs hw fun a hs=>?_
 refine cl hs ((wal_May_hard (h:=h)).ok hw) fun a W hs hw=>?_
 rw [hm] at hs
 refine sv hs hw fun a hs=>?_
 refine bF [3,7,8] [.f 0 0,.f 0 0,.f 0 0,.m 0,.f 0 1,.f 0 1,.f 0 1,.m 1,.m 2,.f 3 3] [.c0 _,.c0 _,.c0 _,.c1 (fun x=> .slice x.ad (Ph.putI h.term).length x.cap),.c0 _,.c0 _,.c0 _,.c2 (fun x y=> .slice y.ad (Ph.putI h.term ++ Ph.putI h.vote).length y.cap),.c3 (fun x y z=> .slice z.ad (cS h).length z.cap),.c3 _] (aA b (fG true h gN) 238::L) (fun x=>bY (.slice x.ad (Ph.putI h.term).length x.cap) (Ph.putI h.term)::aA b (fG true h gN) 238::L) (fun x y=>bY (.slice y.ad (Ph.putI h.term ++ Ph.putI h.vote).length y.cap) (Ph.putI h.term ++ Ph.putI h.vote)::aA b (fG true h gN) 238::L) (fun x y z=>bY (.slice z.ad (cS h).length z.cap) (cS h)::bY (.slice y.ad (Ph.putI h.term ++ Ph.putI h.vote).length y.cap) (Ph.putI h.term ++ Ph.putI h.vote)::aA b (fG true h gN) 238::L) (fun x y z t=>[]) hs hw ?kk ⟨drs,drs,drs,?m0,drs,drs,drs,?m1,?m2,drs,trivial⟩
 case m0=>
  intro x y z t LD a W hs hw
  refine aF hs (hc:=eJ w W (.slice none 0 0) [] h.term _ (by omega) (by omega) (by simp) (hw.nilB 5)) (k:=?_)
  rintro e' W' ⟨ad,cap,rfl,hw⟩
  exact ⟨_,rfl,fun a hs=>⟨{ad:=ad,cap:=cap},hs,hw⟩⟩
 case m1=>
  intro x y z t LD a W hs hw
  refine aF hs (hc:=eJ w W _ (Ph.putI h.term) h.vote _ (by omega) (by omega) (by omega) hw) (k:=?_)
  rintro e' W' ⟨ad,cap,rfl,hw⟩
  exact ⟨_,rfl,fun a hs=>⟨{ad:=ad,cap:=cap},hs,hw⟩⟩
 case m2=>
  intro x y z t LD a W hs hw
  refine aF hs (hc:=nC w W 1 (Ph.putI h.term ++ Ph.putI h.vote) _ _ (by decide) (by decide) (by rw [List.length_append];omega) (fun h=>h.rd_own In.hd) hw) (k:=?_)
  rintro e' W' ⟨s,rfl,_,hw⟩
  exact ⟨_,rfl,fun a hs=>⟨{ad:=s.1,cap:=s.2},hs,hw⟩⟩
 case kk=>
  intro x y z a W hs hw
  refine sc hs ?_
  exact rt1 hs rfl rfl ⟨(z.ad,z.cap),rfl,hw.sl⟩⟩
theorem aBE (hm:eN e=true):New Tryz.prog 260 [.agg ⟨fG false ⟨0,0⟩ e⟩] L (Option Addr×Nat) (fun s=> .slice s.1 (cJ e).length s.2) (fun s=>bY (.slice s.1 (cJ e).length s.2) (cJ e)::L):=⟨fun {w W} hw=>by
 have hb:1≤e.ix∧e.ix≤1099511627776∧1≤e.term∧e.term≤1099511627776∧1≤e.kind∧e.kind≤3∧e.data.size≤2500:=by
  unfold eN in1 at hm
  simp at hm
  omega
 have p1:=Ph.putI_length_le e.ix
 have p2:=Ph.putI_length_le e.term
 have p3:=Ph.putI_length_le e.kind
 have p4:=mH e.data
 refine enter Tryz.func260 Tryz.ntmps260 rfl rfl fun a hs=>?_
 refine sc hs ?_
 refine sn hs hw fun b a W hs hw=>?_
 refine sv hs hw fun a hs=>?_
 refine cl hs ((wal_May_ent (e:=e)).ok hw) fun a W hs hw=>?_
 rw [hm] at hs
 refine sv hs hw fun a hs=>?_
 refine bF [3,7,11] [.f 0 0,.f 0 0,.f 0 0,.m 0,.f 0 1,.f 0 1,.f 0 1,.m 1,.f 0 2,.f 0 2,.f 0 2,.m 2,.f 3 3] [.c0 _,.c0 _,.c0 _,.c1 (fun x=> .slice x.ad (Ph.putI e.ix).length x.cap),.c0 _,.c0 _,.c0 _,.c2 (fun x y=> .slice y.ad (Ph.putI e.ix ++ Ph.putI e.term).length y.cap),.c0 _,.c0 _,.c0 _,.c3 (fun x y z=> .slice z.ad (Ph.putI e.ix ++ Ph.putI e.term ++ Ph.putI e.kind).length z.cap),.c3 _] (aA b (fG false ⟨0,0⟩ e) 238::L) (fun x=>bY (.slice x.ad (Ph.putI e.ix).length x.cap) (Ph.putI e.ix)::aA b (fG false ⟨0,0⟩ e) 238::L) (fun x y=>bY (.slice y.ad (Ph.putI e.ix ++ Ph.putI e.term).length y.cap) (Ph.putI e.ix ++ Ph.putI e.term)::aA b (fG false ⟨0,0⟩ e) 238::L) (fun x y z=>bY (.slice z.ad (Ph.putI e.ix ++ Ph.putI e.term ++ Ph.putI e.kind).length z.cap) (Ph.putI e.ix ++ Ph.putI e.term ++ Ph.putI e.kind)::aA b (fG false ⟨0,0⟩ e) 238::L) (fun x y z t=>[]) hs hw ?kk ⟨drs,drs,drs,?m0,drs,drs,drs,?m1,drs,drs,drs,?m2,drs,trivial⟩
 case m0=>
  intro x y z t LD a W hs hw
  refine aF hs (hc:=eJ w W (.slice none 0 0) [] e.ix _ (by omega) (by omega) (by simp) (hw.nilB 5)) (k:=?_)
  rintro e' W' ⟨ad,cap,rfl,hw⟩
  exact ⟨_,rfl,fun a hs=>⟨{ad:=ad,cap:=cap},hs,hw⟩⟩
 case m1=>
  intro x y z t LD a W hs hw
  refine aF hs (hc:=eJ w W _ (Ph.putI e.ix) e.term _ (by omega) (by omega) (by omega) hw) (k:=?_)
  rintro e' W' ⟨ad,cap,rfl,hw⟩
  exact ⟨_,rfl,fun a hs=>⟨{ad:=ad,cap:=cap},hs,hw⟩⟩
 case m2=>
  intro x y z t LD a W hs hw
  refine aF hs (hc:=eJ w W _ (Ph.putI e.ix ++ Ph.putI e.term) e.kind _ (by omega) (by omega) (by rw [List.length_append];omega) hw) (k:=?_)
  rintro e' W' ⟨ad,cap,rfl,hw⟩
  exact ⟨_,rfl,fun a hs=>⟨{ad:=ad,cap:=cap},hs,hw⟩⟩
 case kk=>
  intro x y z a W hs hw
  have hl:(Ph.putI e.ix ++ Ph.putI e.term ++ Ph.putI e.kind).length≤30:=by simp only [List.length_append];omega
  have hB:cJ e=frB 2 ((Ph.putI e.ix ++ Ph.putI e.term ++ Ph.putI e.kind) ++ Ph.putT e.data.data.toList):=rfl
  rw [hB]
  replace hs:Slots a 38 ((3,.slice z.ad (Ph.putI e.ix ++ Ph.putI e.term ++ Ph.putI e.kind).length z.cap)::(1,.pointer (some ⟨b,0,none⟩)):: []):=hs.of ⟨rfl,rfl,trivial⟩
  generalize Ph.putI e.ix ++ Ph.putI e.term ++ Ph.putI e.kind=u at *
  refine sv hs hw fun a hs=>?_
  refine aF hs (hc:=oR w W _ u e.data _ (by omega) (by omega) hw) (k:=?_);rintro e0 W1 ⟨ad,cap,rfl,hw1⟩;refine ⟨_,rfl,?_⟩;clear hs hw;intro a hs;have hw:=hw1;clear hw1
  refine cle hs (nC w _ 2 (u ++ Ph.putT e.data.data.toList) _ _ (by decide) (by decide) (by rw [List.length_append];omega) (fun h=>h.rd_own In.hd) hw) fun s a W _ hs hw=>?_
  refine sv hs hw fun a hs=>?_
  exact rt1 hs rfl rfl ⟨s,rfl,hw.sl⟩⟩
end
abbrev bQ (l:List Int):List Value:=l.map fun x=>Value.int .i64 x
def aN (v:Value) (l:List Int):Res:=Sx.Own 3 1 v l.length (bQ l)
def wS (v:Value) (l:List Int):Res:=Sx.Own 2 1 v l.length (bQ l)
def bC (v:Value) (l:List bZ):Res:=Sx.Own 137 4 v l.length (l.flatMap bE)
abbrev e7 (s:eA):List Value:=[.int .i64 s.ix,.int .i64 s.term,.string s.conf,.string s.data]
def j6 (l:LogD):Prop:=0≤l.s.ix∧l.s.ix≤1099511627776∧l.l.length≤200∧l.s.conf.size≤1000000∧∀e∈l.l,e.data.size≤1000000
abbrev eO (p:Nat) (s:eA) (v:Value):Res:=aA p [.int .i64 s.ix,.int .i64 s.term,.string s.conf,.string s.data,v] 203
def aI (p:Nat) (l:LogD):Res:=Ex fun v:Value=>eO p l.s v::bC v l.l::bN (j6 l):: []
abbrev mP (p:Nat) (x y z:Value):Res:=aA p [x,y,z] 295
def fW (p:Nat) (v:VotesD):Res:=Ex fun x:Value×Value×Value=>mP p x.1 x.2.1 x.2.2::aN x.1 v.l::aN x.2.1 v.yes::aN x.2.2 v.no:: []
def gG (p:Nat) (t:TrackD):Res:=Ex fun _:Unit=>aA p (bQ t.next ++ bQ t.mat) 340::bN (t.next.length=8∧t.mat.length=8):: []
section
variable {G p:Nat} {w W:World} {R:List Res} {l:LogD} {v:Value} {vt:VotesD} {x y z:Value} {t:TrackD}
theorem gX (h:Has G w W (eO p l.s v::bC v l.l::R)) (hl:j6 l):Has G w W (aI p l::R):=Has.shut v ((h.fact hl).pm)
theorem iJ (h:Has G w W (aI p l::R)):j6 l∧∃ad cap,Has G w W (eO p l.s (.slice ad l.l.length cap)::bC (.slice ad l.l.length cap) l.l::R):=by
 obtain ⟨v,h⟩:=Has.open h
 have h:Has G w W (eO p l.s v::bC v l.l::bN (j6 l)::R):=h
 have h2:Has G w W (bC v l.l::eO p l.s v::R):=h.sl
 obtain ⟨ad,cap,rfl⟩:=Has.own_slice h2
 exact ⟨h.told (In.tl (In.tl In.hd)),ad,cap,h2.swap2⟩
theorem j7 (h:Has G w W (mP p x y z::aN x vt.l::aN y vt.yes::aN z vt.no::R)):Has G w W (fW p vt::R):=Has.shut (x,y,z) h
theorem pT (h:Has G w W (fW p vt::R)):∃ad cap ad2 cap2 ad3 cap3,Has G w W (mP p (.slice ad vt.l.length cap) (.slice ad2 vt.yes.length cap2) (.slice ad3 vt.no.length cap3)::aN (.slice ad vt.l.length cap) vt.l::aN (.slice ad2 vt.yes.length cap2) vt.yes::aN (.slice ad3 vt.no.length cap3) vt.no::R):=by
 obtain ⟨⟨x,y,z⟩,h⟩:=Has.open h
 have h:Has G w W (mP p x y z::aN x vt.l::aN y vt.yes::aN z vt.no::R):=h
 obtain ⟨ad,cap,rfl⟩:=Has.own_slice (h.pm:Has G w W (aN x vt.l::mP p x y z::aN y vt.yes::aN z vt.no::R))
 obtain ⟨ad2,cap2,rfl⟩:=Has.own_slice (h.pm:Has G w W (aN y vt.yes::mP p (.slice ad vt.l.length cap) y z::aN (.slice ad vt.l.length cap) vt.l::aN z vt.no::R))
 obtain ⟨ad3,cap3,rfl⟩:=Has.own_slice (h.pm:Has G w W (aN z vt.no::mP p (.slice ad vt.l.length cap) (.slice ad2 vt.yes.length cap2) z::aN (.slice ad vt.l.length cap) vt.l::aN (.slice ad2 vt.yes.length cap2) vt.yes::R))
 exact ⟨ad,cap,ad2,cap2,ad3,cap3,h⟩
theorem iK (h:Has G w W (aA p (bQ t.next ++ bQ t.mat) 340::R)) (hl:t.next.length=8∧t.mat.length=8):Has G w W (gG p t::R):=Has.shut () ((h.fact hl).pm)
theorem nR (h:Has G w W (gG p t::R)):(t.next.length=8∧t.mat.length=8)∧Has G w W (aA p (bQ t.next ++ bQ t.mat) 340::R):=by
 obtain ⟨_,h⟩:=Has.open h
 have h:Has G w W (aA p (bQ t.next ++ bQ t.mat) 340::bN (t.next.length=8∧t.mat.length=8)::R):=h
 exact ⟨h.told (In.tl In.hd),h.sl⟩
end
end Go.Proofs.YtgpbngfehfbndaaGreatDoor.Sw
namespace Go.Sx
open Go.RowKit
section
variable {P:Program} {ops:Array Oper} {aD:List Oper} {Q:Exit→Act→World→Prop} {a:Act} {n:Nat} {L:List (Nat×Value)} {W:World} {d:Nat} {T S:TypeId} {p:String} {e:Array Edge} {x lo:Operand} {q:IntKind} {i:Int} {s:ByteArray}
theorem aGK [t:StrTy P S] (hs:Slots a n L) (h0:0≤i) (h1:i≤s.size) (c:∀a',Slots a' n ((d,.string (s.extract i.toNat s.size))::L)→wpList P ops Q aD a' W) (hx:ev L x=some (.string s):=by with_unfolding_all exact rfl) (hh:ev L lo=some (.int q i):=by with_unfolding_all exact rfl) (hd:Nat.blt d n=true:=by with_unfolding_all exact rfl):
  wpList P ops Q (⟨some d,.slice S x (some lo) none none,T,p,e,none⟩::aD) a W:=by
 refine bO hs hd (W':=W) ?_ c
 simp only [execOp,Option.map_some,Option.map_none,hs.ev hx,hs.ev hh]
 simp only [Sem.run_bind,run_sliceAt_string (h:=t.out),run_slice_string_l (ht:=t.out) (h0:=h0) (h1:=h1),Result.andThen_ok]
 rfl
end
end Go.Sx
namespace Go.Proofs.YtgpbngfehfbndaaGreatDoor.Sw
open Go.RowKit Go.Sx
section
variable {L:List Res} {s:eA}
abbrev mQ (b:Nat) (s:eA):Res:=aA b (e7 s) 36
instance wal_may:Get Tryz.prog 227 [.agg ⟨e7 s⟩] L (.bool (eU s)) L:=⟨fun {w W} hw=>by
 refine enter Tryz.func227 Tryz.ntmps227 rfl rfl fun a hs=>?_
 refine sc hs ?_
 refine sn hs hw fun b a W hs hw=>?_
 refine sv hs hw fun a hs=>?_
 refine sn hs hw fun c a W hs hw=>?_
 refine cl hs ((wR (l:=[s.ix,s.term]) (by simp) (c:=⟨Pick.hd⟩)).ok hw) fun a W hs hw=>?_
 rw [aBB] at hs
 rw [show ((!decide (s.ix<0) && !decide (s.ix > 1099511627776)) && (!decide (s.term<0) && !decide (s.term > 1099511627776)))=(cX s.ix && cX s.term) from rfl] at hs
 have drop:∀{W},Has 0 w W (aA c [.int .i64 s.ix,.int .i64 s.term] 2::mQ b s::L)→Has 0 w W L:=fun h=>h.sub (List.Sublist.cons _ (List.Sublist.cons _ (List.Sublist.refl _)))
 have hm:eU s=((cX s.ix && cX s.term) && decide ((s.conf.size:Int)≤50) && decide ((s.data.size:Int)≤200000)):=rfl
 rw [hm]
 cases c1:(cX s.ix && cX s.term) with
 |false=>
  rw [c1] at hs
  refine sv hs hw fun a hs=>?_
  exact rt1 hs rfl rfl ⟨rfl,drop hw⟩
 |true=>
 rw [c1] at hs
 refine sv hs hw fun a hs=>?_
 cases c2:decide ((s.conf.size:Int)≤50) with
 |false=>
  rw [c2] at hs
  refine sv hs hw fun a hs=>?_
  exact rt1 hs rfl rfl ⟨rfl,drop hw⟩
 |true=>
 rw [c2] at hs
 refine sv hs hw fun a hs=>?_
 exact rt1 hs rfl rfl ⟨rfl,drop hw⟩⟩
def kU (s:eA):List UInt8:=Ph.putI s.ix ++ Ph.putI s.term ++ Ph.putT s.conf.data.toList
theorem aBF (k:Nat):iI k []= []:=by cases k <;> rfl
theorem aBG {k:Nat} {s:List UInt8} (h:s≠[]):iI (k+1) s=frB 4 (s.take 3000) ++ iI k (s.drop 3000):=by
 cases s with
 |nil=>exact absurd rfl h
 |cons x s=>rfl
theorem aGL {k:Nat} {s:List UInt8} (h:s≠[]) {m:Nat} (hm:m=min s.length 3000):iI (k+1) s=frB 4 (s.take m) ++ iI k (s.drop m):=by
 rw [aBG h]
 subst hm
 by_cases h3:s.length≤3000
 ·rw [Nat.min_eq_left h3,List.take_of_length_le (Nat.le_refl _),List.drop_of_length_le (Nat.le_refl _),List.take_of_length_le h3,List.drop_of_length_le h3]
 ·rw [Nat.min_eq_right (by omega)]
theorem mR (k:Nat) (l:List UInt8):(frB k l).length≤15+l.length:=by
 have:=Ph.putI_length_le (l.length:Int)
 simp only [frB,List.length_append,List.length_cons]
 have e4:(jU (iT (iT 0 (UInt8.ofNat k::Ph.putI (l.length:Int))) l)).length=4:=rfl
 omega
theorem wT (hm:eU s=true):New Tryz.prog 153 [.agg ⟨e7 s⟩] L (Option Addr×Nat) (fun x=> .slice x.1 (cZ s).length x.2) (fun x=>bY (.slice x.1 (cZ s).length x.2) (cZ s)::L):=⟨fun {w W} hw=>by
 have hb:0≤s.ix∧s.ix≤1099511627776∧0≤s.term∧s.term≤1099511627776∧s.conf.size≤50∧s.data.size≤200000:=by
  unfold eU cX at hm
  simp at hm
  omega
 have p1:=Ph.putI_length_le s.ix
 have p2:=Ph.putI_length_le s.term
 have p3:=mH s.conf
 have p4:=Ph.putI_length_le (s.data.size:Int)
 have hdl:s.data.data.toList.length=s.data.size:=by rw [Array.length_toList];rfl
 refine enter Tryz.func153 Tryz.ntmps153 rfl rfl fun a hs=>?_
 refine sc hs ?_
 refine sn hs hw fun b a W hs hw=>?_
 refine sv hs hw fun a hs=>?_
 refine cl hs ((wal_may (s:=s)).ok hw) fun a W hs hw=>?_
 rw [hm] at hs
 refine sv hs hw fun a hs=>?_
 refine bF [2,5,8] [.f 0 0,.f 0 0,.m 0,.f 0 1,.f 0 1,.m 1,.f 0 2,.f 0 2,.m 2,.f 3 3] [.c0 _,.c0 _,.c1 (fun x=> .slice x.ad (Ph.putI s.ix).length x.cap),.c0 _,.c0 _,.c2 (fun x y=> .slice y.ad (Ph.putI s.ix ++ Ph.putI s.term).length y.cap),.c0 _,.c0 _,.c3 (fun x y z=> .slice z.ad (kU s).length z.cap),.c3 _] (mQ b s::L) (fun x=>bY (.slice x.ad (Ph.putI s.ix).length x.cap) (Ph.putI s.ix)::mQ b s::L) (fun x y=>bY (.slice y.ad (Ph.putI s.ix ++ Ph.putI s.term).length y.cap) (Ph.putI s.ix ++ Ph.putI s.term)::mQ b s::L) (fun x y z=>bY (.slice z.ad (kU s).length z.cap) (kU s)::mQ b s::L) (fun x y z t=>[]) hs hw ?kk ⟨drs,drs,?m0,drs,drs,?m1,drs,drs,?m2,drs,trivial⟩
 case m0=>
  intro x y z t LD a W hs hw
  refine aF hs (hc:=eJ w W (.slice none 0 0) [] s.ix _ (by omega) (by omega) (by simp) (hw.nilB 5)) (k:=?_)
  rintro e' W' ⟨ad,cap,rfl,hw⟩
  exact ⟨_,rfl,fun a hs=>⟨{ad:=ad,cap:=cap},hs,hw⟩⟩
 case m1=>
  intro x y z t LD a W hs hw
  refine aF hs (hc:=eJ w W _ (Ph.putI s.ix) s.term _ (by omega) (by omega) (by omega) hw) (k:=?_)
  rintro e' W' ⟨ad,cap,rfl,hw⟩
  exact ⟨_,rfl,fun a hs=>⟨{ad:=ad,cap:=cap},hs,hw⟩⟩
 case m2=>
  intro x y z t LD a W hs hw
  refine aF hs (hc:=oR w W _ (Ph.putI s.ix ++ Ph.putI s.term) s.conf _ (by omega) (by rw [List.length_append];omega) hw) (k:=?_)
  rintro e' W' ⟨ad,cap,rfl,hw⟩
  exact ⟨_,rfl,fun a hs=>⟨{ad:=ad,cap:=cap},hs,hw⟩⟩
 case kk=>
  intro x y z a W hs hw
  have hl:(kU s).length≤100:=by simp only [kU,List.length_append];omega
  have hB:cZ s=frB 3 (kU s ++ Ph.putI (s.data.size:Int)) ++ iI 70 s.data.data.toList:=by unfold cZ kU;rw [hdl]
  rw [hB]
  replace hs:Slots a 43 ((3,.slice z.ad (kU s).length z.cap)::(1,.pointer (some ⟨b,0,none⟩)):: []):=hs.of ⟨rfl,rfl,trivial⟩
  generalize kU s=u at *
  refine sv hs hw fun a hs=>?_
  refine aF hs (hc:=eJ w W _ u (s.data.size:Int) _ (by omega) (by omega) (by omega) hw) (k:=?_);rintro e0 W1 ⟨ad,cap,rfl,hw1⟩;refine ⟨_,rfl,?_⟩;clear hs hw;intro a hs;have hw:=hw1;clear hw1
  refine cle hs (nC w _ 3 (u ++ Ph.putI (s.data.size:Int)) _ _ (by decide) (by decide) (by rw [List.length_append];omega) (fun h=>h.rd_own In.hd) hw) fun f a W _ hs hw=>?_
  have hfl:=mR 3 (u ++ Ph.putI (s.data.size:Int))
  have hul:(u ++ Ph.putI (s.data.size:Int)).length≤110:=by rw [List.length_append];omega
  replace hw:Has 0 w W (bY (.slice f.1 (frB 3 (u ++ Ph.putI (s.data.size:Int))).length f.2) (frB 3 (u ++ Ph.putI (s.data.size:Int)))::mQ b s::L):=hw.sl
  generalize frB 3 (u ++ Ph.putI (s.data.size:Int))=h0 at *
  refine sv hs hw fun a hs=>?_
  refine bX (σ:=Nat×List UInt8×ByteArray×Option Addr×Nat) (fun q=>[(4,.slice q.2.2.2.1 q.2.1.length q.2.2.2.2),(5,.string q.2.2.1)]) (fun q=>bY (.slice q.2.2.2.1 q.2.1.length q.2.2.2.2) q.2.1::mQ b s::L) (fun q=>h0 ++ iI 70 s.data.data.toList=q.2.1 ++ iI q.1 q.2.2.1.data.toList∧q.2.2.1.data.toList.length≤3000*q.1∧q.1≤70∧q.2.1.length+4000*q.1≤1000000) (fun q=>q.1) (70,h0,s.data,f.1,f.2) ⟨rfl,by show s.data.data.toList.length≤_;omega,Nat.le_refl _,by show h0.length+_≤_;omega⟩ hs ⟨rfl,rfl,trivial⟩ hw ?_
  clear hs hw
  rintro ⟨k,o,r,ad,cap⟩ a W ⟨h1,h2,h3,h4⟩ hs hw
  simp only at h1 h2 h3 h4 hs hw
  have hrl:r.data.toList.length=r.size:=by rw [Array.length_toList];rfl
  refine sv hs hw fun a hs=>?_
  refine cI hs (kt:=fun hc=>?_) (kf:=fun hc=>?_)
  ·have hne:r.data.toList≠[]:=by
    intro h
    rw [Go.ByteArray.toList_eq,Go.ByteArray.toList_eq,h] at hc
    simp at hc
   have hpos:0<r.data.toList.length:=List.length_pos_iff.2 hne
   obtain ⟨k,rfl⟩:∃j,k=j+1:=⟨k - 1,by omega⟩
   refine sv hs hw fun a hs=>?_
   refine rM hs (k:=fun a hs=>?_)
   obtain ⟨m,hm⟩:∃m:Nat,m=min r.data.toList.length 3000:=⟨_,rfl⟩
   rw [show (if (3000:Int)<(r.size:Int) then (3000:Int) else (r.size:Int))=(m:Int) by rw [hm];split <;> omega] at hs
   have hp:=aGL (k:=k) hne hm
   refine sv hs hw fun a hs=>?_
   refine aEJ hs (h0:=by omega) (h1:=by omega) (c:=fun a hs=>?_)
   rw [Int.toNat_natCast] at hs
   have he:(r.extract 0 m).data.toList=r.data.toList.take m:=Ph.extract_take r m
   have hes:(r.extract 0 m).size=m:=by
    have h9:(r.extract 0 m).data.toList.length=(r.extract 0 m).size:=by rw [Array.length_toList];rfl
    rw [←h9,he,List.length_take];omega
   generalize r.extract 0 m=r1 at *
   refine nL (s:=r1) hs hw (by omega) (c:=fun a c cp ext W hw hr hs=>?_)
   rw [he] at hr hs hw
   have hcap:(r.data.toList.take m).length=m:=by rw [List.length_take];omega
   refine cle hs (nC w W 4 (r.data.toList.take m) _ _ (by decide) (by decide) (by rw [hcap];omega) (fun h=>h.rdM In.hd hr) hw) fun g a W _ hs hw=>?_
   have hgl:=mR 4 (r.data.toList.take m)
   refine hJ hs (hw.pick (Pick.tl (Pick.tl Pick.hd))) (l:=o) (m:=frB 4 (r.data.toList.take m)) (hr:=fK (hw.rd_own In.hd) (jQ _)) (hb:=by omega) (c:=fun a ad2 cap2 W hs hw=>?_)
   refine sv hs hw fun a hs=>?_
   refine aGK (s:=r) (i:=(m:Int)) hs (by omega) (by omega) fun a hs=>?_
   rw [Int.toNat_natCast] at hs
   have he2:(r.extract m r.size).data.toList=r.data.toList.drop m:=Ph.extract_drop r m
   refine sv hs hw fun a hs=>?_
   refine bR (k,o ++ frB 4 (r.data.toList.take m),r.extract m r.size,ad2,cap2) hs (hw.sl) ⟨?_,?_,?_,?_⟩ (by show k<k+1;omega) ⟨rfl,rfl,trivial⟩
   ·show _=(o ++ frB 4 (r.data.toList.take m)) ++ iI k (r.extract m r.size).data.toList
    rw [h1,hp,he2,List.append_assoc]
   ·show (r.extract m r.size).data.toList.length≤3000*k
    rw [he2,List.length_drop];omega
   ·show k≤70;omega
   ·show (o ++ frB 4 (r.data.toList.take m)).length+4000*k≤1000000
    rw [List.length_append];omega
  ·have hnil:r.data.toList= []:=by
    rw [Go.ByteArray.toList_eq,Go.ByteArray.toList_eq] at hc
    simpa using hc
   rw [hnil,aBF,List.append_nil] at h1
   rw [h1]
   refine sv hs hw fun a hs=>?_
   exact rt1 hs rfl rfl ⟨(ad,cap),rfl,hw.sl⟩⟩
end
theorem aGM (l:List Int) (v:Value) (x:Int) (w:World) (r:Rd w 1 v l.length (bQ l)):
  Calls Tryz.prog 263 ⟨[v,.int .i64 x]⟩ w fun e w'=>(∃j:Int,e= .returned (.int .i64 j)∧decide (j≥0)=has l x)∧Below w.heap.size w w':=by
 have hw:=Has.start (G:=0) (w:=w) (Nat.zero_le _)
 have hlen:=r.len
 obtain ⟨ad,cap,rfl⟩:∃ad cap,v= .slice ad l.length cap:=by obtain ⟨_,ad,cap,e,_⟩:=r;exact ⟨ad,cap,e⟩
 refine enter Tryz.func263 Tryz.ntmps263 rfl rfl fun a hs=>?_
 refine sv hs hw fun a hs=>?_
 refine bX (σ:=Nat) (fun i=>[(0,.slice ad l.length cap),(1,.int .i64 x),(7,.int .i64 (l.length:Int)),(8,.int .i64 (i:Int))]) (fun _=>Old w 0:: []) (fun i=>i≤l.length∧has l x=has (l.drop i) x) (fun i=>l.length - i) 0 ⟨Nat.zero_le _,rfl⟩ hs ⟨rfl,rfl,rfl,rfl,trivial⟩ hw ?_
 clear hs hw
 rintro i a W ⟨hi,hh⟩ hs hw
 refine sv hs hw fun a hs=>?_
 refine cI hs (kt:=fun hc=>?_) (kf:=fun hc=>?_)
 ·have hi':i<l.length:=by simpa using hc
  obtain ⟨o,ho,hd⟩:=dS hi'
  refine sv hs hw fun a hs=>?_
  refine iA hs (hw.rd (by repeat (first|exact In.hd|apply In.tl)) hw.ext.size r) ho rfl fun a b f hs=>?_
  refine sv hs hw fun a hs=>?_
  rw [hd] at hh
  cases c:(x == o) with
  |true=>
   rw [c] at hs
   refine sv hs hw fun a hs=>?_
   exact rt1 hs rfl rfl ⟨⟨(i:Int),rfl,by rw [hh];simp at c;simp [has,c]⟩,hw.end (by repeat (first|exact In.hd|apply In.tl))⟩
  |false=>
   rw [c] at hs
   refine sv hs hw fun a hs=>?_
   exact bR (i+1) hs hw ⟨hi',by rw [hh];simp at c;simp [has,Ne.symm c]⟩ (by omega) ⟨rfl,rfl,rfl,bS (i1 (by omega)),trivial⟩
 ·have:l.drop i= []:=List.drop_eq_nil_of_le (by simp at hc;omega)
  refine sv hs hw fun a hs=>?_
  exact rt1 hs rfl rfl ⟨⟨-1,rfl,by rw [hh,this];rfl⟩,hw.end (by repeat (first|exact In.hd|apply In.tl))⟩
theorem aBH (l:List Int) (v:Value) (x:Int) (w:World) (r:Rd w 1 v l.length (bQ l)):
  Calls Tryz.prog 131 ⟨[v,.int .i64 x]⟩ w fun e w'=>e= .returned (.bool (has l x))∧Below w.heap.size w w':=by
 have hw:=Has.start (G:=0) (w:=w) (Nat.zero_le _)
 refine enter Tryz.func131 Tryz.ntmps131 rfl rfl fun a hs=>?_
 refine sv hs hw fun a hs=>?_
 have hc:Calls Tryz.prog 207 ⟨[v,.int .i64 x]⟩ w fun e w'=>e= .returned (.bool (has l x))∧Below w.heap.size w w':=by
  clear hs hw
  have hw:=Has.start (G:=0) (w:=w) (Nat.zero_le _)
  refine enter Tryz.func207 Tryz.ntmps207 rfl rfl fun a hs=>?_
  refine sv hs hw fun a hs=>?_
  refine aF hs (hc:=aGM l v x _ (hw.rd (by repeat (first|exact In.hd|apply In.tl)) hw.ext.size r)) (k:=?_)
  rintro e w' ⟨⟨j,rfl,hj⟩,hb⟩
  refine ⟨_,rfl,fun a hs=>?_⟩
  have hw:=hw.below hb
  refine sv hs hw fun a hs=>?_
  exact rt1 hs rfl rfl ⟨by rw [hj],hw.end (by repeat (first|exact In.hd|apply In.tl))⟩
 refine cb hs hw hc fun a W hs hw=>?_
 refine sv hs hw fun a hs=>?_
 exact rt1 hs rfl rfl ⟨rfl,hw.end (by repeat (first|exact In.hd|apply In.tl))⟩
def mS (l:List Int) (i:Nat):Option Int:=match i with|0=>none|j+1=>l[j]?
theorem aBI (l:List Int) (v:Value) (w:World) (r:Rd w 1 v l.length (bQ l)):
  Calls Tryz.prog 85 ⟨[v]⟩ w fun e w'=>e= .returned (.bool (dD l))∧Below w.heap.size w w':=by
 have hw:=Has.start (G:=0) (w:=w) (Nat.zero_le _)
 have hlen:=r.len
 obtain ⟨ad,cap,rfl⟩:∃ad cap,v= .slice ad l.length cap:=by obtain ⟨_,ad,cap,e,_⟩:=r;exact ⟨ad,cap,e⟩
 refine enter Tryz.func85 Tryz.ntmps85 rfl rfl fun a hs=>?_
 refine sv hs hw fun a hs=>?_
 refine bX (σ:=Nat) (fun i=>[(0,.slice ad l.length cap),(5,.slice ad l.length cap),(6,.int .i64 (l.length:Int)),(7,.int .i64 (i:Int))]) (fun _=>Old w 0:: []) (fun i=>i≤l.length∧gD none l=gD (mS l i) (l.drop i)) (fun i=>l.length - i) 0 ⟨Nat.zero_le _,rfl⟩ hs ⟨rfl,rfl,rfl,rfl,trivial⟩ hw ?_
 clear hs hw
 rintro i a W ⟨hi,hh⟩ hs hw
 refine sv hs hw fun a hs=>?_
 refine cI hs (kt:=fun hc=>?_) (kf:=fun hc=>?_)
 ·have hi':i<l.length:=by simpa using hc
  obtain ⟨o,ho,hd⟩:=dS hi'
  refine sv hs hw fun a hs=>?_
  refine iA hs (hw.rd (by repeat (first|exact In.hd|apply In.tl)) hw.ext.size r) ho rfl fun a b f hs=>?_
  refine sv hs hw fun a hs=>?_
  rw [hd] at hh
  have hnext:mS l (i+1)=some o:=ho
  cases c1:decide (o<1) with
  |true=>
   rw [c1] at hs
   refine sv hs hw fun a hs=>?_
   exact rt1 hs rfl rfl ⟨by unfold dD;rw [hh];cases mS l i <;> simp [gD,c1],hw.end (by repeat (first|exact In.hd|apply In.tl))⟩
  |false=>
  rw [c1] at hs
  refine sv hs hw fun a hs=>?_
  cases c2:decide (o > 7) with
  |true=>
   rw [c2] at hs
   refine sv hs hw fun a hs=>?_
   exact rt1 hs rfl rfl ⟨by unfold dD;rw [hh];cases mS l i <;> simp [gD,c2],hw.end (by repeat (first|exact In.hd|apply In.tl))⟩
  |false=>
  rw [c2] at hs
  refine sv hs hw fun a hs=>?_
  cases i with
  |zero=>
   refine sv hs hw fun a hs=>?_
   exact bR 1 hs hw ⟨hi',by rw [hh,hnext];simp [mS,gD,c1,c2]⟩ (by omega) ⟨rfl,rfl,rfl,bS (i1 (by omega)),trivial⟩
  |succ j=>
   obtain ⟨y,hy,_⟩:=dS (show j<l.length by omega)
   rw [show mS l (j+1)=some y from hy] at hh
   rw [show decide (((j+1:Nat):Int) > 0)=true from decide_eq_true (by omega)] at hs
   refine sv hs hw fun a hs=>?_
   rw [show IntKind.i64.wrap (((j+1:Nat):Int) - 1)=(j:Int) by rw [IntWalk.i64_in _ (by omega)];omega] at hs
   refine fZ hs (hw.rd (by repeat (first|exact In.hd|apply In.tl)) hw.ext.size r) II.len (rP l) hy rfl (c:=fun a b f c hc hcl hpc hlt hs=>?_)
   obtain rfl:c=_:=hc
   refine rG hs (c:=?_)
   refine eP hs (hc:=hpc 0 _ rfl) (c:=fun a hs=>?_)
   refine sv hs hw fun a hs=>?_
   cases c3:decide (y≥o) with
   |true=>
    rw [c3] at hs
    refine sv hs hw fun a hs=>?_
    exact rt1 hs rfl rfl ⟨by unfold dD;rw [hh];simp [gD,c3],hw.end (by repeat (first|exact In.hd|apply In.tl))⟩
   |false=>
    rw [c3] at hs
    refine sv hs hw fun a hs=>?_
    exact bR (j+2) hs hw ⟨hi',by rw [hh,hnext];simp [gD,c1,c2,c3]⟩ (by omega) ⟨rfl,rfl,rfl,bS (i1 (by omega)),trivial⟩
 ·have:l.drop i= []:=List.drop_eq_nil_of_le (by simp at hc;omega)
  refine sv hs hw fun a hs=>?_
  refine rt1 hs rfl rfl ⟨?_,hw.end (by repeat (first|exact In.hd|apply In.tl))⟩
  unfold dD
  rw [hh,this]
  cases mS l i <;> rfl
section
variable {p:Nat} {v:VotesD} {x:Int} {l:List Int} {sl:Value} {L L1:List Res}
instance conf_HasG [c:dH (fun l=>aN sl l) L l L1]:Get Tryz.prog 131 [sl,.int .i64 x] L (.bool (has l x)) L:=⟨fun {w W} hw=>
 (aBH l sl x W ((hw.pick c.p).rd_own In.hd)).mono fun e W' ⟨h1,h2⟩=>⟨h1,hw.below h2⟩⟩
instance conf_MayG [c:dH (fun l=>aN sl l) L l L1]:Get Tryz.prog 85 [sl] L (.bool (dD l)) L:=⟨fun {w W} hw=>
 (aBI l sl W ((hw.pick c.p).rd_own In.hd)).mono fun e W' ⟨h1,h2⟩=>⟨h1,hw.below h2⟩⟩
instance vote_may [c:dH (fun v=>fW p v) L v L1]:Get Tryz.prog 208 [.pointer (some ⟨p,0,none⟩),.int .i64 x] L (.bool (v.may x)) L:=⟨fun {w W} hw=>by
 obtain ⟨a1,c1,a2,c2,a3,c3,hw⟩:=pT (hw.pick c.p)
 refine enter Tryz.func208 Tryz.ntmps208 rfl rfl fun a hs=>?_
 refine sx hs hw fun a W hs hw=>?_
 unfold VotesD.may
 cases h1:has v.l x with
 |false=>
  rw [h1] at hs
  refine sv hs hw fun a hs=>?_
  exact rt1 hs rfl rfl ⟨rfl,(j7 hw).unpick c.p⟩
 |true=>
 rw [h1] at hs
 refine sx hs hw fun a W hs hw=>?_
 cases h2:has v.yes x with
 |true=>
  rw [h2] at hs
  refine sv hs hw fun a hs=>?_
  exact rt1 hs rfl rfl ⟨rfl,(j7 hw).unpick c.p⟩
 |false=>
 rw [h2] at hs
 refine sx hs hw fun a W hs hw=>?_
 exact rt1 hs rfl rfl ⟨rfl,(j7 hw).unpick c.p⟩⟩
instance vote_may0:Get Tryz.prog 208 [.pointer none,.int .i64 x] L (.bool false) L:=⟨fun {w W} hw=>by
 refine enter Tryz.func208 Tryz.ntmps208 rfl rfl fun a hs=>?_
 refine sv hs hw fun a hs=>?_
 exact rt1 hs rfl rfl ⟨rfl,hw⟩⟩
theorem aBJ (hb:v.yes.length≤1000) [c:dH (fun v=>fW p v) L v L1]:Get Tryz.prog 134 [.pointer (some ⟨p,0,none⟩),.int .i64 x] L (.bool (v.yesD x).2) (fW p (v.yesD x).1::L1):=⟨fun {w W} hw=>by
 have hw:=hw.pick c.p
 refine enter Tryz.func134 Tryz.ntmps134 rfl rfl fun a hs=>?_
 refine sx hs hw fun a W hs hw=>?_
 unfold VotesD.yesD
 cases h1:v.may x with
 |false=>
  rw [h1] at hs
  refine sv hs hw fun a hs=>?_
  exact rt1 hs rfl rfl ⟨rfl,hw⟩
 |true=>
 rw [h1] at hs
 obtain ⟨a1,c1,a2,c2,a3,c3,hw⟩:=pT hw
 refine sv hs hw fun a hs=>?_
 refine sn hs hw fun b a W hs hw=>?_
 refine mD hs hw (show Pick (aN (.slice a2 v.yes.length c2) v.yes) _ _ from .tl (.tl .hd)) (by omega) fun a ad cap W hs hw=>?_
 refine sx hs hw fun a W hs hw=>?_
 exact rt1 hs rfl rfl ⟨rfl,j7 (vt:=⟨v.l,v.yes ++ [x],v.no⟩) (hw.pm)⟩⟩
theorem aGN (hb:v.no.length≤1000) [c:dH (fun v=>fW p v) L v L1]:Get Tryz.prog 212 [.pointer (some ⟨p,0,none⟩),.int .i64 x] L (.bool (v.noD x).2) (fW p (v.noD x).1::L1):=⟨fun {w W} hw=>by
 have hw:=hw.pick c.p
 refine enter Tryz.func212 Tryz.ntmps212 rfl rfl fun a hs=>?_
 refine sx hs hw fun a W hs hw=>?_
 unfold VotesD.noD
 cases h1:v.may x with
 |false=>
  rw [h1] at hs
  refine sv hs hw fun a hs=>?_
  exact rt1 hs rfl rfl ⟨rfl,hw⟩
 |true=>
 rw [h1] at hs
 obtain ⟨a1,c1,a2,c2,a3,c3,hw⟩:=pT hw
 refine sv hs hw fun a hs=>?_
 refine sn hs hw fun b a W hs hw=>?_
 refine mD hs hw (show Pick (aN (.slice a3 v.no.length c3) v.no) _ _ from .tl (.tl (.tl .hd))) (by omega) fun a ad cap W hs hw=>?_
 refine sx hs hw fun a W hs hw=>?_
 exact rt1 hs rfl rfl ⟨rfl,j7 (vt:=⟨v.l,v.yes,v.no ++ [x]⟩) (hw.pm)⟩⟩
instance vote_Yes0:Get Tryz.prog 134 [.pointer none,.int .i64 x] L (.bool false) L:=⟨fun {w W} hw=>by
 refine enter Tryz.func134 Tryz.ntmps134 rfl rfl fun a hs=>?_
 refine sx hs hw fun a W hs hw=>?_
 exact rt1 hs rfl rfl ⟨rfl,hw⟩⟩
instance vote_No0:Get Tryz.prog 212 [.pointer none,.int .i64 x] L (.bool false) L:=⟨fun {w W} hw=>by
 refine enter Tryz.func212 Tryz.ntmps212 rfl rfl fun a hs=>?_
 refine sx hs hw fun a W hs hw=>?_
 exact rt1 hs rfl rfl ⟨rfl,hw⟩⟩
end
end Go.Proofs.YtgpbngfehfbndaaGreatDoor.Sw
