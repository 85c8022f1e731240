/-
  Texts of the proof, one behind the other (part 41).
-/
import Derived.Test.YtgpbngfehfbndaaGreatDoorM40
import Derived.Test.YtgpbngfehfbndaaGreatDoorChecked
import Derived.Test.YtgpbngfehfbndaaGreatDoorProg
set_option maxHeartbeats 16000000
set_option linter.unusedVariables false
set_option maxRecDepth 100000
namespace Go.Proofs.YtgpbngfehfbndaaGreatDoor.Sw
open Go.RowKit Go.Sx
section
variable {H H':Fh} {p q ps:Nat} {w0 W:World} {R L:List Res} {u u':cZ} {s:eL} {d d':bF} {ad:Option Addr} {cap:Nat} {xs:List Value} {b:cU} {err:Int}
theorem aIb (s:eL) (r:cF):s.l.length≤(one s r).1.l.length:=by
 unfold one
 repeat (first|split|simp)
theorem aCp:∀{rows:List cF} {s:eL} {n:Nat},s.l.length≤(gJ s n rows).1.l.length
 | [],s,n=>Nat.le_refl _
 |r::rows,s,n=>by
  have h1:=aIb s r;simp only [gJ];split
  ·exact Nat.le_trans h1 aCp
  ·exact h1
theorem aCq {r:cF} (hm:dS r.b=true):(fT r).length≤1300:=by
 have p1:=Ph.putI_length_le r.place;have p2:=Ph.putI_length_le r.err;have p3:=y6 hm;have:=nI 2 (Ph.putI r.place ++ Ph.putI r.err ++ cX r.b);unfold fT;simp only [List.length_append] at this⊢;omega
theorem aCr:∀{l:List cF},(∀r∈l,dS r.b=true)→(l.flatMap fT).length≤l.length*1300
 | [],_=>by simp
 |r::l,h=>by
  have h1:=aCq (h r (by simp));have h2:=aCr (l:=l) fun x hx=>h x (by simp [hx]);simp only [List.flatMap_cons,List.length_append,List.length_cons];omega
theorem aIc {sz m k:Nat} (r:RdH H sz (.slice ad k cap) k xs) (h1:m≤k):RdH H sz (loV ad sz k cap m) (k - m) (xs.drop (m*sz)):=by
 obtain ⟨hx,ad',cap',e,h3,h4,h5⟩:=r;injection e with e1 _ e3;subst e1 e3;refine ⟨by rw [List.length_drop,hx,Nat.sub_mul],_,_,rfl,by omega,by omega,?_⟩;rcases h5 with rfl|⟨b,o,cs,T,z,rfl,hb,hc⟩
 ·exact .inl (by omega)
 ·by_cases hci:cap=m
  ·exact .inl (by omega)
  ·refine .inr ⟨b,o+m*sz,cs,T,z,by rw [if_neg hci];simp [eK],hb,fun j u hu=>?_⟩;rw [List.getElem?_drop] at hu;rw [Nat.add_assoc];exact hc _ _ hu
theorem aId (rows:List cF) {v:Value} {n:Nat} (hrl:rows.length≤1000) (hro:∀r∈rows,jV r) (hv:iC H v rows) (h:uO d u rows=some (d',u',n,err)) (hH:(fr w0).le H) (hT:Tabs w0) (hw:Has 0 w0 W (eM H p q u::aB nameQ q d::Fz H::R)):
  Calls Tryz.prog 182 ⟨[ptr p,v]⟩ W fun e W'=>∃H':Fh,e= .returned (.tuple ⟨[.int .i64 (n:Int),.int .i64 err]⟩)∧H.le H'∧Has 0 w0 W' (eM H' p q u'::aB nameQ q d'::Fz H'::R):=by
 obtain ⟨ho,ps,ad,cap,xs,hc,hw⟩:=kV hw;have hf:=mK ho;obtain ⟨ys,hr,hys⟩:=hv;obtain ⟨vad,vcap,rfl⟩:=hr.slice;have hsl:=hf.rows.1;obtain ⟨K,hK⟩:∃K,K=(rows.takeWhile (fH u)).length:=⟨_,rfl⟩
 have hKl:K≤rows.length:=by rw [hK];exact (List.takeWhile_prefix _).length_le
 have htk:rows.takeWhile (fH u)=rows.take K:=by rw [hK];exact List.prefix_iff_eq_take.1 (List.takeWhile_prefix _)
 refine enter Tryz.func182 Tryz.ntmps182 rfl rfl fun a hs=>?_;refine sc hs ?_;refine sn hs hw fun b2 a W hs hw=>?_;refine sx hs hw fun a W hs hw=>?_;have hw:Has 0 w0 W (bA H ps u.s::bJ p q u.c (.slice ad u.added.length cap) ps::Sx.Own 66 3 (.slice ad u.added.length cap) u.added.length xs::aA b2 [ptr p] 114::aB nameQ q d::Fz H::R):=hw.pm;refine cle hs (aIZ (by omega) hw) fun p2 a W _ hs hw=>?_;refine sv hs hw fun a hs=>?_;refine aAt hs (k:=fun a hs=>?_);have hw:Has 0 w0 W (bJ p q u.c (.slice ad u.added.length cap) ps::Sx.Own 66 3 (.slice ad u.added.length cap) u.added.length xs::bA H ps u.s::aA b2 [ptr p] 114::bA H p2 u.s::aB nameQ q d::Fz H::R):=hw.pm;refine cl hs (aI3 rows _ hr hys hf hc (In.tl (In.tl In.hd)) hw) fun a W hs hw=>?_;rw [←hK] at hs;replace hs:Slots a 78 ((23,.int .i64 (if K<rows.length then (K:Int) else -1)):: [(0,ptr p),(1,.slice vad rows.length vcap),(2,ptr b2),(6,ptr p2)]):=hs.ot;refine zE hs hw ?_;clear hs;intro a hs;refine sq ?_;refine eW (M:=fun a W=>Slots a 78 [(0,ptr p),(1,.slice vad rows.length vcap),(2,ptr b2),(6,ptr p2),(7,.int .i64 (K:Int))]∧Has 0 w0 W (bJ p q u.c (.slice ad u.added.length cap) ps::Sx.Own 66 3 (.slice ad u.added.length cap) u.added.length xs::bA H ps u.s::aA b2 [ptr p] 114::bA H p2 u.s::aB nameQ q d::Fz H::R)) ?_ ?_
 ·refine sx hs hw fun a W hs hw=>?_
  by_cases c1:K<rows.length
  ·rw [if_pos c1] at hs;rw [show decide ((K:Int)<0)=false from decide_eq_false (by omega)] at hs;refine sc hs ?_;exact ⟨hs.ot,hw⟩
  ·rw [if_neg c1] at hs;rw [show decide ((-1:Int)<0)=true from rfl] at hs;have h9:rows.length=K:=by omega
   refine sv hs hw fun a hs=>?_;exact ⟨hs.of ⟨rfl,rfl,rfl,rfl,by rw [←h9];rfl,trivial⟩,hw⟩
 clear hs hw;rintro a W ⟨hs,hw⟩;obtain ⟨T,hTk⟩:∃T,T=gJ u.s 0 (rows.take K):=⟨_,rfl⟩
 refine sv hs hw fun a hs=>?_;refine aFB hs (r:=hr) (z:=zrc) (i:=(K:Int)) (h0:=by omega) (h1:=by omega) (c:=fun a tv hr' hs=>?_);rw [Int.toNat_natCast] at hr';have hkl:(rows.take K).length=K:=by rw [List.length_take];omega
 have hv':iC H tv (rows.take K):=⟨_,by rw [hkl];exact hr',Ch.take RowIn.len K hys⟩
 have hw:Has 0 w0 W (bA H p2 u.s::Fz H::bJ p q u.c (.slice ad u.added.length cap) ps::Sx.Own 66 3 (.slice ad u.added.length cap) u.added.length xs::bA H ps u.s::aA b2 [ptr p] 114::aB nameQ q d::R):=hw.pm;refine aG hs (hc:=aGR w0 W H p2 u.s (rows.take K) tv _ (by omega) (fun r hr=>hro r (List.mem_of_mem_take hr)) hv' hH hT hw) (k:=?_);rintro e' W ⟨H3,rfl,hle3,hw⟩;refine ⟨_,rfl,fun a hs=>?_⟩;rw [←hTk] at hs hw;have hw:=hw.lz hle3;unfold uO at h;rw [htk,←hTk] at h;have hw:Has 0 w0 W (bJ p q u.c (.slice ad u.added.length cap) ps::Sx.Own 66 3 (.slice ad u.added.length cap) u.added.length xs::bA H3 ps u.s::aA b2 [ptr p] 114::bA H3 p2 T.1::aB nameQ q d::Fz H3::R):=hw.pm;obtain ⟨E9,hE9⟩:∃E9,E9=uN (rows.take K) rows T.2.2:=⟨_,rfl⟩
 rw [←hE9] at h;unfold uN at hE9;rw [hkl] at hE9;refine zE hs hw ?_;clear hs;intro a hs;refine sq ?_;refine eW (M:=fun a W=>Slots a 78 [(0,ptr p),(2,ptr b2),(6,ptr p2),(8,.int .i64 (T.2.1:Int)),(9,.int .i64 E9)]∧Has 0 w0 W (bJ p q u.c (.slice ad u.added.length cap) ps::Sx.Own 66 3 (.slice ad u.added.length cap) u.added.length xs::bA H3 ps u.s::aA b2 [ptr p] 114::bA H3 p2 T.1::aB nameQ q d::Fz H3::R)) ?_ ?_
 ·refine sv hs hw fun a hs=>?_;cases c2:T.2.2 == 0 with
  |false=>
   rw [c2] at hs;rw [if_neg (by rintro ⟨g,_⟩;rw [g] at c2;cases c2)] at hE9;refine sv hs hw fun a hs=>?_;subst hE9;exact ⟨hs.ot,hw⟩
  |true=>
  rw [c2] at hs;have g2:T.2.2=0:=by simpa using c2
  refine sv hs hw fun a hs=>?_;cases c3:decide ((K:Int)<(rows.length:Int)) with
  |false=>
   rw [c3] at hs;have g3:=of_decide_eq_false c3;rw [if_neg (by omega)] at hE9;refine sc hs ?_;subst hE9;exact ⟨hs.ot,hw⟩
  |true=>
   rw [c3] at hs;have g3:=of_decide_eq_true c3;rw [if_pos (by omega)] at hE9;refine sv hs hw fun a hs=>?_;subst hE9;exact ⟨hs.ot,hw⟩
 clear hs hw;rintro a W ⟨hs,hw⟩;refine sv hs hw fun a hs=>?_;have hc3:=hc.mono (BatIn.le hle3);cases c4:((T.2.1:Int) == 0) with
 |true=>
  rw [c4] at hs;rw [if_pos (by simpa using c4)] at h;injection h with h;injection h with e1 h;injection h with e2 h;injection h with e3 e4;subst e1 e2 e3 e4;refine sv hs hw fun a hs=>?_;refine rt2 hs rfl rfl rfl ⟨H3,rfl,hle3,?_⟩;have hw:Has 0 w0 W (bJ p q u.c (.slice ad u.added.length cap) ps::Sx.Own 66 3 (.slice ad u.added.length cap) u.added.length xs::bA H3 ps u.s::aB nameQ q d::Fz H3::R):=hw.sl;exact lP hw hc3 ho
 |false=>
 rw [c4] at hs;rw [if_neg (by intro g;rw [g] at c4;cases c4),Option.map_eq_some_iff] at h;obtain ⟨⟨d2,u2⟩,h1,h2⟩:=h;obtain ⟨d3,h3,h4⟩:=Option.bind_eq_some_iff.1 h1;unfold uL at h4;have c5:gO {u with s:=T.1}=true:=by
  cases hq:gO {u with s:=T.1} with
  |true=>rfl
  |false=>rw [if_neg (by rw [hq];simp)] at h4;cases h4
 rw [if_pos c5] at h4;injection h4 with h4;injection h4 with e1 e2;subst e1;injection h2 with e3 h2;injection h2 with e4 h2;injection h2 with e5 e6;subst e3 e5 e6;rw [show (d3,u2).2=u2 from rfl] at e4;subst e4;subst e2;have hf5:=mK c5;obtain ⟨m,hm⟩:∃m,m=u.s.l.length:=⟨_,rfl⟩
 have hmT:m≤T.1.l.length:=by rw [hm,hTk];exact aCp
 obtain ⟨l,hl⟩:∃l,l=T.1.l.drop m:=⟨_,rfl⟩
 have hll:l.length=T.1.l.length - m:=by rw [hl,List.length_drop]
 have hTl:T.1.l.length≤1000:=hf5.rows.1;have hTr:∀r∈T.1.l,(jV r∧r.b.l.length≤8)∧dS r.b=true:=hf5.rows.2;rw [←hm,←hl] at h3;replace hs:Slots a 78 [(0,ptr p),(2,ptr b2),(6,ptr p2),(8,.int .i64 (T.2.1:Int)),(9,.int .i64 E9),(45,.bool false)]:=hs.ot;refine zA hs hw ?_;clear hs;intro a hs;refine bG [1,6] [.f 0 0,.m 0,.f 0 1,.f 0 1,.f 0 1,.f 0 1,.m 1,.f 2 2,.f 2 2,.f 2 2,.f 0 2] [.c0 _,.c1 (fun x=> .slice x.ad T.1.l.length x.cap),.c0 _,.c0 _,.c0 _,.c0 _,.c2 (fun x y=> .int .i64 ((u.s.l.length:Int)+1)),.c2 (fun x y=> .int .i64 (m:Int)),.c2 (fun x y=>loV x.ad 5 T.1.l.length x.cap m),.c2 (fun x y=> .int .i64 (l.length:Int)),.c0 _] (bJ p q u.c (.slice ad u.added.length cap) ps::Sx.Own 66 3 (.slice ad u.added.length cap) u.added.length xs::bA H3 ps u.s::aA b2 [ptr p] 114::bA H3 p2 T.1::aB nameQ q d::Fz H3::R) (fun x=>FzF x.H (Fh.le H3 x.H∧iC x.H (.slice x.ad T.1.l.length x.cap) T.1.l)::bA x.H p2 T.1::bJ p q u.c (.slice ad u.added.length cap) ps::Sx.Own 66 3 (.slice ad u.added.length cap) u.added.length xs::bA H3 ps u.s::aA b2 [ptr p] 114::aB nameQ q d::R) (fun x y=>FzF x.H (Fh.le H3 x.H∧iC x.H (.slice x.ad T.1.l.length x.cap) T.1.l)::bA x.H p2 T.1::bJ p q u.c (.slice ad u.added.length cap) ps::Sx.Own 66 3 (.slice ad u.added.length cap) u.added.length xs::bA H3 ps u.s::aA b2 [ptr p] 114::aB nameQ q d::R) (fun x y z=>[]) (fun x y z t=>[]) hs hw ?kk ⟨drs,?m0,drs,drs,drs,drs,?m1,?f7,?f8,?f9,drs,trivial⟩
 case m0=>
  intro x y z t LD a W hs hw;have hw:Has 0 w0 W (bA H3 p2 T.1::Fz H3::bJ p q u.c (.slice ad u.added.length cap) ps::Sx.Own 66 3 (.slice ad u.added.length cap) u.added.length xs::bA H3 ps u.s::aA b2 [ptr p] 114::aB nameQ q d::R):=hw.pm;refine aG hs (hc:=aB0 w0 W H3 p2 T.1 _ (by omega) (fun r hr=>by have:=(hTr r hr).1.2;omega) hw) (k:=?_);rintro e' W' ⟨rad,rcap,ys,H4,rfl,hle4,hch4,hw⟩;refine ⟨_,rfl,fun a hs=>?_⟩;have hw:Has 0 w0 W' (Sx.Own 68 5 (.slice rad T.1.l.length rcap) T.1.l.length ys::Fz H4::bA H4 p2 T.1::bJ p q u.c (.slice ad u.added.length cap) ps::Sx.Own 66 3 (.slice ad u.added.length cap) u.added.length xs::bA H3 ps u.s::aA b2 [ptr p] 114::aB nameQ q d::R):=hw.pm;obtain ⟨H5,hle5,hw,hr5⟩:=hw.freeze_own;have hw:=hw.lz hle5;have hw:=hw.fzf (show Fh.le H3 H5∧iC H5 (.slice rad T.1.l.length rcap) T.1.l from ⟨hle4.trans hle5,ys,hr5,hch4.mono (RowIn.le hle5)⟩);exact ⟨{ad:=rad,cap:=rcap,H:=H5},hs,hw⟩
 case m1=>
  intro x y z t LD a W hs hw;have hw:Has 0 w0 W (bA H3 ps u.s::FzF x.H (Fh.le H3 x.H∧iC x.H (.slice x.ad T.1.l.length x.cap) T.1.l)::bA x.H p2 T.1::bJ p q u.c (.slice ad u.added.length cap) ps::Sx.Own 66 3 (.slice ad u.added.length cap) u.added.length xs::aA b2 [ptr p] 114::aB nameQ q d::R):=hw.sl;refine cl hs (sZ w0 W H3 ps u.s _ (by omega) hw) fun a W hs hw=>?_;exact ⟨{},hs,hw.sl⟩
 case f7=>
  refine ⟨trivial,trivial,?_,trivial,trivial⟩;intro x y z t LD a W hs hw;refine sv hs hw fun a hs=>?_;rw [show IntKind.i64.wrap ((u.s.l.length:Int)+1 - 1)=(m:Int) from by rw [IntWalk.i64_in _ (by omega)];omega] at hs;exact ⟨hs,hw⟩
 case f8=>
  refine ⟨trivial,trivial,?_,trivial,trivial⟩;intro x y z t LD a W hs hw;refine aCo (z:=zrc) hs hmT fun a hs=>?_;exact ⟨hs,hw⟩
 case f9=>
  refine ⟨trivial,trivial,?_,trivial,trivial⟩;intro x y z t LD a W hs hw;refine sC hs (k:=fun a hs=>?_);rw [←hll] at hs;exact ⟨hs,hw⟩
 case kk=>
 intro x y a W hs hw;obtain ⟨⟨hle4,hr4⟩,hw⟩:=hw.unfzf;have hw:=hw.lz hle4;obtain ⟨H4,hH4⟩:∃H4,H4=x.H:=⟨_,rfl⟩
 obtain ⟨lv,hlv⟩:∃lv,lv=loV x.ad 5 T.1.l.length x.cap m:=⟨_,rfl⟩
 obtain ⟨ys,hr5,hch5⟩:=hr4;have hrd:RdH x.H 5 lv l.length (ys.drop (m*5)):=by rw [hlv,hll];exact aIc hr5 hmT
 have hcl:Ch (RowIn x.H) l (ys.drop (m*5)):=by rw [hl];exact hch5.drop RowIn.len m
 replace hs:Slots a 78 [(0,ptr p),(2,ptr b2),(6,ptr p2),(8,.int .i64 (T.2.1:Int)),(9,.int .i64 E9),(10,.slice none 0 0),(55,lv),(56,.int .i64 (l.length:Int)),(57,.int .i64 0)]:=by rw [hlv];exact hs.ot
 rw [←hH4] at hrd hcl hle4 hw;clear hH4 hlv hr5 hch5;have hw:Has 0 w0 W (bJ p q u.c (.slice ad u.added.length cap) ps::Sx.Own 66 3 (.slice ad u.added.length cap) u.added.length xs::aA b2 [ptr p] 114::aB nameQ q d::bA H4 p2 T.1::Fz H4::R):=hw.sl;have hw:Has 0 w0 W (bP (.slice none 0 0) []::bJ p q u.c (.slice ad u.added.length cap) ps::Sx.Own 66 3 (.slice ad u.added.length cap) u.added.length xs::aA b2 [ptr p] 114::aB nameQ q d::bA H4 p2 T.1::Fz H4::R):=hw.nilB 5;have hH4:(fr w0).le H4:=hH.trans (hle3.trans hle4);have hlm:∀r∈l,(jV r∧r.b.l.length≤8)∧dS r.b=true:=fun r hr=>hTr r (by rw [hl] at hr;exact List.mem_of_mem_drop hr);have hfl:∀i:Nat,((l.take i).flatMap fT).length≤1000*1300:=fun i=>by
  have h1:=aCr (l:=l.take i) fun r hr=>(hlm r (List.mem_of_mem_take hr)).2;have h2:(l.take i).length≤1000:=by rw [List.length_take];omega
  omega
 refine sc hs ?_;refine bY (σ:=Nat×Option Addr×Nat) (fun z=>[(0,ptr p),(2,ptr b2),(6,ptr p2),(8,.int .i64 (T.2.1:Int)),(9,.int .i64 E9),(10,.slice z.2.1 ((l.take z.1).flatMap fT).length z.2.2),(55,lv),(56,.int .i64 (l.length:Int)),(57,.int .i64 (z.1:Int))]) (fun z=>bP (.slice (z.2.1) ((l.take (z.1)).flatMap fT).length (z.2.2)) ((l.take (z.1)).flatMap fT)::bJ p q u.c (.slice ad u.added.length cap) ps::Sx.Own 66 3 (.slice ad u.added.length cap) u.added.length xs::aA b2 [ptr p] 114::aB nameQ q d::bA H4 p2 T.1::Fz H4::R) (fun z=>z.1≤l.length) (fun z=>l.length - z.1) (0,none,0) (Nat.zero_le _) hs ⟨rfl,rfl,rfl,rfl,rfl,rfl,rfl,rfl,rfl,trivial⟩ hw ?_;clear hs hw;rintro ⟨i,gad,gcap⟩ a W hi hs hw;simp only at hi hs hw;refine sv hs hw fun a hs=>?_;refine cI hs (kt:=fun hcc=>?_) (kf:=fun hcc=>?_)
 ·have hi':i<l.length:=by simpa using hcc
  obtain ⟨o,ho9,hd⟩:=dR hi';obtain ⟨⟨hok,ho8⟩,hom⟩:=hlm o (List.mem_of_getElem? ho9);refine sc hs ?_;refine gA hs (r:=hw.rdH inn hrd) (hk:=RowIn.len) (ch:=hcl) (ho:=ho9) (hlen:=rfl) (c:=fun a g off c hmc hcl9 hpc hlt hs=>?_);obtain ⟨sv9,rfl,hsv⟩:=hmc;obtain ⟨oad,ocap,rfl⟩:=hsv.slice;refine eE hs (z:=zrc) (cs:=aJ o _) (hc:=hpc) (hl:=by rfl) (c:=fun a hs=>?_);refine sn hs hw fun b12 a W hs hw=>?_;refine sx hs hw fun a W hs hw=>?_;refine cle hs (aI6 o hok hom hsv hH4 hT inn hw) fun f a W _ hs hw=>?_;refine iK hs (hw.pick (Pick.tl (Pick.tl Pick.hd))) (l:=(l.take i).flatMap fT) (m:=fT o) (hr:=fK (hw.rd_own In.hd) (kD _)) (hb:=by have:=hfl i;have:=aCq hom;omega) (c:=fun a ad2 cap2 W hs hw=>?_);have e9:(l.take i).flatMap fT ++ fT o=(l.take (i+1)).flatMap fT:=by rw [gB ho9,List.flatMap_append];simp
  rw [e9] at hs hw;refine sv hs hw fun a hs=>?_;refine bQ (i+1,ad2,cap2) hs (hw.sl) hi' (by show l.length - (i+1)<l.length - i;omega) ⟨rfl,rfl,rfl,rfl,rfl,rfl,rfl,rfl,bR (i1 (by omega)),trivial⟩
 ·have h9:l.take i=l:=List.take_of_length_le (by simp at hcc;omega);have hfl9:=hfl i;rw [h9] at hs hw hfl9;refine sx hs hw fun a W hs hw=>?_;have hw:Has 0 w0 W (aB nameQ q d::bJ p q u.c (.slice ad u.added.length cap) ps::bP (.slice gad (l.flatMap fT).length gcap) (l.flatMap fT)::Sx.Own 66 3 (.slice ad u.added.length cap) u.added.length xs::aA b2 [ptr p] 114::bA H4 p2 T.1::Fz H4::R):=hw.sl;refine cl hs (aCn h3 (fun g=>g.rd_own In.hd) hw) fun a W hs hw=>?_;refine sv hs hw fun a hs=>?_;rw [show ((0:Int) !=0)=false from rfl] at hs;refine sx hs hw fun a W hs hw=>?_;refine rt2 hs rfl rfl rfl ⟨H4,rfl,hle3.trans hle4,?_⟩;have hw:Has 0 w0 W (bJ p q u.c (.slice ad u.added.length cap) p2::Sx.Own 66 3 (.slice ad u.added.length cap) u.added.length xs::bA H4 p2 T.1::aB nameQ q d3::Fz H4::R):=hw.sl;exact lP (u:={u with s:=T.1}) hw (hc3.mono (BatIn.le hle4)) c5
end
set_option maxRecDepth 10000
section
variable {H H':Fh} {p q ps:Nat} {w0 W:World} {R L:List Res}
theorem aIe (hw:Has 0 w0 W R):Calls Tryz.prog 200 ⟨[.slice none 0 0]⟩ W fun e W'=>e= .returned (.tuple ⟨[.slice none 0 0,.int .i64 0]⟩)∧Has 0 w0 W' R:=by
 refine enter Tryz.func200 Tryz.ntmps200 rfl rfl fun a hs=>?_;refine sv hs hw fun a hs=>?_;refine bY (σ:=Unit) (fun _=>[(0,.slice none 0 0),(4,.slice none 0 0),(5,.int .i64 0)]) (fun _=>R) (fun _=>True) (fun _=>0) () trivial hs ⟨rfl,rfl,rfl,trivial⟩ hw ?_;clear hs hw;intro _ a W _ hs hw;refine sv hs hw fun a hs=>?_;exact rt2 hs rfl rfl rfl ⟨rfl,hw⟩
def eH (c:Int):cZ:=⟨c,[],⟨gC,[]⟩⟩
theorem aIf (H:Fh) (c:Int) (ho:gO (eH c)=true) (hw:Has 0 w0 W (aB nameQ q none::R)):
  Calls Tryz.prog 128 ⟨[ptr q,.int .i64 c]⟩ W fun e W'=>∃p:Nat,e= .returned (.tuple ⟨[ptr p,.int .i64 0]⟩)∧True∧Has 0 w0 W' (eM H p q (eH c)::aB nameQ q none::R):=by
 have hf:=mK ho;have hc1:decide (c<1)=false:=decide_eq_false (by have:=hf.c.1;show¬(eH c).c<1;omega);have hc2:decide (c > 5)=false:=decide_eq_false (by have:=hf.c.2;show¬(eH c).c > 5;omega);refine enter Tryz.func128 Tryz.ntmps128 rfl rfl fun a hs=>?_;refine sv hs hw fun a hs=>?_;rw [hc1] at hs;refine sv hs hw fun a hs=>?_;rw [hc2] at hs;refine sx hs hw fun a W hs hw=>?_;refine aG hs (hc:=aGO w0 W H _ hw) (k:=?_);rintro e' W' ⟨ps,rfl,hw⟩;refine ⟨_,rfl,fun a hs=>?_⟩;refine sv hs hw fun a hs=>?_;refine sn hs hw fun p a W hs hw=>?_;refine sx hs hw fun a W hs hw=>?_;have hw:Has 0 w0 W (aB nameQ q none::bJ p q c (.slice none 0 0) ps::bA H ps ⟨gC,[]⟩::R):=hw.pm;refine cl hs (aCC w0 _ nameQ _ hw) fun a W hs hw=>?_;refine sv hs hw fun a hs=>?_;refine cl hs (aIe hw) fun a W hs hw=>?_;refine sv hs hw fun a hs=>?_;refine bY (σ:=Unit) (fun _=>[(6,ptr p),(7,.slice none 0 0),(10,.int .i64 0),(40,.int .i64 0),(41,.int .i64 0)]) (fun _=>aB nameQ q none::bJ p q c (.slice none 0 0) ps::bA H ps ⟨gC,[]⟩::R) (fun _=>True) (fun _=>0) () trivial hs ⟨rfl,rfl,rfl,rfl,rfl,trivial⟩ hw ?_;clear hs hw;intro _ a W _ hs hw;refine sv hs hw fun a hs=>?_;refine rt2 hs rfl rfl rfl ⟨p,rfl,trivial,?_⟩;have hw:Has 0 w0 W (bJ p q c (.slice none 0 0) ps::bA H ps ⟨gC,[]⟩::aB nameQ q none::R):=hw.pm;have hw:=hw.nilOwn 66 3;exact lP (u:=eH c) hw.swap2 rfl ho
end
section
variable {H H':Fh} {p q b:Nat} {w0 W:World} {R L:List Res} {u u':cZ} {d d':bF} {err:Int}
def cE (H:Fh) (p q:Nat) (u:cZ):Res:=Ex fun b:Nat=>aA p [ptr b] 116::eM H b q u:: []
theorem mL (h:Has 0 w0 W (aA p [ptr b] 116::eM H b q u::R)):Has 0 w0 W (cE H p q u::R):=Has.shut b h
theorem lQ (h:Has 0 w0 W (cE H p q u::R)):∃b,Has 0 w0 W (aA p [ptr b] 116::eM H b q u::R):=Has.open h
theorem aCs (h:Has 0 w0 W (cE H p q u::R)) (hl:H.le H'):Has 0 w0 W (cE H' p q u::R):=by
 obtain ⟨b,h⟩:=lQ h;exact mL (aCm h.swap2 hl).swap2
instance (H H':Fh) (p q:Nat) (u:cZ):g0 H H' (cE H p q u) (cE H' p q u):=⟨fun hl h=>aCs h hl⟩
theorem aIg (H:Fh) (c:Int) (ho:gO (eH c)=true) (hw:Has 0 w0 W (aB nameQ q none::R)):
  Calls Tryz.prog 76 ⟨[.int .i64 c,ptr q]⟩ W fun e W'=>∃p:Nat,e= .returned (.tuple ⟨[ptr p,.int .i64 0]⟩)∧True∧Has 0 w0 W' (cE H p q (eH c)::aB nameQ q none::R):=by
 refine enter Tryz.func76 Tryz.ntmps76 rfl rfl fun a hs=>?_;refine sv hs hw fun a hs=>?_;refine cle hs (aIf H c ho hw) fun b a W _ hs hw=>?_;refine sv hs hw fun a hs=>?_;rw [show ((0:Int) !=0)=false from rfl] at hs;refine sn hs hw fun p a W hs hw=>?_;refine sv hs hw fun a hs=>?_;exact rt2 hs rfl rfl rfl ⟨p,rfl,trivial,mL hw⟩
theorem aCt (ops:List OpD) {bt:cU} {bad:Option Addr} {bcap:Nat} (hops:∀o∈ops,OpOk o) (h8:ops.length≤8) (hv:cL H (.slice bad ops.length bcap) ops) (h:uM d u ops=some (d',u',bt,err)) (hH:(fr w0).le H) (hT:Tabs w0) (hw:Has 0 w0 W (cE H p q u::aB nameQ q d::Fz H::R)):
  Calls Tryz.prog 52 ⟨[ptr p,.slice bad ops.length bcap]⟩ W fun e W'=>∃(v:Value) (H':Fh),e= .returned (.tuple ⟨[.agg ⟨aL bt v⟩,.int .i64 err]⟩)∧H.le H'∧cL H' v bt.l∧Has 0 w0 W' (cE H' p q u'::aB nameQ q d'::Fz H'::R):=by
 obtain ⟨b,hw⟩:=lQ hw;refine enter Tryz.func52 Tryz.ntmps52 rfl rfl fun a hs=>?_;refine sc hs ?_;refine sn hs hw fun b4 a W hs hw=>?_;refine sx hs hw fun a W hs hw=>?_;have hw:Has 0 w0 W (eM H b q u::aB nameQ q d::Fz H::aA p [ptr b] 116::aA b4 (aL ⟨0,0,[]⟩ (.slice none 0 0)) 66::R):=hw.sl;refine aG hs (hc:=aIa ops hops h8 hv h hH hT hw) (k:=?_);rintro e' W ⟨v',H3,rfl,hle3,hv3,hw⟩;refine ⟨_,rfl,fun a hs=>?_⟩;obtain ⟨tad,tcap,rfl⟩:=hv3.slice;refine sx hs hw fun a W hs hw=>?_;refine rc2 hs rfl rfl hw inn rfl rfl ⟨_,H3,rfl,hle3,hv3,?_⟩;have hw:Has 0 w0 W (aA p [ptr b] 116::eM H3 b q u'::aB nameQ q d'::Fz H3::R):=hw.sl;exact mL hw
theorem y7 (hw:Has 0 w0 W (cE H p q u::Fz H::R)):
  Calls Tryz.prog 97 ⟨[ptr p]⟩ W fun e W'=>∃(v:Value) (H':Fh),e= .returned v∧H.le H'∧xW H' v (fI u)∧Has 0 w0 W' (cE H' p q u::Fz H'::R):=by
 obtain ⟨b,hw⟩:=lQ hw;refine enter Tryz.func97 Tryz.ntmps97 rfl rfl fun a hs=>?_;refine sv hs hw fun a hs=>?_;have hw:Has 0 w0 W (eM H b q u::Fz H::aA p [ptr b] 116::R):=hw.pm;refine aG hs (hc:=aI7 hw) (k:=?_);rintro e' W ⟨v',H3,rfl,hle3,hv3,hw⟩;refine ⟨_,rfl,fun a hs=>?_⟩;refine sv hs hw fun a hs=>?_;exact rt1 hs rfl rfl ⟨_,H3,rfl,hle3,hv3,mL (hw.pm)⟩
theorem aIh (rows:List cF) {v:Value} {n:Nat} (hrl:rows.length≤1000) (hro:∀r∈rows,jV r) (hv:iC H v rows) (h:uO d u rows=some (d',u',n,err)) (hH:(fr w0).le H) (hT:Tabs w0) (hw:Has 0 w0 W (cE H p q u::aB nameQ q d::Fz H::R)):
  Calls Tryz.prog 106 ⟨[ptr p,v]⟩ W fun e W'=>∃H':Fh,e= .returned (.tuple ⟨[.int .i64 (n:Int),.int .i64 err]⟩)∧H.le H'∧Has 0 w0 W' (cE H' p q u'::aB nameQ q d'::Fz H'::R):=by
 obtain ⟨b,hw⟩:=lQ hw;refine enter Tryz.func106 Tryz.ntmps106 rfl rfl fun a hs=>?_;refine sv hs hw fun a hs=>?_;have hw:Has 0 w0 W (eM H b q u::aB nameQ q d::Fz H::aA p [ptr b] 116::R):=hw.pm;refine aG hs (hc:=aId rows hrl hro hv h hH hT hw) (k:=?_);rintro e' W ⟨H3,rfl,hle3,hw⟩;refine ⟨_,rfl,fun a hs=>?_⟩;refine sv hs hw fun a hs=>?_;exact rt2 hs rfl rfl rfl ⟨H3,rfl,hle3,mL (hw.pm)⟩
theorem aCu {b:Nat} (hw:Has 0 w0 W (eM H b q u::R)):
  ∃ps ad cap xs,(∀{W:World} {R:List Res},Has 0 w0 W (bJ b q u.c (.slice ad u.added.length cap) ps::bA H ps u.s::Sx.Own 66 3 (.slice ad u.added.length cap) u.added.length xs::R)→Has 0 w0 W (eM H b q u::R))∧Has 0 w0 W (bJ b q u.c (.slice ad u.added.length cap) ps::bA H ps u.s::Sx.Own 66 3 (.slice ad u.added.length cap) u.added.length xs::R):=by
 obtain ⟨ho,ps,ad,cap,xs,hc,hw⟩:=kV hw;exact ⟨ps,ad,cap,xs,fun h=>lP (h.pm) hc ho,hw.pm⟩
theorem uW (hw:Has 0 w0 W (cE H p q u::R)):
  Calls Tryz.prog 105 ⟨[ptr p]⟩ W fun e W'=>e= .returned (.int .i64 (iZ u))∧Has 0 w0 W' (cE H p q u::R):=by
 obtain ⟨b,hw⟩:=lQ hw;obtain ⟨ho,_⟩:=kV hw.swap2;have hsl:=(mK ho).rows.1;refine enter Tryz.func105 Tryz.ntmps105 rfl rfl fun a hs=>?_;refine sv hs hw fun a hs=>?_;obtain ⟨ps,ad,cap,xs,back,hw⟩:=aCu hw.swap2;refine cl hs (y5 hw) fun a W hs hw=>?_;have hw:Has 0 w0 W (bA H ps u.s::bJ b q u.c (.slice ad u.added.length cap) ps::Sx.Own 66 3 (.slice ad u.added.length cap) u.added.length xs::aA p [ptr b] 116::R):=hw.pm;refine cl hs (sZ w0 W H ps u.s _ (by omega) hw) fun a W hs hw=>?_;refine sv hs hw fun a hs=>?_;exact rt1 hs rfl rfl ⟨rfl,mL (back (hw.pm)).swap2⟩
theorem y8 (hw:Has 0 w0 W (cE H p q u::Fz H::R)):
  Calls Tryz.prog 30 ⟨[ptr p]⟩ W fun e W'=>∃(v:Value) (H':Fh),e= .returned v∧H.le H'∧iC H' v u.s.l∧Has 0 w0 W' (cE H' p q u::Fz H'::R):=by
 obtain ⟨b,hw⟩:=lQ hw;obtain ⟨ho,_⟩:=kV hw.swap2;have hf:=mK ho;have hsl:=hf.rows.1;refine enter Tryz.func30 Tryz.ntmps30 rfl rfl fun a hs=>?_;refine sv hs hw fun a hs=>?_;obtain ⟨ps,ad,cap,xs,hc,hw⟩:=(kV hw.swap2).2;refine cl hs (y5 hw) fun a W hs hw=>?_;have hw:Has 0 w0 W (bA H ps u.s::Fz H::bJ b q u.c (.slice ad u.added.length cap) ps::Sx.Own 66 3 (.slice ad u.added.length cap) u.added.length xs::aA p [ptr b] 116::R):=hw.pm;refine aG hs (hc:=aB0 w0 W H ps u.s _ (by omega) (fun r hr=>by have:=(hf.rows.2 r hr).1.2;omega) hw) (k:=?_);rintro e' W ⟨rad,rcap,ys,H4,rfl,hle4,hch4,hw⟩;refine ⟨_,rfl,fun a hs=>?_⟩;have hw:Has 0 w0 W (Sx.Own 68 5 (.slice rad u.s.l.length rcap) u.s.l.length ys::Fz H4::bA H4 ps u.s::bJ b q u.c (.slice ad u.added.length cap) ps::Sx.Own 66 3 (.slice ad u.added.length cap) u.added.length xs::aA p [ptr b] 116::R):=hw.pm;obtain ⟨H5,hle5,hw,hr5⟩:=hw.freeze_own;have hw:=hw.lz hle5;refine sv hs hw fun a hs=>?_;refine rt1 hs rfl rfl ⟨_,H5,rfl,hle4.trans hle5,⟨ys,hr5,hch4.mono (RowIn.le hle5)⟩,?_⟩;have hw:Has 0 w0 W (bJ b q u.c (.slice ad u.added.length cap) ps::Sx.Own 66 3 (.slice ad u.added.length cap) u.added.length xs::bA H5 ps u.s::aA p [ptr b] 116::Fz H5::R):=hw.pm;exact mL (lP hw (hc.mono (BatIn.le (hle4.trans hle5))) ho).swap2
end
end Go.Proofs.YtgpbngfehfbndaaGreatDoor.Sw
