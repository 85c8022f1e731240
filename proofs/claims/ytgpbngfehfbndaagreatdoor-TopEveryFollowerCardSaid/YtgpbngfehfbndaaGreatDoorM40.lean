/-
  Texts of the proof, one behind the other (part 40).
-/
import Derived.Test.YtgpbngfehfbndaaGreatDoorM38
import Derived.Test.YtgpbngfehfbndaaGreatDoorChecked
import Derived.Test.YtgpbngfehfbndaaGreatDoorProg
set_option maxHeartbeats 16000000
set_option linter.unusedVariables false
set_option maxRecDepth 10000
namespace Go.Sx
open Go.RowKit
def loV (ad:Option Addr) (sz k cap m:Nat):Value:= .slice (if cap=m then ad else ad.map (·.add (m*sz))) (k - m) (cap - m)
section
variable {P:Program} {ops:Array Oper} {aE:List Oper} {Q:Exit→Act→World→Prop} {a:Act} {n:Nat} {L:List (Nat×Value)} {W:World} {d k cap m:Nat} {T S E:TypeId} {p:String} {e:Array Edge} {x lo:Operand} {ad:Option Addr} {q:IntKind} {z xs:List Value}
theorem aCo {agg:Bool} [sl:Sl P S E] [t:Ty P E agg z] (hs:Slots a n L) (h1:m≤k) (c:∀a',Slots a' n ((d,loV ad z.length k cap m)::L)→wpList P ops Q aE a' W) (hx:ev L x=some (.slice ad k cap):=by with_unfolding_all exact rfl) (hl:ev L lo=some (.int q (m:Int)):=by with_unfolding_all exact rfl) (hd:Nat.blt d n=true:=by with_unfolding_all exact rfl):
  wpList P ops Q (⟨some d,.slice S x (some lo) none none,T,p,e,none⟩::aE) a W:=by
 have hb:(Instr.sliceBound (.int q (m:Int)) k .sliceB).run P W= .ok m W:=by
  have:(0:Int)≤(m:Int)∧(m:Int)≤(k:Int):=⟨by omega,by omega⟩
  simp only [Instr.sliceBound,asIntOf,Sem.run_bind,Sem.run_pure,Result.andThen_ok];rw [if_pos this];simp
 have hbs:(Instr.sliceBounds true k cap (some (.int q (m:Int))) none none).run P W= .ok (m,k,cap) W:=by
  unfold Instr.sliceBounds;simp [hb]
 refine bW hs hd (v:=loV ad z.length k cap m) (W':=W) ?_ c;simp only [execOp,Option.map_some,Option.map_none,hs.ev hx,hs.ev hl,Instr.sliceAt,Instr.slice,Sem.run_bind,run_underlying sl.out,Result.andThen_ok,hbs,t.sizeOf,Sem.run_pure];rfl
theorem aI4 {sz:Nat} (r:Rd W sz (.slice ad k cap) k xs) (h1:m≤k):Rd W sz (loV ad sz k cap m) (k - m) (xs.drop (m*sz)):=by
 obtain ⟨hx,ad',cap',e,h3,h4,h5⟩:=r;injection e with e1 _ e3;subst e1 e3;refine ⟨by rw [List.length_drop,hx,Nat.sub_mul],_,_,rfl,by omega,by omega,?_⟩;rcases h5 with rfl|⟨b,o,rfl,hlt,hc⟩
 ·exact .inl (by omega)
 ·by_cases hci:cap=m
  ·exact .inl (by omega)
  ·refine .inr ⟨b,o+m*sz,by rw [if_neg hci];simp [eK],hlt,fun j u hu=>?_⟩;rw [List.getElem?_drop] at hu;rw [Nat.add_assoc];exact hc _ _ hu
end
end Go.Sx
namespace Go.Proofs.YtgpbngfehfbndaaGreatDoor.Sw
open Go.RowKit Go.Sx
section
variable {H H':Fh} {p q ps:Nat} {w0 W:World} {R L:List Res} {u:cZ} {s:eL} {d d':bF} {ad:Option Addr} {cap:Nat} {xs:List Value}
theorem aI5 (b:cU) {v:Value} (hb:iB b) (hm:dS b=true) (hv:cL H v b.l) (hH:(fr w0).le H) (hT:Tabs w0) (i:In (Fz H) R) (hw:Has 0 w0 W R):
  Calls Tryz.prog 117 ⟨[.agg ⟨aL b v⟩]⟩ W fun e W'=>∃x:Option Addr×Nat,e= .returned (.slice x.1 (cX b).length x.2)∧True∧Has 0 w0 W' (bP (.slice x.1 (cX b).length x.2) (cX b)::R):=by
 have henc:(if dN b.c b.q b.l=true then eB b.c b.q b.l else [])=cX b:=if_pos hm;have hlen:=hw.endF i hH;refine (p7 b.c b.q b.l v W hb.c hb.q hb.ops (hw.rdH i hv) (hT.keep hlen)).mono ?_;rintro e W' ⟨ad,cap,rfl,_,hw1⟩;rw [henc] at hw1⊢;exact ⟨(ad,cap),rfl,trivial,hw.call hw1⟩
theorem y6 {b:cU} (hm:dS b=true):(cX b).length≤1200:=(m9 (show dN b.c b.q b.l=true from hm)).2.2.2.2
theorem aI6 (r:cF) {rad:Option Addr} {rcap:Nat} (hro:jV r) (hm:dS r.b=true) (hv:cL H (.slice rad r.b.l.length rcap) r.b.l) (hH:(fr w0).le H) (hT:Tabs w0) (i:In (Fz H) R) (hw:Has 0 w0 W R):
  Calls Tryz.prog 253 ⟨[.agg ⟨aJ r (.slice rad r.b.l.length rcap)⟩]⟩ W fun e W'=>∃x:Option Addr×Nat,e= .returned (.slice x.1 (fT r).length x.2)∧True∧Has 0 w0 W' (bP (.slice x.1 (fT r).length x.2) (fT r)::R):=by
 have p1:=Ph.putI_length_le r.place;have p2:=Ph.putI_length_le r.err;have hp1:=hro.place;have hp2:=hro.err;unfold i64 at hp1 hp2;have p3:=y6 hm;refine enter Tryz.func253 Tryz.ntmps253 rfl rfl fun a hs=>?_;refine sc hs ?_;refine sn hs hw fun b1 a W hs hw=>?_;refine zA hs hw ?_;clear hs;intro a hs;refine bG [2,5] [.f 0 0,.f 0 0,.m 0,.f 0 1,.f 0 1,.m 1,.f 2 2] [.c0 _,.c0 _,.c1 (fun x=> .slice x.ad (Ph.putI r.place).length x.cap),.c0 _,.c0 _,.c2 (fun x y=> .slice y.ad (Ph.putI r.place ++ Ph.putI r.err).length y.cap),.c2 _] (aA b1 (aJ r (.slice rad r.b.l.length rcap)) 68::R) (fun x=>bP (.slice x.ad (Ph.putI r.place).length x.cap) (Ph.putI r.place)::aA b1 (aJ r (.slice rad r.b.l.length rcap)) 68::R) (fun x y=>bP (.slice y.ad (Ph.putI r.place ++ Ph.putI r.err).length y.cap) (Ph.putI r.place ++ Ph.putI r.err)::aA b1 (aJ r (.slice rad r.b.l.length rcap)) 68::R) (fun x y z=>[]) (fun x y z t=>[]) hs hw ?kk ⟨drs,drs,?m0,drs,drs,?m1,drs,trivial⟩
 case m0=>
  intro x y z t LD a W hs hw;refine aG hs (hc:=eP w0 W (.slice none 0 0) [] r.place _ (by omega) (by omega) (by simp) (hw.nilB 5)) (k:=?_);rintro e' W' ⟨ad,cap,rfl,hw⟩;exact ⟨_,rfl,fun a hs=>⟨{ad:=ad,cap:=cap},hs,hw⟩⟩
 case m1=>
  intro x y z t LD a W hs hw;refine aG hs (hc:=eP w0 W _ (Ph.putI r.place) r.err _ (by omega) (by omega) (by omega) hw) (k:=?_);rintro e' W' ⟨ad,cap,rfl,hw⟩;exact ⟨_,rfl,fun a hs=>⟨{ad:=ad,cap:=cap},hs,hw⟩⟩
 case kk=>
 intro _ y a W hs hw;have hrf:fT r=frB 2 (Ph.putI r.place ++ Ph.putI r.err ++ cX r.b):=rfl;have hhl:(Ph.putI r.place ++ Ph.putI r.err).length≤20:=by rw [List.length_append];omega
 rw [hrf];generalize Ph.putI r.place ++ Ph.putI r.err=h at *;replace hs:Slots a 16 [(1,ptr b1),(3,.slice y.ad h.length y.cap)]:=hs.ot;have hw:Has 0 w0 W (bP (.slice y.ad h.length y.cap) h::aA b1 (aJ r (.slice rad r.b.l.length rcap)) 68::R):=hw;refine sx hs hw fun a W hs hw=>?_;refine cle hs (aI5 r.b hro.b hm hv hH hT (In.tl (In.tl i)) hw) fun x a W _ hs hw=>?_;refine iK hs (hw.pick (Pick.tl Pick.hd)) (l:=h) (m:=cX r.b) (hr:=fK (hw.rd_own In.hd) (kD _)) (hb:=by omega) (c:=fun a ad2 cap2 W hs hw=>?_);refine cle hs (nX w0 W 2 (h ++ cX r.b) _ _ (by decide) (by decide) (by rw [List.length_append];omega) (fun g=>g.rd_own In.hd) hw) fun f a W _ hs hw=>?_;refine sv hs hw fun a hs=>?_;exact rt1 hs rfl rfl ⟨f,rfl,trivial,hw.sl⟩
theorem aI7 (hw:Has 0 w0 W (eM H p q u::Fz H::R)):
  Calls Tryz.prog 174 ⟨[ptr p]⟩ W fun e W'=>∃(v:Value) (H':Fh),e= .returned v∧H.le H'∧xW H' v (fI u)∧Has 0 w0 W' (eM H' p q u::Fz H'::R):=by
 obtain ⟨ho,ps,ad,cap,xs,hc,hw⟩:=kV hw;have hf:=mK ho;obtain ⟨m,hm⟩:∃m:Nat,cT u.s.f u.c=(m:Int):=⟨(cT u.s.f u.c).toNat,by have:=hf.last.1;omega⟩
 have hml:m≤u.added.length:=by have:=hf.last.2;omega
 have hal:=hf.added.1;obtain ⟨l,hl⟩:∃l,l=fI u:=⟨_,rfl⟩
 have hqa:fI u=u.added.drop m:=by unfold fI;rw [hm,Int.toNat_natCast]
 have hll:l.length=u.added.length - m:=by rw [hl,hqa,List.length_drop]
 have hcl:Ch (BatIn H) l (xs.drop (m*3)):=by rw [hl,hqa];exact hc.drop BatIn.len m
 have hlb:∀b∈l,b.l.length≤1000:=fun b hb=>by
  have:=(hf.added.2 b (by rw [hl,hqa] at hb;exact List.mem_of_mem_drop hb)).2;omega
 rw [←hl];have hw:Has 0 w0 W (bJ p q u.c (.slice ad u.added.length cap) ps::Sx.Own 66 3 (.slice ad u.added.length cap) u.added.length xs::bA H ps u.s::Fz H::R):=hw;refine enter Tryz.func174 Tryz.ntmps174 rfl rfl fun a hs=>?_;refine sv hs hw fun a hs=>?_;refine bG [12] [.f 0 1,.f 0 1,.f 0 1,.f 0 1,.f 0 0,.f 0 0,.f 0 0,.f 0 0,.f 0 0,.f 0 0,.f 0 0,.f 0 0,.m 0,.f 1 1,.f 1 1,.f 0 1] [.c0 _,.c0 _,.c0 _,.c0 _,.c0 _,.c0 _,.c0 _,.c0 _,.c0 _,.c0 _,.c0 _,.c0 _,.c1 (fun x=> .int .i64 (m:Int)),.c1 (fun x=>loV ad 3 u.added.length cap m),.c1 (fun x=> .int .i64 (l.length:Int)),.c0 _] (bJ p q u.c (.slice ad u.added.length cap) ps::Sx.Own 66 3 (.slice ad u.added.length cap) u.added.length xs::bA H ps u.s::Fz H::R) (fun x=>bJ p q u.c (.slice ad u.added.length cap) ps::Sx.Own 66 3 (.slice ad u.added.length cap) u.added.length xs::bA H ps u.s::Fz H::R) (fun x y=>[]) (fun x y z=>[]) (fun x y z t=>[]) hs hw ?kk ⟨drs,drs,drs,drs,drs,drs,drs,drs,drs,drs,drs,drs,?m0,?f13,?f14,drs,trivial⟩
 case m0=>
  intro x y z t LD a W hs hw;have hw:Has 0 w0 W (bA H ps u.s::bJ p q u.c (.slice ad u.added.length cap) ps::Sx.Own 66 3 (.slice ad u.added.length cap) u.added.length xs::Fz H::R):=hw.pm;refine cl hs (aCl u.c hw) fun a W hs hw=>?_;rw [hm] at hs;exact ⟨{},hs,hw.pm⟩
 case f13=>
  refine ⟨trivial,?_,trivial,trivial,trivial⟩;intro x y z t LD a W hs hw;refine aCo (z:=uV) hs hml fun a hs=>?_;exact ⟨hs,hw⟩
 case f14=>
  refine ⟨trivial,?_,trivial,trivial,trivial⟩;intro x y z t LD a W hs hw;refine sC hs (k:=fun a hs=>?_);rw [←hll] at hs;exact ⟨hs,hw⟩
 case kk=>
 intro _ a W hs hw;replace hs:Slots a 34 [(3,.slice none 0 0),(21,loV ad 3 u.added.length cap m),(22,.int .i64 (l.length:Int)),(23,.int .i64 0)]:=hs.ot;have hw:Has 0 w0 W (Sx.Own 66 3 (.slice none 0 0) 0 []::bJ p q u.c (.slice ad u.added.length cap) ps::Sx.Own 66 3 (.slice ad u.added.length cap) u.added.length xs::bA H ps u.s::Fz H::R):=hw.nilOwn 66 3;refine sc hs ?_;obtain ⟨lv,hlv⟩:∃lv,lv=loV ad 3 u.added.length cap m:=⟨_,rfl⟩
 have hrd:∀{W A B C D R'},Has 0 w0 W (A::B::Sx.Own 66 3 (.slice ad u.added.length cap) u.added.length xs::C::D::R')→Rd W 3 lv l.length (xs.drop (m*3)):=fun h=>by
  rw [hlv,hll];exact aI4 (h.rd_own (In.tl (In.tl In.hd))) hml
 rw [←hlv] at hs;refine bY (σ:=Nat×Option Addr×Nat×List Value×Fh) (fun z=>[(3,.slice z.2.1 (l.take z.1).length z.2.2.1),(21,lv),(22,.int .i64 (l.length:Int)),(23,.int .i64 (z.1:Int))]) (fun z=>Sx.Own 66 3 (.slice (z.2.1) (l.take (z.1)).length (z.2.2.1)) (l.take (z.1)).length (z.2.2.2.1)::bJ p q u.c (.slice ad u.added.length cap) ps::Sx.Own 66 3 (.slice ad u.added.length cap) u.added.length xs::bA z.2.2.2.2 ps u.s::Fz z.2.2.2.2::R) (fun z=>z.1≤l.length∧H.le z.2.2.2.2∧Ch (BatIn z.2.2.2.2) (l.take z.1) z.2.2.2.1) (fun z=>l.length - z.1) (0,none,0,[],H) ⟨Nat.zero_le _,Fh.le.refl H,rfl⟩ hs ⟨rfl,rfl,rfl,rfl,trivial⟩ hw ?_;clear hs hw;rintro ⟨i,gad,gcap,ys,H2⟩ a W ⟨hi,hle,hys⟩ hs hw;simp only at hi hle hys hs hw;refine sv hs hw fun a hs=>?_;refine cI hs (kt:=fun hcc=>?_) (kf:=fun hcc=>?_)
 ·have hi':i<l.length:=by simpa using hcc
  obtain ⟨o,ho9,hd⟩:=dR hi';have hlo:=hlb o (List.mem_of_getElem? ho9);refine sc hs ?_;refine gA hs (r:=hrd hw) (hk:=BatIn.len) (ch:=hcl) (ho:=ho9) (hlen:=rfl) (c:=fun a g off c hmc hcl9 hpc hlt hs=>?_);obtain ⟨sv9,rfl,hsv⟩:=hmc;obtain ⟨oad,ocap,rfl⟩:=hsv.slice;refine eE hs (z:=uV) (cs:=aL o _) (hc:=hpc) (hl:=by rfl) (c:=fun a hs=>?_);refine sn hs hw fun b5 a W hs hw=>?_;refine sx hs hw fun a W hs hw=>?_;have hw:Has 0 w0 W (Fz H2::Sx.Own 66 3 (.slice (gad) (l.take (i)).length (gcap)) (l.take (i)).length (ys)::bJ p q u.c (.slice ad u.added.length cap) ps::Sx.Own 66 3 (.slice ad u.added.length cap) u.added.length xs::bA H2 ps u.s::R):=hw.sl;refine aG hs (hc:=y4 o _ hlo (hsv.le hle) hw) (k:=?_);rintro e' W' ⟨v',H3,rfl,hle3,hv3,hw⟩;refine ⟨_,rfl,fun a hs=>?_⟩;obtain ⟨vad,vcap,rfl⟩:=hv3.slice;have hw:=hw.lz hle3;refine sn hs hw fun b6 a W hs hw=>?_;have hw:Has 0 w0 W (Sx.Own 66 3 (.slice (gad) (l.take (i)).length (gcap)) (l.take (i)).length (ys)::aA b6 (aL o (.slice vad o.l.length vcap)) 66::Fz H3::bJ p q u.c (.slice ad u.added.length cap) ps::Sx.Own 66 3 (.slice ad u.added.length cap) u.added.length xs::bA H3 ps u.s::R):=hw.pm;have hin:BatIn H3 o (aL o (.slice vad o.l.length vcap)):=⟨_,rfl,hv3⟩
  have hti:(l.take i).length=i:=by rw [List.length_take];omega
  refine jP hs hw In.hd (hys.mono (BatIn.le hle3)) hin rfl rfl (by omega) (by omega) (k:=fun a ad2 cap2 W hs hw _=>?_);rw [←gB ho9] at hs hw;refine sv hs hw fun a hs=>?_;refine bQ (i+1,ad2,cap2,ys ++ aL o (.slice vad o.l.length vcap),H3) hs (hw.sl) ⟨hi',hle.trans hle3,?_⟩ (by show l.length - (i+1)<l.length - i;omega) ⟨rfl,rfl,rfl,bR (i1 (by omega)),trivial⟩;show Ch (BatIn H3) (l.take (i+1)) _;rw [gB ho9];exact (hys.mono (BatIn.le hle3)).app (Ch.unit hin)
 ·have h9:l.take i=l:=List.take_of_length_le (by simp at hcc;omega);rw [h9] at hs hw hys;refine sv hs hw fun a hs=>?_;have hw:Has 0 w0 W (Sx.Own 66 3 (.slice gad l.length gcap) l.length ys::Fz H2::bJ p q u.c (.slice ad u.added.length cap) ps::Sx.Own 66 3 (.slice ad u.added.length cap) u.added.length xs::bA H2 ps u.s::R):=hw.pm;obtain ⟨H3,hle3,hw,hrd3⟩:=hw.freeze_own;have hw:=hw.lz hle3;refine rt1 hs rfl rfl ⟨_,H3,rfl,hle.trans hle3,⟨ys,hrd3,hys.mono (BatIn.le hle3)⟩,?_⟩;have hw:Has 0 w0 W (bJ p q u.c (.slice ad u.added.length cap) ps::Sx.Own 66 3 (.slice ad u.added.length cap) u.added.length xs::bA H3 ps u.s::Fz H3::R):=hw.pm;exact lP hw (hc.mono (BatIn.le (hle.trans hle3))) ho
end
section
variable {H H':Fh} {p q ps:Nat} {w0 W:World} {R L:List Res} {u u':cZ} {s:eL} {d d':bF} {ad:Option Addr} {cap:Nat} {xs:List Value} {b:cU} {err:Int}
theorem aI8 (b:cU):cX b≠[]:=by
 show eB b.c b.q b.l≠[];unfold eB iN;have:=Ph.putI_ne_nil b.c;simp [this]
theorem aI9 (b:cU) {v:Value} (hb:iB b) (hv:cL H v b.l) (hH:(fr w0).le H) (hT:Tabs w0) (i:In (Fz H) R) (hw:Has 0 w0 W R):
  Calls Tryz.prog 117 ⟨[.agg ⟨aL b v⟩]⟩ W fun e W'=>∃x:Option Addr×Nat,e= .returned (.slice x.1 (if dS b then cX b else []).length x.2)∧(x.1.isNone=!dS b)∧Has 0 w0 W' (bP (.slice x.1 (if dS b then cX b else []).length x.2) (if dS b then cX b else [])::R):=by
 have hlen:=hw.endF i hH;refine (p7 b.c b.q b.l v W hb.c hb.q hb.ops (hw.rdH i hv) (hT.keep hlen)).mono ?_;rintro e W' ⟨ad,cap,rfl,hn,hw1⟩;have hw2:=hw.call hw1;refine ⟨(ad,cap),rfl,?_,hw2⟩;show ad.isNone=!dS b;cases hm:dS b with
 |false=>rw [(hn hm).1];rfl
 |true=>
  cases ad with
  |some _=>rfl
  |none=>
   have h9:=hw2.rd_own In.hd;rw [show dN b.c b.q b.l=true from hm,if_pos rfl] at h9;obtain ⟨_,ad',cap',e,_,_,h|⟨_,_,h,_⟩⟩:=h9
   ·exact absurd (List.eq_nil_of_length_eq_zero h) (aI8 b)
   ·rw [h] at e;cases e
abbrev zBq:cU:=⟨0,0,[]⟩
theorem aIa (ops:List OpD) {bad:Option Addr} {bcap:Nat} (hops:∀o∈ops,OpOk o) (h8:ops.length≤8) (hv:cL H (.slice bad ops.length bcap) ops) (h:uM d u ops=some (d',u',b,err)) (hH:(fr w0).le H) (hT:Tabs w0) (hw:Has 0 w0 W (eM H p q u::aB nameQ q d::Fz H::R)):
  Calls Tryz.prog 94 ⟨[ptr p,.slice bad ops.length bcap]⟩ W fun e W'=>∃(v:Value) (H':Fh),e= .returned (.tuple ⟨[.agg ⟨aL b v⟩,.int .i64 err]⟩)∧H.le H'∧cL H' v b.l∧Has 0 w0 W' (eM H' p q u'::aB nameQ q d'::Fz H'::R):=by
 obtain ⟨ho,ps,ad,cap,xs,hc,hw⟩:=kV hw;have hf:=mK ho;have hal:=hf.added.1;obtain ⟨b9,hb9⟩:∃b9,b9=(⟨u.c,(u.added.length:Int)+1,ops⟩:cU):=⟨_,rfl⟩
 have hb9o:iB b9:=by
  rw [hb9];refine ⟨?_,?_,hops⟩
  ·show i64 u.c;have:=hf.c;unfold i64;omega
  ·show i64 ((u.added.length:Int)+1);unfold i64;omega
 have hbl:b9.l.length≤1000:=by rw [hb9];show ops.length≤1000;omega
 have hv9:cL H (.slice bad b9.l.length bcap) b9.l:=by rw [hb9];exact hv
 have hcell:([.int .i64 u.c,.int .i64 ((u.added.length:Int)+1),.slice bad ops.length bcap]:List Value)=aL b9 (.slice bad b9.l.length bcap):=by rw [hb9];rfl
 have hi9:IntKind.i64.wrap ((u.added.length:Int)+1)=(u.added.length:Int)+1:=IntWalk.i64_in _ (by omega);refine enter Tryz.func94 Tryz.ntmps94 rfl rfl fun a hs=>?_;refine sc hs ?_;refine sn hs hw fun b4 a W hs hw=>?_;refine sv hs hw fun a hs=>?_;have hw:Has 0 w0 W (Fz H::bJ p q u.c (.slice ad u.added.length cap) ps::Sx.Own 66 3 (.slice ad u.added.length cap) u.added.length xs::bA H ps u.s::aB nameQ q d::aA b4 (aL zBq (.slice none 0 0)) 66::R):=hw.pm;refine fM (G:=0) (w:=w0) (σ:=Un) (V:=fun r=>[ptr p,ptr p,.pointer (some ⟨p,0+1,none⟩),.int .i64 u.c,ptr p,ptr p,.pointer (some ⟨p,0+2,none⟩),.slice ad u.added.length cap,.int .i64 (u.added.length:Int),.int .i64 (IntKind.i64.wrap ((u.added.length:Int)+1)),.slice bad ops.length bcap,.agg ⟨[.int .i64 u.c,.int .i64 (IntKind.i64.wrap ((u.added.length:Int)+1)),.slice bad ops.length bcap]⟩,.agg ⟨aL b9 (.slice (r 12).ad b9.l.length (r 12).cap)⟩,ptr (r 13).n,.bool true])
  (Rs:=fun r D=>(if D 13 then aA (r 13).n (if D 14 then aL b9 (.slice (r 12).ad b9.l.length (r 12).cap) else aL zBq (.slice none 0 0)) 66 else bI)::(if D 12 then FzF (r 12).H (Fh.le H (r 12).H∧cL (r 12).H (.slice (r 12).ad b9.l.length (r 12).cap) b9.l) else Fz H)::bJ p q u.c (.slice ad u.added.length cap) ps::Sx.Own 66 3 (.slice ad u.added.length cap) u.added.length xs::bA H ps u.s::aB nameQ q d::aA b4 (aL zBq (.slice none 0 0)) 66::R) (fun _=>{}) hs ?h0 (hVu:=?vu) (ho:=⟨dru,dru,dru,dru,dru,dru,dru,dru,?c8,dru,dru,dru,?c12,?c13,?c14,trivial⟩) (k:=?kk)
 case h0=>exact (hw.pm:Has 0 w0 W (Fz H::bJ p q u.c (.slice ad u.added.length cap) ps::Sx.Own 66 3 (.slice ad u.added.length cap) u.added.length xs::bA H ps u.s::aB nameQ q d::aA b4 (aL zBq (.slice none 0 0)) 66::R)).free
 case vu=>
  intro u u' j h;rcases j with _|_|_|_|_|_|_|_|_|_|_|_|_|_|_|j
  all_goals first|rfl|simp [h]
 case c8=>
  intro r LD D a W hcl hi hp hs hw;refine sC hs (k:=fun a hs=>?_);exact Or.inl ⟨hs,hw⟩
 case c12=>
  intro r LD D a W hcl hi hp hs hw;have n14:=Go.Sx.not_done hcl hi 14 (by kernel_rfl);simp only [hi,n14,Bool.false_eq_true,if_false] at hw;have hw:Has 0 w0 W (Fz H::(if D 13=true then aA (r 13).n (aL zBq (.slice none 0 0)) 66 else bI)::bJ p q u.c (.slice ad u.added.length cap) ps::Sx.Own 66 3 (.slice ad u.added.length cap) u.added.length xs::bA H ps u.s::aB nameQ q d::aA b4 (aL zBq (.slice none 0 0)) 66::R):=hw.pm;refine aG hs (hc:=(by rw [hi9,hcell];exact y4 b9 _ hbl hv9 hw)) (k:=?_);rintro e' W' ⟨v',H2,rfl,hle2,hv2,hw⟩;refine ⟨_,rfl,fun a hs=>?_⟩;obtain ⟨tad,tcap,rfl⟩:=hv2.slice;refine Or.inr ⟨{ad:=tad,cap:=tcap,H:=H2},hs,?_⟩;have hw:=hw.fzf (And.intro hle2 hv2);show Has 0 w0 W' ((if D 13=true then aA (r 13).n (if D 14=true then _ else aL zBq (.slice none 0 0)) 66 else bI)::FzF H2 (Fh.le H H2∧cL H2 (.slice tad b9.l.length tcap) b9.l)::bJ p q u.c (.slice ad u.added.length cap) ps::Sx.Own 66 3 (.slice ad u.added.length cap) u.added.length xs::bA H ps u.s::aB nameQ q d::aA b4 (aL zBq (.slice none 0 0)) 66::R);rw [n14];exact hw.pm
 case c13=>
  intro r LD D a W hcl hi hp hs hw;have n14:=Go.Sx.not_done hcl hi 14 (by kernel_rfl);simp only [hi,Bool.false_eq_true,if_false] at hw;refine sn hs hw fun b a W hs hw=>?_;refine Or.inr ⟨{n:=b},hs,?_⟩;show Has 0 w0 _ (aA b (if (Nat.beq 14 13 || D 14)=true then _ else _) _::_);rw [n14];exact hw.fill Upd.hd
 case c14=>
  intro r LD D a W hcl hi hp hs hw;have h13:=Go.Sx.done hp 13 (by kernel_rfl);simp only [h13,hi,Bool.false_eq_true,if_false,if_true] at hw;refine dY hs (hw:=hw) (vs:=aL b9 (.slice (r 12).ad b9.l.length (r 12).cap)) (k:=fun W hs hw=>?_);refine Or.inl ⟨hs,?_⟩;show Has 0 w0 _ ((if D 13=true then _ else _)::_);rw [h13];exact hw
 case kk=>
 intro r a W hs hw;have hw:Has 0 w0 W (FzF (r 12).H (Fh.le H (r 12).H∧cL (r 12).H (.slice (r 12).ad b9.l.length (r 12).cap) b9.l)::aA (r 13).n (aL b9 (.slice (r 12).ad b9.l.length (r 12).cap)) 66::bJ p q u.c (.slice ad u.added.length cap) ps::Sx.Own 66 3 (.slice ad u.added.length cap) u.added.length xs::bA H ps u.s::aB nameQ q d::aA b4 (aL zBq (.slice none 0 0)) 66::R):=hw.sl;obtain ⟨⟨hle2,hv2⟩,hw⟩:=hw.unfzf;have hw:=hw.lz hle2;replace hs:Slots a 56 [(0,ptr p),(4,ptr b4),(6,ptr (r 13).n)]:=hs.ot;obtain ⟨H2,hH2⟩:∃H2,H2=(r 12).H:=⟨_,rfl⟩
 obtain ⟨b6,hb6⟩:∃b6,b6=(r 13).n:=⟨_,rfl⟩
 obtain ⟨rad,hrad⟩:∃rad,rad=(r 12).ad:=⟨_,rfl⟩
 obtain ⟨rcap,hrcap⟩:∃rcap,rcap=(r 12).cap:=⟨_,rfl⟩
 have hw:Has 0 w0 W (aA b6 (aL b9 (.slice rad b9.l.length rcap)) 66::bJ p q u.c (.slice ad u.added.length cap) ps::Sx.Own 66 3 (.slice ad u.added.length cap) u.added.length xs::bA H2 ps u.s::aB nameQ q d::Fz H2::aA b4 (aL zBq (.slice none 0 0)) 66::R):=by rw [hH2,hb6,hrad,hrcap];exact hw.pm
 rw [←hb6] at hs;rw [←hH2] at hle2;rw [←hH2,←hrad,←hrcap] at hv2;clear hH2 hb6 hrad hrcap;have hc:=hc.mono (BatIn.le hle2);have fin0:∀{W} {cs:List Value},Has 0 w0 W (aA b6 (aL b9 (.slice rad b9.l.length rcap)) 66::bJ p q u.c (.slice ad u.added.length cap) ps::Sx.Own 66 3 (.slice ad u.added.length cap) u.added.length xs::bA H2 ps u.s::aB nameQ q d::Fz H2::aA b4 cs 66::R)→Has 0 w0 W (eM H2 p q u::aB nameQ q d::Fz H2::R):=fun {W cs} g=>by
  have g:Has 0 w0 W (bJ p q u.c (.slice ad u.added.length cap) ps::Sx.Own 66 3 (.slice ad u.added.length cap) u.added.length xs::bA H2 ps u.s::aB nameQ q d::Fz H2::aA b6 (aL b9 (.slice rad b9.l.length rcap)) 66::aA b4 cs 66::R):=g.pm;exact (lP g hc ho).sl
 refine sx hs hw fun a W hs hw=>?_;refine cle hs (aI9 b9 hb9o hv2 (hH.trans hle2) hT inn hw) fun x a W hx hs hw=>?_;refine sv hs hw fun a hs=>?_;refine k7 hs (c:=fun a hs=>?_);rw [hx] at hs;refine sv hs hw fun a hs=>?_;unfold uM at h;rw [←hb9] at h;cases c1:dS b9 with
 |false=>
  rw [c1] at hs;rw [if_pos c1] at h;injection h with h;injection h with e1 h;injection h with e2 h;injection h with e3 e4;subst e1 e2 e3 e4;refine sx hs hw fun a W hs hw=>?_;exact rc2 hs rfl rfl hw inn rfl rfl ⟨_,H2,rfl,hle2,kL H2,fin0 (hw.sl)⟩
 |true=>
 rw [c1] at hs;rw [if_neg (by rw [c1];simp)] at h;rw [if_pos rfl] at hs;rw [c1,if_pos rfl] at hw;obtain ⟨xad,xcap⟩:=x;refine sv hs hw fun a hs=>?_;have hw:Has 0 w0 W (bJ p q u.c (.slice ad u.added.length cap) ps::Sx.Own 66 3 (.slice ad u.added.length cap) u.added.length xs::bA H2 ps u.s::bP (.slice xad (cX b9).length xcap) (cX b9)::aA b6 (aL b9 (.slice rad b9.l.length rcap)) 66::aB nameQ q d::Fz H2::aA b4 (aL zBq (.slice none 0 0)) 66::R):=hw.pm;refine cl hs (aI0 hf hw) fun a W hs hw=>?_;refine sv hs hw fun a hs=>?_;cases c2:decide (uK u≥30) with
 |true=>
  rw [c2] at hs;rw [if_pos (of_decide_eq_true c2)] at h;injection h with h;injection h with e1 h;injection h with e2 h;injection h with e3 e4;subst e1 e2 e3 e4;refine sx hs hw fun a W hs hw=>?_;exact rc2 hs rfl rfl hw inn rfl rfl ⟨_,H2,rfl,hle2,kL H2,fin0 (hw.sl)⟩
 |false=>
 rw [c2] at hs;rw [if_neg (of_decide_eq_false c2),Option.map_eq_some_iff] at h;obtain ⟨⟨d2,u2⟩,h1,h2⟩:=h;obtain ⟨d3,h3,h4⟩:=Option.bind_eq_some_iff.1 h1;unfold uL at h4;have c3:gO {u with added:=u.added ++ [b9]}=true:=by
  cases hq:gO {u with added:=u.added ++ [b9]} with
  |true=>rfl
  |false=>rw [if_neg (by rw [hq];simp)] at h4;cases h4
 rw [if_pos c3] at h4;injection h4 with h4;injection h4 with e1 e2;subst e1;injection h2 with e3 h2;injection h2 with e4 h2;injection h2 with e5 e6;subst e3 e5 e6;rw [show (d3,u2).2=u2 from rfl] at e4;subst e4;subst e2;refine sx hs hw fun a W hs hw=>?_;have he12:(cX b9).length≤1200:=y6 c1;refine cle hs (nX w0 W 1 (cX b9) _ _ (by decide) (by decide) (by omega) (fun g=>g.rd_own (In.tl (In.tl (In.tl In.hd)))) hw) fun f a W _ hs hw=>?_;have hw:Has 0 w0 W (aB nameQ q d::bJ p q u.c (.slice ad u.added.length cap) ps::Sx.Own 66 3 (.slice ad u.added.length cap) u.added.length xs::bA H2 ps u.s::bP (.slice f.1 (frB 1 (cX b9)).length f.2) (frB 1 (cX b9))::aA b6 (aL b9 (.slice rad b9.l.length rcap)) 66::Fz H2::aA b4 (aL zBq (.slice none 0 0)) 66::R):=hw.sl;refine cl hs (aCn h3 (fun g=>g.rd_own (In.tl (In.tl In.hd))) hw) fun a W hs hw=>?_;refine sv hs hw fun a hs=>?_;have hw:Has 0 w0 W (bJ p q u.c (.slice ad u.added.length cap) ps::Sx.Own 66 3 (.slice ad u.added.length cap) u.added.length xs::bA H2 ps u.s::aB nameQ q d3::Fz H2::aA b6 (aL b9 (.slice rad b9.l.length rcap)) 66::aA b4 (aL zBq (.slice none 0 0)) 66::R):=hw.sl;have hw:Has 0 w0 W (aA b6 (aL b9 (.slice rad b9.l.length rcap)) 66::bJ p q u.c (.slice ad u.added.length cap) ps::Sx.Own 66 3 (.slice ad u.added.length cap) u.added.length xs::bA H2 ps u.s::aB nameQ q d3::Fz H2::aA b4 (aL zBq (.slice none 0 0)) 66::R):=hw.pm;have hin:BatIn H2 b9 (aL b9 (.slice rad b9.l.length rcap)):=⟨_,rfl,hv2⟩
 rw [show ((0:Int) !=0)=false from rfl] at hs;replace hs:Slots a 56 [(0,ptr p),(4,ptr b4),(6,ptr b6)]:=hs.ot;refine bG [6,7,10] [.f 0 2,.f 0 1,.f 0 1,.f 0 1,.f 0 1,.f 0 0,.m 0,.m 1,.f 2 2,.f 2 2,.m 2] [.c0 _,.c0 _,.c0 _,.c0 _,.c0 _,.c0 _,.c1 (fun x=> .slice (some ⟨x.n,0,none⟩) 1 1),.c2 (fun x y=> .slice y.ad (u.added ++ [b9]).length y.cap),.c2 _,.c2 _,.c3 (fun x y z=>undef)] (aA b6 (aL b9 (.slice rad b9.l.length rcap)) 66::bJ p q u.c (.slice ad u.added.length cap) ps::Sx.Own 66 3 (.slice ad u.added.length cap) u.added.length xs::bA H2 ps u.s::aB nameQ q d3::Fz H2::aA b4 (aL zBq (.slice none 0 0)) 66::R) (fun x=>aA x.n (aL b9 (.slice rad b9.l.length rcap)) 66::aA b6 (aL b9 (.slice rad b9.l.length rcap)) 66::bJ p q u.c (.slice ad u.added.length cap) ps::Sx.Own 66 3 (.slice ad u.added.length cap) u.added.length xs::bA H2 ps u.s::aB nameQ q d3::Fz H2::aA b4 (aL zBq (.slice none 0 0)) 66::R) (fun x y=>aA b6 (aL b9 (.slice rad b9.l.length rcap)) 66::bJ p q u.c (.slice ad u.added.length cap) ps::Sx.Own 66 3 (.slice y.ad (u.added ++ [b9]).length y.cap) (u.added ++ [b9]).length (xs ++ aL b9 (.slice rad b9.l.length rcap))::bA H2 ps u.s::aB nameQ q d3::Fz H2::aA b4 (aL zBq (.slice none 0 0)) 66::R) (fun x y z=>aA b6 (aL b9 (.slice rad b9.l.length rcap)) 66::bJ p q u.c (.slice y.ad (u.added ++ [b9]).length y.cap) ps::Sx.Own 66 3 (.slice y.ad (u.added ++ [b9]).length y.cap) (u.added ++ [b9]).length (xs ++ aL b9 (.slice rad b9.l.length rcap))::bA H2 ps u.s::aB nameQ q d3::Fz H2::aA b4 (aL zBq (.slice none 0 0)) 66::R) (fun x y z t=>[]) hs hw ?kk ⟨drs,drs,drs,drs,drs,drs,drn,?m1,drs,drs,drm,trivial⟩
 case m1=>
  intro x y z t LD a W hs hw;have hw:Has 0 w0 W (Sx.Own 66 3 (.slice ad u.added.length cap) u.added.length xs::aA x.n (aL b9 (.slice rad b9.l.length rcap)) 66::aA b6 (aL b9 (.slice rad b9.l.length rcap)) 66::bJ p q u.c (.slice ad u.added.length cap) ps::bA H2 ps u.s::aB nameQ q d3::Fz H2::aA b4 (aL zBq (.slice none 0 0)) 66::R):=hw.pm;refine jP hs hw In.hd hc hin rfl rfl (by omega) (by omega) (k:=fun a ad2 cap2 W hs hw _=>?_);exact ⟨{ad:=ad2,cap:=cap2},hs,hw.sl⟩
 case kk=>
 intro x y z a W hs hw;replace hs:Slots a 56 [(0,ptr p),(4,ptr b4),(6,ptr b6)]:=hs.ot;refine sx hs hw fun a W hs hw=>?_;have hw:Has 0 w0 W (Fz H2::bJ p q u.c (.slice y.ad (u.added ++ [b9]).length y.cap) ps::Sx.Own 66 3 (.slice y.ad (u.added ++ [b9]).length y.cap) (u.added ++ [b9]).length (xs ++ aL b9 (.slice rad b9.l.length rcap))::bA H2 ps u.s::aB nameQ q d3::aA b6 (aL b9 (.slice rad b9.l.length rcap)) 66::aA b4 (aL zBq (.slice none 0 0)) 66::R):=hw.pm;refine aG hs (hc:=y4 b9 _ hbl hv2 hw) (k:=?_);rintro e' W ⟨v',H3,rfl,hle3,hv3,hw⟩;refine ⟨_,rfl,fun a hs=>?_⟩;have hw:=hw.lz hle3;obtain ⟨tad,tcap,rfl⟩:=hv3.slice;refine sx hs hw fun a W hs hw=>?_;refine rc2 hs rfl rfl hw inn rfl rfl ⟨_,H3,rfl,hle2.trans hle3,hv3,?_⟩;have hw:Has 0 w0 W (bJ p q u.c (.slice y.ad (u.added ++ [b9]).length y.cap) ps::Sx.Own 66 3 (.slice y.ad (u.added ++ [b9]).length y.cap) (u.added ++ [b9]).length (xs ++ aL b9 (.slice rad b9.l.length rcap))::bA H3 ps u.s::aB nameQ q d3::Fz H3::R):=hw.sl;exact lP (u:={u with added:=u.added ++ [b9]}) hw ((hc.app (Ch.unit hin)).mono (BatIn.le hle3)) c3
end
end Go.Proofs.YtgpbngfehfbndaaGreatDoor.Sw
