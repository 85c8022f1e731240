/-
  Texts of the proof, one behind the other (part 9).
-/
import Derived.Test.YtgpbngfehfbndaaGreatDoorM2
import Derived.Test.YtgpbngfehfbndaaGreatDoorM5
import Derived.Test.YtgpbngfehfbndaaGreatDoorM8
set_option maxHeartbeats 16000000
set_option linter.unusedVariables false
set_option maxRecDepth 10000
namespace Go.Sx
open Go.RowKit
def loV (ad:Option Addr) (sz k cap m:Nat):Value:= .slice (if cap=m then ad else ad.map (·.add (m*sz))) (k - m) (cap - m)
section
variable {P:Program} {ops:Array Oper} {aD:List Oper} {Q:Exit→Act→World→Prop} {a:Act} {n:Nat} {L:List (Nat×Value)} {W:World} {d k cap m:Nat} {T S E:TypeId} {p:String} {e:Array Edge} {x lo:Operand} {ad:Option Addr} {q:IntKind} {z xs:List Value}
theorem aCB {agg:Bool} [sl:Sl P S E] [t:Ty P E agg z] (hs:Slots a n L) (h1:m≤k) (c:∀a',Slots a' n ((d,loV ad z.length k cap m)::L)→wpList P ops Q aD a' W) (hx:ev L x=some (.slice ad k cap):=by with_unfolding_all exact rfl) (hl:ev L lo=some (.int q (m:Int)):=by with_unfolding_all exact rfl) (hd:Nat.blt d n=true:=by with_unfolding_all exact rfl):
  wpList P ops Q (⟨some d,.slice S x (some lo) none none,T,p,e,none⟩::aD) a W:=by
 have hb:(Instr.sliceBound (.int q (m:Int)) k .sliceB).run P W= .ok m W:=by
  have:(0:Int)≤(m:Int)∧(m:Int)≤(k:Int):=⟨by omega,by omega⟩
  simp only [Instr.sliceBound,asIntOf,Sem.run_bind,Sem.run_pure,Result.andThen_ok]
  rw [if_pos this]
  simp
 have hbs:(Instr.sliceBounds true k cap (some (.int q (m:Int))) none none).run P W= .ok (m,k,cap) W:=by
  unfold Instr.sliceBounds
  simp [hb]
 refine bO hs hd (v:=loV ad z.length k cap m) (W':=W) ?_ c
 simp only [execOp,Option.map_some,Option.map_none,hs.ev hx,hs.ev hl,Instr.sliceAt,Instr.slice,Sem.run_bind,run_underlying sl.out,Result.andThen_ok,hbs,t.sizeOf,Sem.run_pure]
 rfl
theorem aHj {sz:Nat} (r:Rd W sz (.slice ad k cap) k xs) (h1:m≤k):Rd W sz (loV ad sz k cap m) (k - m) (xs.drop (m*sz)):=by
 obtain ⟨hx,ad',cap',e,h3,h4,h5⟩:=r
 injection e with e1 _ e3
 subst e1 e3
 refine ⟨by rw [List.length_drop,hx,Nat.sub_mul],_,_,rfl,by omega,by omega,?_⟩
 rcases h5 with rfl|⟨b,o,rfl,hlt,hc⟩
 ·exact .inl (by omega)
 ·by_cases hci:cap=m
  ·exact .inl (by omega)
  ·refine .inr ⟨b,o+m*sz,by rw [if_neg hci];simp [eF],hlt,fun j u hu=>?_⟩
   rw [List.getElem?_drop] at hu
   rw [Nat.add_assoc]
   exact hc _ _ hu
end
end Go.Sx
namespace Go.Proofs.YtgpbngfehfbndaaGreatDoor.Sw
open Go.RowKit Go.Sx
section
variable {H H':Fh} {p q ps:Nat} {w0 W:World} {R L:List Res} {u:cW} {s:eK} {d d':bM} {ad:Option Addr} {cap:Nat} {xs:List Value}
theorem aHk (b:cR) {v:Value} (hb:gW b) (hm:dP b=true) (hv:cH H v b.l) (hH:(fr w0).le H) (hT:Tabs w0) (i:In (Fz H) R) (hw:Has 0 w0 W R):
  Calls Tryz.prog 117 ⟨[.agg ⟨aL b v⟩]⟩ W fun e W'=>∃x:Option Addr×Nat,e= .returned (.slice x.1 (cT b).length x.2)∧True∧Has 0 w0 W' (bY (.slice x.1 (cT b).length x.2) (cT b)::R):=by
 have henc:(if dM b.c b.q b.l=true then d9 b.c b.q b.l else [])=cT b:=if_pos hm
 have hlen:=hw.endF i hH
 refine (pD b.c b.q b.l v W hb.c hb.q hb.ops (hw.rdH i hv) (hT.keep hlen)).mono ?_
 rintro e W' ⟨ad,cap,rfl,_,hw1⟩
 rw [henc] at hw1⊢
 exact ⟨(ad,cap),rfl,trivial,hw.call hw1⟩
theorem xV {b:cR} (hm:dP b=true):(cT b).length≤1200:=(mI (show dM b.c b.q b.l=true from hm)).2.2.2.2
theorem aHl (r:cD) {rad:Option Addr} {rcap:Nat} (hro:jH r) (hm:dP r.b=true) (hv:cH H (.slice rad r.b.l.length rcap) r.b.l) (hH:(fr w0).le H) (hT:Tabs w0) (i:In (Fz H) R) (hw:Has 0 w0 W R):
  Calls Tryz.prog 253 ⟨[.agg ⟨aJ r (.slice rad r.b.l.length rcap)⟩]⟩ W fun e W'=>∃x:Option Addr×Nat,e= .returned (.slice x.1 (fI r).length x.2)∧True∧Has 0 w0 W' (bY (.slice x.1 (fI r).length x.2) (fI r)::R):=by
 have p1:=Ph.putI_length_le r.place
 have p2:=Ph.putI_length_le r.err
 have hp1:=hro.place
 have hp2:=hro.err
 unfold i64 at hp1 hp2
 have p3:=xV hm
 refine enter Tryz.func253 Tryz.ntmps253 rfl rfl fun a hs=>?_
 refine sc hs ?_
 refine sn hs hw fun b1 a W hs hw=>?_
 refine zA hs hw ?_;clear hs;intro a hs
 refine bF [2,5] [.f 0 0,.f 0 0,.m 0,.f 0 1,.f 0 1,.m 1,.f 2 2] [.c0 _,.c0 _,.c1 (fun x=> .slice x.ad (Ph.putI r.place).length x.cap),.c0 _,.c0 _,.c2 (fun x y=> .slice y.ad (Ph.putI r.place ++ Ph.putI r.err).length y.cap),.c2 _] (aA b1 (aJ r (.slice rad r.b.l.length rcap)) 68::R) (fun x=>bY (.slice x.ad (Ph.putI r.place).length x.cap) (Ph.putI r.place)::aA b1 (aJ r (.slice rad r.b.l.length rcap)) 68::R) (fun x y=>bY (.slice y.ad (Ph.putI r.place ++ Ph.putI r.err).length y.cap) (Ph.putI r.place ++ Ph.putI r.err)::aA b1 (aJ r (.slice rad r.b.l.length rcap)) 68::R) (fun x y z=>[]) (fun x y z t=>[]) hs hw ?kk ⟨drs,drs,?m0,drs,drs,?m1,drs,trivial⟩
 case m0=>
  intro x y z t LD a W hs hw
  refine aF hs (hc:=eJ w0 W (.slice none 0 0) [] r.place _ (by omega) (by omega) (by simp) (hw.nilB 5)) (k:=?_)
  rintro e' W' ⟨ad,cap,rfl,hw⟩
  exact ⟨_,rfl,fun a hs=>⟨{ad:=ad,cap:=cap},hs,hw⟩⟩
 case m1=>
  intro x y z t LD a W hs hw
  refine aF hs (hc:=eJ w0 W _ (Ph.putI r.place) r.err _ (by omega) (by omega) (by omega) hw) (k:=?_)
  rintro e' W' ⟨ad,cap,rfl,hw⟩
  exact ⟨_,rfl,fun a hs=>⟨{ad:=ad,cap:=cap},hs,hw⟩⟩
 case kk=>
 intro _ y a W hs hw
 have hrf:fI r=frB 2 (Ph.putI r.place ++ Ph.putI r.err ++ cT r.b):=rfl
 have hhl:(Ph.putI r.place ++ Ph.putI r.err).length≤20:=by rw [List.length_append];omega
 rw [hrf]
 generalize Ph.putI r.place ++ Ph.putI r.err=h at *
 replace hs:Slots a 16 [(1,ptr b1),(3,.slice y.ad h.length y.cap)]:=hs.of ⟨rfl,rfl,trivial⟩
 have hw:Has 0 w0 W (bY (.slice y.ad h.length y.cap) h::aA b1 (aJ r (.slice rad r.b.l.length rcap)) 68::R):=hw
 refine sx hs hw fun a W hs hw=>?_
 refine cle hs (aHk r.b hro.b hm hv hH hT (In.tl (In.tl i)) hw) fun x a W _ hs hw=>?_
 refine hJ hs (hw.pick (Pick.tl Pick.hd)) (l:=h) (m:=cT r.b) (hr:=fK (hw.rd_own In.hd) (jQ _)) (hb:=by omega) (c:=fun a ad2 cap2 W hs hw=>?_)
 refine cle hs (nC w0 W 2 (h ++ cT r.b) _ _ (by decide) (by decide) (by rw [List.length_append];omega) (fun g=>g.rd_own In.hd) hw) fun f a W _ hs hw=>?_
 refine sv hs hw fun a hs=>?_
 exact rt1 hs rfl rfl ⟨f,rfl,trivial,hw.sl⟩
theorem aHm (hw:Has 0 w0 W (eH H p q u::Fz H::R)):
  Calls Tryz.prog 174 ⟨[ptr p]⟩ W fun e W'=>∃(v:Value) (H':Fh),e= .returned v∧H.le H'∧wC H' v (fB u)∧Has 0 w0 W' (eH H' p q u::Fz H'::R):=by
 obtain ⟨ho,ps,ad,cap,xs,hc,hw⟩:=kC hw
 have hf:=lU ho
 obtain ⟨m,hm⟩:∃m:Nat,cQ u.s.f u.c=(m:Int):=⟨(cQ u.s.f u.c).toNat,by have:=hf.last.1;omega⟩
 have hml:m≤u.added.length:=by have:=hf.last.2;omega
 have hal:=hf.added.1
 obtain ⟨l,hl⟩:∃l,l=fB u:=⟨_,rfl⟩
 have hqa:fB u=u.added.drop m:=by unfold fB;rw [hm,Int.toNat_natCast]
 have hll:l.length=u.added.length - m:=by rw [hl,hqa,List.length_drop]
 have hcl:Ch (BatIn H) l (xs.drop (m*3)):=by rw [hl,hqa];exact hc.drop BatIn.len m
 have hlb:∀b∈l,b.l.length≤1000:=fun b hb=>by
  have:=(hf.added.2 b (by rw [hl,hqa] at hb;exact List.mem_of_mem_drop hb)).2
  omega
 rw [←hl]
 have hw:Has 0 w0 W (bG p q u.c (.slice ad u.added.length cap) ps::Sx.Own 66 3 (.slice ad u.added.length cap) u.added.length xs::aT H ps u.s::Fz H::R):=hw
 refine enter Tryz.func174 Tryz.ntmps174 rfl rfl fun a hs=>?_
 refine sv hs hw fun a hs=>?_
 refine bF [12] [.f 0 1,.f 0 1,.f 0 1,.f 0 1,.f 0 0,.f 0 0,.f 0 0,.f 0 0,.f 0 0,.f 0 0,.f 0 0,.f 0 0,.m 0,.f 1 1,.f 1 1,.f 0 1] [.c0 _,.c0 _,.c0 _,.c0 _,.c0 _,.c0 _,.c0 _,.c0 _,.c0 _,.c0 _,.c0 _,.c0 _,.c1 (fun x=> .int .i64 (m:Int)),.c1 (fun x=>loV ad 3 u.added.length cap m),.c1 (fun x=> .int .i64 (l.length:Int)),.c0 _] (bG p q u.c (.slice ad u.added.length cap) ps::Sx.Own 66 3 (.slice ad u.added.length cap) u.added.length xs::aT H ps u.s::Fz H::R) (fun x=>bG p q u.c (.slice ad u.added.length cap) ps::Sx.Own 66 3 (.slice ad u.added.length cap) u.added.length xs::aT H ps u.s::Fz H::R) (fun x y=>[]) (fun x y z=>[]) (fun x y z t=>[]) hs hw ?kk ⟨drs,drs,drs,drs,drs,drs,drs,drs,drs,drs,drs,drs,?m0,?f13,?f14,drs,trivial⟩
 case m0=>
  intro x y z t LD a W hs hw
  have hw:Has 0 w0 W (aT H ps u.s::bG p q u.c (.slice ad u.added.length cap) ps::Sx.Own 66 3 (.slice ad u.added.length cap) u.added.length xs::Fz H::R):=hw.pm
  refine cl hs (aBy u.c hw) fun a W hs hw=>?_
  rw [hm] at hs
  exact ⟨{},hs,hw.pm⟩
 case f13=>
  refine ⟨trivial,?_,trivial,trivial,trivial⟩
  intro x y z t LD a W hs hw
  refine aCB (z:=tO) hs hml fun a hs=>?_
  exact ⟨hs,hw⟩
 case f14=>
  refine ⟨trivial,?_,trivial,trivial,trivial⟩
  intro x y z t LD a W hs hw
  refine rE hs (k:=fun a hs=>?_)
  rw [←hll] at hs
  exact ⟨hs,hw⟩
 case kk=>
 intro _ a W hs hw
 replace hs:Slots a 34 [(3,.slice none 0 0),(21,loV ad 3 u.added.length cap m),(22,.int .i64 (l.length:Int)),(23,.int .i64 0)]:=hs.of ⟨rfl,rfl,rfl,rfl,trivial⟩
 have hw:Has 0 w0 W (Sx.Own 66 3 (.slice none 0 0) 0 []::bG p q u.c (.slice ad u.added.length cap) ps::Sx.Own 66 3 (.slice ad u.added.length cap) u.added.length xs::aT H ps u.s::Fz H::R):=hw.nilOwn 66 3
 refine sc hs ?_
 obtain ⟨lv,hlv⟩:∃lv,lv=loV ad 3 u.added.length cap m:=⟨_,rfl⟩
 have hrd:∀{W A B C D R'},Has 0 w0 W (A::B::Sx.Own 66 3 (.slice ad u.added.length cap) u.added.length xs::C::D::R')→Rd W 3 lv l.length (xs.drop (m*3)):=fun h=>by
  rw [hlv,hll]
  exact aHj (h.rd_own (In.tl (In.tl In.hd))) hml
 rw [←hlv] at hs
 refine bX (σ:=Nat×Option Addr×Nat×List Value×Fh) (fun z=>[(3,.slice z.2.1 (l.take z.1).length z.2.2.1),(21,lv),(22,.int .i64 (l.length:Int)),(23,.int .i64 (z.1:Int))]) (fun z=>Sx.Own 66 3 (.slice (z.2.1) (l.take (z.1)).length (z.2.2.1)) (l.take (z.1)).length (z.2.2.2.1)::bG p q u.c (.slice ad u.added.length cap) ps::Sx.Own 66 3 (.slice ad u.added.length cap) u.added.length xs::aT z.2.2.2.2 ps u.s::Fz z.2.2.2.2::R) (fun z=>z.1≤l.length∧H.le z.2.2.2.2∧Ch (BatIn z.2.2.2.2) (l.take z.1) z.2.2.2.1) (fun z=>l.length - z.1) (0,none,0,[],H) ⟨Nat.zero_le _,Fh.le.refl H,rfl⟩ hs ⟨rfl,rfl,rfl,rfl,trivial⟩ hw ?_
 clear hs hw
 rintro ⟨i,gad,gcap,ys,H2⟩ a W ⟨hi,hle,hys⟩ hs hw
 simp only at hi hle hys hs hw
 refine sv hs hw fun a hs=>?_
 refine cI hs (kt:=fun hcc=>?_) (kf:=fun hcc=>?_)
 ·have hi':i<l.length:=by simpa using hcc
  obtain ⟨o,ho9,hd⟩:=dS hi'
  have hlo:=hlb o (List.mem_of_getElem? ho9)
  refine sc hs ?_
  refine fZ hs (r:=hrd hw) (hk:=BatIn.len) (ch:=hcl) (ho:=ho9) (hlen:=rfl) (c:=fun a g off c hmc hcl9 hpc hlt hs=>?_)
  obtain ⟨sv9,rfl,hsv⟩:=hmc
  obtain ⟨oad,ocap,rfl⟩:=hsv.slice
  refine eC hs (z:=tO) (cs:=aL o _) (hc:=hpc) (hl:=by rfl) (c:=fun a hs=>?_)
  refine sn hs hw fun b5 a W hs hw=>?_
  refine sx hs hw fun a W hs hw=>?_
  have hw:Has 0 w0 W (Fz H2::Sx.Own 66 3 (.slice (gad) (l.take (i)).length (gcap)) (l.take (i)).length (ys)::bG p q u.c (.slice ad u.added.length cap) ps::Sx.Own 66 3 (.slice ad u.added.length cap) u.added.length xs::aT H2 ps u.s::R):=hw.sl
  refine aF hs (hc:=xT o _ hlo (hsv.le hle) hw) (k:=?_)
  rintro e' W' ⟨v',H3,rfl,hle3,hv3,hw⟩
  refine ⟨_,rfl,fun a hs=>?_⟩
  obtain ⟨vad,vcap,rfl⟩:=hv3.slice
  have hw:=hw.lz hle3
  refine sn hs hw fun b6 a W hs hw=>?_
  have hw:Has 0 w0 W (Sx.Own 66 3 (.slice (gad) (l.take (i)).length (gcap)) (l.take (i)).length (ys)::aA b6 (aL o (.slice vad o.l.length vcap)) 66::Fz H3::bG p q u.c (.slice ad u.added.length cap) ps::Sx.Own 66 3 (.slice ad u.added.length cap) u.added.length xs::aT H3 ps u.s::R):=hw.pm
  have hin:BatIn H3 o (aL o (.slice vad o.l.length vcap)):=⟨_,rfl,hv3⟩
  have hti:(l.take i).length=i:=by rw [List.length_take];omega
  refine jB hs hw In.hd (hys.mono (BatIn.le hle3)) hin rfl rfl (by omega) (by omega) (k:=fun a ad2 cap2 W hs hw _=>?_)
  rw [←fS ho9] at hs hw
  refine sv hs hw fun a hs=>?_
  refine bR (i+1,ad2,cap2,ys ++ aL o (.slice vad o.l.length vcap),H3) hs (hw.sl) ⟨hi',hle.trans hle3,?_⟩ (by show l.length - (i+1)<l.length - i;omega) ⟨rfl,rfl,rfl,bS (i1 (by omega)),trivial⟩
  show Ch (BatIn H3) (l.take (i+1)) _
  rw [fS ho9]
  exact (hys.mono (BatIn.le hle3)).app (Ch.unit hin)
 ·have h9:l.take i=l:=List.take_of_length_le (by simp at hcc;omega)
  rw [h9] at hs hw hys
  refine sv hs hw fun a hs=>?_
  have hw:Has 0 w0 W (Sx.Own 66 3 (.slice gad l.length gcap) l.length ys::Fz H2::bG p q u.c (.slice ad u.added.length cap) ps::Sx.Own 66 3 (.slice ad u.added.length cap) u.added.length xs::aT H2 ps u.s::R):=hw.pm
  obtain ⟨H3,hle3,hw,hrd3⟩:=hw.freeze_own
  have hw:=hw.lz hle3
  refine rt1 hs rfl rfl ⟨_,H3,rfl,hle.trans hle3,⟨ys,hrd3,hys.mono (BatIn.le hle3)⟩,?_⟩
  have hw:Has 0 w0 W (bG p q u.c (.slice ad u.added.length cap) ps::Sx.Own 66 3 (.slice ad u.added.length cap) u.added.length xs::aT H3 ps u.s::Fz H3::R):=hw.pm
  exact k5 hw (hc.mono (BatIn.le (hle.trans hle3))) ho
end
section
variable {H H':Fh} {p q ps:Nat} {w0 W:World} {R L:List Res} {u u':cW} {s:eK} {d d':bM} {ad:Option Addr} {cap:Nat} {xs:List Value} {b:cR} {err:Int}
theorem aHn (b:cR):cT b≠[]:=by
 show d9 b.c b.q b.l≠[]
 unfold d9 iB
 have:=Ph.putI_ne_nil b.c
 simp [this]
theorem aHo (b:cR) {v:Value} (hb:gW b) (hv:cH H v b.l) (hH:(fr w0).le H) (hT:Tabs w0) (i:In (Fz H) R) (hw:Has 0 w0 W R):
  Calls Tryz.prog 117 ⟨[.agg ⟨aL b v⟩]⟩ W fun e W'=>∃x:Option Addr×Nat,e= .returned (.slice x.1 (if dP b then cT b else []).length x.2)∧(x.1.isNone=!dP b)∧Has 0 w0 W' (bY (.slice x.1 (if dP b then cT b else []).length x.2) (if dP b then cT b else [])::R):=by
 have hlen:=hw.endF i hH
 refine (pD b.c b.q b.l v W hb.c hb.q hb.ops (hw.rdH i hv) (hT.keep hlen)).mono ?_
 rintro e W' ⟨ad,cap,rfl,hn,hw1⟩
 have hw2:=hw.call hw1
 refine ⟨(ad,cap),rfl,?_,hw2⟩
 show ad.isNone=!dP b
 cases hm:dP b with
 |false=>rw [(hn hm).1];rfl
 |true=>
  cases ad with
  |some _=>rfl
  |none=>
   have h9:=hw2.rd_own In.hd
   rw [show dM b.c b.q b.l=true from hm,if_pos rfl] at h9
   obtain ⟨_,ad',cap',e,_,_,h|⟨_,_,h,_⟩⟩:=h9
   ·exact absurd (List.eq_nil_of_length_eq_zero h) (aHn b)
   ·rw [h] at e;cases e
abbrev zB:cR:=⟨0,0,[]⟩
theorem aHp (ops:List OpD) {bad:Option Addr} {bcap:Nat} (hops:∀o∈ops,OpOk o) (h8:ops.length≤8) (hv:cH H (.slice bad ops.length bcap) ops) (h:tH d u ops=some (d',u',b,err)) (hH:(fr w0).le H) (hT:Tabs w0) (hw:Has 0 w0 W (eH H p q u::aB nameQ q d::Fz H::R)):
  Calls Tryz.prog 94 ⟨[ptr p,.slice bad ops.length bcap]⟩ W fun e W'=>∃(v:Value) (H':Fh),e= .returned (.tuple ⟨[.agg ⟨aL b v⟩,.int .i64 err]⟩)∧H.le H'∧cH H' v b.l∧Has 0 w0 W' (eH H' p q u'::aB nameQ q d'::Fz H'::R):=by
 obtain ⟨ho,ps,ad,cap,xs,hc,hw⟩:=kC hw
 have hf:=lU ho
 have hal:=hf.added.1
 obtain ⟨b9,hb9⟩:∃b9,b9=(⟨u.c,(u.added.length:Int)+1,ops⟩:cR):=⟨_,rfl⟩
 have hb9o:gW b9:=by
  rw [hb9];refine ⟨?_,?_,hops⟩
  ·show i64 u.c;have:=hf.c;unfold i64;omega
  ·show i64 ((u.added.length:Int)+1);unfold i64;omega
 have hbl:b9.l.length≤1000:=by rw [hb9];show ops.length≤1000;omega
 have hv9:cH H (.slice bad b9.l.length bcap) b9.l:=by rw [hb9];exact hv
 have hcell:([.int .i64 u.c,.int .i64 ((u.added.length:Int)+1),.slice bad ops.length bcap]:List Value)=aL b9 (.slice bad b9.l.length bcap):=by rw [hb9];rfl
 have hi9:IntKind.i64.wrap ((u.added.length:Int)+1)=(u.added.length:Int)+1:=IntWalk.i64_in _ (by omega)
 refine enter Tryz.func94 Tryz.ntmps94 rfl rfl fun a hs=>?_
 refine sc hs ?_
 refine sn hs hw fun b4 a W hs hw=>?_
 refine sv hs hw fun a hs=>?_
 have hw:Has 0 w0 W (Fz H::bG p q u.c (.slice ad u.added.length cap) ps::Sx.Own 66 3 (.slice ad u.added.length cap) u.added.length xs::aT H ps u.s::aB nameQ q d::aA b4 (aL zB (.slice none 0 0)) 66::R):=hw.pm
 refine fL (G:=0) (w:=w0) (σ:=Un) (V:=fun r=>[ptr p,ptr p,.pointer (some ⟨p,0+1,none⟩),.int .i64 u.c,ptr p,ptr p,.pointer (some ⟨p,0+2,none⟩),.slice ad u.added.length cap,.int .i64 (u.added.length:Int),.int .i64 (IntKind.i64.wrap ((u.added.length:Int)+1)),.slice bad ops.length bcap,.agg ⟨[.int .i64 u.c,.int .i64 (IntKind.i64.wrap ((u.added.length:Int)+1)),.slice bad ops.length bcap]⟩,.agg ⟨aL b9 (.slice (r 12).ad b9.l.length (r 12).cap)⟩,ptr (r 13).n,.bool true])
  (Rs:=fun r D=>(if D 13 then aA (r 13).n (if D 14 then aL b9 (.slice (r 12).ad b9.l.length (r 12).cap) else aL zB (.slice none 0 0)) 66 else bK)::(if D 12 then FzF (r 12).H (Fh.le H (r 12).H∧cH (r 12).H (.slice (r 12).ad b9.l.length (r 12).cap) b9.l) else Fz H)::bG p q u.c (.slice ad u.added.length cap) ps::Sx.Own 66 3 (.slice ad u.added.length cap) u.added.length xs::aT H ps u.s::aB nameQ q d::aA b4 (aL zB (.slice none 0 0)) 66::R) (fun _=>{}) hs ?h0 (hVu:=?vu) (ho:=⟨dru,dru,dru,dru,dru,dru,dru,dru,?c8,dru,dru,dru,?c12,?c13,?c14,trivial⟩) (k:=?kk)
 case h0=>exact (hw.pm:Has 0 w0 W (Fz H::bG p q u.c (.slice ad u.added.length cap) ps::Sx.Own 66 3 (.slice ad u.added.length cap) u.added.length xs::aT H ps u.s::aB nameQ q d::aA b4 (aL zB (.slice none 0 0)) 66::R)).free
 case vu=>
  intro u u' j h
  rcases j with _|_|_|_|_|_|_|_|_|_|_|_|_|_|_|j
  all_goals first|rfl|simp [h]
 case c8=>
  intro r LD D a W hcl hi hp hs hw
  refine rE hs (k:=fun a hs=>?_)
  exact Or.inl ⟨hs,hw⟩
 case c12=>
  intro r LD D a W hcl hi hp hs hw
  have n14:=Go.Sx.not_done hcl hi 14 (by kernel_rfl)
  simp only [hi,n14,Bool.false_eq_true,if_false] at hw
  have hw:Has 0 w0 W (Fz H::(if D 13=true then aA (r 13).n (aL zB (.slice none 0 0)) 66 else bK)::bG p q u.c (.slice ad u.added.length cap) ps::Sx.Own 66 3 (.slice ad u.added.length cap) u.added.length xs::aT H ps u.s::aB nameQ q d::aA b4 (aL zB (.slice none 0 0)) 66::R):=hw.pm
  refine aF hs (hc:=(by rw [hi9,hcell];exact xT b9 _ hbl hv9 hw)) (k:=?_)
  rintro e' W' ⟨v',H2,rfl,hle2,hv2,hw⟩
  refine ⟨_,rfl,fun a hs=>?_⟩
  obtain ⟨tad,tcap,rfl⟩:=hv2.slice
  refine Or.inr ⟨{ad:=tad,cap:=tcap,H:=H2},hs,?_⟩
  have hw:=hw.fzf (And.intro hle2 hv2)
  show Has 0 w0 W' ((if D 13=true then aA (r 13).n (if D 14=true then _ else aL zB (.slice none 0 0)) 66 else bK)::FzF H2 (Fh.le H H2∧cH H2 (.slice tad b9.l.length tcap) b9.l)::bG p q u.c (.slice ad u.added.length cap) ps::Sx.Own 66 3 (.slice ad u.added.length cap) u.added.length xs::aT H ps u.s::aB nameQ q d::aA b4 (aL zB (.slice none 0 0)) 66::R)
  rw [n14]
  exact hw.pm
 case c13=>
  intro r LD D a W hcl hi hp hs hw
  have n14:=Go.Sx.not_done hcl hi 14 (by kernel_rfl)
  simp only [hi,Bool.false_eq_true,if_false] at hw
  refine sn hs hw fun b a W hs hw=>?_
  refine Or.inr ⟨{n:=b},hs,?_⟩
  show Has 0 w0 _ (aA b (if (Nat.beq 14 13 || D 14)=true then _ else _) _::_)
  rw [n14]
  exact hw.fill Upd.hd
 case c14=>
  intro r LD D a W hcl hi hp hs hw
  have h13:=Go.Sx.done hp 13 (by kernel_rfl)
  simp only [h13,hi,Bool.false_eq_true,if_false,if_true] at hw
  refine d6 hs (hw:=hw) (vs:=aL b9 (.slice (r 12).ad b9.l.length (r 12).cap)) (k:=fun W hs hw=>?_)
  refine Or.inl ⟨hs,?_⟩
  show Has 0 w0 _ ((if D 13=true then _ else _)::_)
  rw [h13]
  exact hw
 case kk=>
 intro r a W hs hw
 have hw:Has 0 w0 W (FzF (r 12).H (Fh.le H (r 12).H∧cH (r 12).H (.slice (r 12).ad b9.l.length (r 12).cap) b9.l)::aA (r 13).n (aL b9 (.slice (r 12).ad b9.l.length (r 12).cap)) 66::bG p q u.c (.slice ad u.added.length cap) ps::Sx.Own 66 3 (.slice ad u.added.length cap) u.added.length xs::aT H ps u.s::aB nameQ q d::aA b4 (aL zB (.slice none 0 0)) 66::R):=hw.sl
 obtain ⟨⟨hle2,hv2⟩,hw⟩:=hw.unfzf
 have hw:=hw.lz hle2
 replace hs:Slots a 56 [(0,ptr p),(4,ptr b4),(6,ptr (r 13).n)]:=hs.of ⟨rfl,rfl,rfl,trivial⟩
 obtain ⟨H2,hH2⟩:∃H2,H2=(r 12).H:=⟨_,rfl⟩
 obtain ⟨b6,hb6⟩:∃b6,b6=(r 13).n:=⟨_,rfl⟩
 obtain ⟨rad,hrad⟩:∃rad,rad=(r 12).ad:=⟨_,rfl⟩
 obtain ⟨rcap,hrcap⟩:∃rcap,rcap=(r 12).cap:=⟨_,rfl⟩
 have hw:Has 0 w0 W (aA b6 (aL b9 (.slice rad b9.l.length rcap)) 66::bG p q u.c (.slice ad u.added.length cap) ps::Sx.Own 66 3 (.slice ad u.added.length cap) u.added.length xs::aT H2 ps u.s::aB nameQ q d::Fz H2::aA b4 (aL zB (.slice none 0 0)) 66::R):=by rw [hH2,hb6,hrad,hrcap];exact hw.pm
 rw [←hb6] at hs
 rw [←hH2] at hle2
 rw [←hH2,←hrad,←hrcap] at hv2
 clear hH2 hb6 hrad hrcap
 have hc:=hc.mono (BatIn.le hle2)
 have fin0:∀{W} {cs:List Value},Has 0 w0 W (aA b6 (aL b9 (.slice rad b9.l.length rcap)) 66::bG p q u.c (.slice ad u.added.length cap) ps::Sx.Own 66 3 (.slice ad u.added.length cap) u.added.length xs::aT H2 ps u.s::aB nameQ q d::Fz H2::aA b4 cs 66::R)→Has 0 w0 W (eH H2 p q u::aB nameQ q d::Fz H2::R):=fun {W cs} g=>by
  have g:Has 0 w0 W (bG p q u.c (.slice ad u.added.length cap) ps::Sx.Own 66 3 (.slice ad u.added.length cap) u.added.length xs::aT H2 ps u.s::aB nameQ q d::Fz H2::aA b6 (aL b9 (.slice rad b9.l.length rcap)) 66::aA b4 cs 66::R):=g.pm
  exact (k5 g hc ho).sl
 refine sx hs hw fun a W hs hw=>?_
 refine cle hs (aHo b9 hb9o hv2 (hH.trans hle2) hT (by repeat (first|exact In.hd|apply In.tl)) hw) fun x a W hx hs hw=>?_
 refine sv hs hw fun a hs=>?_
 refine kE hs (c:=fun a hs=>?_)
 rw [hx] at hs
 refine sv hs hw fun a hs=>?_
 unfold tH at h
 rw [←hb9] at h
 cases c1:dP b9 with
 |false=>
  rw [c1] at hs
  rw [if_pos c1] at h
  injection h with h
  injection h with e1 h
  injection h with e2 h
  injection h with e3 e4
  subst e1 e2 e3 e4
  refine sx hs hw fun a W hs hw=>?_
  exact rc2 hs rfl rfl hw (by repeat (first|exact In.hd|apply In.tl)) rfl rfl ⟨_,H2,rfl,hle2,jW H2,fin0 (hw.sl)⟩
 |true=>
 rw [c1] at hs
 rw [if_neg (by rw [c1];simp)] at h
 rw [if_pos rfl] at hs
 rw [c1,if_pos rfl] at hw
 obtain ⟨xad,xcap⟩:=x
 refine sv hs hw fun a hs=>?_
 have hw:Has 0 w0 W (bG p q u.c (.slice ad u.added.length cap) ps::Sx.Own 66 3 (.slice ad u.added.length cap) u.added.length xs::aT H2 ps u.s::bY (.slice xad (cT b9).length xcap) (cT b9)::aA b6 (aL b9 (.slice rad b9.l.length rcap)) 66::aB nameQ q d::Fz H2::aA b4 (aL zB (.slice none 0 0)) 66::R):=hw.pm
 refine cl hs (aHf hf hw) fun a W hs hw=>?_
 refine sv hs hw fun a hs=>?_
 cases c2:decide (tF u≥30) with
 |true=>
  rw [c2] at hs
  rw [if_pos (of_decide_eq_true c2)] at h
  injection h with h
  injection h with e1 h
  injection h with e2 h
  injection h with e3 e4
  subst e1 e2 e3 e4
  refine sx hs hw fun a W hs hw=>?_
  exact rc2 hs rfl rfl hw (by repeat (first|exact In.hd|apply In.tl)) rfl rfl ⟨_,H2,rfl,hle2,jW H2,fin0 (hw.sl)⟩
 |false=>
 rw [c2] at hs
 rw [if_neg (of_decide_eq_false c2),Option.map_eq_some_iff] at h
 obtain ⟨⟨d2,u2⟩,h1,h2⟩:=h
 obtain ⟨d3,h3,h4⟩:=Option.bind_eq_some_iff.1 h1
 unfold tG at h4
 have c3:gH {u with added:=u.added ++ [b9]}=true:=by
  cases hq:gH {u with added:=u.added ++ [b9]} with
  |true=>rfl
  |false=>rw [if_neg (by rw [hq];simp)] at h4;cases h4
 rw [if_pos c3] at h4
 injection h4 with h4
 injection h4 with e1 e2
 subst e1
 injection h2 with e3 h2
 injection h2 with e4 h2
 injection h2 with e5 e6
 subst e3 e5 e6
 rw [show (d3,u2).2=u2 from rfl] at e4
 subst e4
 subst e2
 refine sx hs hw fun a W hs hw=>?_
 have he12:(cT b9).length≤1200:=xV c1
 refine cle hs (nC w0 W 1 (cT b9) _ _ (by decide) (by decide) (by omega) (fun g=>g.rd_own (In.tl (In.tl (In.tl In.hd)))) hw) fun f a W _ hs hw=>?_
 have hw:Has 0 w0 W (aB nameQ q d::bG p q u.c (.slice ad u.added.length cap) ps::Sx.Own 66 3 (.slice ad u.added.length cap) u.added.length xs::aT H2 ps u.s::bY (.slice f.1 (frB 1 (cT b9)).length f.2) (frB 1 (cT b9))::aA b6 (aL b9 (.slice rad b9.l.length rcap)) 66::Fz H2::aA b4 (aL zB (.slice none 0 0)) 66::R):=hw.sl
 refine cl hs (aCA h3 (fun g=>g.rd_own (In.tl (In.tl In.hd))) hw) fun a W hs hw=>?_
 refine sv hs hw fun a hs=>?_
 have hw:Has 0 w0 W (bG p q u.c (.slice ad u.added.length cap) ps::Sx.Own 66 3 (.slice ad u.added.length cap) u.added.length xs::aT H2 ps u.s::aB nameQ q d3::Fz H2::aA b6 (aL b9 (.slice rad b9.l.length rcap)) 66::aA b4 (aL zB (.slice none 0 0)) 66::R):=hw.sl
 have hw:Has 0 w0 W (aA b6 (aL b9 (.slice rad b9.l.length rcap)) 66::bG p q u.c (.slice ad u.added.length cap) ps::Sx.Own 66 3 (.slice ad u.added.length cap) u.added.length xs::aT H2 ps u.s::aB nameQ q d3::Fz H2::aA b4 (aL zB (.slice none 0 0)) 66::R):=hw.pm
 have hin:BatIn H2 b9 (aL b9 (.slice rad b9.l.length rcap)):=⟨_,rfl,hv2⟩
 rw [show ((0:Int) !=0)=false from rfl] at hs
 replace hs:Slots a 56 [(0,ptr p),(4,ptr b4),(6,ptr b6)]:=hs.of ⟨rfl,rfl,rfl,trivial⟩
 refine bF [6,7,10] [.f 0 2,.f 0 1,.f 0 1,.f 0 1,.f 0 1,.f 0 0,.m 0,.m 1,.f 2 2,.f 2 2,.m 2] [.c0 _,.c0 _,.c0 _,.c0 _,.c0 _,.c0 _,.c1 (fun x=> .slice (some ⟨x.n,0,none⟩) 1 1),.c2 (fun x y=> .slice y.ad (u.added ++ [b9]).length y.cap),.c2 _,.c2 _,.c3 (fun x y z=>undef)] (aA b6 (aL b9 (.slice rad b9.l.length rcap)) 66::bG p q u.c (.slice ad u.added.length cap) ps::Sx.Own 66 3 (.slice ad u.added.length cap) u.added.length xs::aT H2 ps u.s::aB nameQ q d3::Fz H2::aA b4 (aL zB (.slice none 0 0)) 66::R) (fun x=>aA x.n (aL b9 (.slice rad b9.l.length rcap)) 66::aA b6 (aL b9 (.slice rad b9.l.length rcap)) 66::bG p q u.c (.slice ad u.added.length cap) ps::Sx.Own 66 3 (.slice ad u.added.length cap) u.added.length xs::aT H2 ps u.s::aB nameQ q d3::Fz H2::aA b4 (aL zB (.slice none 0 0)) 66::R) (fun x y=>aA b6 (aL b9 (.slice rad b9.l.length rcap)) 66::bG p q u.c (.slice ad u.added.length cap) ps::Sx.Own 66 3 (.slice y.ad (u.added ++ [b9]).length y.cap) (u.added ++ [b9]).length (xs ++ aL b9 (.slice rad b9.l.length rcap))::aT H2 ps u.s::aB nameQ q d3::Fz H2::aA b4 (aL zB (.slice none 0 0)) 66::R) (fun x y z=>aA b6 (aL b9 (.slice rad b9.l.length rcap)) 66::bG p q u.c (.slice y.ad (u.added ++ [b9]).length y.cap) ps::Sx.Own 66 3 (.slice y.ad (u.added ++ [b9]).length y.cap) (u.added ++ [b9]).length (xs ++ aL b9 (.slice rad b9.l.length rcap))::aT H2 ps u.s::aB nameQ q d3::Fz H2::aA b4 (aL zB (.slice none 0 0)) 66::R) (fun x y z t=>[]) hs hw ?kk ⟨drs,drs,drs,drs,drs,drs,drn,?m1,drs,drs,drm,trivial⟩
 case m1=>
  intro x y z t LD a W hs hw
  have hw:Has 0 w0 W (Sx.Own 66 3 (.slice ad u.added.length cap) u.added.length xs::aA x.n (aL b9 (.slice rad b9.l.length rcap)) 66::aA b6 (aL b9 (.slice rad b9.l.length rcap)) 66::bG p q u.c (.slice ad u.added.length cap) ps::aT H2 ps u.s::aB nameQ q d3::Fz H2::aA b4 (aL zB (.slice none 0 0)) 66::R):=hw.pm
  refine jB hs hw In.hd hc hin rfl rfl (by omega) (by omega) (k:=fun a ad2 cap2 W hs hw _=>?_)
  exact ⟨{ad:=ad2,cap:=cap2},hs,hw.sl⟩
 case kk=>
 intro x y z a W hs hw
 replace hs:Slots a 56 [(0,ptr p),(4,ptr b4),(6,ptr b6)]:=hs.of ⟨rfl,rfl,rfl,trivial⟩
 refine sx hs hw fun a W hs hw=>?_
 have hw:Has 0 w0 W (Fz H2::bG p q u.c (.slice y.ad (u.added ++ [b9]).length y.cap) ps::Sx.Own 66 3 (.slice y.ad (u.added ++ [b9]).length y.cap) (u.added ++ [b9]).length (xs ++ aL b9 (.slice rad b9.l.length rcap))::aT H2 ps u.s::aB nameQ q d3::aA b6 (aL b9 (.slice rad b9.l.length rcap)) 66::aA b4 (aL zB (.slice none 0 0)) 66::R):=hw.pm
 refine aF hs (hc:=xT b9 _ hbl hv2 hw) (k:=?_)
 rintro e' W ⟨v',H3,rfl,hle3,hv3,hw⟩
 refine ⟨_,rfl,fun a hs=>?_⟩
 have hw:=hw.lz hle3
 obtain ⟨tad,tcap,rfl⟩:=hv3.slice
 refine sx hs hw fun a W hs hw=>?_
 refine rc2 hs rfl rfl hw (by repeat (first|exact In.hd|apply In.tl)) rfl rfl ⟨_,H3,rfl,hle2.trans hle3,hv3,?_⟩
 have hw:Has 0 w0 W (bG p q u.c (.slice y.ad (u.added ++ [b9]).length y.cap) ps::Sx.Own 66 3 (.slice y.ad (u.added ++ [b9]).length y.cap) (u.added ++ [b9]).length (xs ++ aL b9 (.slice rad b9.l.length rcap))::aT H3 ps u.s::aB nameQ q d3::Fz H3::R):=hw.sl
 exact k5 (u:={u with added:=u.added ++ [b9]}) hw ((hc.app (Ch.unit hin)).mono (BatIn.le hle3)) c3
end
set_option maxRecDepth 100000
section
variable {H H':Fh} {p q ps:Nat} {w0 W:World} {R L:List Res} {u u':cW} {s:eK} {d d':bM} {ad:Option Addr} {cap:Nat} {xs:List Value} {b:cR} {err:Int}
theorem aHq (s:eK) (r:cD):s.l.length≤(one s r).1.l.length:=by
 unfold one
 repeat (first|split|simp)
theorem aCC:∀{rows:List cD} {s:eK} {n:Nat},s.l.length≤(gC s n rows).1.l.length
 | [],s,n=>Nat.le_refl _
 |r::rows,s,n=>by
  have h1:=aHq s r
  simp only [gC]
  split
  ·exact Nat.le_trans h1 aCC
  ·exact h1
theorem aCD {r:cD} (hm:dP r.b=true):(fI r).length≤1300:=by
 have p1:=Ph.putI_length_le r.place
 have p2:=Ph.putI_length_le r.err
 have p3:=xV hm
 have:=mR 2 (Ph.putI r.place ++ Ph.putI r.err ++ cT r.b)
 unfold fI
 simp only [List.length_append] at this⊢
 omega
theorem aCE:∀{l:List cD},(∀r∈l,dP r.b=true)→(l.flatMap fI).length≤l.length*1300
 | [],_=>by simp
 |r::l,h=>by
  have h1:=aCD (h r (by simp))
  have h2:=aCE (l:=l) fun x hx=>h x (by simp [hx])
  simp only [List.flatMap_cons,List.length_append,List.length_cons]
  omega
theorem aHr {sz m k:Nat} (r:RdH H sz (.slice ad k cap) k xs) (h1:m≤k):RdH H sz (loV ad sz k cap m) (k - m) (xs.drop (m*sz)):=by
 obtain ⟨hx,ad',cap',e,h3,h4,h5⟩:=r
 injection e with e1 _ e3
 subst e1 e3
 refine ⟨by rw [List.length_drop,hx,Nat.sub_mul],_,_,rfl,by omega,by omega,?_⟩
 rcases h5 with rfl|⟨b,o,cs,T,z,rfl,hb,hc⟩
 ·exact .inl (by omega)
 ·by_cases hci:cap=m
  ·exact .inl (by omega)
  ·refine .inr ⟨b,o+m*sz,cs,T,z,by rw [if_neg hci];simp [eF],hb,fun j u hu=>?_⟩
   rw [List.getElem?_drop] at hu
   rw [Nat.add_assoc]
   exact hc _ _ hu
theorem aHs (rows:List cD) {v:Value} {n:Nat} (hrl:rows.length≤1000) (hro:∀r∈rows,jH r) (hv:i0 H v rows) (h:tJ d u rows=some (d',u',n,err)) (hH:(fr w0).le H) (hT:Tabs w0) (hw:Has 0 w0 W (eH H p q u::aB nameQ q d::Fz H::R)):
  Calls Tryz.prog 182 ⟨[ptr p,v]⟩ W fun e W'=>∃H':Fh,e= .returned (.tuple ⟨[.int .i64 (n:Int),.int .i64 err]⟩)∧H.le H'∧Has 0 w0 W' (eH H' p q u'::aB nameQ q d'::Fz H'::R):=by
 obtain ⟨ho,ps,ad,cap,xs,hc,hw⟩:=kC hw
 have hf:=lU ho
 obtain ⟨ys,hr,hys⟩:=hv
 obtain ⟨vad,vcap,rfl⟩:=hr.slice
 have hsl:=hf.rows.1
 obtain ⟨K,hK⟩:∃K,K=(rows.takeWhile (fA u)).length:=⟨_,rfl⟩
 have hKl:K≤rows.length:=by rw [hK];exact (List.takeWhile_prefix _).length_le
 have htk:rows.takeWhile (fA u)=rows.take K:=by rw [hK];exact List.prefix_iff_eq_take.1 (List.takeWhile_prefix _)
 refine enter Tryz.func182 Tryz.ntmps182 rfl rfl fun a hs=>?_
 refine sc hs ?_
 refine sn hs hw fun b2 a W hs hw=>?_
 refine sx hs hw fun a W hs hw=>?_
 have hw:Has 0 w0 W (aT H ps u.s::bG p q u.c (.slice ad u.added.length cap) ps::Sx.Own 66 3 (.slice ad u.added.length cap) u.added.length xs::aA b2 [ptr p] 114::aB nameQ q d::Fz H::R):=hw.pm
 refine cle hs (aHe (by omega) hw) fun p2 a W _ hs hw=>?_
 refine sv hs hw fun a hs=>?_
 refine aER hs (k:=fun a hs=>?_)
 have hw:Has 0 w0 W (bG p q u.c (.slice ad u.added.length cap) ps::Sx.Own 66 3 (.slice ad u.added.length cap) u.added.length xs::aT H ps u.s::aA b2 [ptr p] 114::aT H p2 u.s::aB nameQ q d::Fz H::R):=hw.pm
 refine cl hs (aHi rows _ hr hys hf hc (In.tl (In.tl In.hd)) hw) fun a W hs hw=>?_
 rw [←hK] at hs
 replace hs:Slots a 78 ((23,.int .i64 (if K<rows.length then (K:Int) else -1)):: [(0,ptr p),(1,.slice vad rows.length vcap),(2,ptr b2),(6,ptr p2)]):=hs.of ⟨rfl,rfl,rfl,rfl,rfl,trivial⟩
 refine zE hs hw ?_;clear hs;intro a hs
 refine sq ?_
 refine fC (M:=fun a W=>Slots a 78 [(0,ptr p),(1,.slice vad rows.length vcap),(2,ptr b2),(6,ptr p2),(7,.int .i64 (K:Int))]∧Has 0 w0 W (bG p q u.c (.slice ad u.added.length cap) ps::Sx.Own 66 3 (.slice ad u.added.length cap) u.added.length xs::aT H ps u.s::aA b2 [ptr p] 114::aT H p2 u.s::aB nameQ q d::Fz H::R)) ?_ ?_
 ·refine sx hs hw fun a W hs hw=>?_
  by_cases c1:K<rows.length
  ·rw [if_pos c1] at hs
   rw [show decide ((K:Int)<0)=false from decide_eq_false (by omega)] at hs
   refine sc hs ?_
   exact ⟨hs.of ⟨rfl,rfl,rfl,rfl,rfl,trivial⟩,hw⟩
  ·rw [if_neg c1] at hs
   rw [show decide ((-1:Int)<0)=true from rfl] at hs
   have h9:rows.length=K:=by omega
   refine sv hs hw fun a hs=>?_
   exact ⟨hs.of ⟨rfl,rfl,rfl,rfl,by rw [←h9];rfl,trivial⟩,hw⟩
 clear hs hw
 rintro a W ⟨hs,hw⟩
 obtain ⟨T,hTk⟩:∃T,T=gC u.s 0 (rows.take K):=⟨_,rfl⟩
 refine sv hs hw fun a hs=>?_
 refine aEL hs (r:=hr) (z:=zrc) (i:=(K:Int)) (h0:=by omega) (h1:=by omega) (c:=fun a tv hr' hs=>?_)
 rw [Int.toNat_natCast] at hr'
 have hkl:(rows.take K).length=K:=by rw [List.length_take];omega
 have hv':i0 H tv (rows.take K):=⟨_,by rw [hkl];exact hr',Ch.take RowIn.len K hys⟩
 have hw:Has 0 w0 W (aT H p2 u.s::Fz H::bG p q u.c (.slice ad u.added.length cap) ps::Sx.Own 66 3 (.slice ad u.added.length cap) u.added.length xs::aT H ps u.s::aA b2 [ptr p] 114::aB nameQ q d::R):=hw.pm
 refine aF hs (hc:=aF3 w0 W H p2 u.s (rows.take K) tv _ (by omega) (fun r hr=>hro r (List.mem_of_mem_take hr)) hv' hH hT hw) (k:=?_)
 rintro e' W ⟨H3,rfl,hle3,hw⟩
 refine ⟨_,rfl,fun a hs=>?_⟩
 rw [←hTk] at hs hw
 have hw:=hw.lz hle3
 unfold tJ at h
 rw [htk,←hTk] at h
 have hw:Has 0 w0 W (bG p q u.c (.slice ad u.added.length cap) ps::Sx.Own 66 3 (.slice ad u.added.length cap) u.added.length xs::aT H3 ps u.s::aA b2 [ptr p] 114::aT H3 p2 T.1::aB nameQ q d::Fz H3::R):=hw.pm
 obtain ⟨E9,hE9⟩:∃E9,E9=tI (rows.take K) rows T.2.2:=⟨_,rfl⟩
 rw [←hE9] at h
 unfold tI at hE9
 rw [hkl] at hE9
 refine zE hs hw ?_;clear hs;intro a hs
 refine sq ?_
 refine fC (M:=fun a W=>Slots a 78 [(0,ptr p),(2,ptr b2),(6,ptr p2),(8,.int .i64 (T.2.1:Int)),(9,.int .i64 E9)]∧Has 0 w0 W (bG p q u.c (.slice ad u.added.length cap) ps::Sx.Own 66 3 (.slice ad u.added.length cap) u.added.length xs::aT H3 ps u.s::aA b2 [ptr p] 114::aT H3 p2 T.1::aB nameQ q d::Fz H3::R)) ?_ ?_
 ·refine sv hs hw fun a hs=>?_
  cases c2:T.2.2 == 0 with
  |false=>
   rw [c2] at hs
   rw [if_neg (by rintro ⟨g,_⟩;rw [g] at c2;cases c2)] at hE9
   refine sv hs hw fun a hs=>?_
   subst hE9
   exact ⟨hs.of ⟨rfl,rfl,rfl,rfl,rfl,trivial⟩,hw⟩
  |true=>
  rw [c2] at hs
  have g2:T.2.2=0:=by simpa using c2
  refine sv hs hw fun a hs=>?_
  cases c3:decide ((K:Int)<(rows.length:Int)) with
  |false=>
   rw [c3] at hs
   have g3:=of_decide_eq_false c3
   rw [if_neg (by omega)] at hE9
   refine sc hs ?_
   subst hE9
   exact ⟨hs.of ⟨rfl,rfl,rfl,rfl,rfl,trivial⟩,hw⟩
  |true=>
   rw [c3] at hs
   have g3:=of_decide_eq_true c3
   rw [if_pos (by omega)] at hE9
   refine sv hs hw fun a hs=>?_
   subst hE9
   exact ⟨hs.of ⟨rfl,rfl,rfl,rfl,rfl,trivial⟩,hw⟩
 clear hs hw
 rintro a W ⟨hs,hw⟩
 refine sv hs hw fun a hs=>?_
 have hc3:=hc.mono (BatIn.le hle3)
 cases c4:((T.2.1:Int) == 0) with
 |true=>
  rw [c4] at hs
  rw [if_pos (by simpa using c4)] at h
  injection h with h
  injection h with e1 h
  injection h with e2 h
  injection h with e3 e4
  subst e1 e2 e3 e4
  refine sv hs hw fun a hs=>?_
  refine rt2 hs rfl rfl rfl ⟨H3,rfl,hle3,?_⟩
  have hw:Has 0 w0 W (bG p q u.c (.slice ad u.added.length cap) ps::Sx.Own 66 3 (.slice ad u.added.length cap) u.added.length xs::aT H3 ps u.s::aB nameQ q d::Fz H3::R):=hw.sl
  exact k5 hw hc3 ho
 |false=>
 rw [c4] at hs
 rw [if_neg (by intro g;rw [g] at c4;cases c4),Option.map_eq_some_iff] at h
 obtain ⟨⟨d2,u2⟩,h1,h2⟩:=h
 obtain ⟨d3,h3,h4⟩:=Option.bind_eq_some_iff.1 h1
 unfold tG at h4
 have c5:gH {u with s:=T.1}=true:=by
  cases hq:gH {u with s:=T.1} with
  |true=>rfl
  |false=>rw [if_neg (by rw [hq];simp)] at h4;cases h4
 rw [if_pos c5] at h4
 injection h4 with h4
 injection h4 with e1 e2
 subst e1
 injection h2 with e3 h2
 injection h2 with e4 h2
 injection h2 with e5 e6
 subst e3 e5 e6
 rw [show (d3,u2).2=u2 from rfl] at e4
 subst e4
 subst e2
 have hf5:=lU c5
 obtain ⟨m,hm⟩:∃m,m=u.s.l.length:=⟨_,rfl⟩
 have hmT:m≤T.1.l.length:=by rw [hm,hTk];exact aCC
 obtain ⟨l,hl⟩:∃l,l=T.1.l.drop m:=⟨_,rfl⟩
 have hll:l.length=T.1.l.length - m:=by rw [hl,List.length_drop]
 have hTl:T.1.l.length≤1000:=hf5.rows.1
 have hTr:∀r∈T.1.l,(jH r∧r.b.l.length≤8)∧dP r.b=true:=hf5.rows.2
 rw [←hm,←hl] at h3
 replace hs:Slots a 78 [(0,ptr p),(2,ptr b2),(6,ptr p2),(8,.int .i64 (T.2.1:Int)),(9,.int .i64 E9),(45,.bool false)]:=hs.of ⟨rfl,rfl,rfl,rfl,rfl,rfl,trivial⟩
 refine zA hs hw ?_;clear hs;intro a hs
 refine bF [1,6] [.f 0 0,.m 0,.f 0 1,.f 0 1,.f 0 1,.f 0 1,.m 1,.f 2 2,.f 2 2,.f 2 2,.f 0 2] [.c0 _,.c1 (fun x=> .slice x.ad T.1.l.length x.cap),.c0 _,.c0 _,.c0 _,.c0 _,.c2 (fun x y=> .int .i64 ((u.s.l.length:Int)+1)),.c2 (fun x y=> .int .i64 (m:Int)),.c2 (fun x y=>loV x.ad 5 T.1.l.length x.cap m),.c2 (fun x y=> .int .i64 (l.length:Int)),.c0 _] (bG p q u.c (.slice ad u.added.length cap) ps::Sx.Own 66 3 (.slice ad u.added.length cap) u.added.length xs::aT H3 ps u.s::aA b2 [ptr p] 114::aT H3 p2 T.1::aB nameQ q d::Fz H3::R) (fun x=>FzF x.H (Fh.le H3 x.H∧i0 x.H (.slice x.ad T.1.l.length x.cap) T.1.l)::aT x.H p2 T.1::bG p q u.c (.slice ad u.added.length cap) ps::Sx.Own 66 3 (.slice ad u.added.length cap) u.added.length xs::aT H3 ps u.s::aA b2 [ptr p] 114::aB nameQ q d::R) (fun x y=>FzF x.H (Fh.le H3 x.H∧i0 x.H (.slice x.ad T.1.l.length x.cap) T.1.l)::aT x.H p2 T.1::bG p q u.c (.slice ad u.added.length cap) ps::Sx.Own 66 3 (.slice ad u.added.length cap) u.added.length xs::aT H3 ps u.s::aA b2 [ptr p] 114::aB nameQ q d::R) (fun x y z=>[]) (fun x y z t=>[]) hs hw ?kk ⟨drs,?m0,drs,drs,drs,drs,?m1,?f7,?f8,?f9,drs,trivial⟩
 case m0=>
  intro x y z t LD a W hs hw
  have hw:Has 0 w0 W (aT H3 p2 T.1::Fz H3::bG p q u.c (.slice ad u.added.length cap) ps::Sx.Own 66 3 (.slice ad u.added.length cap) u.added.length xs::aT H3 ps u.s::aA b2 [ptr p] 114::aB nameQ q d::R):=hw.pm
  refine aF hs (hc:=aAe w0 W H3 p2 T.1 _ (by omega) (fun r hr=>by have:=(hTr r hr).1.2;omega) hw) (k:=?_)
  rintro e' W' ⟨rad,rcap,ys,H4,rfl,hle4,hch4,hw⟩
  refine ⟨_,rfl,fun a hs=>?_⟩
  have hw:Has 0 w0 W' (Sx.Own 68 5 (.slice rad T.1.l.length rcap) T.1.l.length ys::Fz H4::aT H4 p2 T.1::bG p q u.c (.slice ad u.added.length cap) ps::Sx.Own 66 3 (.slice ad u.added.length cap) u.added.length xs::aT H3 ps u.s::aA b2 [ptr p] 114::aB nameQ q d::R):=hw.pm
  obtain ⟨H5,hle5,hw,hr5⟩:=hw.freeze_own
  have hw:=hw.lz hle5
  have hw:=hw.fzf (show Fh.le H3 H5∧i0 H5 (.slice rad T.1.l.length rcap) T.1.l from ⟨hle4.trans hle5,ys,hr5,hch4.mono (RowIn.le hle5)⟩)
  exact ⟨{ad:=rad,cap:=rcap,H:=H5},hs,hw⟩
 case m1=>
  intro x y z t LD a W hs hw
  have hw:Has 0 w0 W (aT H3 ps u.s::FzF x.H (Fh.le H3 x.H∧i0 x.H (.slice x.ad T.1.l.length x.cap) T.1.l)::aT x.H p2 T.1::bG p q u.c (.slice ad u.added.length cap) ps::Sx.Own 66 3 (.slice ad u.added.length cap) u.added.length xs::aA b2 [ptr p] 114::aB nameQ q d::R):=hw.sl
  refine cl hs (r5 w0 W H3 ps u.s _ (by omega) hw) fun a W hs hw=>?_
  exact ⟨{},hs,hw.sl⟩
 case f7=>
  refine ⟨trivial,trivial,?_,trivial,trivial⟩
  intro x y z t LD a W hs hw
  refine sv hs hw fun a hs=>?_
  rw [show IntKind.i64.wrap ((u.s.l.length:Int)+1 - 1)=(m:Int) from by rw [IntWalk.i64_in _ (by omega)];omega] at hs
  exact ⟨hs,hw⟩
 case f8=>
  refine ⟨trivial,trivial,?_,trivial,trivial⟩
  intro x y z t LD a W hs hw
  refine aCB (z:=zrc) hs hmT fun a hs=>?_
  exact ⟨hs,hw⟩
 case f9=>
  refine ⟨trivial,trivial,?_,trivial,trivial⟩
  intro x y z t LD a W hs hw
  refine rE hs (k:=fun a hs=>?_)
  rw [←hll] at hs
  exact ⟨hs,hw⟩
 case kk=>
 intro x y a W hs hw
 obtain ⟨⟨hle4,hr4⟩,hw⟩:=hw.unfzf
 have hw:=hw.lz hle4
 obtain ⟨H4,hH4⟩:∃H4,H4=x.H:=⟨_,rfl⟩
 obtain ⟨lv,hlv⟩:∃lv,lv=loV x.ad 5 T.1.l.length x.cap m:=⟨_,rfl⟩
 obtain ⟨ys,hr5,hch5⟩:=hr4
 have hrd:RdH x.H 5 lv l.length (ys.drop (m*5)):=by rw [hlv,hll];exact aHr hr5 hmT
 have hcl:Ch (RowIn x.H) l (ys.drop (m*5)):=by rw [hl];exact hch5.drop RowIn.len m
 replace hs:Slots a 78 [(0,ptr p),(2,ptr b2),(6,ptr p2),(8,.int .i64 (T.2.1:Int)),(9,.int .i64 E9),(10,.slice none 0 0),(55,lv),(56,.int .i64 (l.length:Int)),(57,.int .i64 0)]:=by rw [hlv];exact hs.of ⟨rfl,rfl,rfl,rfl,rfl,rfl,rfl,rfl,rfl,trivial⟩
 rw [←hH4] at hrd hcl hle4 hw
 clear hH4 hlv hr5 hch5
 have hw:Has 0 w0 W (bG p q u.c (.slice ad u.added.length cap) ps::Sx.Own 66 3 (.slice ad u.added.length cap) u.added.length xs::aA b2 [ptr p] 114::aB nameQ q d::aT H4 p2 T.1::Fz H4::R):=hw.sl
 have hw:Has 0 w0 W (bY (.slice none 0 0) []::bG p q u.c (.slice ad u.added.length cap) ps::Sx.Own 66 3 (.slice ad u.added.length cap) u.added.length xs::aA b2 [ptr p] 114::aB nameQ q d::aT H4 p2 T.1::Fz H4::R):=hw.nilB 5
 have hH4:(fr w0).le H4:=hH.trans (hle3.trans hle4)
 have hlm:∀r∈l,(jH r∧r.b.l.length≤8)∧dP r.b=true:=fun r hr=>hTr r (by rw [hl] at hr;exact List.mem_of_mem_drop hr)
 have hfl:∀i:Nat,((l.take i).flatMap fI).length≤1000*1300:=fun i=>by
  have h1:=aCE (l:=l.take i) fun r hr=>(hlm r (List.mem_of_mem_take hr)).2
  have h2:(l.take i).length≤1000:=by rw [List.length_take];omega
  omega
 refine sc hs ?_
 refine bX (σ:=Nat×Option Addr×Nat) (fun z=>[(0,ptr p),(2,ptr b2),(6,ptr p2),(8,.int .i64 (T.2.1:Int)),(9,.int .i64 E9),(10,.slice z.2.1 ((l.take z.1).flatMap fI).length z.2.2),(55,lv),(56,.int .i64 (l.length:Int)),(57,.int .i64 (z.1:Int))]) (fun z=>bY (.slice (z.2.1) ((l.take (z.1)).flatMap fI).length (z.2.2)) ((l.take (z.1)).flatMap fI)::bG p q u.c (.slice ad u.added.length cap) ps::Sx.Own 66 3 (.slice ad u.added.length cap) u.added.length xs::aA b2 [ptr p] 114::aB nameQ q d::aT H4 p2 T.1::Fz H4::R) (fun z=>z.1≤l.length) (fun z=>l.length - z.1) (0,none,0) (Nat.zero_le _) hs ⟨rfl,rfl,rfl,rfl,rfl,rfl,rfl,rfl,rfl,trivial⟩ hw ?_
 clear hs hw
 rintro ⟨i,gad,gcap⟩ a W hi hs hw
 simp only at hi hs hw
 refine sv hs hw fun a hs=>?_
 refine cI hs (kt:=fun hcc=>?_) (kf:=fun hcc=>?_)
 ·have hi':i<l.length:=by simpa using hcc
  obtain ⟨o,ho9,hd⟩:=dS hi'
  obtain ⟨⟨hok,ho8⟩,hom⟩:=hlm o (List.mem_of_getElem? ho9)
  refine sc hs ?_
  refine fZ hs (r:=hw.rdH (by repeat (first|exact In.hd|apply In.tl)) hrd) (hk:=RowIn.len) (ch:=hcl) (ho:=ho9) (hlen:=rfl) (c:=fun a g off c hmc hcl9 hpc hlt hs=>?_)
  obtain ⟨sv9,rfl,hsv⟩:=hmc
  obtain ⟨oad,ocap,rfl⟩:=hsv.slice
  refine eC hs (z:=zrc) (cs:=aJ o _) (hc:=hpc) (hl:=by rfl) (c:=fun a hs=>?_)
  refine sn hs hw fun b12 a W hs hw=>?_
  refine sx hs hw fun a W hs hw=>?_
  refine cle hs (aHl o hok hom hsv hH4 hT (by repeat (first|exact In.hd|apply In.tl)) hw) fun f a W _ hs hw=>?_
  refine hJ hs (hw.pick (Pick.tl (Pick.tl Pick.hd))) (l:=(l.take i).flatMap fI) (m:=fI o) (hr:=fK (hw.rd_own In.hd) (jQ _)) (hb:=by have:=hfl i;have:=aCD hom;omega) (c:=fun a ad2 cap2 W hs hw=>?_)
  have e9:(l.take i).flatMap fI ++ fI o=(l.take (i+1)).flatMap fI:=by rw [fS ho9,List.flatMap_append];simp
  rw [e9] at hs hw
  refine sv hs hw fun a hs=>?_
  refine bR (i+1,ad2,cap2) hs (hw.sl) hi' (by show l.length - (i+1)<l.length - i;omega) ⟨rfl,rfl,rfl,rfl,rfl,rfl,rfl,rfl,bS (i1 (by omega)),trivial⟩
 ·have h9:l.take i=l:=List.take_of_length_le (by simp at hcc;omega)
  have hfl9:=hfl i
  rw [h9] at hs hw hfl9
  refine sx hs hw fun a W hs hw=>?_
  have hw:Has 0 w0 W (aB nameQ q d::bG p q u.c (.slice ad u.added.length cap) ps::bY (.slice gad (l.flatMap fI).length gcap) (l.flatMap fI)::Sx.Own 66 3 (.slice ad u.added.length cap) u.added.length xs::aA b2 [ptr p] 114::aT H4 p2 T.1::Fz H4::R):=hw.sl
  refine cl hs (aCA h3 (fun g=>g.rd_own In.hd) hw) fun a W hs hw=>?_
  refine sv hs hw fun a hs=>?_
  rw [show ((0:Int) !=0)=false from rfl] at hs
  refine sx hs hw fun a W hs hw=>?_
  refine rt2 hs rfl rfl rfl ⟨H4,rfl,hle3.trans hle4,?_⟩
  have hw:Has 0 w0 W (bG p q u.c (.slice ad u.added.length cap) p2::Sx.Own 66 3 (.slice ad u.added.length cap) u.added.length xs::aT H4 p2 T.1::aB nameQ q d3::Fz H4::R):=hw.sl
  exact k5 (u:={u with s:=T.1}) hw (hc3.mono (BatIn.le hle4)) c5
end
section
variable {H H':Fh} {p q ps:Nat} {w0 W:World} {R L:List Res}
theorem aHt (hw:Has 0 w0 W R):Calls Tryz.prog 200 ⟨[.slice none 0 0]⟩ W fun e W'=>e= .returned (.tuple ⟨[.slice none 0 0,.int .i64 0]⟩)∧Has 0 w0 W' R:=by
 refine enter Tryz.func200 Tryz.ntmps200 rfl rfl fun a hs=>?_
 refine sv hs hw fun a hs=>?_
 refine bX (σ:=Unit) (fun _=>[(0,.slice none 0 0),(4,.slice none 0 0),(5,.int .i64 0)]) (fun _=>R) (fun _=>True) (fun _=>0) () trivial hs ⟨rfl,rfl,rfl,trivial⟩ hw ?_
 clear hs hw
 intro _ a W _ hs hw
 refine sv hs hw fun a hs=>?_
 exact rt2 hs rfl rfl rfl ⟨rfl,hw⟩
def eE (c:Int):cW:=⟨c,[],⟨fT,[]⟩⟩
theorem aHu (H:Fh) (c:Int) (ho:gH (eE c)=true) (hw:Has 0 w0 W (aB nameQ q none::R)):
  Calls Tryz.prog 128 ⟨[ptr q,.int .i64 c]⟩ W fun e W'=>∃p:Nat,e= .returned (.tuple ⟨[ptr p,.int .i64 0]⟩)∧True∧Has 0 w0 W' (eH H p q (eE c)::aB nameQ q none::R):=by
 have hf:=lU ho
 have hc1:decide (c<1)=false:=decide_eq_false (by have:=hf.c.1;show¬(eE c).c<1;omega)
 have hc2:decide (c > 5)=false:=decide_eq_false (by have:=hf.c.2;show¬(eE c).c > 5;omega)
 refine enter Tryz.func128 Tryz.ntmps128 rfl rfl fun a hs=>?_
 refine sv hs hw fun a hs=>?_
 rw [hc1] at hs
 refine sv hs hw fun a hs=>?_
 rw [hc2] at hs
 refine sx hs hw fun a W hs hw=>?_
 refine aF hs (hc:=aFZ w0 W H _ hw) (k:=?_)
 rintro e' W' ⟨ps,rfl,hw⟩
 refine ⟨_,rfl,fun a hs=>?_⟩
 refine sv hs hw fun a hs=>?_
 refine sn hs hw fun p a W hs hw=>?_
 refine sx hs hw fun a W hs hw=>?_
 have hw:Has 0 w0 W (aB nameQ q none::bG p q c (.slice none 0 0) ps::aT H ps ⟨fT,[]⟩::R):=hw.pm
 refine cl hs (aBQ w0 _ nameQ _ hw) fun a W hs hw=>?_
 refine sv hs hw fun a hs=>?_
 refine cl hs (aHt hw) fun a W hs hw=>?_
 refine sv hs hw fun a hs=>?_
 refine bX (σ:=Unit) (fun _=>[(6,ptr p),(7,.slice none 0 0),(10,.int .i64 0),(40,.int .i64 0),(41,.int .i64 0)]) (fun _=>aB nameQ q none::bG p q c (.slice none 0 0) ps::aT H ps ⟨fT,[]⟩::R) (fun _=>True) (fun _=>0) () trivial hs ⟨rfl,rfl,rfl,rfl,rfl,trivial⟩ hw ?_
 clear hs hw
 intro _ a W _ hs hw
 refine sv hs hw fun a hs=>?_
 refine rt2 hs rfl rfl rfl ⟨p,rfl,trivial,?_⟩
 have hw:Has 0 w0 W (bG p q c (.slice none 0 0) ps::aT H ps ⟨fT,[]⟩::aB nameQ q none::R):=hw.pm
 have hw:=hw.nilOwn 66 3
 exact k5 (u:=eE c) hw.swap2 rfl ho
end
end Go.Proofs.YtgpbngfehfbndaaGreatDoor.Sw
namespace Go.Sx
open Go.RowKit
theorem aCF {α:Type} (f:α→Value):∀l:List α,Ch (fun a c=>c= [f a]) l (l.map f)
 | []=>rfl
 |a::l=>⟨[f a],l.map f,rfl,rfl,aCF f l⟩
end Go.Sx
namespace Go.Proofs.YtgpbngfehfbndaaGreatDoor.Sw
open Go.RowKit Go.Sx
def eW (d:Dm):List cR→Dm×List Int
 | []=>(d,[])
 |b::l=>((eW (dN d b.l).2 l).1,(dN d b.l).1::(eW (dN d b.l).2 l).2)
theorem aCG:∀(l:List cR) (d:Dm) (b:cR),eW d (l ++ [b])=((dN (eW d l).1 b.l).2,(eW d l).2 ++ [(dN (eW d l).1 b.l).1])
 | [],d,b=>rfl
 |x::l,d,b=>by
  show ((eW (dN d x.l).2 (l ++ [b])).1,(dN d x.l).1::(eW (dN d x.l).2 (l ++ [b])).2)=_
  rw [aCG l]
  rfl
theorem aCH:∀(l:List cR) (d:Dm),(eW d l).2.length=l.length
 | [],d=>rfl
 |x::l,d=>by
  show (_::(eW (dN d x.l).2 l).2).length=_
  rw [List.length_cons,aCH l]
  rfl
def oA (p:Nat) (d:Dm) (es:List Int):Res:=Ex fun x:Nat×Value=>aA p [.pointer (some ⟨x.1,0,none⟩),x.2] 259::bI x.1 d::Sx.Own 26 1 x.2 es.length (es.map (Value.int .i64)):: []
section
variable {G p c:Nat} {w W:World} {R:List Res} {d:Dm} {es:List Int} {v:Value}
theorem xW (h:Has G w W (aA p [.pointer (some ⟨c,0,none⟩),v] 259::bI c d::Sx.Own 26 1 v es.length (es.map (Value.int .i64))::R)):Has G w W (oA p d es::R):=Has.shut (c,v) h
theorem aCI (h:Has G w W (oA p d es::R)):∃c ad cap,Has G w W (aA p [.pointer (some ⟨c,0,none⟩),.slice ad es.length cap] 259::bI c d::Sx.Own 26 1 (.slice ad es.length cap) es.length (es.map (Value.int .i64))::R):=by
 obtain ⟨⟨c,v⟩,h⟩:=Has.open h
 have h:Has G w W (aA p [.pointer (some ⟨c,0,none⟩),v] 259::bI c d::Sx.Own 26 1 v es.length (es.map (Value.int .i64))::R):=h
 obtain ⟨ad,cap,rfl⟩:∃ad cap,v= .slice ad es.length cap:=by
  obtain ⟨_,ad,cap,e,_⟩:=h.rd_own (In.tl (In.tl In.hd))
  exact ⟨ad,cap,e⟩
 exact ⟨c,ad,cap,h⟩
end
def gI (bp:Option Nat) (d:Dm):Res:=match bp with|none=>bK|some p=>bI p d
abbrev qP (bp:Option Nat):Value:= .pointer (bp.map fun p=>(⟨p,0,none⟩:Addr))
theorem aHv (w0 W:World) (bp:Option Nat) (hbp:bp≠none) (d:Dm) (R:List Res) (hw:Has 0 w0 W (gI bp d::R)):
  Calls Tryz.prog 171 ⟨[qP bp]⟩ W fun e W'=>∃cp,e= .returned (qP cp)∧(cp=none→bp=none)∧Has 0 w0 W' (gI cp d::gI bp d::R):=by
 cases bp with
 |none=>
  exact absurd rfl hbp
 |some p=>
  refine (pC w0 W p d R hw).mono ?_
  rintro e W' ⟨c,rfl,hw⟩
  exact ⟨some c,rfl,(fun h=>by cases h),hw⟩
theorem aHw (w0 W:World) (H:Fh) (bp:Option Nat) (d0:Dm) (l:List cR) (v:Value) (R:List Res) (h0:bp=none→d0= []) (hbp:bp≠none) (hb:∀b∈l,gW b) (hl:l.length≤1000) (hr:wC H v l) (hH:(fr w0).le H) (hT:Tabs w0) (hw:Has 0 w0 W (gI bp d0::Fz H::R)):
  Calls Tryz.prog 96 ⟨[qP bp,v]⟩ W fun e W'=>∃q,e= .returned (.pointer (some ⟨q,0,none⟩))∧Has 0 w0 W' (oA q (eW d0 l).1 (eW d0 l).2::gI bp d0::Fz H::R):=by
 obtain ⟨ys,hys,hch⟩:=hr
 obtain ⟨sad,scap,rfl⟩:=hys.slice
 refine enter Tryz.func96 Tryz.ntmps96 rfl rfl fun a hs=>?_
 refine zC hs hw ?_;clear hs;intro a hs
 refine aF hs (hc:=aHv w0 _ bp hbp d0 _ hw) (k:=?_);rintro e0 W1 ⟨cp,rfl,hcp,hw1⟩;refine ⟨_,rfl,?_⟩;clear hs hw;intro a hs;have hw:=hw1;clear hw1
 repeat (first|(refine sxv hs hw ?_;clear hs;intro a hs)|refine sxn hs ?_|(refine sxa hs hw ?_;clear hs hw;intro a b W hw hs)|(refine sxs hs hw ?_;clear hs hw;intro W hs hw))
 obtain ⟨q,q1⟩:=nm1 hw;subst q1
 refine sq ?_
 refine fC (M:=fun a W=>∃c,Slots a 45 [(1,.slice sad l.length scap),(5,.pointer (some ⟨q,0,none⟩))]∧Has 0 w0 W (aA q [.pointer (some ⟨c,0,none⟩),.slice none 0 0] 259::bI c d0::gI bp d0::Fz H::R)) ?_ ?_
 ·cases cp with
  |none=>
   obtain rfl:=h0 (hcp rfl)
   simp only [qP,Option.map_none] at hs hw
   refine zC hs hw ?_;clear hs;intro a hs
   refine aF hs (hc:=vY w0 _ _ hw) (k:=?_);rintro e0 W1 ⟨c,rfl,hw1⟩;refine ⟨_,rfl,?_⟩;clear hs hw;intro a hs;have hw:=hw1;clear hw1
   refine zD hs hw ?_;clear hs hw;intro a W hs hw
   have hw:Has 0 w0 _ (bK::aA q [.pointer (some ⟨c,0,none⟩),.slice none 0 0] 259::bI c []::gI bp []::Fz H::R):=hw.pm
   exact ⟨c,hs.of ⟨rfl,rfl,trivial⟩,hw.sub (List.Sublist.cons _ (List.Sublist.refl _))⟩
  |some c=>
   simp only [qP,Option.map_some] at hs hw
   refine zC hs hw ?_;clear hs;intro a hs
   exact ⟨c,hs.of ⟨rfl,rfl,trivial⟩,hw⟩
 clear hs hw
 rintro a W ⟨c,hs,hw⟩
 have hw:=hw.nilOwn 26 1
 have hw:Has 0 w0 _ (aA q [.pointer (some ⟨c,0,none⟩),.slice none 0 0] 259::bI c d0::Sx.Own 26 1 (.slice none 0 0) ([]:List Int).length (([]:List Int).map (Value.int .i64))::gI bp d0::Fz H::R):=hw.pm
 have hw:=xW hw
 refine zC hs hw ?_;clear hs;intro a hs
 refine bX (σ:=Nat) (fun i=>[(5,.pointer (some ⟨q,0,none⟩)),(21,.slice sad l.length scap),(22,.int .i64 (l.length:Int)),(23,.int .i64 (i:Int))]) (fun i=>oA q (eW d0 (l.take i)).1 (eW d0 (l.take i)).2::gI bp d0::Fz H::R) (fun i=>i≤l.length) (fun i=>l.length - i) 0 (Nat.zero_le _) hs ⟨rfl,rfl,rfl,rfl,trivial⟩ hw ?_
 clear hs hw
 rintro i a W hi hs hw
 refine zC hs hw ?_;clear hs;intro a hs
 refine cI hs (kt:=fun hcc=>?_) (kf:=fun hcc=>?_)
 ·have hi':i<l.length:=by simpa using hcc
  obtain ⟨b,hbi⟩:∃o,l[i]? =some o:=⟨l[i],List.getElem?_eq_getElem hi'⟩
  have hbk:=hb b (List.mem_of_getElem? hbi)
  have hnx:=aCG (l.take i) d0 b
  have hpl:=aCH (l.take i) d0
  have htl:(l.take i).length=i:=by rw [List.length_take];omega
  rw [show l.take i ++ [b]=l.take (i+1) from by rw [List.take_add_one,hbi];rfl] at hnx
  generalize eW d0 (l.take i)=A at *
  obtain ⟨d,es⟩:=A
  simp only at hnx hpl hw
  refine zG hs ?_
  refine fZ hs (r:=hw.rdH (In.tl (In.tl In.hd)) hys) (hk:=BatIn.len) (ch:=hch) (ho:=hbi) (hlen:=rfl) (c:=?_);clear hs;intro a g off cc hc hcl hpc hlt hs
  obtain ⟨ov,rfl,hov⟩:=hc
  refine eC hs (cs:=aL b ov) (hc:=hpc) (hl:=by rfl) (c:=?_);clear hs;intro a hs
  clear hpc
  obtain ⟨oad,ocap,rfl⟩:=hov.slice
  repeat (first|(refine sxv hs hw ?_;clear hs;intro a hs)|refine sxc hs ?_|(refine sxa hs hw ?_;clear hs hw;intro a b W hw hs)|(refine sxs hs hw ?_;clear hs hw;intro W hs hw)|((with_reducible first|refine eQ hs (k:=?_)|refine eR hs (k:=?_));clear hs;intro a hs))
  obtain ⟨b7,q7⟩:=nm1 hw;subst q7
  obtain ⟨c,ead,ecap,hw⟩:=aCI hw.swap2
  have hw:Has 0 w0 _ (aA q [.pointer (some ⟨c,0,none⟩),.slice ead es.length ecap] 259::Sx.Own 26 1 (.slice ead es.length ecap) es.length (es.map (Value.int .i64))::bK::bI c d::aA b7 (aL b (.slice oad b.l.length ocap)) 66::gI bp d0::Fz H::R):=hw.free.pm
  generalize hap:dN d b.l=Z at hnx
  refine fL (σ:=Option Addr×Nat) (V:=fun u=>[.pointer (some ⟨q,0,none⟩),.pointer (some ⟨q,0,none⟩),.pointer (some ⟨q,0,none⟩),.pointer (some ⟨q,0+1,none⟩),.slice ead es.length ecap,.pointer (some ⟨q,0,none⟩),.pointer (some ⟨q,0,none⟩),.pointer (some ⟨q,0+0,none⟩),.pointer (some ⟨c,0,none⟩),.pointer (some ⟨b7,0+2,none⟩),.slice oad b.l.length ocap,.int .i64 Z.1,.slice (some ⟨(u 12).2,0,none⟩) 1 1,.slice (u 13).1 (es ++ [Z.1]).length (u 13).2,.pointer (some ⟨q,0,none⟩),.pointer (some ⟨q,0+1,none⟩),undef])
   (Rs:=fun u D=>aA q [.pointer (some ⟨c,0,none⟩),(if D 16 then .slice (u 13).1 (es ++ [Z.1]).length (u 13).2 else .slice ead es.length ecap)] 259::(if D 13 then Sx.Own 26 1 (.slice (u 13).1 (es ++ [Z.1]).length (u 13).2) (es ++ [Z.1]).length (es.map (Value.int .i64) ++ [.int .i64 Z.1]) else Sx.Own 26 1 (.slice ead es.length ecap) es.length (es.map (Value.int .i64)))::(if D 12 then aA (u 12).2 [.int .i64 Z.1] 26 else bK)::(if D 11 then bI c Z.2 else bI c d)::aA b7 (aL b (.slice oad b.l.length ocap)) 66::gI bp d0::Fz H::R) (fun _=>(none,0)) hs hw (hVu:=?vu_6) (ho:=⟨?_,?_,?_,?_,?c4_6,?_,?_,?_,?c8_6,?_,?_,?c11_6,?c12_6,?c13_6,?_,?_,?c16_6,trivial⟩) (k:=?k_6)
  case vu_6=>
   intro u u' j h
   rcases j with _|_|_|_|_|_|_|_|_|_|_|_|_|_|_|_|_|j
   all_goals first|rfl|simp [h]
  case c4_6=>
   intro u LD D a W hcl hi hp hs hw
   have h13:=Go.Sx.not_done hcl hi 13 (by kernel_rfl)
   have h16:=Go.Sx.not_done hcl h13 16 (by kernel_rfl)
   have hw0:=hw
   simp only [h16,Bool.false_eq_true,if_false] at hw
   refine zC hs hw ?_;clear hs;intro a hs
   exact Or.inl ⟨hs,hw0⟩
  case c8_6=>
   intro u LD D a W hcl hi hp hs hw
   have hw0:=hw
   refine zC hs hw ?_;clear hs;intro a hs
   exact Or.inl ⟨hs,hw0⟩
  case c11_6=>
   intro u LD D a W hcl hi hp hs hw
   have h12:=Go.Sx.not_done hcl hi 12 (by kernel_rfl)
   have h13:=Go.Sx.not_done hcl h12 13 (by kernel_rfl)
   have h16:=Go.Sx.not_done hcl h13 16 (by kernel_rfl)
   simp only [hi,h12,h13,h16,Bool.false_eq_true,if_false] at hw
   repeat (first|(refine sxv hs hw ?_;clear hs;intro a hs)|refine sxc hs ?_|(refine sxa hs hw ?_;clear hs hw;intro a b W hw hs)|(refine sxs hs hw ?_;clear hs hw;intro W hs hw)|((with_reducible first|refine eQ hs (k:=?_)|refine eR hs (k:=?_));clear hs;intro a hs))
   have hw:Has 0 w0 W (bI c d::aA q [.pointer (some ⟨c,0,none⟩),.slice ead es.length ecap] 259::Sx.Own 26 1 (.slice ead es.length ecap) es.length (es.map (Value.int .i64))::bK::aA b7 (aL b (.slice oad b.l.length ocap)) 66::gI bp d0::Fz H::R):=hw.pm
   refine aF hs (hc:=aA3 w0 _ H c d b.l _ _ hbk.ops hov (by repeat (first|exact In.hd|apply In.tl)) hH hT hw) (k:=?_);rintro e0 W1 ⟨rfl,hw1⟩;refine ⟨_,rfl,?_⟩;clear hs hw;intro a hs;have hw:=hw1;clear hw1
   rw [hap] at hs hw
   refine zG hs ?_
   refine Or.inl ⟨hs,?_⟩
   show Has 0 w0 _ (aA q [_,(if (Nat.beq 16 11 || D 16)=true then _ else _)] _::(if (Nat.beq 13 11 || D 13)=true then _ else _)::(if (Nat.beq 12 11 || D 12)=true then _ else _)::_)
   rw [h12,h13,h16]
   exact hw.pm
  case c12_6=>
   intro u LD D a W hcl hi hp hs hw
   have h11:=Go.Sx.done hp 11 (by kernel_rfl)
   have h13:=Go.Sx.not_done hcl hi 13 (by kernel_rfl)
   have h16:=Go.Sx.not_done hcl h13 16 (by kernel_rfl)
   simp only [hi,h11,h13,h16,Bool.false_eq_true,if_false,if_true] at hw
   repeat (first|(refine sxv hs hw ?_;clear hs;intro a hs)|refine sxc hs ?_|(refine sxa hs hw ?_;clear hs hw;intro a b W hw hs)|(refine sxs hs hw ?_;clear hs hw;intro W hs hw)|((with_reducible first|refine eQ hs (k:=?_)|refine eR hs (k:=?_));clear hs;intro a hs))
   refine Or.inr ⟨(none,_),hs,?_⟩
   show Has 0 w0 _ (aA q [_,(if (Nat.beq 16 12 || D 16)=true then _ else _)] _::(if (Nat.beq 13 12 || D 13)=true then _ else _)::_::(if (Nat.beq 11 12 || D 11)=true then _ else _)::_)
   rw [h11,h13,h16]
   exact hw.fill (Upd.tl (Upd.tl Upd.hd))
  case c13_6=>
   intro u LD D a W hcl hi hp hs hw
   have h12:=Go.Sx.done hp 12 (by kernel_rfl)
   have h11:=Go.Sx.done (hcl 12 _ rfl h12) 11 (by kernel_rfl)
   have h16:=Go.Sx.not_done hcl hi 16 (by kernel_rfl)
   simp only [hi,h11,h12,h16,Bool.false_eq_true,if_false,if_true] at hw
   have hw:Has 0 w0 W (Sx.Own 26 1 (.slice ead es.length ecap) es.length (es.map (Value.int .i64))::aA q [.pointer (some ⟨c,0,none⟩),.slice ead es.length ecap] 259::aA (u 12).2 [.int .i64 Z.1] 26::bI c Z.2::aA b7 (aL b (.slice oad b.l.length ocap)) 66::gI bp d0::Fz H::R):=hw.pm
   refine jB hs (hw:=hw) (hi:=In.tl In.hd) (ch:=aCF (Value.int .i64) es) (ha:=(rfl:[Value.int .i64 Z.1]= [Value.int .i64 Z.1])) (hl:=rfl) (h1:=rfl) (hb:=by omega) (h63:=by omega) (k:=?_)
   clear hs hw;intro a ad cap W hs hw hc2
   refine zG hs ?_
   refine Or.inr ⟨(ad,cap),hs,?_⟩
   show Has 0 w0 _ (aA q [_,(if (Nat.beq 16 13 || D 16)=true then _ else _)] _::_::(if (Nat.beq 12 13 || D 12)=true then _ else _)::(if (Nat.beq 11 13 || D 11)=true then _ else _)::_)
   rw [h11,h12,h16]
   exact hw.pm
  case c16_6=>
   intro u LD D a W hcl hi hp hs hw
   have h13:=Go.Sx.done hp 13 (by kernel_rfl)
   simp only [hi,h13,Bool.false_eq_true,if_false,if_true] at hw
   repeat (first|(refine sxv hs hw ?_;clear hs;intro a hs)|refine sxc hs ?_|(refine sxa hs hw ?_;clear hs hw;intro a b W hw hs)|(refine sxs hs hw ?_;clear hs hw;intro W hs hw)|((with_reducible first|refine eQ hs (k:=?_)|refine eR hs (k:=?_));clear hs;intro a hs))
   refine Or.inl ⟨hs,?_⟩
   show Has 0 w0 _ (_::(if (Nat.beq 13 16 || D 13)=true then _ else _)::_)
   rw [h13]
   exact hw
  case k_6=>
   clear hs hw
   intro u a W hs hw
   replace hw:Has 0 w0 W (aA q [.pointer (some ⟨c,0,none⟩),.slice (u 13).1 (es ++ [Z.1]).length (u 13).2] 259::Sx.Own 26 1 (.slice (u 13).1 (es ++ [Z.1]).length (u 13).2) (es ++ [Z.1]).length (es.map (Value.int .i64) ++ [.int .i64 Z.1])::aA (u 12).2 [.int .i64 Z.1] 26::bI c Z.2::aA b7 (aL b (.slice oad b.l.length ocap)) 66::gI bp d0::Fz H::R):=hw
   replace hs:Slots a 45 [(5,.pointer (some ⟨q,0,none⟩)),(21,.slice sad l.length scap),(22,.int .i64 (l.length:Int)),(23,.int .i64 (i:Int))]:=hs.of ⟨rfl,rfl,rfl,rfl,trivial⟩
   generalize (u 13).1=ad at *
   generalize (u 13).2=cap at *
   generalize (u 12).2=bx at *
   clear u
   rw [show es.map (Value.int .i64) ++ [Value.int .i64 Z.1]=(es ++ [Z.1]).map (Value.int .i64) from by simp] at hw
   have hw:Has 0 w0 W (aA bx [.int .i64 Z.1] 26::aA b7 (aL b (.slice oad b.l.length ocap)) 66::aA q [.pointer (some ⟨c,0,none⟩),.slice ad (es ++ [Z.1]).length cap] 259::bI c Z.2::Sx.Own 26 1 (.slice ad (es ++ [Z.1]).length cap) (es ++ [Z.1]).length ((es ++ [Z.1]).map (Value.int .i64))::gI bp d0::Fz H::R):=hw.pm
   have hw:=xW (hw.sub (List.Sublist.cons _ (List.Sublist.cons _ (List.Sublist.refl _))))
   refine zC hs hw ?_;clear hs;intro a hs
   have e1:Z.2=(eW d0 (l.take (i+1))).1:=by rw [hnx]
   have e2:es ++ [Z.1]=(eW d0 (l.take (i+1))).2:=by rw [hnx]
   rw [e1,e2] at hw
   exact bR (i+1) hs hw hi' (by show l.length - (i+1)<l.length - i;omega) ⟨rfl,rfl,rfl,bS (by show IntKind.i64.wrap ((i:Int)+1)=((i+1:Nat):Int);rw [IntWalk.i64_in _ (by omega)];omega),trivial⟩
  all_goals
   intro u LD D a W hcl hi hp hs hw
   refine zC hs hw ?_;clear hs;intro a hs
   exact Or.inl ⟨hs,hw⟩
 ·have hi':i=l.length:=by
   have:¬i<l.length:=by simpa using hcc
   omega
  subst hi'
  rw [List.take_length] at hw
  refine zC hs hw ?_;clear hs;intro a hs
  exact rt1 hs rfl rfl ⟨q,rfl,hw⟩
theorem aHx (w0 W:World) (p:Nat) (d:Dm) (es:List Int) (R:List Res) (hw:Has 0 w0 W (oA p d es::R)):
  Calls Tryz.prog 98 ⟨[.pointer (some ⟨p,0,none⟩)]⟩ W fun e W'=>∃q,e= .returned (.pointer (some ⟨q,0,none⟩))∧Has 0 w0 W' (bI q d::oA p d es::R):=by
 obtain ⟨c,ead,ecap,hw⟩:=aCI hw
 refine enter Tryz.func98 Tryz.ntmps98 rfl rfl fun a hs=>?_
 refine zC hs hw ?_;clear hs;intro a hs
 refine aF hs (hc:=pC w0 _ c d _ hw.swap2) (k:=?_);rintro e0 W1 ⟨q,rfl,hw1⟩;refine ⟨_,rfl,?_⟩;clear hs hw;intro a hs;have hw:=hw1;clear hw1
 refine zC hs hw ?_;clear hs;intro a hs
 refine rt1 hs rfl rfl ⟨q,rfl,?_⟩
 have hw:Has 0 w0 _ (aA p [.pointer (some ⟨c,0,none⟩),.slice ead es.length ecap] 259::bI c d::Sx.Own 26 1 (.slice ead es.length ecap) es.length (es.map (Value.int .i64))::bI q d::R):=hw.pm
 exact (xW hw).swap2
section
variable {H H':Fh} {p q b:Nat} {w0 W:World} {R L:List Res} {u u':cW} {d d':bM} {err:Int}
def cC (H:Fh) (p q:Nat) (u:cW):Res:=Ex fun b:Nat=>aA p [ptr b] 116::eH H b q u:: []
theorem lV (h:Has 0 w0 W (aA p [ptr b] 116::eH H b q u::R)):Has 0 w0 W (cC H p q u::R):=Has.shut b h
theorem k7 (h:Has 0 w0 W (cC H p q u::R)):∃b,Has 0 w0 W (aA p [ptr b] 116::eH H b q u::R):=Has.open h
theorem aCJ (h:Has 0 w0 W (cC H p q u::R)) (hl:H.le H'):Has 0 w0 W (cC H' p q u::R):=by
 obtain ⟨b,h⟩:=k7 h
 exact lV (aBz h.swap2 hl).swap2
instance (H H':Fh) (p q:Nat) (u:cW):gS H H' (cC H p q u) (cC H' p q u):=⟨fun hl h=>aCJ h hl⟩
theorem aHy (H:Fh) (c:Int) (ho:gH (eE c)=true) (hw:Has 0 w0 W (aB nameQ q none::R)):
  Calls Tryz.prog 76 ⟨[.int .i64 c,ptr q]⟩ W fun e W'=>∃p:Nat,e= .returned (.tuple ⟨[ptr p,.int .i64 0]⟩)∧True∧Has 0 w0 W' (cC H p q (eE c)::aB nameQ q none::R):=by
 refine enter Tryz.func76 Tryz.ntmps76 rfl rfl fun a hs=>?_
 refine sv hs hw fun a hs=>?_
 refine cle hs (aHu H c ho hw) fun b a W _ hs hw=>?_
 refine sv hs hw fun a hs=>?_
 rw [show ((0:Int) !=0)=false from rfl] at hs
 refine sn hs hw fun p a W hs hw=>?_
 refine sv hs hw fun a hs=>?_
 exact rt2 hs rfl rfl rfl ⟨p,rfl,trivial,lV hw⟩
theorem aCK (ops:List OpD) {bt:cR} {bad:Option Addr} {bcap:Nat} (hops:∀o∈ops,OpOk o) (h8:ops.length≤8) (hv:cH H (.slice bad ops.length bcap) ops) (h:tH d u ops=some (d',u',bt,err)) (hH:(fr w0).le H) (hT:Tabs w0) (hw:Has 0 w0 W (cC H p q u::aB nameQ q d::Fz H::R)):
  Calls Tryz.prog 52 ⟨[ptr p,.slice bad ops.length bcap]⟩ W fun e W'=>∃(v:Value) (H':Fh),e= .returned (.tuple ⟨[.agg ⟨aL bt v⟩,.int .i64 err]⟩)∧H.le H'∧cH H' v bt.l∧Has 0 w0 W' (cC H' p q u'::aB nameQ q d'::Fz H'::R):=by
 obtain ⟨b,hw⟩:=k7 hw
 refine enter Tryz.func52 Tryz.ntmps52 rfl rfl fun a hs=>?_
 refine sc hs ?_
 refine sn hs hw fun b4 a W hs hw=>?_
 refine sx hs hw fun a W hs hw=>?_
 have hw:Has 0 w0 W (eH H b q u::aB nameQ q d::Fz H::aA p [ptr b] 116::aA b4 (aL ⟨0,0,[]⟩ (.slice none 0 0)) 66::R):=hw.sl
 refine aF hs (hc:=aHp ops hops h8 hv h hH hT hw) (k:=?_)
 rintro e' W ⟨v',H3,rfl,hle3,hv3,hw⟩
 refine ⟨_,rfl,fun a hs=>?_⟩
 obtain ⟨tad,tcap,rfl⟩:=hv3.slice
 refine sx hs hw fun a W hs hw=>?_
 refine rc2 hs rfl rfl hw (by repeat (first|exact In.hd|apply In.tl)) rfl rfl ⟨_,H3,rfl,hle3,hv3,?_⟩
 have hw:Has 0 w0 W (aA p [ptr b] 116::eH H3 b q u'::aB nameQ q d'::Fz H3::R):=hw.sl
 exact lV hw
theorem xX (hw:Has 0 w0 W (cC H p q u::Fz H::R)):
  Calls Tryz.prog 97 ⟨[ptr p]⟩ W fun e W'=>∃(v:Value) (H':Fh),e= .returned v∧H.le H'∧wC H' v (fB u)∧Has 0 w0 W' (cC H' p q u::Fz H'::R):=by
 obtain ⟨b,hw⟩:=k7 hw
 refine enter Tryz.func97 Tryz.ntmps97 rfl rfl fun a hs=>?_
 refine sv hs hw fun a hs=>?_
 have hw:Has 0 w0 W (eH H b q u::Fz H::aA p [ptr b] 116::R):=hw.pm
 refine aF hs (hc:=aHm hw) (k:=?_)
 rintro e' W ⟨v',H3,rfl,hle3,hv3,hw⟩
 refine ⟨_,rfl,fun a hs=>?_⟩
 refine sv hs hw fun a hs=>?_
 exact rt1 hs rfl rfl ⟨_,H3,rfl,hle3,hv3,lV (hw.pm)⟩
theorem aHz (rows:List cD) {v:Value} {n:Nat} (hrl:rows.length≤1000) (hro:∀r∈rows,jH r) (hv:i0 H v rows) (h:tJ d u rows=some (d',u',n,err)) (hH:(fr w0).le H) (hT:Tabs w0) (hw:Has 0 w0 W (cC H p q u::aB nameQ q d::Fz H::R)):
  Calls Tryz.prog 106 ⟨[ptr p,v]⟩ W fun e W'=>∃H':Fh,e= .returned (.tuple ⟨[.int .i64 (n:Int),.int .i64 err]⟩)∧H.le H'∧Has 0 w0 W' (cC H' p q u'::aB nameQ q d'::Fz H'::R):=by
 obtain ⟨b,hw⟩:=k7 hw
 refine enter Tryz.func106 Tryz.ntmps106 rfl rfl fun a hs=>?_
 refine sv hs hw fun a hs=>?_
 have hw:Has 0 w0 W (eH H b q u::aB nameQ q d::Fz H::aA p [ptr b] 116::R):=hw.pm
 refine aF hs (hc:=aHs rows hrl hro hv h hH hT hw) (k:=?_)
 rintro e' W ⟨H3,rfl,hle3,hw⟩
 refine ⟨_,rfl,fun a hs=>?_⟩
 refine sv hs hw fun a hs=>?_
 exact rt2 hs rfl rfl rfl ⟨H3,rfl,hle3,lV (hw.pm)⟩
theorem aCL {b:Nat} (hw:Has 0 w0 W (eH H b q u::R)):
  ∃ps ad cap xs,(∀{W:World} {R:List Res},Has 0 w0 W (bG b q u.c (.slice ad u.added.length cap) ps::aT H ps u.s::Sx.Own 66 3 (.slice ad u.added.length cap) u.added.length xs::R)→Has 0 w0 W (eH H b q u::R))∧Has 0 w0 W (bG b q u.c (.slice ad u.added.length cap) ps::aT H ps u.s::Sx.Own 66 3 (.slice ad u.added.length cap) u.added.length xs::R):=by
 obtain ⟨ho,ps,ad,cap,xs,hc,hw⟩:=kC hw
 exact ⟨ps,ad,cap,xs,fun h=>k5 (h.pm) hc ho,hw.pm⟩
theorem tP (hw:Has 0 w0 W (cC H p q u::R)):
  Calls Tryz.prog 105 ⟨[ptr p]⟩ W fun e W'=>e= .returned (.int .i64 (iN u))∧Has 0 w0 W' (cC H p q u::R):=by
 obtain ⟨b,hw⟩:=k7 hw
 obtain ⟨ho,_⟩:=kC hw.swap2
 have hsl:=(lU ho).rows.1
 refine enter Tryz.func105 Tryz.ntmps105 rfl rfl fun a hs=>?_
 refine sv hs hw fun a hs=>?_
 obtain ⟨ps,ad,cap,xs,back,hw⟩:=aCL hw.swap2
 refine cl hs (xU hw) fun a W hs hw=>?_
 have hw:Has 0 w0 W (aT H ps u.s::bG b q u.c (.slice ad u.added.length cap) ps::Sx.Own 66 3 (.slice ad u.added.length cap) u.added.length xs::aA p [ptr b] 116::R):=hw.pm
 refine cl hs (r5 w0 W H ps u.s _ (by omega) hw) fun a W hs hw=>?_
 refine sv hs hw fun a hs=>?_
 exact rt1 hs rfl rfl ⟨rfl,lV (back (hw.pm)).swap2⟩
theorem aCM (hw:Has 0 w0 W (cC H p q u::R)):
  Calls Tryz.prog 61 ⟨[ptr p]⟩ W fun e W'=>∃c:Nat,e= .returned (ptr c)∧True∧Has 0 w0 W' (bI c u.s.f.d::cC H p q u::R):=by
 obtain ⟨b,hw⟩:=k7 hw
 refine enter Tryz.func61 Tryz.ntmps61 rfl rfl fun a hs=>?_
 refine sv hs hw fun a hs=>?_
 obtain ⟨ps,ad,cap,xs,back,hw⟩:=aCL hw.swap2
 refine cl hs (xU hw) fun a W hs hw=>?_
 have hw:Has 0 w0 W (aT H ps u.s::bG b q u.c (.slice ad u.added.length cap) ps::Sx.Own 66 3 (.slice ad u.added.length cap) u.added.length xs::aA p [ptr b] 116::R):=hw.pm
 refine aF hs (hc:=aF0 w0 W H ps u.s _ hw) (k:=?_)
 rintro e' W ⟨pf,rfl,hw⟩
 refine ⟨_,rfl,fun a hs=>?_⟩
 refine aF hs (hc:=aGG w0 W H pf u.s.f _ hw) (k:=?_)
 rintro e' W ⟨c,rfl,hw⟩
 refine ⟨_,rfl,fun a hs=>?_⟩
 refine sv hs hw fun a hs=>?_
 refine rt1 hs rfl rfl ⟨c,rfl,trivial,?_⟩
 have hw:Has 0 w0 W (bG b q u.c (.slice ad u.added.length cap) ps::aT H ps u.s::Sx.Own 66 3 (.slice ad u.added.length cap) u.added.length xs::aA p [ptr b] 116::bI c u.s.f.d::R):=hw.sl
 have hw:=lV (back hw).swap2
 exact hw.swap2
theorem aIA (hH:(fr w0).le H) (hT:Tabs w0) (hw:Has 0 w0 W (cC H p q u::Fz H::R)):
  Calls Tryz.prog 54 ⟨[ptr p]⟩ W fun e W'=>∃(c:Nat) (H':Fh),e= .returned (ptr c)∧H.le H'∧Has 0 w0 W' (bI c (eW u.s.f.d (fB u)).1::cC H' p q u::Fz H'::R):=by
 have hf:n9 u:=by
  obtain ⟨b,hw⟩:=k7 hw
  obtain ⟨ho,_⟩:=kC hw.swap2
  exact lU ho
 have hal:=hf.added.1
 refine enter Tryz.func54 Tryz.ntmps54 rfl rfl fun a hs=>?_
 refine sv hs hw fun a hs=>?_
 refine cle hs (aCM hw) fun c a W _ hs hw=>?_
 refine sv hs hw fun a hs=>?_
 have hw:Has 0 w0 W (cC H p q u::Fz H::bI c u.s.f.d::R):=hw.pm
 refine aF hs (hc:=xX hw) (k:=?_)
 rintro e' W ⟨v',H3,rfl,hle3,hv3,hw⟩
 refine ⟨_,rfl,fun a hs=>?_⟩
 have hw:Has 0 w0 W (gI (some c) u.s.f.d::Fz H3::cC H3 p q u::R):=hw.pm
 refine aF hs (hc:=aHw w0 W H3 (some c) u.s.f.d (fB u) v' _ (fun h=>by cases h) (fun h=>by cases h) (fun b hb=>(hf.added.2 b (List.mem_of_mem_drop hb)).1) (by unfold fB;rw [List.length_drop];omega) hv3 (hH.trans hle3) hT hw) (k:=?_)
 rintro e' W ⟨c2,rfl,hw⟩
 refine ⟨_,rfl,fun a hs=>?_⟩
 refine aF hs (hc:=aHx w0 W c2 _ _ _ hw) (k:=?_)
 rintro e' W ⟨c3,rfl,hw⟩
 refine ⟨_,rfl,fun a hs=>?_⟩
 refine sv hs hw fun a hs=>?_
 exact rt1 hs rfl rfl ⟨c3,H3,rfl,hle3,hw.sl⟩
theorem xY (hw:Has 0 w0 W (cC H p q u::Fz H::R)):
  Calls Tryz.prog 30 ⟨[ptr p]⟩ W fun e W'=>∃(v:Value) (H':Fh),e= .returned v∧H.le H'∧i0 H' v u.s.l∧Has 0 w0 W' (cC H' p q u::Fz H'::R):=by
 obtain ⟨b,hw⟩:=k7 hw
 obtain ⟨ho,_⟩:=kC hw.swap2
 have hf:=lU ho
 have hsl:=hf.rows.1
 refine enter Tryz.func30 Tryz.ntmps30 rfl rfl fun a hs=>?_
 refine sv hs hw fun a hs=>?_
 obtain ⟨ps,ad,cap,xs,hc,hw⟩:=(kC hw.swap2).2
 refine cl hs (xU hw) fun a W hs hw=>?_
 have hw:Has 0 w0 W (aT H ps u.s::Fz H::bG b q u.c (.slice ad u.added.length cap) ps::Sx.Own 66 3 (.slice ad u.added.length cap) u.added.length xs::aA p [ptr b] 116::R):=hw.pm
 refine aF hs (hc:=aAe w0 W H ps u.s _ (by omega) (fun r hr=>by have:=(hf.rows.2 r hr).1.2;omega) hw) (k:=?_)
 rintro e' W ⟨rad,rcap,ys,H4,rfl,hle4,hch4,hw⟩
 refine ⟨_,rfl,fun a hs=>?_⟩
 have hw:Has 0 w0 W (Sx.Own 68 5 (.slice rad u.s.l.length rcap) u.s.l.length ys::Fz H4::aT H4 ps u.s::bG b q u.c (.slice ad u.added.length cap) ps::Sx.Own 66 3 (.slice ad u.added.length cap) u.added.length xs::aA p [ptr b] 116::R):=hw.pm
 obtain ⟨H5,hle5,hw,hr5⟩:=hw.freeze_own
 have hw:=hw.lz hle5
 refine sv hs hw fun a hs=>?_
 refine rt1 hs rfl rfl ⟨_,H5,rfl,hle4.trans hle5,⟨ys,hr5,hch4.mono (RowIn.le hle5)⟩,?_⟩
 have hw:Has 0 w0 W (bG b q u.c (.slice ad u.added.length cap) ps::Sx.Own 66 3 (.slice ad u.added.length cap) u.added.length xs::aT H5 ps u.s::aA p [ptr b] 116::Fz H5::R):=hw.pm
 exact lV (k5 hw (hc.mono (BatIn.le (hle4.trans hle5))) ho).swap2
end
section
variable {H H':Fh} {p q pk pr pt:Nat} {s s':cY} {w0 W:World} {R L:List Res} {d d':bM} {k k':dY} {o:fV} {ms:List bP} {t:dU}
def k8 (b:cR) (e:bZ):Bool:=(e.kind == 2) && (match decode e.data.data.toList with|some p=>(p.1 == b.c) && (p.2.1 == b.q)|none=>false)
theorem aIB (s:cY) (b:cR):tE s b=(s.r.l.get (w64 (s.t.ix+1)) 200).any (k8 b):=rfl
theorem aIC {b:cR} {e:bZ} {c q:Int} {l:List OpD} {err:Int} (h:eT e.data.data.toList=((c,q,l),err)):k8 b e=((e.kind == 2) && ((err == 0) && ((c == b.c) && (q == b.q)))):=by
 unfold k8
 unfold eT at h
 cases hd:decode e.data.data.toList with
 |none=>
  rw [hd] at h
  injection h with _ h2
  subst h2
  simp
 |some p=>
  rw [hd] at h
  injection h with h1 h2
  subst h1 h2
  simp
theorem aID (b:cR) {bad:Option Addr} {bcap:Nat} (hH:(fr w0).le H) (hT:Tabs w0) (hw:Has 0 w0 W (aP p pk pr pt::aG H pr s.r::aO H pt s.t::Fz H::R)):
  Calls Tryz.prog 179 ⟨[ptr p,.agg ⟨aL b (.slice bad b.l.length bcap)⟩]⟩ W fun e W'=>e= .returned (.bool (tE s b))∧Has 0 w0 W' (aP p pk pr pt::aG H pr s.r::aO H pt s.t::Fz H::R):=by
 rw [aIB]
 refine enter Tryz.func179 Tryz.ntmps179 rfl rfl fun a hs=>?_
 refine sc hs ?_
 refine sn hs hw fun b3 a W hs hw=>?_
 have hw:Has 0 w0 W (aG H pr s.r::aP p pk pr pt::aO H pt s.t::Fz H::aA b3 (aL b (.slice bad b.l.length bcap)) 66::R):=hw.pm
 obtain ⟨pl,pv,pu,mv,hw⟩:=dG hw
 have hw:Has 0 w0 W (aK pr s.r pl pv pu mv::aI pl s.r.l::VoR pv s.r.v::ToR pu s.r.t::aC H mv s.r.out.msgs::aP p pk pr pt::aO H pt s.t::Fz H::aA b3 (aL b (.slice bad b.l.length bcap)) 66::R):=hw
 have hlw:=aBu (aBv (hw.pm:Has 0 w0 W (aI pl s.r.l::aK pr s.r pl pv pu mv::VoR pv s.r.v::ToR pu s.r.t::aC H mv s.r.out.msgs::aP p pk pr pt::aO H pt s.t::Fz H::aA b3 (aL b (.slice bad b.l.length bcap)) 66::R))) (i:=w64 (s.t.ix+1)) (n:=200)
 have hgl:(s.r.l.get (w64 (s.t.ix+1)) 200).length≤200:=aBs s.r.l _ 200
 refine zA hs hw ?_;clear hs;intro a hs
 refine bF [4,9,11] [.f 0 0,.f 0 0,.f 0 0,.f 0 0,.m 0,.f 0 1,.f 0 1,.f 0 1,.f 0 1,.m 1,.f 2 2,.m 2,.f 3 3,.f 0 3] [.c0 _,.c0 _,.c0 _,.c0 _,.c1 (fun x=>ptr pl),.c0 _,.c0 _,.c0 _,.c0 _,.c2 (fun x y=> .int .i64 s.t.ix),.c2 _,.c3 (fun x y z=> .slice z.ad (s.r.l.get (w64 (s.t.ix+1)) 200).length z.cap),.c3 _,.c0 _] (aK pr s.r pl pv pu mv::aI pl s.r.l::VoR pv s.r.v::ToR pu s.r.t::aC H mv s.r.out.msgs::aP p pk pr pt::aO H pt s.t::Fz H::aA b3 (aL b (.slice bad b.l.length bcap)) 66::R) (fun x=>aK pr s.r pl pv pu mv::aI pl s.r.l::VoR pv s.r.v::ToR pu s.r.t::aC H mv s.r.out.msgs::aP p pk pr pt::aO H pt s.t::Fz H::aA b3 (aL b (.slice bad b.l.length bcap)) 66::R) (fun x y=>aK pr s.r pl pv pu mv::aI pl s.r.l::VoR pv s.r.v::ToR pu s.r.t::aC H mv s.r.out.msgs::aP p pk pr pt::aO H pt s.t::Fz H::aA b3 (aL b (.slice bad b.l.length bcap)) 66::R) (fun x y z=>bC (.slice z.ad (s.r.l.get (w64 (s.t.ix+1)) 200).length z.cap) (s.r.l.get (w64 (s.t.ix+1)) 200)::aK pr s.r pl pv pu mv::aI pl s.r.l::VoR pv s.r.v::ToR pu s.r.t::aC H mv s.r.out.msgs::aP p pk pr pt::aO H pt s.t::Fz H::aA b3 (aL b (.slice bad b.l.length bcap)) 66::R) (fun x y z t=>[]) hs hw ?kk ⟨drs,drs,drs,drs,?m0,drs,drs,drs,drs,?m1,drs,?m2,drs,drs,trivial⟩
 case m0=>
  intro x y z u LD a W hs hw
  refine cl hs (qK hw) fun a W hs hw=>?_
  exact ⟨{},hs,hw⟩
 case m1=>
  intro x y z u LD a W hs hw
  have hw:Has 0 w0 W (aO H pt s.t::aK pr s.r pl pv pu mv::aI pl s.r.l::VoR pv s.r.v::ToR pu s.r.t::aC H mv s.r.out.msgs::aP p pk pr pt::Fz H::aA b3 (aL b (.slice bad b.l.length bcap)) 66::R):=hw.pm
  refine cl hs (sC w0 _ H pt s.t _ hw) fun a W hs hw=>?_
  exact ⟨{},hs,hw.pm⟩
 case m2=>
  intro x y z u LD a W hs hw
  refine sg hs hw (fun s a W hs hw=>?_) (g:=mT)
  exact ⟨{ad:=s.1,cap:=s.2},hs,hw⟩
 case kk=>
 intro _ _ zz a W hs hw
 obtain ⟨es,hes⟩:∃es,es=s.r.l.get (w64 (s.t.ix+1)) 200:=⟨_,rfl⟩
 rw [←hes] at hs hw hlw hgl⊢
 clear hes
 replace hs:Slots a 55 [(3,ptr b3),(20,.slice zz.ad es.length zz.cap),(21,.int .i64 (es.length:Int)),(22,.int .i64 0)]:=hs.of ⟨rfl,rfl,rfl,rfl,trivial⟩
 have hw:Has 0 w0 W (aG H pr s.r::bC (.slice zz.ad es.length zz.cap) es::aP p pk pr pt::aO H pt s.t::Fz H::aA b3 (aL b (.slice bad b.l.length bcap)) 66::R):=cF (hw.pm)
 have hw:Has 0 w0 W (bC (.slice zz.ad es.length zz.cap) es::aP p pk pr pt::aG H pr s.r::aO H pt s.t::Fz H::aA b3 (aL b (.slice bad b.l.length bcap)) 66::R):=hw.pm
 obtain ⟨zad,hzad⟩:∃zad,zad=zz.ad:=⟨_,rfl⟩
 obtain ⟨zcap,hzcap⟩:∃zcap,zcap=zz.cap:=⟨_,rfl⟩
 rw [←hzad,←hzcap] at hs hw
 clear hzad hzcap
 refine sc hs ?_
 refine bX (σ:=Nat) (fun i=>[(3,ptr b3),(20,.slice zad es.length zcap),(21,.int .i64 (es.length:Int)),(22,.int .i64 (i:Int))]) (fun _=>bC (.slice zad es.length zcap) es::aP p pk pr pt::aG H pr s.r::aO H pt s.t::Fz H::aA b3 (aL b (.slice bad b.l.length bcap)) 66::R) (fun i=>i≤es.length∧(es.take i).any (k8 b)=false) (fun i=>es.length - i) 0 ⟨Nat.zero_le _,rfl⟩ hs ⟨rfl,rfl,rfl,rfl,trivial⟩ hw ?_
 clear hs hw
 rintro i a W ⟨hi,hany⟩ hs hw
 refine sv hs hw fun a hs=>?_
 refine cI hs (kt:=fun hc=>?_) (kf:=fun hc=>?_)
 ·have hi':i<es.length:=by simpa using hc
  obtain ⟨e,he,hd⟩:=dS hi'
  have hed:=hlw e (List.mem_of_getElem? he)
  obtain ⟨⟨⟨c,q,l⟩,err⟩,hdec⟩:∃x,eT e.data.data.toList=x:=⟨_,rfl⟩
  have hdl:e.data.data.toList.length≤1000000:=by rw [Array.length_toList];exact hed
  have hei:=aIC (b:=b) hdec
  refine sc hs ?_
  refine pX hs (hw.rd_own In.hd) he fun a g o hpc hs=>?_
  refine eC hs (z:=zEnt) (cs:=bE e) (hc:=hpc) (hl:=by rfl) (c:=fun a hs=>?_)
  refine sn hs hw fun b6 a W hs hw=>?_
  refine sx hs hw fun a W hs hw=>?_
  have hw:Has 0 w0 W (aA b6 (bE e) 137::bC (.slice zad es.length zcap) es::aP p pk pr pt::aG H pr s.r::aO H pt s.t::Fz H::aA b3 (aL b (.slice bad b.l.length bcap)) 66::R):=hw
  refine nL (s:=e.data) hs hw (by omega) (c:=fun a bb bcap0 ext W hw hrb hs=>?_)
  have hlen:=hw.endF (by repeat (first|exact In.hd|apply In.tl)) hH
  refine aF hs (hc:=wJ _ c q l err hdec _ _ hdl hrb (hT.keep hlen)) (k:=?_)
  rintro e0 W1 ⟨dad,dcap,rfl,hw1⟩
  refine ⟨_,rfl,fun a hs=>?_⟩
  replace hw:=hw.call hw1
  clear hw1
  refine sv hs hw fun a hs=>?_
  refine sn hs hw fun b7 a W hs hw=>?_
  refine sx hs hw fun a W hs hw=>?_
  have hw:Has 0 w0 W (aA b7 (aL ⟨c,q,l⟩ (.slice dad l.length dcap)) 66::Sx.Own 55 9 (.slice dad l.length dcap) l.length (l.flatMap bT)::eM bb (bys e.data.data.toList ++ ext) 5::aA b6 (bE e) 137::bC (.slice zad es.length zcap) es::aP p pk pr pt::aG H pr s.r::aO H pt s.t::Fz H::aA b3 (aL b (.slice bad b.l.length bcap)) 66::R):=hw
  replace hs:Slots a 55 [(36,.bool (e.kind == 2)),(3,ptr b3),(6,ptr b6),(7,ptr b7),(8,.int .i64 err),(20,.slice zad es.length zcap),(21,.int .i64 (es.length:Int)),(22,.int .i64 (i:Int))]:=hs.of ⟨rfl,rfl,rfl,rfl,rfl,rfl,rfl,rfl,trivial⟩
  have hback:∀{W A B C D},Has 0 w0 W (A::B::C::D::bC (.slice zad es.length zcap) es::aP p pk pr pt::aG H pr s.r::aO H pt s.t::Fz H::aA b3 (aL b (.slice bad b.l.length bcap)) 66::R)→Has 0 w0 W (bC (.slice zad es.length zcap) es::aP p pk pr pt::aG H pr s.r::aO H pt s.t::Fz H::aA b3 (aL b (.slice bad b.l.length bcap)) 66::R):=fun h=>h.sub (List.Sublist.cons _ (List.Sublist.cons _ (List.Sublist.cons _ (List.Sublist.cons _ (List.Sublist.refl _)))))
  have hret:∀{W},Has 0 w0 W (bC (.slice zad es.length zcap) es::aP p pk pr pt::aG H pr s.r::aO H pt s.t::Fz H::aA b3 (aL b (.slice bad b.l.length bcap)) 66::R)→Has 0 w0 W (aP p pk pr pt::aG H pr s.r::aO H pt s.t::Fz H::R):=fun h=>h.sl
  refine Go.Sx.mergeL (M:=fun a W=>Slots a 55 [(53,.bool (k8 b e)),(3,ptr b3),(20,.slice zad es.length zcap),(21,.int .i64 (es.length:Int)),(22,.int .i64 (i:Int))]∧Has 0 w0 W (bC (.slice zad es.length zcap) es::aP p pk pr pt::aG H pr s.r::aO H pt s.t::Fz H::aA b3 (aL b (.slice bad b.l.length bcap)) 66::R)) ?_ ?_
  case refine_2=>
   have fin:∀{a W},Slots a 55 [(53,.bool (k8 b e)),(3,ptr b3),(20,.slice zad es.length zcap),(21,.int .i64 (es.length:Int)),(22,.int .i64 (i:Int))]→Has 0 w0 W (aA b7 (aL ⟨c,q,l⟩ (.slice dad l.length dcap)) 66::Sx.Own 55 9 (.slice dad l.length dcap) l.length (l.flatMap bT)::eM bb (bys e.data.data.toList ++ ext) 5::aA b6 (bE e) 137::bC (.slice zad es.length zcap) es::aP p pk pr pt::aG H pr s.r::aO H pt s.t::Fz H::aA b3 (aL b (.slice bad b.l.length bcap)) 66::R)→Go.Sx.Calm (fun a W=>Slots a 55 [(53,.bool (k8 b e)),(3,ptr b3),(20,.slice zad es.length zcap),(21,.int .i64 (es.length:Int)),(22,.int .i64 (i:Int))]∧Has 0 w0 W (bC (.slice zad es.length zcap) es::aP p pk pr pt::aG H pr s.r::aO H pt s.t::Fz H::aA b3 (aL b (.slice bad b.l.length bcap)) 66::R)) .normal a W:=fun h1 h2=>And.intro h1 (hback h2)
   rw [hei] at fin⊢
   cases c1:e.kind == 2 with
   |false=>
    rw [c1] at hs fin
    refine sv hs hw fun a hs=>?_
    exact fin (hs.of ⟨rfl,rfl,rfl,rfl,rfl,trivial⟩) hw
   |true=>
   rw [c1] at hs fin
   refine sv hs hw fun a hs=>?_
   cases c2:err == 0 with
   |false=>
    rw [c2] at hs fin
    refine sv hs hw fun a hs=>?_
    exact fin (hs.of ⟨rfl,rfl,rfl,rfl,rfl,trivial⟩) hw
   |true=>
   rw [c2] at hs fin
   refine sv hs hw fun a hs=>?_
   cases c3:c == b.c with
   |false=>
    rw [c3] at hs fin
    refine sv hs hw fun a hs=>?_
    exact fin (hs.of ⟨rfl,rfl,rfl,rfl,rfl,trivial⟩) hw
   |true=>
    rw [c3] at hs fin
    refine sv hs hw fun a hs=>?_
    exact fin (hs.of ⟨rfl,rfl,rfl,rfl,rfl,trivial⟩) hw
  case refine_1=>
  clear hs hw
  rintro a W ⟨hs,hw⟩
  cases ce:k8 b e with
  |true=>
   rw [ce] at hs
   refine sv hs hw fun a hs=>?_
   refine rt1 hs rfl rfl ⟨?_,hret hw⟩
   have h9:es.any (k8 b)=true:=List.any_eq_true.2 ⟨e,List.mem_of_getElem? he,ce⟩
   rw [h9]
  |false=>
   rw [ce] at hs
   refine sv hs hw fun a hs=>?_
   exact bR (i+1) hs hw ⟨hi',aBj he hany ce⟩ (by omega) ⟨rfl,rfl,rfl,bS (i1 (by omega)),trivial⟩
 ·have:es.take i=es:=List.take_of_length_le (by simp at hc;omega)
  rw [this] at hany
  refine sv hs hw fun a hs=>?_
  exact rt1 hs rfl rfl ⟨by rw [hany],hw.sl⟩
end
section
variable {H H':Fh} {p q pk pr pt:Nat} {s s':cY} {w0 W:World} {R L:List Res} {d d':bM} {k k':dY} {o:fV} {ms:List bP} {t:dU} {row:cD} {err:Int}
theorem aIE {b:cR} (h:mN b=true):gW b∧b.l.length≤8:=by
 have:=qM (r:=⟨0,b,0⟩) (by unfold lR gP;rw [h];rfl)
 exact ⟨this.1.b,this.2⟩
theorem aIF (r:RaftD) (k:Int) (s:ByteArray):(r.propose k s).2.2.2≠0→(r.propose k s).1=r:=by
 unfold RaftD.propose
 split
 ·exact fun _=>rfl
 split
 ·exact fun _=>rfl
 split
 ·exact fun _=>rfl
 split
 ·exact fun _=>rfl
 ·exact fun h=>absurd rfl h
theorem aIG (b:cR) {bad:Option Addr} {bcap:Nat} (hb:mN b=true) (hv:cH H (.slice bad b.l.length bcap) b.l) (h:xN d s b=some (d',s',row,ms,err)) (hH:(fr w0).le H) (hT:Tabs w0) (hw:Has 0 w0 W (cM H p q s::aB nameS q d::Fz H::R)):
  Calls Tryz.prog 102 ⟨[ptr p,.agg ⟨aL b (.slice bad b.l.length bcap)⟩]⟩ W fun e W'=>∃(ra:Option Addr) (rc:Nat) (v:Value) (H':Fh),e= .returned (.tuple ⟨[.agg ⟨aJ row (.slice ra row.b.l.length rc)⟩,v,.int .i64 err]⟩)∧H.le H'∧Has 0 w0 W' (aC H' v ms::cM H' p q s'::aB nameS q d'::Fz H'::R):=by
 obtain ⟨hbo,hb8⟩:=aIE hb
 obtain ⟨h1,h2,pk,pr,pt,hw⟩:=kA hw
 obtain ⟨hmm,hvv⟩:=xL h1
 have ht:=nV h2
 have hlast:∀{g:Int},b.q=g→True:=fun _=>trivial
 clear hlast
 refine enter Tryz.func102 Tryz.ntmps102 rfl rfl fun a hs=>?_
 refine sc hs ?_
 refine sn hs hw fun b3 a W hs hw=>?_
 refine sn hs hw fun b4 a W hs hw=>?_
 have hw:Has 0 w0 W (aP p pk pr pt::aX pk q s.k::aG H pr s.r::aO H pt s.t::aB nameS q d::Fz H::aA b3 (aL b (.slice bad b.l.length bcap)) 66::aA b4 zrc 68::R):=hw.pm
 have fin0:∀{W} {cs:List Value},Has 0 w0 W (aP p pk pr pt::aX pk q s.k::aG H pr s.r::aO H pt s.t::aB nameS q d::Fz H::aA b3 (aL b (.slice bad b.l.length bcap)) 66::aA b4 cs 68::R)→Has 0 w0 W (aC H (.slice none 0 0) []::cM H p q s::aB nameS q d::Fz H::R):=fun {W cs} g=>by
  have g:=i8 g h1 h2
  have g:=kX (H:=H) (l:=[]) (g.nilOwn 38 13) rfl
  exact g.sl
 refine sv hs hw fun a hs=>?_
 refine cl hs (xM hw) fun a W hs hw=>?_
 refine sx hs hw fun a W hs hw=>?_
 have hlen:=hw.endF (by repeat (first|exact In.hd|apply In.tl)) hH
 refine cb hs hw (rW b.c b.q b.l _ W hbo.c hbo.q hbo.ops (hw.rdH (by repeat (first|exact In.hd|apply In.tl)) hv) (hT.keep hlen)) fun a W hs hw=>?_
 rw [show dM b.c b.q b.l=dP b from rfl] at hs
 unfold xN at h
 cases c1:dP b with
 |false=>
  rw [c1] at hs
  rw [if_pos c1] at h
  injection h with h
  injection h with e1 h
  injection h with e2 h
  injection h with e3 h
  injection h with e4 e5
  subst e1 e2 e3 e4 e5
  refine sx hs hw fun a W hs hw=>?_
  exact rc3 hs rfl rfl hw (by repeat (first|exact In.hd|apply In.tl)) rfl rfl rfl ⟨none,0,_,H,rfl,Fh.le.refl H,fin0 hw⟩
 |true=>
 rw [c1] at hs
 rw [if_neg (by rw [c1];simp)] at h
 refine sv hs hw fun a hs=>?_
 have hw:Has 0 w0 W (aG H pr s.r::aP p pk pr pt::aX pk q s.k::aO H pt s.t::aB nameS q d::Fz H::aA b3 (aL b (.slice bad b.l.length bcap)) 66::aA b4 zrc 68::R):=hw.pm
 refine cl hs (xJ hw) fun a W hs hw=>?_
 have hw:Has 0 w0 W (aP p pk pr pt::aX pk q s.k::aG H pr s.r::aO H pt s.t::aB nameS q d::Fz H::aA b3 (aL b (.slice bad b.l.length bcap)) 66::aA b4 zrc 68::R):=hw.pm
 refine sv hs hw fun a hs=>?_
 rw [show (s.r.role !=2)=!(s.r.role == 2) from rfl] at hs
 cases c2:s.r.role == 2 with
 |false=>
  rw [c2] at hs
  rw [if_pos (by simpa using c2)] at h
  injection h with h
  injection h with e1 h
  injection h with e2 h
  injection h with e3 h
  injection h with e4 e5
  subst e1 e2 e3 e4 e5
  refine sx hs hw fun a W hs hw=>?_
  exact rc3 hs rfl rfl hw (by repeat (first|exact In.hd|apply In.tl)) rfl rfl rfl ⟨none,0,_,H,rfl,Fh.le.refl H,fin0 hw⟩
 |true=>
 rw [c2] at hs
 rw [if_neg (by simpa using c2)] at h
 refine zG hs ?_
 refine bF [6] [.f 0 0,.f 0 0,.f 0 0,.f 0 0,.f 0 0,.f 0 0,.m 0,.f 1 1] [.c0 _,.c0 _,.c0 _,.c0 _,.c0 _,.c0 _,.c1 (fun x=> .int .i64 (cQ s.t.f b.c)),.c1 _] (aP p pk pr pt::aX pk q s.k::aG H pr s.r::aO H pt s.t::aB nameS q d::Fz H::aA b3 (aL b (.slice bad b.l.length bcap)) 66::aA b4 zrc 68::R) (fun x=>aP p pk pr pt::aX pk q s.k::aG H pr s.r::aO H pt s.t::aB nameS q d::Fz H::aA b3 (aL b (.slice bad b.l.length bcap)) 66::aA b4 zrc 68::R) (fun x y=>[]) (fun x y z=>[]) (fun x y z t=>[]) hs hw ?kk ⟨drs,drs,drs,drs,drs,drs,?m0,drs,trivial⟩
 case m0=>
  intro x y z u LD a W hs hw
  have hw:Has 0 w0 W (aO H pt s.t::aP p pk pr pt::aX pk q s.k::aG H pr s.r::aB nameS q d::Fz H::aA b3 (aL b (.slice bad b.l.length bcap)) 66::aA b4 zrc 68::R):=hw.pm
  refine cl hs (aBw b.c hw) fun a W hs hw=>?_
  exact ⟨{},hs,hw.pm⟩
 case kk=>
 intro _ a W hs hw
 replace hs:Slots a 118 [(0,ptr p),(3,ptr b3),(4,ptr b4),(5,.slice none 0 0),(6,.int .i64 0),(7,.int .i64 (cQ s.t.f b.c))]:=hs.of ⟨rfl,rfl,rfl,rfl,rfl,rfl,trivial⟩
 refine sx hs hw fun a W hs hw=>?_
 cases c3:b.q == cQ s.t.f b.c with
 |true=>
  rw [c3] at hs
  rw [if_pos (by simpa using c3)] at h
  injection h with h
  injection h with e1 h
  injection h with e2 h
  injection h with e3 h
  injection h with e4 e5
  subst e1 e2 e3 e4 e5
  refine zG hs ?_
  refine fL (G:=0) (w:=w0) (σ:=Un) (V:=fun u=>[ptr p,ptr p,.pointer (some ⟨p,0+2,none⟩),ptr pt,.pointer (some ⟨b3,0+0,none⟩),.int .i64 b.c,.tuple ⟨[.agg ⟨aJ (cK (s.t).f b.c) (.slice (u 6).ad (cK (s.t).f b.c).b.l.length (u 6).cap)⟩,.bool (!(cQ (s.t).f b.c == 0))]⟩,.tuple ⟨[.agg ⟨aJ (cK (s.t).f b.c) (.slice (u 7).ad (cK (s.t).f b.c).b.l.length (u 7).cap)⟩,.bool (!(cQ (s.t).f b.c == 0))]⟩,.agg ⟨aJ (cK (s.t).f b.c) (.slice (u 8).ad (cK (s.t).f b.c).b.l.length (u 8).cap)⟩,.bool (!(cQ (s.t).f b.c == 0)),ptr (u 10).n,.bool true,.bool (!(cQ (s.t).f b.c == 0))])
   (Rs:=fun u D=>(if D 10 then aA (u 10).n (if D 11 then aJ (cK (s.t).f b.c) (.slice (u 6).ad (cK (s.t).f b.c).b.l.length (u 6).cap) else zrc) 68 else bK)::bN ((D 7=true→u 7=u 6)∧(D 8=true→u 8=u 6))::(if D 6 then FzF (u 6).H (Fh.le (H) (u 6).H) else Fz (H))::(if D 6 then aO (u 6).H pt (s.t) else aO (H) pt (s.t))::aP p pk pr pt::aA b3 (aL b (.slice bad b.l.length bcap)) 66::aX pk q s.k::aG H pr s.r::aB nameS q d::aA b4 zrc 68::R) (fun _=>{}) hs ?h0 (hVu:=?vu) (ho:=⟨dru,dru,dru,dru,dru,dru,?c6,?c7,?c8,dru,?c10,?c11,dru,trivial⟩) (k:=?kk)
  case h0=>exact (((hw.pm:Has 0 w0 W (Fz (H)::aO (H) pt (s.t)::aP p pk pr pt::aA b3 (aL b (.slice bad b.l.length bcap)) 66::aX pk q s.k::aG H pr s.r::aB nameS q d::aA b4 zrc 68::R)).fact (show (false=true→({}:Un)= {})∧(false=true→({}:Un)= {}) from ⟨fun _=>rfl,fun _=>rfl⟩))).free
  case vu=>
   intro u u' j h
   rcases j with _|_|_|_|_|_|_|_|_|_|_|_|_|j
   all_goals first|rfl|simp [h]
  case c6=>
   intro u LD D a W hcl hi hp hs hw
   have n7:=Go.Sx.not_done hcl hi 7 (by kernel_rfl)
   have n8:=Go.Sx.not_done hcl n7 8 (by kernel_rfl)
   have n11:=Go.Sx.not_done hcl hi 11 (by kernel_rfl)
   simp only [hi,n11,Bool.false_eq_true,if_false] at hw
   have hw:Has 0 w0 W (aO (H) pt (s.t)::Fz (H)::(if D 10=true then aA (u 10).n zrc 68 else bK)::aP p pk pr pt::aA b3 (aL b (.slice bad b.l.length bcap)) 66::aX pk q s.k::aG H pr s.r::aB nameS q d::aA b4 zrc 68::R):=hw.sl
   refine aF hs (hc:=aBx b.c (ht.2.2) hw) (k:=?_)
   rintro e' W' ⟨sv,H2,rfl,hle2,hop2,hw⟩
   refine ⟨_,rfl,fun a hs=>?_⟩
   obtain ⟨tad,tcap,rfl⟩:=hop2.slice
   refine Or.inr ⟨{ad:=tad,cap:=tcap,H:=H2},hs,?_⟩
   have hw:Has 0 w0 W' (Fz H2::aO H2 pt (s.t)::(if D 10=true then aA (u 10).n zrc 68 else bK)::aP p pk pr pt::aA b3 (aL b (.slice bad b.l.length bcap)) 66::aX pk q s.k::aG H pr s.r::aB nameS q d::aA b4 zrc 68::R):=hw.pm
   have hw:=(hw.fzf hle2).fact (show (false=true→u 7=({ad:=tad,cap:=tcap,H:=H2}:Un))∧(false=true→u 8=({ad:=tad,cap:=tcap,H:=H2}:Un)) from ⟨fun h=>(by cases h),fun h=>(by cases h)⟩)
   show Has 0 w0 W' ((if D 10=true then aA (u 10).n (if D 11=true then _ else zrc) 68 else bK)::bN ((D 7=true→u 7=_)∧(D 8=true→u 8=_))::FzF H2 (Fh.le (H) H2)::aO H2 pt (s.t)::aP p pk pr pt::aA b3 (aL b (.slice bad b.l.length bcap)) 66::aX pk q s.k::aG H pr s.r::aB nameS q d::aA b4 zrc 68::R)
   rw [n7,n8,n11]
   exact hw.pm
  case c7=>
   intro u LD D a W hcl hi hp hs hw
   have h6:=Go.Sx.done hp 6 (by kernel_rfl)
   have n8:=Go.Sx.not_done hcl hi 8 (by kernel_rfl)
   refine sv hs hw fun a hs=>?_
   refine Or.inr ⟨u 6,hs,?_⟩
   show Has 0 w0 _ ((if D 10 then aA (u 10).n (if D 11 then aJ (cK (s.t).f b.c) (.slice (u 6).ad (cK (s.t).f b.c).b.l.length (u 6).cap) else zrc) 68 else bK)::bN ((true=true→u 6=u 6)∧(D 8=true→u 8=u 6))::(if D 6 then FzF (u 6).H (Fh.le (H) (u 6).H) else Fz (H))::(if D 6 then aO (u 6).H pt (s.t) else aO (H) pt (s.t))::aP p pk pr pt::aA b3 (aL b (.slice bad b.l.length bcap)) 66::aX pk q s.k::aG H pr s.r::aB nameS q d::aA b4 zrc 68::R)
   rw [n8]
   have hw:=hw.fact (show (true=true→u 6=u 6)∧(false=true→u 8=u 6) from ⟨fun _=>rfl,fun h=>(by cases h)⟩)
   exact hw.sl
  case c8=>
   intro u LD D a W hcl hi hp hs hw
   have h7:=Go.Sx.done hp 7 (by kernel_rfl)
   have hf:=hw.told (In.tl In.hd)
   refine sv hs hw fun a hs=>?_
   rw [hf.1 h7] at hs
   refine Or.inr ⟨u 6,hs,?_⟩
   show Has 0 w0 _ ((if D 10 then aA (u 10).n (if D 11 then aJ (cK (s.t).f b.c) (.slice (u 6).ad (cK (s.t).f b.c).b.l.length (u 6).cap) else zrc) 68 else bK)::bN ((D 7=true→u 7=u 6)∧(true=true→u 6=u 6))::(if D 6 then FzF (u 6).H (Fh.le (H) (u 6).H) else Fz (H))::(if D 6 then aO (u 6).H pt (s.t) else aO (H) pt (s.t))::aP p pk pr pt::aA b3 (aL b (.slice bad b.l.length bcap)) 66::aX pk q s.k::aG H pr s.r::aB nameS q d::aA b4 zrc 68::R)
   have hw:=hw.fact (show (D 7=true→u 7=u 6)∧(true=true→u 6=u 6) from ⟨hf.1,fun _=>rfl⟩)
   exact hw.sl
  case c10=>
   intro u LD D a W hcl hi hp hs hw
   have n11:=Go.Sx.not_done hcl hi 11 (by kernel_rfl)
   simp only [hi,Bool.false_eq_true,if_false] at hw
   refine sn hs hw fun b a W hs hw=>?_
   refine Or.inr ⟨{n:=b},hs,?_⟩
   show Has 0 w0 _ (aA b (if (Nat.beq 11 10 || D 11)=true then _ else _) _::_)
   rw [n11]
   exact hw.fill Upd.hd
  case c11=>
   intro u LD D a W hcl hi hp hs hw
   have h10:=Go.Sx.done hp 10 (by kernel_rfl)
   have h8:=Go.Sx.done hp 8 (by kernel_rfl)
   have hf:=hw.told (In.tl In.hd)
   simp only [h10,hi,Bool.false_eq_true,if_false,if_true] at hw
   refine d6 hs (hw:=hw) (vs:=aJ (cK (s.t).f b.c) (.slice (u 8).ad (cK (s.t).f b.c).b.l.length (u 8).cap)) (k:=fun W hs hw=>?_)
   refine Or.inl ⟨hs,?_⟩
   have hw:Has 0 w0 W (aA (u 10).n (aJ (cK (s.t).f b.c) (.slice (u 8).ad (cK (s.t).f b.c).b.l.length (u 8).cap)) 68::bN ((D 7=true→u 7=u 6)∧(D 8=true→u 8=u 6))::(if D 6 then FzF (u 6).H (Fh.le (H) (u 6).H) else Fz (H))::(if D 6 then aO (u 6).H pt (s.t) else aO (H) pt (s.t))::aP p pk pr pt::aA b3 (aL b (.slice bad b.l.length bcap)) 66::aX pk q s.k::aG H pr s.r::aB nameS q d::aA b4 zrc 68::R):=hw
   rw [show (aJ (cK (s.t).f b.c) (.slice (u 8).ad (cK (s.t).f b.c).b.l.length (u 8).cap))=(aJ (cK (s.t).f b.c) (.slice (u 6).ad (cK (s.t).f b.c).b.l.length (u 6).cap)) from by rw [hf.2 h8]] at hw
   show Has 0 w0 _ ((if D 10=true then _ else _)::_)
   rw [h10]
   exact hw
  case kk=>
  intro u a W hs hw
  have hw:Has 0 w0 W (FzF (u 6).H (Fh.le (H) (u 6).H)::aO (u 6).H pt (s.t)::aA (u 10).n (aJ (cK (s.t).f b.c) (.slice (u 6).ad (cK (s.t).f b.c).b.l.length (u 6).cap)) 68::aP p pk pr pt::aA b3 (aL b (.slice bad b.l.length bcap)) 66::aX pk q s.k::aG H pr s.r::aB nameS q d::aA b4 zrc 68::R):=hw.sl
  obtain ⟨hle9,hw⟩:=hw.unfzf
  have hw:=hw.lz hle9
  refine sc hs ?_
  refine sx hs hw fun a W hs hw=>?_
  refine rc3 hs rfl rfl hw (by repeat (first|exact In.hd|apply In.tl)) rfl rfl rfl ⟨(u 6).ad,(u 6).cap,_,(u 6).H,rfl,hle9,?_⟩
  have hw:Has 0 w0 W (aP p pk pr pt::aX pk q s.k::aG (u 6).H pr s.r::aO (u 6).H pt s.t::aB nameS q d::Fz (u 6).H::R):=hw.sl
  have g:=i8 hw h1 h2
  have g:=kX (H:=(u 6).H) (l:=[]) (g.nilOwn 38 13) rfl
  exact g
 |false=>
 rw [c3] at hs
 rw [if_neg (by simpa using c3)] at h
 refine sx hs hw fun a W hs hw=>?_
 rw [show (b.q !=IntKind.i64.wrap (cQ s.t.f b.c+1))=!(b.q == w64 (cQ s.t.f b.c+1)) from rfl] at hs
 cases c4:b.q == w64 (cQ s.t.f b.c+1) with
 |false=>
  rw [c4] at hs
  rw [if_pos (by simpa using c4)] at h
  injection h with h
  injection h with e1 h
  injection h with e2 h
  injection h with e3 h
  injection h with e4 e5
  subst e1 e2 e3 e4 e5
  refine sx hs hw fun a W hs hw=>?_
  exact rc3 hs rfl rfl hw (by repeat (first|exact In.hd|apply In.tl)) rfl rfl rfl ⟨none,0,_,H,rfl,Fh.le.refl H,fin0 hw⟩
 |true=>
 rw [c4] at hs
 rw [if_neg (by simpa using c4)] at h
 refine sx hs hw fun a W hs hw=>?_
 have hw:Has 0 w0 W (aP p pk pr pt::aG H pr s.r::aO H pt s.t::Fz H::aX pk q s.k::aB nameS q d::aA b3 (aL b (.slice bad b.l.length bcap)) 66::aA b4 zrc 68::R):=hw.pm
 refine cl hs (aID b hH hT hw) fun a W hs hw=>?_
 have hw:Has 0 w0 W (aP p pk pr pt::aX pk q s.k::aG H pr s.r::aO H pt s.t::aB nameS q d::Fz H::aA b3 (aL b (.slice bad b.l.length bcap)) 66::aA b4 zrc 68::R):=hw.pm
 refine sv hs hw fun a hs=>?_
 cases c5:tE s b with
 |true=>
  rw [c5] at hs
  rw [if_pos c5] at h
  injection h with h
  injection h with e1 h
  injection h with e2 h
  injection h with e3 h
  injection h with e4 e5
  subst e1 e2 e3 e4 e5
  refine sx hs hw fun a W hs hw=>?_
  exact rc3 hs rfl rfl hw (by repeat (first|exact In.hd|apply In.tl)) rfl rfl rfl ⟨none,0,_,H,rfl,Fh.le.refl H,fin0 hw⟩
 |false=>
 rw [c5] at hs
 rw [if_neg (by rw [c5];simp)] at h
 obtain ⟨P,hP⟩:∃P,P=s.r.propose 2 ⟨(cT b).toArray⟩:=⟨_,rfl⟩
 rw [←hP] at h
 have hB12:(cT b).length≤1200:=(mI (show dM b.c b.q b.l=true from c1)).2.2.2.2
 have henc:(if dM b.c b.q b.l=true then d9 b.c b.q b.l else [])=cT b:=if_pos c1
 have hBsz:(⟨(cT b).toArray⟩:ByteArray).size≤1000000:=by show (cT b).toArray.size≤1000000;rw [List.size_toArray];omega
 have hprop:∀{W} {R:List Res},Has 0 w0 W (aG H pr s.r::Fz H::R)→Calls Tryz.prog 114 ⟨[ptr pr,.int .i64 2,.string ⟨(cT b).toArray⟩]⟩ W fun e W'=>∃(H':Fh) (x:Option Addr×Nat),e= .returned (.tuple ⟨[.int .i64 P.2.1,.agg ⟨aW P.2.2.1 (.slice x.1 P.2.2.1.msgs.length x.2)⟩,.int .i64 P.2.2.2]⟩)∧H.le H'∧Has 0 w0 W' (aC H' (.slice x.1 P.2.2.1.msgs.length x.2) P.2.2.1.msgs::aG H' pr P.1::Fz H'::R):=by
  intro W R hw
  rw [hP]
  exact aH1 2 _ hBsz hmm hw
 have hPe:P.2.2.2≠0→P.1=s.r:=by rw [hP];exact aIF _ _ _
 have hencode:∀{W} {R:List Res},In (Fz H) R→Has 0 w0 W R→Calls Tryz.prog 117 ⟨[.agg ⟨aL b (.slice bad b.l.length bcap)⟩]⟩ W fun e W'=>∃x:Option Addr×Nat,e= .returned (.slice x.1 (cT b).length x.2)∧True∧Has 0 w0 W' (bY (.slice x.1 (cT b).length x.2) (cT b)::R):=by
  intro W R i hw
  have hlen:=hw.endF i hH
  refine (pD b.c b.q b.l (.slice bad b.l.length bcap) W hbo.c hbo.q hbo.ops (hw.rdH i hv) (hT.keep hlen)).mono ?_
  rintro e W' ⟨ad,cap,rfl,_,hw1⟩
  rw [henc] at hw1⊢
  exact ⟨(ad,cap),rfl,trivial,hw.call hw1⟩
 clear hP
 generalize cT b=B at *
 replace hs:Slots a 118 [(63,.bool false),(0,ptr p),(3,ptr b3),(4,ptr b4),(5,.slice none 0 0),(6,.int .i64 0),(7,.int .i64 (cQ s.t.f b.c))]:=hs.of ⟨rfl,rfl,rfl,rfl,rfl,rfl,rfl,trivial⟩
 refine zG hs ?_
 refine fL (G:=0) (w:=w0) (σ:=Un) (V:=fun u=>[ptr p,ptr p,.pointer (some ⟨p,0+1,none⟩),ptr pr,.agg ⟨aL b (.slice bad b.l.length bcap)⟩,.slice (u 5).ad B.length (u 5).cap,.string ⟨B.toArray⟩,.tuple ⟨[.int .i64 P.2.1,.agg ⟨aW P.2.2.1 (.slice (u 7).ad P.2.2.1.msgs.length (u 7).cap)⟩,.int .i64 P.2.2.2]⟩,.tuple ⟨[.int .i64 P.2.1,.agg ⟨aW P.2.2.1 (.slice (u 8).ad P.2.2.1.msgs.length (u 8).cap)⟩,.int .i64 P.2.2.2]⟩,.int .i64 P.2.1,.agg ⟨aW P.2.2.1 (.slice (u 10).ad P.2.2.1.msgs.length (u 10).cap)⟩,.int .i64 P.2.2.2,ptr (u 12).n,.int .i64 P.2.1,.bool true,.int .i64 P.2.2.2])
  (Rs:=fun u D=>(if D 12 then aA (u 12).n (if D 14 then aW P.2.2.1 (.slice (u 7).ad P.2.2.1.msgs.length (u 7).cap) else aW bV (.slice none 0 0)) 103 else bK)::bN ((D 8=true→u 8=u 7)∧(D 10=true→u 10=u 7))::(if D 5 then bY (.slice (u 5).ad B.length (u 5).cap) B else bK)::(if D 7 then FzF (u 7).H (Fh.le H (u 7).H) else Fz H)::(if D 7 then aC (u 7).H (.slice (u 7).ad P.2.2.1.msgs.length (u 7).cap) P.2.2.1.msgs else bK)::(if D 7 then aG (u 7).H pr P.1 else aG H pr s.r)::aP p pk pr pt::aA b3 (aL b (.slice bad b.l.length bcap)) 66::aX pk q s.k::aO H pt s.t::aB nameS q d::aA b4 zrc 68::R) (fun _=>{}) hs ?h0 (hVu:=?vu) (ho:=⟨dru,dru,dru,dru,dru,?c5,?c6,?c7,?c8,dru,?c10,dru,?c12,dru,?c14,dru,trivial⟩) (k:=?kk)
 case h0=>exact ((((hw.pm:Has 0 w0 W (aG H pr s.r::Fz H::aP p pk pr pt::aA b3 (aL b (.slice bad b.l.length bcap)) 66::aX pk q s.k::aO H pt s.t::aB nameS q d::aA b4 zrc 68::R)).free.free.fact (show (false=true→({}:Un)= {})∧(false=true→({}:Un)= {}) from ⟨fun _=>rfl,fun _=>rfl⟩))).free).pm
 case vu=>
  intro u u' j h
  rcases j with _|_|_|_|_|_|_|_|_|_|_|_|_|_|_|_|j
  all_goals first|rfl|simp [h]
 case c5=>
  intro u LD D a W hcl hi hp hs hw
  have n6:=Go.Sx.not_done hcl hi 6 (by kernel_rfl)
  have n7:=Go.Sx.not_done hcl n6 7 (by kernel_rfl)
  simp only [hi,n7,Bool.false_eq_true,if_false] at hw
  refine cle hs (hencode (by repeat (first|exact In.hd|apply In.tl)) hw) fun x a W _ hs hw=>?_
  refine Or.inr ⟨{ad:=x.1,cap:=x.2},hs,?_⟩
  show Has 0 w0 _ ((if D 12 then aA (u 12).n (if D 14 then aW P.2.2.1 (.slice (u 7).ad P.2.2.1.msgs.length (u 7).cap) else aW bV (.slice none 0 0)) 103 else bK)::bN ((D 8=true→u 8=u 7)∧(D 10=true→u 10=u 7))::bY (.slice x.1 B.length x.2) B::(if D 7=true then FzF (u 7).H (Fh.le H (u 7).H) else Fz H)::(if D 7=true then aC (u 7).H (.slice (u 7).ad P.2.2.1.msgs.length (u 7).cap) P.2.2.1.msgs else bK)::(if D 7=true then aG (u 7).H pr P.1 else aG H pr s.r)::aP p pk pr pt::aA b3 (aL b (.slice bad b.l.length bcap)) 66::aX pk q s.k::aO H pt s.t::aB nameS q d::aA b4 zrc 68::R)
  rw [n7]
  exact hw.sl
 case c6=>
  intro u LD D a W hcl hi hp hs hw
  have h5:=Go.Sx.done hp 5 (by kernel_rfl)
  have hw2:=hw
  simp only [h5,if_true] at hw2
  refine l7 hs (r:=hw2.rd_own (In.tl (In.tl In.hd))) (k:=fun a hs=>?_)
  exact Or.inl ⟨hs,hw⟩
 case c7=>
  intro u LD D a W hcl hi hp hs hw
  have h5:=Go.Sx.done hp 5 (by kernel_rfl)
  have n8:=Go.Sx.not_done hcl hi 8 (by kernel_rfl)
  have n10:=Go.Sx.not_done hcl n8 10 (by kernel_rfl)
  have n14:=Go.Sx.not_done hcl hi 14 (by kernel_rfl)
  simp only [hi,n14,Bool.false_eq_true,if_false] at hw
  have hw:Has 0 w0 W (aG H pr s.r::Fz H::(if D 12=true then aA (u 12).n (aW bV (.slice none 0 0)) 103 else bK)::(if D 5 then bY (.slice (u 5).ad B.length (u 5).cap) B else bK)::aP p pk pr pt::aA b3 (aL b (.slice bad b.l.length bcap)) 66::aX pk q s.k::aO H pt s.t::aB nameS q d::aA b4 zrc 68::R):=hw.sl
  refine aF hs (hc:=hprop hw) (k:=?_)
  rintro e' W' ⟨H2,x,rfl,hle2,hw⟩
  refine ⟨_,rfl,fun a hs=>?_⟩
  refine Or.inr ⟨{ad:=x.1,cap:=x.2,H:=H2},hs,?_⟩
  have hw:Has 0 w0 W' (Fz H2::aC H2 (.slice x.1 P.2.2.1.msgs.length x.2) P.2.2.1.msgs::aG H2 pr P.1::(if D 12=true then aA (u 12).n (aW bV (.slice none 0 0)) 103 else bK)::(if D 5 then bY (.slice (u 5).ad B.length (u 5).cap) B else bK)::aP p pk pr pt::aA b3 (aL b (.slice bad b.l.length bcap)) 66::aX pk q s.k::aO H pt s.t::aB nameS q d::aA b4 zrc 68::R):=hw.pm
  have hw:=(hw.fzf hle2).fact (show (false=true→u 8=({ad:=x.1,cap:=x.2,H:=H2}:Un))∧(false=true→u 10=({ad:=x.1,cap:=x.2,H:=H2}:Un)) from ⟨fun h=>(by cases h),fun h=>(by cases h)⟩)
  show Has 0 w0 W' ((if D 12=true then aA (u 12).n (if D 14=true then _ else aW bV (.slice none 0 0)) 103 else bK)::bN ((D 8=true→u 8=_)∧(D 10=true→u 10=_))::(if D 5 then bY (.slice (u 5).ad B.length (u 5).cap) B else bK)::FzF H2 (Fh.le H H2)::aC H2 (.slice x.1 P.2.2.1.msgs.length x.2) P.2.2.1.msgs::aG H2 pr P.1::aP p pk pr pt::aA b3 (aL b (.slice bad b.l.length bcap)) 66::aX pk q s.k::aO H pt s.t::aB nameS q d::aA b4 zrc 68::R)
  rw [n8,n10,n14]
  exact hw.pm
 case c8=>
  intro u LD D a W hcl hi hp hs hw
  have n10:=Go.Sx.not_done hcl hi 10 (by kernel_rfl)
  refine sv hs hw fun a hs=>?_
  refine Or.inr ⟨u 7,hs,?_⟩
  show Has 0 w0 _ ((if D 12 then aA (u 12).n (if D 14 then aW P.2.2.1 (.slice (u 7).ad P.2.2.1.msgs.length (u 7).cap) else aW bV (.slice none 0 0)) 103 else bK)::bN ((true=true→u 7=u 7)∧(D 10=true→u 10=u 7))::(if D 5 then bY (.slice (u 5).ad B.length (u 5).cap) B else bK)::(if D 7 then FzF (u 7).H (Fh.le H (u 7).H) else Fz H)::(if D 7 then aC (u 7).H (.slice (u 7).ad P.2.2.1.msgs.length (u 7).cap) P.2.2.1.msgs else bK)::(if D 7 then aG (u 7).H pr P.1 else aG H pr s.r)::aP p pk pr pt::aA b3 (aL b (.slice bad b.l.length bcap)) 66::aX pk q s.k::aO H pt s.t::aB nameS q d::aA b4 zrc 68::R)
  rw [n10]
  have hw:=hw.fact (show (true=true→u 7=u 7)∧(false=true→u 10=u 7) from ⟨fun _=>rfl,fun h=>(by cases h)⟩)
  exact hw.sl
 case c10=>
  intro u LD D a W hcl hi hp hs hw
  have h8:=Go.Sx.done hp 8 (by kernel_rfl)
  have hf:=hw.told (In.tl In.hd)
  refine sv hs hw fun a hs=>?_
  rw [hf.1 h8] at hs
  refine Or.inr ⟨u 7,hs,?_⟩
  show Has 0 w0 _ ((if D 12 then aA (u 12).n (if D 14 then aW P.2.2.1 (.slice (u 7).ad P.2.2.1.msgs.length (u 7).cap) else aW bV (.slice none 0 0)) 103 else bK)::bN ((D 8=true→u 8=u 7)∧(true=true→u 7=u 7))::(if D 5 then bY (.slice (u 5).ad B.length (u 5).cap) B else bK)::(if D 7 then FzF (u 7).H (Fh.le H (u 7).H) else Fz H)::(if D 7 then aC (u 7).H (.slice (u 7).ad P.2.2.1.msgs.length (u 7).cap) P.2.2.1.msgs else bK)::(if D 7 then aG (u 7).H pr P.1 else aG H pr s.r)::aP p pk pr pt::aA b3 (aL b (.slice bad b.l.length bcap)) 66::aX pk q s.k::aO H pt s.t::aB nameS q d::aA b4 zrc 68::R)
  have hw:=hw.fact (show (D 8=true→u 8=u 7)∧(true=true→u 7=u 7) from ⟨hf.1,fun _=>rfl⟩)
  exact hw.sl
 case c12=>
  intro u LD D a W hcl hi hp hs hw
  have n14:=Go.Sx.not_done hcl hi 14 (by kernel_rfl)
  simp only [hi,Bool.false_eq_true,if_false] at hw
  refine sn hs hw fun b a W hs hw=>?_
  refine Or.inr ⟨{n:=b},hs,?_⟩
  show Has 0 w0 _ (aA b (if (Nat.beq 14 12 || D 14)=true then _ else _) _::_)
  rw [n14]
  exact hw.fill Upd.hd
 case c14=>
  intro u LD D a W hcl hi hp hs hw
  have h12:=Go.Sx.done hp 12 (by kernel_rfl)
  have h10:=Go.Sx.done hp 10 (by kernel_rfl)
  have hf:=hw.told (In.tl In.hd)
  simp only [h12,hi,Bool.false_eq_true,if_false,if_true] at hw
  refine d6 hs (hw:=hw) (vs:=aW P.2.2.1 (.slice (u 10).ad P.2.2.1.msgs.length (u 10).cap)) (k:=fun W hs hw=>?_)
  refine Or.inl ⟨hs,?_⟩
  have hw:Has 0 w0 W (aA (u 12).n (aW P.2.2.1 (.slice (u 10).ad P.2.2.1.msgs.length (u 10).cap)) 103::bN ((D 8=true→u 8=u 7)∧(D 10=true→u 10=u 7))::(if D 5 then bY (.slice (u 5).ad B.length (u 5).cap) B else bK)::(if D 7 then FzF (u 7).H (Fh.le H (u 7).H) else Fz H)::(if D 7 then aC (u 7).H (.slice (u 7).ad P.2.2.1.msgs.length (u 7).cap) P.2.2.1.msgs else bK)::(if D 7 then aG (u 7).H pr P.1 else aG H pr s.r)::aP p pk pr pt::aA b3 (aL b (.slice bad b.l.length bcap)) 66::aX pk q s.k::aO H pt s.t::aB nameS q d::aA b4 zrc 68::R):=hw
  rw [show (aW P.2.2.1 (.slice (u 10).ad P.2.2.1.msgs.length (u 10).cap))=(aW P.2.2.1 (.slice (u 7).ad P.2.2.1.msgs.length (u 7).cap)) from by rw [hf.2 h10]] at hw
  show Has 0 w0 _ ((if D 12=true then _ else _)::_)
  rw [h12]
  exact hw
 case kk=>
 intro u a W hs hw
 have hw:Has 0 w0 W (FzF (u 7).H (Fh.le H (u 7).H)::aC (u 7).H (.slice (u 7).ad P.2.2.1.msgs.length (u 7).cap) P.2.2.1.msgs::aG (u 7).H pr P.1::aA (u 12).n (aW P.2.2.1 (.slice (u 7).ad P.2.2.1.msgs.length (u 7).cap)) 103::aP p pk pr pt::aA b3 (aL b (.slice bad b.l.length bcap)) 66::aX pk q s.k::aO H pt s.t::aB nameS q d::aA b4 zrc 68::R):=hw.sl
 obtain ⟨hle1,hw⟩:=hw.unfzf
 have hw:=hw.lz hle1
 replace hs:Slots a 118 [(0,ptr p),(3,ptr b3),(4,ptr b4),(11,ptr (u 12).n),(12,.int .i64 P.2.2.2)]:=hs.of ⟨rfl,rfl,rfl,rfl,rfl,trivial⟩
 obtain ⟨H1,hH1⟩:∃H1,H1=(u 7).H:=⟨_,rfl⟩
 obtain ⟨oad,hoad⟩:∃oad,oad=(u 7).ad:=⟨_,rfl⟩
 obtain ⟨ocap,hocap⟩:∃ocap,ocap=(u 7).cap:=⟨_,rfl⟩
 obtain ⟨b11,hb11⟩:∃b11,b11=(u 12).n:=⟨_,rfl⟩
 rw [←hH1] at hle1
 have hw:Has 0 w0 W (aP p pk pr pt::aX pk q s.k::aG H1 pr P.1::aO H1 pt s.t::aB nameS q d::Fz H1::aC H1 (.slice oad P.2.2.1.msgs.length ocap) P.2.2.1.msgs::aA b11 (aW P.2.2.1 (.slice oad P.2.2.1.msgs.length ocap)) 103::aA b3 (aL b (.slice bad b.l.length bcap)) 66::aA b4 zrc 68::R):=by rw [hH1,hoad,hocap,hb11];exact hw.pm
 rw [←hb11] at hs
 clear hH1 hoad hocap hb11
 refine sv hs hw fun a hs=>?_
 rw [show (P.2.2.2 !=0)=!(P.2.2.2 == 0) from rfl] at hs
 cases c6:P.2.2.2 == 0 with
 |false=>
  rw [c6] at hs
  have g6:P.2.2.2≠0:=by simpa using c6
  rw [if_pos g6] at h
  injection h with h
  injection h with e1 h
  injection h with e2 h
  injection h with e3 h
  injection h with e4 e5
  subst e1 e2 e3 e4 e5
  rw [hPe g6] at hw
  refine sx hs hw fun a W hs hw=>?_
  refine rc3 hs rfl rfl hw (by repeat (first|exact In.hd|apply In.tl)) rfl rfl rfl ⟨none,0,_,H1,rfl,hle1,?_⟩
  have hw:Has 0 w0 W (aP p pk pr pt::aX pk q s.k::aG H1 pr s.r::aO H1 pt s.t::aB nameS q d::Fz H1::R):=hw.sl
  exact kX (H:=H1) (l:=[]) ((i8 hw h1 h2).nilOwn 38 13) rfl
 |true=>
 rw [c6] at hs
 have g6:¬P.2.2.2≠0:=by simpa using c6
 rw [if_neg g6,Option.map_eq_some_iff] at h
 obtain ⟨⟨d2,s2,ms2⟩,h3,h4⟩:=h
 refine sx hs hw fun a W hs hw=>?_
 refine aF hs (hc:=xK (s:={s with r:=P.1}) h3 ht.1 (hH.trans hle1) hT hw) (k:=?_)
 rintro e' W ⟨v2,H2,rfl,hle2,hw⟩
 refine ⟨_,rfl,fun a hs=>?_⟩
 have hw:Has 0 w0 W (cM H2 p q s2::aB nameS q d2::Fz H2::aC H2 v2 ms2::aA b3 (aL b (.slice bad b.l.length bcap)) 66::aA b4 zrc 68::R):=hw.sl
 obtain ⟨h1',h2',pk,pr,pt,hw⟩:=kA hw
 have ht2:=nV h2'
 obtain ⟨mad,mcap,mxs,rfl,_,_⟩:=qC (hw.pm:Has 0 w0 W (aC H2 v2 ms2::aP p pk pr pt::aX pk q s2.k::aG H2 pr s2.r::aO H2 pt s2.t::aB nameS q d2::Fz H2::aA b3 (aL b (.slice bad b.l.length bcap)) 66::aA b4 zrc 68::R))
 obtain ⟨v2,hv2⟩:∃v2,v2=Value.slice mad ms2.length mcap:=⟨_,rfl⟩
 rw [←hv2] at hw hs
 replace hs:Slots a 118 [(86,v2),(0,ptr p),(3,ptr b3),(4,ptr b4)]:=hs.of ⟨rfl,rfl,rfl,rfl,trivial⟩
 refine zA hs hw ?_;clear hs;intro a hs
 refine fL (G:=0) (w:=w0) (σ:=Un) (V:=fun u=>[ptr p,ptr p,.pointer (some ⟨p,0+2,none⟩),ptr pt,.pointer (some ⟨b3,0+0,none⟩),.int .i64 b.c,.tuple ⟨[.agg ⟨aJ (cK (s2.t).f b.c) (.slice (u 6).ad (cK (s2.t).f b.c).b.l.length (u 6).cap)⟩,.bool (!(cQ (s2.t).f b.c == 0))]⟩,.tuple ⟨[.agg ⟨aJ (cK (s2.t).f b.c) (.slice (u 7).ad (cK (s2.t).f b.c).b.l.length (u 7).cap)⟩,.bool (!(cQ (s2.t).f b.c == 0))]⟩,.agg ⟨aJ (cK (s2.t).f b.c) (.slice (u 8).ad (cK (s2.t).f b.c).b.l.length (u 8).cap)⟩,.bool (!(cQ (s2.t).f b.c == 0)),ptr (u 10).n,.bool true,.bool (!(cQ (s2.t).f b.c == 0))])
  (Rs:=fun u D=>(if D 10 then aA (u 10).n (if D 11 then aJ (cK (s2.t).f b.c) (.slice (u 6).ad (cK (s2.t).f b.c).b.l.length (u 6).cap) else zrc) 68 else bK)::bN ((D 7=true→u 7=u 6)∧(D 8=true→u 8=u 6))::(if D 6 then FzF (u 6).H (Fh.le (H2) (u 6).H) else Fz (H2))::(if D 6 then aO (u 6).H pt (s2.t) else aO (H2) pt (s2.t))::aP p pk pr pt::aA b3 (aL b (.slice bad b.l.length bcap)) 66::aX pk q s2.k::aG H2 pr s2.r::aB nameS q d2::aC H2 v2 ms2::aA b4 zrc 68::R) (fun _=>{}) hs ?h0 (hVu:=?vu) (ho:=⟨dru,dru,dru,dru,dru,dru,?c6,?c7,?c8,dru,?c10,?c11,dru,trivial⟩) (k:=?kk)
 case h0=>exact (((hw.pm:Has 0 w0 W (Fz (H2)::aO (H2) pt (s2.t)::aP p pk pr pt::aA b3 (aL b (.slice bad b.l.length bcap)) 66::aX pk q s2.k::aG H2 pr s2.r::aB nameS q d2::aC H2 v2 ms2::aA b4 zrc 68::R)).fact (show (false=true→({}:Un)= {})∧(false=true→({}:Un)= {}) from ⟨fun _=>rfl,fun _=>rfl⟩))).free
 case vu=>
  intro u u' j h
  rcases j with _|_|_|_|_|_|_|_|_|_|_|_|_|j
  all_goals first|rfl|simp [h]
 case c6=>
  intro u LD D a W hcl hi hp hs hw
  have n7:=Go.Sx.not_done hcl hi 7 (by kernel_rfl)
  have n8:=Go.Sx.not_done hcl n7 8 (by kernel_rfl)
  have n11:=Go.Sx.not_done hcl hi 11 (by kernel_rfl)
  simp only [hi,n11,Bool.false_eq_true,if_false] at hw
  have hw:Has 0 w0 W (aO (H2) pt (s2.t)::Fz (H2)::(if D 10=true then aA (u 10).n zrc 68 else bK)::aP p pk pr pt::aA b3 (aL b (.slice bad b.l.length bcap)) 66::aX pk q s2.k::aG H2 pr s2.r::aB nameS q d2::aC H2 v2 ms2::aA b4 zrc 68::R):=hw.sl
  refine aF hs (hc:=aBx b.c (ht2.2.2) hw) (k:=?_)
  rintro e' W' ⟨sv,Hn,rfl,hlen2,hop2,hw⟩
  refine ⟨_,rfl,fun a hs=>?_⟩
  obtain ⟨tad,tcap,rfl⟩:=hop2.slice
  refine Or.inr ⟨{ad:=tad,cap:=tcap,H:=Hn},hs,?_⟩
  have hw:Has 0 w0 W' (Fz Hn::aO Hn pt (s2.t)::(if D 10=true then aA (u 10).n zrc 68 else bK)::aP p pk pr pt::aA b3 (aL b (.slice bad b.l.length bcap)) 66::aX pk q s2.k::aG H2 pr s2.r::aB nameS q d2::aC H2 v2 ms2::aA b4 zrc 68::R):=hw.pm
  have hw:=(hw.fzf hlen2).fact (show (false=true→u 7=({ad:=tad,cap:=tcap,H:=Hn}:Un))∧(false=true→u 8=({ad:=tad,cap:=tcap,H:=Hn}:Un)) from ⟨fun h=>(by cases h),fun h=>(by cases h)⟩)
  show Has 0 w0 W' ((if D 10=true then aA (u 10).n (if D 11=true then _ else zrc) 68 else bK)::bN ((D 7=true→u 7=_)∧(D 8=true→u 8=_))::FzF Hn (Fh.le (H2) Hn)::aO Hn pt (s2.t)::aP p pk pr pt::aA b3 (aL b (.slice bad b.l.length bcap)) 66::aX pk q s2.k::aG H2 pr s2.r::aB nameS q d2::aC H2 v2 ms2::aA b4 zrc 68::R)
  rw [n7,n8,n11]
  exact hw.pm
 case c7=>
  intro u LD D a W hcl hi hp hs hw
  have h6:=Go.Sx.done hp 6 (by kernel_rfl)
  have n8:=Go.Sx.not_done hcl hi 8 (by kernel_rfl)
  refine sv hs hw fun a hs=>?_
  refine Or.inr ⟨u 6,hs,?_⟩
  show Has 0 w0 _ ((if D 10 then aA (u 10).n (if D 11 then aJ (cK (s2.t).f b.c) (.slice (u 6).ad (cK (s2.t).f b.c).b.l.length (u 6).cap) else zrc) 68 else bK)::bN ((true=true→u 6=u 6)∧(D 8=true→u 8=u 6))::(if D 6 then FzF (u 6).H (Fh.le (H2) (u 6).H) else Fz (H2))::(if D 6 then aO (u 6).H pt (s2.t) else aO (H2) pt (s2.t))::aP p pk pr pt::aA b3 (aL b (.slice bad b.l.length bcap)) 66::aX pk q s2.k::aG H2 pr s2.r::aB nameS q d2::aC H2 v2 ms2::aA b4 zrc 68::R)
  rw [n8]
  have hw:=hw.fact (show (true=true→u 6=u 6)∧(false=true→u 8=u 6) from ⟨fun _=>rfl,fun h=>(by cases h)⟩)
  exact hw.sl
 case c8=>
  intro u LD D a W hcl hi hp hs hw
  have h7:=Go.Sx.done hp 7 (by kernel_rfl)
  have hf:=hw.told (In.tl In.hd)
  refine sv hs hw fun a hs=>?_
  rw [hf.1 h7] at hs
  refine Or.inr ⟨u 6,hs,?_⟩
  show Has 0 w0 _ ((if D 10 then aA (u 10).n (if D 11 then aJ (cK (s2.t).f b.c) (.slice (u 6).ad (cK (s2.t).f b.c).b.l.length (u 6).cap) else zrc) 68 else bK)::bN ((D 7=true→u 7=u 6)∧(true=true→u 6=u 6))::(if D 6 then FzF (u 6).H (Fh.le (H2) (u 6).H) else Fz (H2))::(if D 6 then aO (u 6).H pt (s2.t) else aO (H2) pt (s2.t))::aP p pk pr pt::aA b3 (aL b (.slice bad b.l.length bcap)) 66::aX pk q s2.k::aG H2 pr s2.r::aB nameS q d2::aC H2 v2 ms2::aA b4 zrc 68::R)
  have hw:=hw.fact (show (D 7=true→u 7=u 6)∧(true=true→u 6=u 6) from ⟨hf.1,fun _=>rfl⟩)
  exact hw.sl
 case c10=>
  intro u LD D a W hcl hi hp hs hw
  have n11:=Go.Sx.not_done hcl hi 11 (by kernel_rfl)
  simp only [hi,Bool.false_eq_true,if_false] at hw
  refine sn hs hw fun b a W hs hw=>?_
  refine Or.inr ⟨{n:=b},hs,?_⟩
  show Has 0 w0 _ (aA b (if (Nat.beq 11 10 || D 11)=true then _ else _) _::_)
  rw [n11]
  exact hw.fill Upd.hd
 case c11=>
  intro u LD D a W hcl hi hp hs hw
  have h10:=Go.Sx.done hp 10 (by kernel_rfl)
  have h8:=Go.Sx.done hp 8 (by kernel_rfl)
  have hf:=hw.told (In.tl In.hd)
  simp only [h10,hi,Bool.false_eq_true,if_false,if_true] at hw
  refine d6 hs (hw:=hw) (vs:=aJ (cK (s2.t).f b.c) (.slice (u 8).ad (cK (s2.t).f b.c).b.l.length (u 8).cap)) (k:=fun W hs hw=>?_)
  refine Or.inl ⟨hs,?_⟩
  have hw:Has 0 w0 W (aA (u 10).n (aJ (cK (s2.t).f b.c) (.slice (u 8).ad (cK (s2.t).f b.c).b.l.length (u 8).cap)) 68::bN ((D 7=true→u 7=u 6)∧(D 8=true→u 8=u 6))::(if D 6 then FzF (u 6).H (Fh.le (H2) (u 6).H) else Fz (H2))::(if D 6 then aO (u 6).H pt (s2.t) else aO (H2) pt (s2.t))::aP p pk pr pt::aA b3 (aL b (.slice bad b.l.length bcap)) 66::aX pk q s2.k::aG H2 pr s2.r::aB nameS q d2::aC H2 v2 ms2::aA b4 zrc 68::R):=hw
  rw [show (aJ (cK (s2.t).f b.c) (.slice (u 8).ad (cK (s2.t).f b.c).b.l.length (u 8).cap))=(aJ (cK (s2.t).f b.c) (.slice (u 6).ad (cK (s2.t).f b.c).b.l.length (u 6).cap)) from by rw [hf.2 h8]] at hw
  show Has 0 w0 _ ((if D 10=true then _ else _)::_)
  rw [h10]
  exact hw
 case kk=>
 intro u a W hs hw
 have hw:Has 0 w0 W (FzF (u 6).H (Fh.le (H2) (u 6).H)::aO (u 6).H pt (s2.t)::aA (u 10).n (aJ (cK (s2.t).f b.c) (.slice (u 6).ad (cK (s2.t).f b.c).b.l.length (u 6).cap)) 68::aP p pk pr pt::aA b3 (aL b (.slice bad b.l.length bcap)) 66::aX pk q s2.k::aG H2 pr s2.r::aB nameS q d2::aC H2 v2 ms2::aA b4 zrc 68::R):=hw.sl
 obtain ⟨hle9,hw⟩:=hw.unfzf
 have hle2:=hle2.trans hle9
 have hw:=hw.lz hle9
 replace hs:Slots a 118 [(0,ptr p),(3,ptr b3),(4,ptr b4),(13,v2),(14,ptr (u 10).n)]:=hs.of ⟨rfl,rfl,rfl,rfl,rfl,trivial⟩
 obtain ⟨H3,hH3⟩:∃H3,H3=(u 6).H:=⟨_,rfl⟩
 obtain ⟨b14,hb14⟩:∃b14,b14=(u 10).n:=⟨_,rfl⟩
 obtain ⟨rad,hrad⟩:∃rad,rad=(u 6).ad:=⟨_,rfl⟩
 obtain ⟨rcap,hrcap⟩:∃rcap,rcap=(u 6).cap:=⟨_,rfl⟩
 have hw:Has 0 w0 W (aP p pk pr pt::aX pk q s2.k::aG H3 pr s2.r::aO H3 pt s2.t::aB nameS q d2::Fz H3::aC H3 v2 ms2::aA b14 (aJ (cK s2.t.f b.c) (.slice rad (cK s2.t.f b.c).b.l.length rcap)) 68::aA b3 (aL b (.slice bad b.l.length bcap)) 66::aA b4 zrc 68::R):=by rw [hH3,hb14,hrad,hrcap];exact hw.pm
 rw [←hb14] at hs
 rw [←hH3] at hle2
 clear hH3 hb14 hrad hrcap hle9
 have hfin:∀{W} {cs:List Value} {cs':List Value},Has 0 w0 W (aP p pk pr pt::aX pk q s2.k::aG H3 pr s2.r::aO H3 pt s2.t::aB nameS q d2::Fz H3::aC H3 v2 ms2::aA b14 cs 68::aA b3 (aL b (.slice bad b.l.length bcap)) 66::aA b4 cs' 68::R)→Has 0 w0 W (aC H3 v2 ms2::cM H3 p q s2::aB nameS q d2::Fz H3::R):=fun g=>by
  have g:=i8 g h1' h2'
  exact g.sl
 refine sx hs hw fun a W hs hw=>?_
 refine bF [6] [.f 0 0,.f 0 0,.f 0 0,.f 0 0,.f 0 0,.f 0 0,.m 0,.f 0 1,.f 0 1,.f 1 1,.f 1 1] [.c0 _,.c0 _,.c0 _,.c0 _,.c0 _,.c0 _,.c1 (fun x=> .int .i64 (cQ s2.t.f b.c)),.c0 _,.c0 _,.c1 _,.c1 _] (aP p pk pr pt::aX pk q s2.k::aG H3 pr s2.r::aO H3 pt s2.t::aB nameS q d2::Fz H3::aC H3 v2 ms2::aA b14 (aJ (cK s2.t.f b.c) (.slice rad (cK s2.t.f b.c).b.l.length rcap)) 68::aA b3 (aL b (.slice bad b.l.length bcap)) 66::aA b4 zrc 68::R) (fun x=>aP p pk pr pt::aX pk q s2.k::aG H3 pr s2.r::aO H3 pt s2.t::aB nameS q d2::Fz H3::aC H3 v2 ms2::aA b14 (aJ (cK s2.t.f b.c) (.slice rad (cK s2.t.f b.c).b.l.length rcap)) 68::aA b3 (aL b (.slice bad b.l.length bcap)) 66::aA b4 zrc 68::R) (fun x y=>[]) (fun x y z=>[]) (fun x y z t=>[]) hs hw ?kk ⟨drs,drs,drs,drs,drs,drs,?m0,drs,drs,drs,drs,trivial⟩
 case m0=>
  intro x y z u LD a W hs hw
  have hw:Has 0 w0 W (aO H3 pt s2.t::aP p pk pr pt::aX pk q s2.k::aG H3 pr s2.r::aB nameS q d2::Fz H3::aC H3 v2 ms2::aA b14 (aJ (cK s2.t.f b.c) (.slice rad (cK s2.t.f b.c).b.l.length rcap)) 68::aA b3 (aL b (.slice bad b.l.length bcap)) 66::aA b4 zrc 68::R):=hw.pm
  refine cl hs (aBw b.c hw) fun a W hs hw=>?_
  exact ⟨{},hs,hw.pm⟩
 case kk=>
 intro _ a W hs hw
 cases c7:cQ s2.t.f b.c == b.q with
 |true=>
  rw [c7] at hs
  rw [if_pos (show cQ (d2,s2,ms2).2.1.t.f b.c=b.q by simpa using c7)] at h4
  injection h4 with e1 h4
  injection h4 with e2 h4
  injection h4 with e3 h4
  injection h4 with e4 e5
  subst e1 e2 e3 e4 e5
  refine sx hs hw fun a W hs hw=>?_
  exact rc3 hs rfl rfl hw (by repeat (first|exact In.hd|apply In.tl)) rfl rfl rfl ⟨rad,rcap,_,H3,rfl,hle1.trans hle2,hfin hw⟩
 |false=>
  rw [c7] at hs
  rw [if_neg (show¬cQ (d2,s2,ms2).2.1.t.f b.c=b.q by simpa using c7)] at h4
  injection h4 with e1 h4
  injection h4 with e2 h4
  injection h4 with e3 h4
  injection h4 with e4 e5
  subst e1 e2 e3 e4 e5
  refine sx hs hw fun a W hs hw=>?_
  exact rc3 hs rfl rfl hw (by repeat (first|exact In.hd|apply In.tl)) rfl rfl rfl ⟨none,0,_,H3,rfl,hle1.trans hle2,hfin hw⟩
end
end Go.Proofs.YtgpbngfehfbndaaGreatDoor.Sw
namespace Go.Sx
open Go.RowKit
section
variable {P:Program} {ops:Array Oper} {aD:List Oper} {Q:Exit→Act→World→Prop} {a:Act} {n G:Nat} {L:List (Nat×Value)} {w W:World} {R:List Res} {d:Nat} {T S S' E E':TypeId} {p:String} {e:Array Edge} {x y lo hi mx:Operand} {v u:Value} {cur xs news:List Value} {g i j k m len cap size bytes:Nat} {q q' q'':IntKind} {z:List Value}
theorem aIH {agg:Bool} [sl:Sl P S E] [t:Ty P E agg z] (hs:Slots a n L) (h1:i≤j) (h2:j≤m) (h3:m≤cap) (c:∀a' v,Slots a' n ((d,v)::L)→wpList P ops Q aD a' W) (hx:ev L x=some (.slice (some ⟨g,0,none⟩) len cap):=by with_unfolding_all exact rfl) (hl:ev L lo=some (.int q (i:Int)):=by with_unfolding_all exact rfl) (hh:ev L hi=some (.int q' (j:Int)):=by with_unfolding_all exact rfl) (hm:ev L mx=some (.int q'' (m:Int)):=by with_unfolding_all exact rfl) (hd:Nat.blt d n=true:=by with_unfolding_all exact rfl):
  wpList P ops Q (⟨some d,.slice S x (some lo) (some hi) (some mx),T,p,e,none⟩::aD) a W:=by
 have hb:∀(k y:Nat) (c:BoundsCode) (q:IntKind),k≤y→(Instr.sliceBound (.int q (k:Int)) y c).run P W= .ok k W:=by
  intro k y c q hy
  have:(0:Int)≤(k:Int)∧(k:Int)≤(y:Int):=⟨by omega,by omega⟩
  simp only [Instr.sliceBound,asIntOf,Sem.run_bind,Sem.run_pure,Result.andThen_ok]
  rw [if_pos this]
  simp
 have hbs:(Instr.sliceBounds true len cap (some (.int q (i:Int))) (some (.int q' (j:Int))) (some (.int q'' (m:Int)))).run P W= .ok (i,j,m) W:=by
  unfold Instr.sliceBounds
  simp [hb m cap .slice3Acap q'' h3,hb j m .slice3B q' h2,hb i j .slice3C q h1]
 have hv:∃v,(Instr.sliceAt S (.slice (some ⟨g,0,none⟩) len cap) (some (.int q (i:Int))) (some (.int q' (j:Int))) (some (.int q'' (m:Int)))).run P W= .ok v W:=by
  simp only [Instr.sliceAt,Instr.slice,Sem.run_bind,run_underlying sl.out,Result.andThen_ok,hbs,t.sizeOf,Sem.run_pure]
  by_cases h0:m - i=0
  ·simp
  ·simp
 obtain ⟨v,hv⟩:=hv
 refine bO hs hd (v:=v) (W':=W) ?_ fun a' hs'=>c a' v hs'
 simp only [execOp,Option.map_some,hs.ev hx,hs.ev hl,hs.ev hh,hs.ev hm,Sem.run_bind,hv,Result.andThen_ok]
 rfl
theorem aII [sl:Sl P S E] [el:El P E size bytes] (hs:Slots a n L) (hw:Has G w W (aA g cur E'::R)) (hsrc:Src P size S' u m news W) (hroom:k+m≤cap) (hl:k*size+news.length≤cur.length) (c:∀a' W',Slots a' n ((d,.slice (some ⟨g,0,none⟩) (k+m) cap)::L)→Has G w W' (aA g (ov cur (k*size) news) E'::R)→wpList P ops Q aD a' W') (hx:ev L x=some (.slice (some ⟨g,0,none⟩) k cap):=by with_unfolding_all exact rfl) (hy:ev L y=some u:=by with_unfolding_all exact rfl) (hd:Nat.blt d n=true:=by with_unfolding_all exact rfl):
  wpList P ops Q (⟨some d,.call {callee:= .builtin .append,args:=#[x,y],argTypes:=#[S,S']},T,p,e,none⟩::aD) a W:=by
 obtain ⟨i,z,h1,h2,h3,h4,h5⟩:=el.out
 subst h4 h5
 have hg:=(hw.block In.hd).1
 have hst:=oJ (P:=P) (b:=g) (T:=E') (k*i.size) news 0 cur W hg (by rw [Nat.add_zero];exact hl) hsrc.one
 rw [Nat.add_zero] at hst
 have hr:(Builtin.append_ #[S,S'] T #[.slice (some ⟨g,0,none⟩) k cap,u]).run P W= .ok (.slice (some ⟨g,0,none⟩) (k+m) cap) (put W g (.cells ⟨ov cur (k*i.size) news⟩ E' (0,0))):=by
  rcases hsrc.kind with ⟨e',hk⟩|hk <;> simp [Builtin.append_,run_underlying sl.out,run_underlying hk,sizeOf,typeInfo,h1,hsrc.len,hsrc.cells,hroom,eF,hst]
 refine bO hs hd (v:= .slice (some ⟨g,0,none⟩) (k+m) cap) (W':=put W g (.cells ⟨ov cur (k*i.size) news⟩ E' (0,0))) ?_ fun a' hs'=>c a' _ hs' ?_
 ·simp only [execOp,resolve,invoke,builtin,Sem.run_bind,Sem.run_pure,Result.andThen_ok,List.map_toArray,List.map_cons,List.map_nil,hs.ev hx,hs.ev hy,hr]
 ·exact hw.set Upd.hd (by simp [put]) rfl rfl rfl (fun c hc=>rD hc) (oI (jA hg))
theorem aIJ {agg:Bool} [sl:Sl P S E] [t:Ty P E agg z] (hs:Slots a n L) (h1:i≤j) (h2:j≤cap) (h3:i<cap) (c:∀a',Slots a' n ((d,.slice (some ⟨g,i*z.length,none⟩) (j - i) (cap - i))::L)→wpList P ops Q aD a' W) (hx:ev L x=some (.slice (some ⟨g,0,none⟩) len cap):=by with_unfolding_all exact rfl) (hl:ev L lo=some (.int q (i:Int)):=by with_unfolding_all exact rfl) (hh:ev L hi=some (.int q' (j:Int)):=by with_unfolding_all exact rfl) (hd:Nat.blt d n=true:=by with_unfolding_all exact rfl):
  wpList P ops Q (⟨some d,.slice S x (some lo) (some hi) none,T,p,e,none⟩::aD) a W:=by
 have hb:∀(k y:Nat) (c:BoundsCode) (q:IntKind),k≤y→(Instr.sliceBound (.int q (k:Int)) y c).run P W= .ok k W:=by
  intro k y c q hy
  have:(0:Int)≤(k:Int)∧(k:Int)≤(y:Int):=⟨by omega,by omega⟩
  simp only [Instr.sliceBound,asIntOf,Sem.run_bind,Sem.run_pure,Result.andThen_ok]
  rw [if_pos this]
  simp
 have hbs:(Instr.sliceBounds true len cap (some (.int q (i:Int))) (some (.int q' (j:Int))) none).run P W= .ok (i,j,cap) W:=by
  unfold Instr.sliceBounds
  simp [hb j cap .sliceAcap q' h2,hb i j .sliceB q h1]
 refine bO hs hd (v:= .slice (some ⟨g,i*z.length,none⟩) (j - i) (cap - i)) (W':=W) ?_ c
 simp only [execOp,Option.map_some,Option.map_none,hs.ev hx,hs.ev hl,hs.ev hh,Instr.sliceAt,Instr.slice,Sem.run_bind,run_underlying sl.out,Result.andThen_ok,hbs,t.sizeOf,Sem.run_pure]
 rw [if_neg (by omega)]
 simp [eF]
theorem aIK {agg:Bool} {o c':Nat} [sl:Sl P S E] [t:Ty P E agg z] (hs:Slots a n L) (hw:Has G w W (aA g cur E'::R)) (hz0:0<z.length) (h1:∀u∈z,u.oneCell'=true) (hl:o+z.length≤cur.length) (c:∀W',Slots a n L→Has G w W' (aA g (ov cur o z) E'::R)→wpList P ops Q aD a W') (hx:ev L x=some (.slice (some ⟨g,o,none⟩) 1 c'):=by with_unfolding_all exact rfl):
  wpList P ops Q (⟨none,.call {callee:= .builtin .clear,args:=#[x],argTypes:=#[S]},T,p,e,none⟩::aD) a W:=by
 have hg:=(hw.block In.hd).1
 have hst:=oJ (P:=P) (b:=g) (T:=E') o z 0 cur W hg (by rw [Nat.add_zero];exact hl) h1
 rw [Nat.add_zero] at hst
 obtain ⟨zv,hz1,hz2⟩:=t.zero W
 have hzc:(Builtin.zeroCells zv.cells 1).toList=z:=by
  have h9:=uN z hz0 1
  rw [Nat.one_mul] at h9
  have h10:rep 1 z=z:=by show z ++ []=z;simp
  rw [hz2]
  unfold Builtin.zeroCells
  rw [Array.toList_map,Array.toList_range,Nat.one_mul]
  exact h9.trans h10
 have hr:(Builtin.clear_ #[S] T #[.slice (some ⟨g,o,none⟩) 1 c']).run P W= .ok (.tuple #[]) (put W g (.cells ⟨ov cur o z⟩ E' (0,0))):=by
  simp [Builtin.clear_,run_underlying sl.out,hz1,hzc,hst]
 refine z8 hs (v:= .tuple #[]) (W':=put W g (.cells ⟨ov cur o z⟩ E' (0,0))) ?_ fun hs'=>c _ hs' ?_
 ·simp only [execOp,resolve,invoke,builtin,Sem.run_bind,Sem.run_pure,Result.andThen_ok,List.map_toArray,List.map_cons,List.map_nil,hs.ev hx,hr]
 ·exact hw.set Upd.hd (by simp [put]) rfl rfl rfl (fun c hc=>rD hc) (oI (jA hg))
end
end Go.Sx
namespace Go.Proofs.YtgpbngfehfbndaaGreatDoor.Sw
open Go.RowKit Go.Sx
section
variable {H H':Fh} {p:Nat} {w0 W:World} {R L:List Res} {l:List bP}
abbrev eX (p:Nat) (v:Value):Res:=aA p [v] 88
def qQ (l:List bP):Prop:=l.length≤400∧∀m∈l,m.es.length≤8
def aM (H:Fh) (p:Nat) (l:List bP):Res:=Ex fun v:Value=>eX p v::aC H v l::bN (qQ l):: []
theorem aIL {v:Value} (h:Has 0 w0 W (eX p v::aC H v l::R)) (hl:qQ l):Has 0 w0 W (aM H p l::R):=Has.shut v ((h.fact hl).pm)
theorem qR (h:Has 0 w0 W (aM H p l::R)):qQ l∧∃ad cap xs,Ch (MsgIn H) l xs∧Has 0 w0 W (Sx.Own 38 13 (.slice ad l.length cap) l.length xs::eX p (.slice ad l.length cap)::R):=by
 obtain ⟨v,h⟩:=Has.open h
 have h:Has 0 w0 W (eX p v::aC H v l::bN (qQ l)::R):=h
 have hl:=h.told (In.tl (In.tl In.hd))
 obtain ⟨ad,cap,xs,rfl,hc,h⟩:=qC (h.sl:Has 0 w0 W (aC H v l::eX p v::R))
 exact ⟨hl,ad,cap,xs,hc,h⟩
theorem mV {v:Value} {xs:List Value} (h:Has 0 w0 W (Sx.Own 38 13 v l.length xs::eX p v::R)) (hc:Ch (MsgIn H) l xs) (hl:qQ l):Has 0 w0 W (aM H p l::R):=aIL ((kX h hc).swap2) hl
theorem aIM (h:Has 0 w0 W (aM H p l::R)) (hl:H.le H'):Has 0 w0 W (aM H' p l::R):=by
 obtain ⟨h4,ad,cap,xs,hc,h⟩:=qR h
 exact mV h (hc.mono (MsgIn.le hl)) h4
instance (H H':Fh) (p:Nat) (l:List bP):gS H H' (aM H p l) (aM H' p l):=⟨fun hl h=>aIM h hl⟩
theorem aIN (hw:Has 0 w0 W R):Calls Tryz.prog 74 ⟨[]⟩ W fun e W'=>∃p:Nat,e= .returned (ptr p)∧True∧Has 0 w0 W' (aM H p []::R):=by
 refine enter Tryz.func74 Tryz.ntmps74 rfl rfl fun a hs=>?_
 refine sv hs hw fun a hs=>?_
 refine sn hs hw fun b a W hs hw=>?_
 refine sv hs hw fun a hs=>?_
 refine rt1 hs rfl rfl ⟨b,rfl,trivial,?_⟩
 exact mV (l:=[]) (v:= .slice none 0 0) (xs:=[]) (hw.nilOwn 38 13) rfl ⟨by decide,fun m h=>(by cases h)⟩
theorem oB (hw:Has 0 w0 W (aM H p l::R)):Calls Tryz.prog 14 ⟨[ptr p]⟩ W fun e W'=>e= .returned (.int .i64 (l.length:Int))∧Has 0 w0 W' (aM H p l::R):=by
 obtain ⟨h4,ad,cap,xs,hc,hw⟩:=qR hw
 refine enter Tryz.func14 Tryz.ntmps14 rfl rfl fun a hs=>?_
 refine sv hs hw fun a hs=>?_
 exact rt1 hs rfl rfl ⟨rfl,mV hw hc h4⟩
theorem aCN (m:bP) (v:Value) (hm:fO H v m.es) (he:m.es.length≤1000) (hw:Has 0 w0 W (Fz H::R)):
  Calls Tryz.prog 47 ⟨[.agg ⟨aH m v⟩]⟩ W fun e W'=>∃(v':Value) (H':Fh),e= .returned (.agg ⟨aH m v'⟩)∧H.le H'∧fO H' v' m.es∧Has 0 w0 W' (Fz H'::R):=by
 obtain ⟨mad,mcap,rfl⟩:=hm.slice
 refine enter Tryz.func47 Tryz.ntmps47 rfl rfl fun a hs=>?_
 refine sc hs ?_
 refine sn hs hw fun b1 a W hs hw=>?_
 refine sn hs hw fun b2 a W hs hw=>?_
 refine sv hs hw fun a hs=>?_
 refine cle hs (sQ w0 W m.es _ _ he (fun h=>h.rdH (In.tl (In.tl In.hd)) hm) hw) fun x a W _ hs hw=>?_
 refine sx hs hw fun a W hs hw=>?_
 have hw:Has 0 w0 W (bC (.slice x.1 m.es.length x.2) m.es::Fz H::aA b2 (aH m (.slice x.1 m.es.length x.2)) 38::R):=hw.sl
 obtain ⟨H',hle,hw,hes⟩:=hw.freeze_own
 refine rc1 hs rfl rfl hw (by repeat (first|exact In.hd|apply In.tl)) rfl ⟨_,H',rfl,hle,hes,hw.sl⟩
theorem aIO {m:bP} (hw:Has 0 w0 W (aM H p (m::l)::Fz H::R)):
  Calls Tryz.prog 15 ⟨[ptr p,.int .i64 0]⟩ W fun e W'=>∃(v:Value) (H':Fh),e= .returned (.tuple ⟨[.agg ⟨aH m v⟩,.bool true]⟩)∧H.le H'∧fO H' v m.es∧m.snap.conf.size≤1000000∧Has 0 w0 W' (aM H' p (m::l)::Fz H'::R):=by
 refine enter Tryz.func15 Tryz.ntmps15 rfl rfl fun a hs=>?_
 refine sc hs ?_
 refine sn hs hw fun b4 a W hs hw=>?_
 refine sv hs hw fun a hs=>?_
 have hw:Has 0 w0 W (aM H p (m::l)::Fz H::aA b4 i7 38::R):=hw.pm
 refine cl hs (oB hw) fun a W hs hw=>?_
 refine sv hs hw fun a hs=>?_
 rw [show decide ((0:Int)≥(((m::l).length:Nat):Int))=false from decide_eq_false (by rw [List.length_cons];omega)] at hs
 obtain ⟨h4,ad,cap,xs,hc,hw⟩:=qR hw
 have hm8:=h4.2 m (List.mem_cons_self ..)
 refine sx hs hw fun a W hs hw=>?_
 refine fZ hs (i:=0) (r:=hw.rd_own In.hd) (hk:=MsgIn.len) (ch:=hc) (ho:=show (m::l)[0]? =some m from rfl) (hlen:=rfl) (c:=fun a g off c hmc hcl hpc hlt hs=>?_)
 obtain ⟨v,rfl,hev,hcs⟩:=hmc
 refine eC hs (z:=i7) (cs:=aH m v) (hc:=hpc) (hl:=by rfl) (c:=fun a hs=>?_)
 have hw:Has 0 w0 W (Fz H::Sx.Own 38 13 (.slice ad (m::l).length cap) (m::l).length xs::eX p (.slice ad (m::l).length cap)::aA b4 i7 38::R):=hw.pm
 refine aF hs (hc:=aCN m v hev (by omega) hw) (k:=?_)
 rintro e' W' ⟨v',H',rfl,hle,hev',hw⟩
 refine ⟨_,rfl,fun a hs=>?_⟩
 obtain ⟨vad,vcap,rfl⟩:=hev'.slice
 refine sx hs hw fun a W hs hw=>?_
 refine rc2 hs rfl rfl hw (by repeat (first|exact In.hd|apply In.tl)) rfl rfl ⟨_,H',rfl,hle,hev',hcs,?_⟩
 have hw:Has 0 w0 W (Sx.Own 38 13 (.slice ad (m::l).length cap) (m::l).length xs::eX p (.slice ad (m::l).length cap)::Fz H'::R):=hw.sl
 exact mV hw (hc.mono (MsgIn.le hle)) h4
end
section
variable {H H':Fh} {p:Nat} {w0 W:World} {R L:List Res} {l:List bP}
theorem aIP (m:bP) (v:Value) (hm:fO H v m.es) (hcs:m.snap.conf.size≤1000000) (hw:Has 0 w0 W (aM H p l::Fz H::R)):
  Calls Tryz.prog 77 ⟨[ptr p,.agg ⟨aH m v⟩]⟩ W fun e W'=>∃(b:Bool) (H':Fh),e= .returned (.bool b)∧H.le H'∧Has 0 w0 W' (aM H' p (nW l m)::Fz H'::R):=by
 obtain ⟨mad,mcap,rfl⟩:=hm.slice
 obtain ⟨hf,ad,cap,xs,hch,hw⟩:=qR hw
 refine enter Tryz.func77 Tryz.ntmps77 rfl rfl fun a hs=>?_
 refine sc hs ?_
 refine sn hs hw fun b3 a W hs hw=>?_
 have hw:Has 0 w0 W (aA b3 (aH m (.slice mad m.es.length mcap)) 38::Sx.Own 38 13 (.slice ad l.length cap) l.length xs::eX p (.slice ad l.length cap)::Fz H::R):=hw
 have fin0:∀{W},Has 0 w0 W (aA b3 (aH m (.slice mad m.es.length mcap)) 38::Sx.Own 38 13 (.slice ad l.length cap) l.length xs::eX p (.slice ad l.length cap)::Fz H::R)→Has 0 w0 W (aM H p l::Fz H::R):=fun h=>mV (h.sub (List.Sublist.cons _ (List.Sublist.refl _))) hch hf
 refine sx hs hw fun a W hs hw=>?_
 refine cl hs (aB2 m _ hm hcs (by repeat (first|exact In.hd|apply In.tl)) hw) fun a W hs hw=>?_
 cases c1:iH m with
 |false=>
  rw [c1] at hs
  refine sv hs hw fun a hs=>?_
  refine rt1 hs rfl rfl ⟨false,H,rfl,Fh.le.refl H,?_⟩
  rw [show nW l m=l from if_neg (by rw [c1];simp)]
  exact fin0 hw
 |true=>
 rw [c1] at hs
 refine sx hs hw fun a W hs hw=>?_
 cases c2:decide ((l.length:Int)≥400) with
 |true=>
  rw [c2] at hs
  refine sv hs hw fun a hs=>?_
  refine rt1 hs rfl rfl ⟨false,H,rfl,Fh.le.refl H,?_⟩
  have:=of_decide_eq_true c2
  rw [show nW l m=l from if_neg (by omega)]
  exact fin0 hw
 |false=>
 rw [c2] at hs
 have hlt:l.length<400:=by have:=of_decide_eq_false c2;omega
 have hes:=aBq c1
 refine sc hs ?_
 refine bF [6,7,8,11] [.f 0 3,.f 0 2,.f 0 2,.f 0 2,.f 0 2,.f 0 0,.m 0,.m 1,.m 2,.f 3 3,.f 3 3,.m 3] [.c0 _,.c0 _,.c0 _,.c0 _,.c0 _,.c0 _,.c1 (fun x=> .agg ⟨aH m (.slice x.ad m.es.length x.cap)⟩),.c2 (fun x y=> .slice (some ⟨y.n,0,none⟩) 1 1),.c3 (fun x y z=> .slice z.ad (l ++ [m]).length z.cap),.c3 _,.c3 _,.c4 (fun x y z t=>undef)] (aA b3 (aH m (.slice mad m.es.length mcap)) 38::Sx.Own 38 13 (.slice ad l.length cap) l.length xs::eX p (.slice ad l.length cap)::Fz H::R) (fun x=>aA b3 (aH m (.slice mad m.es.length mcap)) 38::Sx.Own 38 13 (.slice ad l.length cap) l.length xs::eX p (.slice ad l.length cap)::FzF x.H (H.le x.H∧fO x.H (.slice x.ad m.es.length x.cap) m.es)::R) (fun x y=>aA y.n (aH m (.slice x.ad m.es.length x.cap)) 38::aA b3 (aH m (.slice mad m.es.length mcap)) 38::Sx.Own 38 13 (.slice ad l.length cap) l.length xs::eX p (.slice ad l.length cap)::FzF x.H (H.le x.H∧fO x.H (.slice x.ad m.es.length x.cap) m.es)::R) (fun x y z=>Sx.Own 38 13 (.slice z.ad (l ++ [m]).length z.cap) (l ++ [m]).length (xs ++ aH m (.slice x.ad m.es.length x.cap))::eX p (.slice ad l.length cap)::FzF x.H (H.le x.H∧fO x.H (.slice x.ad m.es.length x.cap) m.es)::R) (fun x y z t=>Sx.Own 38 13 (.slice z.ad (l ++ [m]).length z.cap) (l ++ [m]).length (xs ++ aH m (.slice x.ad m.es.length x.cap))::eX p (.slice z.ad (l ++ [m]).length z.cap)::FzF x.H (H.le x.H∧fO x.H (.slice x.ad m.es.length x.cap) m.es)::R) hs hw ?kk ⟨drs,drs,drs,drs,drs,drs,?m0,drn,?m2,drs,drs,drm,trivial⟩
 case m0=>
  intro x y z t LD a W hs hw
  have hw:Has 0 w0 W (Fz H::aA b3 (aH m (.slice mad m.es.length mcap)) 38::Sx.Own 38 13 (.slice ad l.length cap) l.length xs::eX p (.slice ad l.length cap)::R):=hw.pm
  refine aF hs (hc:=aCN m _ hm (by omega) hw) (k:=?_)
  rintro e' W' ⟨v',H2,rfl,hle,hev,hw⟩
  refine ⟨_,rfl,fun a hs=>?_⟩
  obtain ⟨vad,vcap,rfl⟩:=hev.slice
  have hw:=hw.fzf (And.intro hle hev)
  exact ⟨{ad:=vad,cap:=vcap,H:=H2},hs,hw.pm⟩
 case m2=>
  intro x y z t LD a W hs hw
  have hw:Has 0 w0 W (FzF x.H (H.le x.H∧fO x.H (.slice x.ad m.es.length x.cap) m.es)::Sx.Own 38 13 (.slice ad l.length cap) l.length xs::aA y.n (aH m (.slice x.ad m.es.length x.cap)) 38::aA b3 (aH m (.slice mad m.es.length mcap)) 38::eX p (.slice ad l.length cap)::R):=hw.pm
  obtain ⟨⟨hle,hev⟩,hw⟩:=hw.unfzf
  have hin:MsgIn x.H m (aH m (.slice x.ad m.es.length x.cap)):=⟨_,rfl,hev,hcs⟩
  have hw:Has 0 w0 W (Sx.Own 38 13 (.slice ad l.length cap) l.length xs::aA y.n (aH m (.slice x.ad m.es.length x.cap)) 38::aA b3 (aH m (.slice mad m.es.length mcap)) 38::eX p (.slice ad l.length cap)::Fz x.H::R):=hw.pm
  refine jB hs hw In.hd (hch.mono (MsgIn.le hle)) hin rfl rfl (by omega) (by omega) (k:=fun a ad2 cap2 W hs hw _=>?_)
  have hw:Has 0 w0 W (Fz x.H::Sx.Own 38 13 (.slice ad2 (l ++ [m]).length cap2) (l ++ [m]).length (xs ++ aH m (.slice x.ad m.es.length x.cap))::eX p (.slice ad l.length cap)::R):=hw.sl
  have hw:=hw.fzf (And.intro hle hev)
  exact ⟨{ad:=ad2,cap:=cap2},hs,hw.pm⟩
 case kk=>
 intro x y z t a W hs hw
 have hw:Has 0 w0 W (FzF x.H (H.le x.H∧fO x.H (.slice x.ad m.es.length x.cap) m.es)::Sx.Own 38 13 (.slice z.ad (l ++ [m]).length z.cap) (l ++ [m]).length (xs ++ aH m (.slice x.ad m.es.length x.cap))::eX p (.slice z.ad (l ++ [m]).length z.cap)::R):=hw.pm
 obtain ⟨⟨hle,hev⟩,hw⟩:=hw.unfzf
 refine sv hs hw fun a hs=>?_
 refine rt1 hs rfl rfl ⟨true,x.H,rfl,hle,?_⟩
 rw [show nW l m=l ++ [m] from if_pos ⟨c1,hlt⟩]
 have hin:MsgIn x.H m (aH m (.slice x.ad m.es.length x.cap)):=⟨_,rfl,hev,hcs⟩
 refine mV (hw.pm:Has 0 w0 W (Sx.Own 38 13 (.slice z.ad (l ++ [m]).length z.cap) (l ++ [m]).length (xs ++ aH m (.slice x.ad m.es.length x.cap))::eX p (.slice z.ad (l ++ [m]).length z.cap)::Fz x.H::R)) ((hch.mono (MsgIn.le hle)).app (Ch.unit hin)) ⟨by rw [List.length_append,List.length_singleton];omega,fun m' hm'=>?_⟩
 rcases List.mem_append.1 hm' with h|h
 ·exact hf.2 m' h
 ·rw [List.mem_singleton] at h;rw [h];exact hes.1
end
section
variable {H H':Fh} {p:Nat} {w0 W:World} {R L:List Res} {l:List bP}
theorem aIQ {K:Nat} {v:Value} {xs:List Value} (h1:∀u∈xs,u.oneCell'=true) (hw:Has 0 w0 W (Sx.Own 38 13 v (K+1) xs::R)):
  Calls Tryz.prog 80 ⟨[v,.int .i64 0,.int .i64 1]⟩ W fun e W'=>∃x:Option Addr×Nat,e= .returned (.slice x.1 K x.2)∧True∧Has 0 w0 W' (Sx.Own 38 13 (.slice x.1 K x.2) K (xs.drop 13)::R):=by
 rcases hw.own_cases with ⟨_,h0⟩|⟨g,cap,cur,rfl,ht,hcl,hkc,hcm,hw⟩
 ·omega
 have hxl:xs.length=(K+1)*13:=by rw [←ht,List.length_take,hcl];have:=Nat.mul_le_mul_right 13 hkc;omega
 have hcap:K*13+13≤cur.length:=by rw [hcl];have:=Nat.mul_le_mul_right 13 hkc;omega
 obtain ⟨news,hnews⟩:∃news,news=xs.drop 13:=⟨_,rfl⟩
 have hnl:news.length=K*13:=by rw [hnews,List.length_drop];omega
 have hrd:Rd W 13 (iE g 13 (K+1) cap 1) K news:=by
  have:=aAt (hw.block In.hd).1 hcl hkc (show 1≤K+1 by omega) hcm
  rw [ht,Nat.one_mul,←hnews] at this
  exact this
 have hn1:∀u∈news,u.oneCell'=true:=fun u hu=>h1 u (by rw [hnews] at hu;exact List.mem_of_mem_drop hu)
 rw [←hnews]
 have hrd2:∀{W},Has 0 w0 W (aA g cur 38::R)→Rd W 13 (iE g 13 (K+1) cap 1) K news:=fun hw=>by
  have:=aAt (hw.block In.hd).1 hcl hkc (show 1≤K+1 by omega) hcm
  rw [ht,Nat.one_mul,←hnews] at this
  exact this
 refine enter Tryz.func80 Tryz.ntmps80 rfl rfl fun a hs=>?_
 refine sv hs hw fun a hs=>?_
 refine aIH (z:=i7) (i:=0) (j:=1) (m:=K+1) hs (by omega) (by omega) hkc fun a v13 hs=>?_
 refine sv hs hw fun a hs=>?_
 refine bF [6] [.f 0 0,.f 0 0,.f 0 0,.f 0 0,.f 0 0,.f 0 0,.m 0,.f 1 1] [.c0 _,.c0 _,.c0 (.slice (some ⟨g,0,none⟩) 0 cap),.c0 _,.c0 _,.c0 (iE g 13 (K+1) cap 1),.c1 (fun x=> .slice (some ⟨g,0,none⟩) (0+K) cap),.c1 _] (aA g cur 38::R) (fun x=>aA g (ov cur (0*13) news) 38::R) (fun x y=>[]) (fun x y z=>[]) (fun x y z t=>[]) hs hw ?kk ⟨drs,drs,?f2,drs,drs,?f5,?m0,drs,trivial⟩
 case f2=>
  refine ⟨?_,trivial,trivial,trivial,trivial⟩
  intro x y z t LD a W hs hw
  refine wM (z:=i7) (m:=0) (k:=K+1) hs (by omega) hkc (by omega) (c:=fun a hs=>?_)
  exact ⟨hs,hw⟩
 case f5=>
  refine ⟨?_,trivial,trivial,trivial,trivial⟩
  intro x y z t LD a W hs hw
  refine wL (z:=i7) (m:=1) (k:=K+1) hs (by omega) hkc (c:=fun a hs=>?_)
  exact ⟨hs,hw⟩
 case m0=>
  intro x y z t LD a W hs hw
  refine aII (k:=0) (m:=K) (cap:=cap) (news:=news) hs hw (fK (hrd2 hw) hn1) (by omega) (by omega) fun a W hs hw=>?_
  exact ⟨{},hs,hw⟩
 case kk=>
 intro _ a W hs hw
 have hw:Has 0 w0 W (aA g (ov cur 0 news) 38::R):=hw
 have hln:(ov cur 0 news).length=cur.length:=l0 _ _ _
 have hex:ov cur 0 news=news ++ cur.drop (K*13):=by
  rw [kD _ _ _ (by omega),Nat.zero_add,List.take_zero,List.nil_append,hnl]
 replace hs:Slots a 33 [(0,.slice (some ⟨g,0,none⟩) (0+K) cap),(7,.int .i64 ((K+1:Nat):Int))]:=hs.of ⟨rfl,rfl,trivial⟩
 refine sv hs hw fun a hs=>?_
 refine aIJ (z:=i7) (i:=0+K) (j:=K+1) hs (by omega) hkc (by omega) fun a hs=>?_
 rw [show K+1 - (0+K)=1 by omega] at hs
 refine aIK (z:=i7) hs hw (by decide) (by decide) (by rw [hln];show (0+K)*13+13≤_;omega) fun W hs hw=>?_
 refine sv hs hw fun a hs=>?_
 refine rt1 hs rfl rfl ⟨(some ⟨g,0,none⟩,cap),?_,trivial,?_⟩
 ·rw [Nat.zero_add]
 ·refine hw.shut_own ?_ (by rw [l0,hln];exact hcl) (by omega) hcm
  show (ov (ov cur 0 news) ((0+K)*13) i7).take (K*13)=news
  rw [Nat.zero_add,kD _ _ _ (by rw [hln];exact hcap),List.append_assoc,List.take_append_of_le_length (by rw [List.length_take,hln];omega),List.take_take,Nat.min_self,hex,List.take_append_of_le_length (by omega),List.take_of_length_le (by omega)]
theorem aIR {m:bP} (hw:Has 0 w0 W (aM H p (m::l)::R)):
  Calls Tryz.prog 48 ⟨[ptr p,.int .i64 0]⟩ W fun e W'=>e= .returned (.bool true)∧Has 0 w0 W' (aM H p l::R):=by
 refine enter Tryz.func48 Tryz.ntmps48 rfl rfl fun a hs=>?_
 refine sv hs hw fun a hs=>?_
 refine cl hs (oB hw) fun a W hs hw=>?_
 refine sv hs hw fun a hs=>?_
 rw [show decide ((0:Int)≥(((m::l).length:Nat):Int))=false from decide_eq_false (by rw [List.length_cons];omega)] at hs
 obtain ⟨hf,ad,cap,xs,hch,hw⟩:=qR hw
 refine sv hs hw fun a hs=>?_
 refine cle hs (aIQ (K:=l.length) (hch.ones MsgIn.ones) hw) fun x a W _ hs hw=>?_
 refine sx hs hw fun a W hs hw=>?_
 refine rt1 hs rfl rfl ⟨rfl,?_⟩
 have hd:Ch (MsgIn H) l (xs.drop 13):=by
  have:=Ch.drop MsgIn.len 1 hch
  simpa using this
 exact mV hw hd ⟨by have:=hf.1;rw [List.length_cons] at this;omega,fun m' hm'=>hf.2 m' (List.mem_cons_of_mem _ hm')⟩
end
end Go.Proofs.YtgpbngfehfbndaaGreatDoor.Sw
namespace Go.Sx
open Go.RowKit
abbrev KVI:=List (Int×Value)
def ksI (a b:Int):Bool:=a == b
theorem mW {a b:Int}:ksI a b=true↔a=b:=by unfold ksI;exact beq_iff_eq
theorem aIS (a:Int):ksI a a=true:=mW.2 rfl
def jL:KVI→Int→Option Value
 | [],_=>none
 |p::d,k=>match ksI k p.1 with|true=>some p.2|false=>jL d k
def gY:KVI→Int→Value→KVI
 | [],k,v=>[(k,v)]
 |p::d,k,v=>match ksI k p.1 with|true=>(k,v)::d|false=>p::gY d k v
def oC:KVI→Int→KVI
 | [],_=>[]
 |p::d,k=>match ksI k p.1 with|true=>d|false=>p::oC d k
structure EntI where
 k:Int
 v:Value
 t:Nat
def EntI.raw (e:EntI):MapEntry:=⟨.int .i64 e.k,e.v,e.t⟩
def EntI.kv (e:EntI):Int×Value:=(e.k,e.v)
structure MapAtI (W:World) (b:Nat) (es:List EntI) (c:Nat):Prop where
 at_:W.heap[b]? =some (.map ⟨es.map EntI.raw⟩ c)
 nodup:(es.map (·.t)).Nodup
 lt:∀e∈es,e.t<c
def aQ (b:Nat) (d:KVI):Res where
 ok F W:=F b∧∃es c,MapAtI W b es c∧es.map EntI.kv=d
 loc F W W' h:=fun ⟨h1,es,c,h2,h3⟩=>⟨h1,es,c,⟨(h b h1).trans h2.at_,h2.nodup,h2.lt⟩,h3⟩
def jM:List EntI→Int→Nat→Option (Nat×Value)
 | [],_,_=>none
 |e::es,k,i=>match ksI k e.k with|true=>some (i,e.v)|false=>jM es k (i+1)
theorem aCO (k:Int):∀(es:List EntI) (i:Nat),Instr.findNow (.int .i64) (.int .i64 k) (es.map EntI.raw) i=some (jM es k i)
 | [],_=>rfl
 |e::es,i=>by
  simp only [List.map_cons,Instr.findNow,EntI.raw,Instr.sameNow,jM,if_true]
  rw [show (k == e.k)=ksI k e.k from rfl]
  cases ksI k e.k with
  |true=>rfl
  |false=>exact aCO k es (i+1)
theorem xZ {k:Int}:∀{es:List EntI} {i:Nat},jM es k i=none→jL (es.map EntI.kv) k=none∧(∀v,gY (es.map EntI.kv) k v=es.map EntI.kv ++ [(k,v)])∧oC (es.map EntI.kv) k=es.map EntI.kv
 | [],_,_=>⟨rfl,fun _=>rfl,rfl⟩
 |e::es,i,h=>by
  simp only [jM] at h
  cases hk:ksI k e.k with
  |true=>rw [hk] at h;cases h
  |false=>
   rw [hk] at h
   obtain ⟨h1,h2,h3⟩:=xZ (es:=es) (i:=i+1) h
   simp only [List.map_cons,jL,gY,oC,EntI.kv,hk]
   exact ⟨h1,fun v=>by rw [h2 v];rfl,by rw [h3]⟩
theorem x2 {k:Int}:∀{es:List EntI} {i j:Nat} {v0:Value},jM es k i=some (j,v0)→jL (es.map EntI.kv) k=some v0∧∃m e,j=i+m∧es[m]? =some e∧e.k=k∧
  (∀v,gY (es.map EntI.kv) k v=(es.modify m fun e=>⟨k,v,e.t⟩).map EntI.kv)∧oC (es.map EntI.kv) k=(es.eraseIdx m).map EntI.kv
 | [],_,_,_,h=>by simp [jM] at h
 |e::es,i,j,v0,h=>by
  simp only [jM] at h
  cases hk:ksI k e.k with
  |true=>
   rw [hk] at h
   injection h with h
   injection h with h1 h2
   subst h1 h2
   simp only [List.map_cons,jL,gY,oC,EntI.kv,hk]
   exact ⟨trivial,0,e,rfl,rfl,(mW.1 hk).symm,fun v=>by simp [EntI.kv],by simp⟩
  |false=>
   rw [hk] at h
   obtain ⟨h1,m,e',h2,h3,h4,h5,h6⟩:=x2 (es:=es) (i:=i+1) h
   simp only [List.map_cons,jL,gY,oC,EntI.kv,hk]
   refine ⟨h1,m+1,e',by omega,h3,h4,fun v=>?_,?_⟩
   ·rw [h5 v];simp [EntI.kv]
   ·rw [h6];simp [EntI.kv]
section
variable {P:Program} {W:World} {T K E:TypeId}
class MpI (P:Program) (T:TypeId) (K E:outParam TypeId):Prop where
 out:P.underlying T=some (.map K E)
 key:P.underlying K=some (.int .i64)
theorem aCP (hK:P.underlying K=some (.int .i64)) (em:Bool) (k:Int) (W:World):(Instr.checkKey em 10000 K (.int .i64 k)).run P W= .ok () W:=by
 show (Instr.checkKey em (9999+1) K (.int .i64 k)).run P W= .ok () W
 unfold Instr.checkKey
 simp [run_underlying hK]
theorem aCQ (hK:P.underlying K=some (.int .i64)) (k:Int) (es:List EntI) (W:World):(Instr.findKey K (.int .i64 k) (es.map EntI.raw)).run P W= .ok (jM es k 0) W:=by
 unfold Instr.findKey
 simp only [Sem.run_bind,run_underlying hK,Result.andThen_ok,aCO]
 rfl
theorem MapAtI.get {b:Nat} {es:List EntI} {c:Nat} (h:MapAtI W b es c):(getObj b).run P W= .ok (.map ⟨es.map EntI.raw⟩ c) W:=MapKept.run_getObj_map h.at_
theorem aIT [m:MpI P T K E] {b:Nat} {es:List EntI} {c:Nat} {k:Int} {zv:Value} (h:MapAtI W b es c) (hz:(zeroValue E).run P W= .ok zv W):
  (Instr.lookup T (.map (some b)) (.int .i64 k) false).run P W= .ok ((jL (es.map EntI.kv) k).getD zv) W:=by
 unfold Instr.lookup
 simp only [Sem.run_bind,run_underlying m.out,Result.andThen_ok,h.get,aCP m.key,aCQ m.key,Sem.run_pure]
 cases hf:jM es k 0 with
 |none=>
  simp only [(xZ hf).1,Sem.run_bind,hz,Result.andThen_ok,Sem.run_pure]
  rfl
 |some p=>
  obtain ⟨j,v⟩:=p
  simp only [(x2 hf).1,Sem.run_bind,Result.andThen_ok,Sem.run_pure]
  rfl
theorem aCR {b:Nat} {es:List EntI} {c:Nat} (h:MapAtI W b es c) (o':Obj):(setObj b o').run P W= .ok () (ChangeMaps.setBlock W b o'):=by
 simp [setObj,Sem.run,h.at_,ChangeMaps.setBlock]
theorem MapAtI.size {b:Nat} {es:List EntI} {c:Nat} (h:MapAtI W b es c):b<W.heap.size:=by
 have:=h.at_
 exact (Array.getElem?_eq_some_iff.1 this).1
theorem aIU (es:List EntI) (m:Nat) (k:Int) (v:Value):(es.map EntI.raw).modify m (fun e=>{e with key:= .int .i64 k,val:=v})=(es.modify m fun e=>⟨k,v,e.t⟩).map EntI.raw:=by
 induction es generalizing m with
 |nil=>simp
 |cons e es ih=>
  cases m with
  |zero=>simp [EntI.raw]
  |succ m=>simp [ih]
theorem aCS (es:List EntI) (m:Nat) (k:Int) (v:Value):(es.modify m fun e=>⟨k,v,e.t⟩).map (·.t)=es.map (·.t):=by
 induction es generalizing m with
 |nil=>simp
 |cons e es ih=>
  cases m with
  |zero=>simp
  |succ m=>simp [ih]
theorem aIV [m:MpI P T K E] {b:Nat} {es:List EntI} {c:Nat} {k:Int} {v:Value} (h:MapAtI W b es c):
  ∃W' es' c',(Instr.mapUpdate T (.map (some b)) (.int .i64 k) v).run P W= .ok () W'∧MapAtI W' b es' c'∧es'.map EntI.kv=gY (es.map EntI.kv) k v∧∃o,W'=ChangeMaps.setBlock W b o:=by
 unfold Instr.mapUpdate
 simp only [Sem.run_bind,run_underlying m.out,Result.andThen_ok,h.get,aCP m.key,aCQ m.key]
 cases hf:jM es k 0 with
 |none=>
  obtain ⟨h1,h2,h3⟩:=xZ hf
  refine ⟨_,es ++ [⟨k,v,c⟩],c+1,aCR h _,⟨?_,?_,?_⟩,?_,_,rfl⟩
  ·rw [mA h.size]
   simp [EntI.raw]
  ·rw [List.map_append,List.nodup_append]
   refine ⟨h.nodup,by simp,fun a ha b hb=>?_⟩
   obtain ⟨e,he,rfl⟩:=List.mem_map.1 ha
   simp only [List.map_cons,List.map_nil,List.mem_singleton] at hb
   have:=h.lt e he
   omega
  ·intro e he
   rcases List.mem_append.1 he with he|he
   ·have:=h.lt e he;omega
   ·rw [List.mem_singleton] at he;subst he;exact Nat.lt_succ_self c
  ·rw [h2 v];simp [EntI.kv]
 |some p=>
  obtain ⟨j,v0⟩:=p
  obtain ⟨h1,i,e,h2,h3,h4,h5,h6⟩:=x2 hf
  rw [Nat.zero_add] at h2
  subst h2
  have hkey:(((⟨es.map EntI.raw⟩:Array MapEntry)[j]?).map (·.key)).getD (.int .i64 k)= .int .i64 k:=by
   simp [h3,EntI.raw,h4]
  have hstay:(Instr.keyThatStays (.int .i64 k) (.int .i64 k)).run P W= .ok (.int .i64 k) W:=by
   unfold Instr.keyThatStays
   have:Instr.sameBits 10000 (.int .i64 k) (.int .i64 k)=true:=by
    show Instr.sameBits (9999+1) (.int .i64 k) (.int .i64 k)=true
    unfold Instr.sameBits
    exact aIS k
   simp [this]
  refine ⟨ChangeMaps.setBlock W b (.map (Array.modify ⟨es.map EntI.raw⟩ j fun e=>{e with key:= .int .i64 k,val:=v}) c),es.modify j fun e=>⟨k,v,e.t⟩,c,?_,⟨?_,?_,?_⟩,(h5 v).symm,_,rfl⟩
  ·simp only [Sem.run_bind,hkey,hstay,Result.andThen_ok]
   exact aCR h _
  ·rw [mA h.size]
   congr 2
   apply Array.ext'
   rw [Array.toList_modify]
   exact aIU es j k v
  ·rw [aCS];exact h.nodup
  ·intro e' he'
   have:e'.t∈(es.modify j fun e=>⟨k,v,e.t⟩).map (·.t):=List.mem_map_of_mem he'
   rw [aCS] at this
   obtain ⟨e2,he2,h7⟩:=List.mem_map.1 this
   rw [←h7];exact h.lt e2 he2
end
section
variable {G:Nat} {w W W':World} {L L' R R':List Res} {b:Nat} {d d':KVI}
theorem Has.setMapI (h:Has G w W L) (u:Upd (aQ b d) L (aQ b d') L') {o:Obj} (hW:W'=ChangeMaps.setBlock W b o) (hd:∃es c,MapAtI W' b es c∧es.map EntI.kv=d'):Has G w W' L':=by
 obtain ⟨F1,h1,h2,h3⟩:=h.has.upd u
 have hbG:=(h1 b h2.1).1
 have hbl:=(h1 b h2.1).2
 subst hW
 have hx:(ChangeMaps.setBlock W b o).heap.size=W.heap.size:=by simp [ChangeMaps.setBlock]
 refine ⟨h.ext.trans ⟨rfl,rfl,rfl,by omega,fun c hc=>oS (by omega)⟩,h.glob,h3 _ _ (fun c=>c=b) (fun c hc=>⟨hc.1,by omega⟩) ?_ ?_ ⟨rfl,hd⟩⟩
 ·rintro c rfl
  exact ⟨⟨hbG,by omega⟩,fun _=>h2.1⟩
 ·intro c hc hn
  refine oS fun e=>hn ?_
  rw [e];exact h2.1
theorem Has.map_atI (h:Has G w W L) (i:In (aQ b d) L):∃es c,MapAtI W b es c∧es.map EntI.kv=d:=by
 obtain ⟨F,_,h2⟩:=h.of_in i
 exact h2.2
theorem Has.newMapI (h:Has G w W L):Has G w (W.alloc (.map #[] 0)) (aQ W.heap.size []::L):=
 h.newObj ⟨rfl,[],0,⟨heap_alloc_new _ _,by simp,by simp⟩,rfl⟩
end
section
variable {P:Program} {ops:Array Oper} {aD:List Oper} {Q:Exit→Act→World→Prop} {a:Act} {n G:Nat} {L:List (Nat×Value)} {w W:World} {R R':List Res} {dst b:Nat} {T K E ty:TypeId} {p:String} {e:Array Edge} {x y z:Operand} {k:Int} {v zv:Value} {d:KVI}
theorem tQ (hs:Slots a n L) (hw:Has G w W R) (hd:Nat.blt dst n=true:=by with_unfolding_all exact rfl)
  (c:∀a' b W',Has G w W' (aQ b []::R)→Slots a' n ((dst,.map (some b))::L)→wpList P ops Q aD a' W'):wpList P ops Q (⟨some dst,.makeMap T none,ty,p,e,none⟩::aD) a W:=by
 refine bO hs hd (v:= .map (some W.heap.size)) (W':=W.alloc (.map #[] 0)) ?_ fun a' hs'=>c a' W.heap.size _ hw.newMapI hs'
 simp only [execOp,Option.map_none,Sem.run_bind,run_makeMap,Result.andThen_ok]
 rfl
theorem qS [m:MpI P T K E] (hs:Slots a n L) (hx:ev L x=some (.map (some b)):=by with_unfolding_all exact rfl) (hy:ev L y=some (.int .i64 k):=by with_unfolding_all exact rfl) (hw:Has G w W R) (hi:In (aQ b d) R:=by repeat (first|exact In.hd|apply In.tl)) (hz:∀W,(zeroValue E).run P W= .ok zv W) (hd:Nat.blt dst n=true:=by with_unfolding_all exact rfl)
  (c:∀a',Slots a' n ((dst,(jL d k).getD zv)::L)→wpList P ops Q aD a' W):wpList P ops Q (⟨some dst,.lookup T x y false,ty,p,e,none⟩::aD) a W:=by
 obtain ⟨es,ck,h1,rfl⟩:=hw.map_atI hi
 refine bO hs hd (W':=W) ?_ c
 simp only [execOp,hs.ev hx,hs.ev hy,Sem.run_bind,aIT h1 (hz W),Result.andThen_ok]
 rfl
theorem tR [m:MpI P T K E] (hs:Slots a n L) (hx:ev L x=some (.map (some b)):=by with_unfolding_all exact rfl) (hy:ev L y=some (.int .i64 k):=by with_unfolding_all exact rfl) (hz:ev L z=some v:=by with_unfolding_all exact rfl) (hw:Has G w W R) (hu:Upd (aQ b d) R (aQ b (gY d k v)) R':=by repeat (first|exact Upd.hd|apply Upd.tl))
  (c:∀W',Slots a n L→Has G w W' R'→wpList P ops Q aD a W'):wpList P ops Q (⟨none,.mapUpdate T x y z,ty,p,e,none⟩::aD) a W:=by
 obtain ⟨F1, -,h2, -⟩:=hw.has.upd hu
 obtain ⟨-,es,ck,h1,rfl⟩:=h2
 obtain ⟨W',es',c',g1,g2,g3,o,g4⟩:=aIV (P:=P) (T:=T) (k:=k) (v:=v) h1
 refine uG hs (W':=W') ?_ fun hs'=>c W' hs' (hw.setMapI hu g4 ⟨es',c',g2,g3⟩)
 simp only [execOp,hs.ev hx,hs.ev hy,hs.ev hz,Sem.run_bind,g1,Result.andThen_ok]
 rfl
end
end Go.Sx
