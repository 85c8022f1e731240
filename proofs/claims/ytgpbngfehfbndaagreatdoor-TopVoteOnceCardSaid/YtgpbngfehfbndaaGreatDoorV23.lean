import Derived.Test.YtgpbngfehfbndaaGreatDoorV20
import Derived.Test.YtgpbngfehfbndaaGreatDoorV21
set_option maxHeartbeats 16000000
set_option linter.all false
set_option maxRecDepth 10000
namespace Go.Sx
open Go.RowKit
section
variable {P:Program} {ops:Array Oper} {rest:List Oper} {Q:Exit→Act→World→Prop} {a:Act} {n:Nat} {L:List (Nat×Value)} {W:World} {d:Nat} {T S E:TypeId} {p:String} {e:Array Edge} {x:Operand} {k b o:Nat} {z:List Value}
theorem aBa {agg:Bool} [ar:Ar P S k E] [t:Ty P E agg z] (hs:Slots a n L) (hx:ev L x=some (.pointer (some ⟨b,o,none⟩)):=by with_unfolding_all exact rfl) (hd:Nat.blt d n=true:=by with_unfolding_all exact rfl)
  (c:∀a',Slots a' n ((d,.slice (some ⟨b,o,none⟩) k k)::L)→wpList P ops Q rest a' W):wpList P ops Q (⟨some d,.slice S x none none none,T,p,e,none⟩::rest) a W:=by
 refine bP hs hd (v:= .slice (some ⟨b,o,none⟩) k k) (W':=W) ?_ c;simp only [execOp,Option.map_none,hs.ev hx];simp [Instr.sliceAt,Instr.sureAddr,run_underlying ar.out,Instr.sliceBounds,t.sizeOf,eF]
end
end Go.Sx
namespace Go.Proofs.YtgpbngfehfbndaaGreatDoor.Sw
open Go.RowKit Go.Sx
open Go.Proofs.Tryz (prog)
def jE (v:Int) (k:Nat):List Int:=List.replicate k v ++ List.replicate (8 - k) 0
theorem oA {v:Int} {k:Nat} (h:k≤8):(jE v k).length=8:=by simp [jE];omega
theorem aBb {v:Int} {k:Nat} (h:k<8):eG (jE v k) (k:Int) v=jE v (k+1):=by
 obtain rfl|rfl|rfl|rfl|rfl|rfl|rfl|rfl:k=0∨k=1∨k=2∨k=3∨k=4∨k=5∨k=6∨k=7:=by omega
 all_goals rfl
section
variable {p:Nat} {t:TrackD} {L L1 L2:List Res} {X i last:Int}
theorem aGt:New prog 210 [.int .i64 last] L Nat (fun b=>ptr b) (fun b=>gL b (lU last)::L):=⟨fun {w W} hw=>by
 have e:lU last=⟨jE (w64 ((match cV last with|true=>last|false=>0)+1)) 8,List.replicate 8 0⟩:=by
  unfold lU jE;cases cV last <;> simp
 rw [e];refine en Tryz.func210 Tryz.ntmps210 fun a hs=>?_;refine sx hs hw fun a W hs hw=>?_;cases c1:cV last with
 |true=>
  rw [c1] at hs;refine sv hs hw fun a hs=>?_;refine sn hs hw fun b a W hs hw=>?_;refine sv hs hw fun a hs=>?_;have hz:(aA b (bR (jE (w64 (last+1)) 0) ++ bR (List.replicate 8 0)) 340::L)=(aA b (bR (jE (w64 (last+1)) 0) ++ bR (List.replicate 8 0)) 340::L):=rfl;refine bX (σ:=Nat) (fun k=>[(0,.int .i64 last),(3,ptr b),(10,.int .i64 (k:Int))]) (fun k=>aA b (bR (jE (w64 (last+1)) k) ++ bR (List.replicate 8 0)) 340::L) (fun k=>k≤8) (fun k=>8 - k) 0 (Nat.zero_le _) hs ⟨rfl,rfl,rfl,trivial⟩ hw ?_;clear hs hw;intro k a W hk hs hw;refine sv hs hw fun a hs=>?_;refine cI hs (kt:=fun hc=>?_) (kf:=fun hc=>?_)
  ·have hk':k<8:=by have:=hc;simp at this;omega
   have hj0:(0:Int)≤(k:Int):=by omega
   have hj1:(k:Int)<((8:Nat):Int):=by omega
   have hl3:=qI (mt:=List.replicate 8 0) (x:=(k:Int)) (oA (v:=w64 (last+1)) hk) (by simp) ⟨hj0,by omega⟩ (.int .i64 (w64 (last+1)));refine sw (P:=prog) hs hw fun a W hs hw=>?_;rw [qH (oA hk) ⟨hj0,by omega⟩,aBb hk'] at hw;exact bS (k+1) hs hw hk' (by show 8 - (k+1)<8 - k;omega) ⟨rfl,rfl,bU (i1 (by omega)),trivial⟩
  ·obtain rfl:k=8:=by simp at hc;omega
   refine sv hs hw fun a hs=>?_;exact rt1 hs rfl rfl ⟨b,rfl,iR (t:=⟨_,_⟩) hw ⟨oA hk,by simp⟩⟩
 |false=>
  rw [c1] at hs;refine sv hs hw fun a hs=>?_;refine sn hs hw fun b a W hs hw=>?_;refine sv hs hw fun a hs=>?_;have hz:(aA b (bR (jE (w64 (0+1)) 0) ++ bR (List.replicate 8 0)) 340::L)=(aA b (bR (jE (w64 (0+1)) 0) ++ bR (List.replicate 8 0)) 340::L):=rfl;refine bX (σ:=Nat) (fun k=>[(0,.int .i64 0),(3,ptr b),(10,.int .i64 (k:Int))]) (fun k=>aA b (bR (jE (w64 (0+1)) k) ++ bR (List.replicate 8 0)) 340::L) (fun k=>k≤8) (fun k=>8 - k) 0 (Nat.zero_le _) hs ⟨rfl,rfl,rfl,trivial⟩ hw ?_;clear hs hw;intro k a W hk hs hw;refine sv hs hw fun a hs=>?_;refine cI hs (kt:=fun hc=>?_) (kf:=fun hc=>?_)
  ·have hk':k<8:=by have:=hc;simp at this;omega
   have hj0:(0:Int)≤(k:Int):=by omega
   have hj1:(k:Int)<((8:Nat):Int):=by omega
   have hl3:=qI (mt:=List.replicate 8 0) (x:=(k:Int)) (oA (v:=w64 (0+1)) hk) (by simp) ⟨hj0,by omega⟩ (.int .i64 (w64 (0+1)));refine sw (P:=prog) hs hw fun a W hs hw=>?_;rw [qH (oA hk) ⟨hj0,by omega⟩,aBb hk'] at hw;exact bS (k+1) hs hw hk' (by show 8 - (k+1)<8 - k;omega) ⟨rfl,rfl,bU (i1 (by omega)),trivial⟩
  ·obtain rfl:k=8:=by simp at hc;omega
   refine sv hs hw fun a hs=>?_
   exact rt1 hs rfl rfl ⟨b,rfl,iR (t:=⟨_,_⟩) hw ⟨oA hk,by simp⟩⟩⟩
theorem aBc {l:List Int} (h:l.length=8):∃a b c d e f g i,l= [a,b,c,d,e,f,g,i]:=by
 match l,h with
 | [a,b,c,d,e,f,g,i],_=>exact ⟨a,b,c,d,e,f,g,i,rfl⟩
theorem aGu {l:List Int} {x v:Int} (h:l.length=8) (hx:0≤x∧x<8):ov (bR l) (0+x.toNat*1) [.int .i64 v]=bR (eG l x v):=by
 rw [show 0+x.toNat*1=x.toNat by omega,xD (by simp;omega)];unfold eG bR;rw [List.map_set]
theorem aGv {sl:Value} {l:List Int} (self last:Int) [c:dH (fun t=>gL p t) L t L1] [c2:dH (fun l=>aM sl l) L l L2]:Get prog 257 [ptr p,sl,.int .i64 self,.int .i64 last] L (.int .i64 (t.mid l self last)) L:=⟨fun {w W} hw=>by
 have e:t.mid l self last=sJ l (match srv self with|true=>eG t.mat self last|false=>t.mat):=rfl;obtain ⟨hl,_⟩:=nX (hw.pick c.p);rw [e];obtain ⟨nx,mt⟩:=t;obtain ⟨hl1,hl2⟩:nx.length=8∧mt.length=8:=hl;obtain ⟨n0,n1,n2,n3,n4,n5,n6,n7,hnx⟩:=aBc hl1;obtain ⟨m0,m1,m2,m3,m4,m5,m6,m7,hmt⟩:=aBc hl2;have drop1:∀{W A},Has 0 w W (A::L)→Has 0 w W L:=fun h=>h.d1;refine en Tryz.func257 Tryz.ntmps257 fun a hs=>?_;refine sv hs hw fun a hs=>?_;have hw2:Has 0 w W (aA p (bR [n0,n1,n2,n3,n4,n5,n6,n7] ++ bR [m0,m1,m2,m3,m4,m5,m6,m7]) 340::L1):=by
  have:=(nX (hw.pick c.p)).2;rw [←hnx,←hmt];exact this
 refine uQ hs (hw:=hw2) (hi:=In.hd) (k:=fun a hs=>?_);refine sn hs hw fun b a W hs hw=>?_;refine sx hs hw fun a W hs hw=>?_;replace hw:Has 0 w W (aA b (bR mt) 338::L):=by rw [hmt];exact hw
 cases c1:srv self with
 |false=>
  rw [c1] at hs;refine sv hs hw fun a hs=>?_;refine aBa hs (c:=fun a hs=>?_);refine cl hs ((aB9 (l:=l) (sl:=sl) (at_:=mt) (L:=aA b (bR mt) 338::L) hl2 In.hd).ok hw) fun a W hs hw=>?_;refine sv hs hw fun a hs=>?_;exact rt1 hs rfl rfl ⟨rfl,drop1 hw⟩
 |true=>
  rw [c1] at hs;have hx:=qF c1;have hj0:=hx.1;have hj1:self<((8:Nat):Int):=hx.2;have hl3:Nat.ble (0+self.toNat*1+ [Value.int .i64 last].length) (bR mt).length=true:=Nat.ble_eq_true_of_le (by simp;omega);refine sw (P:=prog) hs hw fun a W hs hw=>?_;rw [aGu hl2 hx] at hw;refine aBa hs (c:=fun a hs=>?_);refine cl hs ((aB9 (l:=l) (sl:=sl) (at_:=eG mt self last) (L:=aA b (bR (eG mt self last)) 338::L) (sZ hl2) In.hd).ok hw) fun a W hs hw=>?_;refine sv hs hw fun a hs=>?_
  exact rt1 hs rfl rfl ⟨rfl,drop1 hw⟩⟩
end
section
variable {H H':Fh} {p pl:Nat} {pv pt mv:Value} {r:RaftD} {w0 W:World} {R L:List Res} {l:List bF} {v:Value}
theorem aBd (h:Has 0 w0 W (aE H p r::R)):∃pl pv pt ad cap xs,Ch (MsgIn H) r.out.msgs xs∧Has 0 w0 W (Sx.Own 38 13 (.slice ad r.out.msgs.length cap) r.out.msgs.length xs::aJ p r pl pv pt (.slice ad r.out.msgs.length cap)::aG pl r.l::VoR pv r.v::ToR pt r.t::R):=by
 obtain ⟨pl,pv,pt,mv,h⟩:=dG h;obtain ⟨ad,cap,xs,rfl,hc,h⟩:=qJ (h.pm:Has 0 w0 W (aD H mv r.out.msgs::aJ p r pl pv pt mv::aG pl r.l::VoR pv r.v::ToR pt r.t::R));exact ⟨pl,pv,pt,ad,cap,xs,hc,h⟩
theorem aBe {xs:List Value} (h:Has 0 w0 W (Sx.Own 38 13 mv r.out.msgs.length xs::aJ p r pl pv pt mv::aG pl r.l::VoR pv r.v::ToR pt r.t::R)) (hc:Ch (MsgIn H) r.out.msgs xs):Has 0 w0 W (aE H p r::R):=
 cD ((lB h hc).pm)
theorem fO (m:bF) (v:Value) (hm:fN H v m.es) (hc:m.snap.conf.size≤1000000) (hl:r.out.msgs.length≤1000) (hw:Has 0 w0 W (aE H p r::R)):
  Calls prog 139 ⟨[ptr p,.agg ⟨aF m v⟩]⟩ W fun e W'=>e= .returned (.tuple ⟨[]⟩)∧Has 0 w0 W' (aE H p (r.say m)::R):=by
 obtain ⟨pl,pv,pt,ad,cap,xs,hch,hw⟩:=aBd hw;obtain ⟨vad,vcap,rfl⟩:=hm.slice;obtain ⟨R',hR⟩:∃R',R'=aG pl r.l::VoR pv r.v::ToR pt r.t::R:=⟨_,rfl⟩
 rw [←hR] at hw;refine en Tryz.func139 Tryz.ntmps139 fun a hs=>?_;refine sc hs ?_;refine sn hs hw fun b a W hs hw=>?_;refine sc hs ?_;refine bB [10,12] [.f 0 0,.f 0 0,.f 0 0,.f 0 0,.f 0 1,.f 0 1,.f 0 1,.f 0 1,.f 0 1,.f 0 0,.m 0,.f 1 1,.m 1] [.c0 _,.c0 _,.c0 _,.c0 _,.c0 _,.c0 _,.c0 _,.c0 _,.c0 _,.c0 _,.c1 (fun x=>undef),.c1 _,.c2 (fun x y=>undef)] (aA b (aF m (.slice vad m.es.length vcap)) 38::Sx.Own 38 13 (.slice ad r.out.msgs.length cap) r.out.msgs.length xs::aJ p r pl pv pt (.slice ad r.out.msgs.length cap)::R') (fun x=>aA b (aF {m with from_:=r.id} (.slice vad m.es.length vcap)) 38::Sx.Own 38 13 (.slice ad r.out.msgs.length cap) r.out.msgs.length xs::aJ p r pl pv pt (.slice ad r.out.msgs.length cap)::R') (fun x y=>aA b (aF {m with from_:=r.id,term:=r.h.term} (.slice vad m.es.length vcap)) 38::Sx.Own 38 13 (.slice ad r.out.msgs.length cap) r.out.msgs.length xs::aJ p r pl pv pt (.slice ad r.out.msgs.length cap)::R') (fun x y z=>[]) (fun x y z t=>[]) hs hw ?kk ⟨drs,drs,drs,drs,drs,drs,drs,drs,drs,drs,drm,drs,drm,trivial⟩
 case kk=>
  intro _ _ a W hs hw;replace hs:Slots a 27 [(0,ptr p),(3,ptr b)]:=hs.ot;obtain ⟨m',hm'⟩:∃m':bF,m'= {m with from_:=r.id,term:=r.h.term}:=⟨_,rfl⟩
  have hes:m'.es=m.es:=by rw [hm']
  have hin:MsgIn H m' (aF m' (.slice vad m.es.length vcap)):=⟨_,rfl,by rw [hes];exact hm,by rw [hm'];exact hc⟩
  rw [←hm'] at hw;refine sc hs ?_;refine bB [7,8,12] [.f 0 2,.f 0 1,.f 0 1,.f 0 1,.f 0 1,.f 0 1,.f 0 0,.m 0,.m 1,.f 2 2,.f 2 2,.f 2 2,.m 2] [.c0 _,.c0 _,.c0 _,.c0 _,.c0 _,.c0 _,.c0 _,.c1 (fun x=> .slice (some ⟨x.n,0,none⟩) 1 1),.c2 (fun x y=> .slice y.ad (r.out.msgs ++ [m']).length y.cap),.c2 _,.c2 _,.c2 _,.c3 (fun x y z=>undef)] (aA b (aF m' (.slice vad m.es.length vcap)) 38::Sx.Own 38 13 (.slice ad r.out.msgs.length cap) r.out.msgs.length xs::aJ p r pl pv pt (.slice ad r.out.msgs.length cap)::R') (fun x=>aA x.n (aF m' (.slice vad m.es.length vcap)) 38::aA b (aF m' (.slice vad m.es.length vcap)) 38::Sx.Own 38 13 (.slice ad r.out.msgs.length cap) r.out.msgs.length xs::aJ p r pl pv pt (.slice ad r.out.msgs.length cap)::R') (fun x y=>aA b (aF m' (.slice vad m.es.length vcap)) 38::Sx.Own 38 13 (.slice y.ad (r.out.msgs ++ [m']).length y.cap) (r.out.msgs ++ [m']).length (xs ++ aF m' (.slice vad m.es.length vcap))::aJ p r pl pv pt (.slice ad r.out.msgs.length cap)::R') (fun x y z=>aA b (aF m' (.slice vad m.es.length vcap)) 38::Sx.Own 38 13 (.slice y.ad (r.out.msgs ++ [m']).length y.cap) (r.out.msgs ++ [m']).length (xs ++ aF m' (.slice vad m.es.length vcap))::aJ p r pl pv pt (.slice y.ad (r.out.msgs ++ [m']).length y.cap)::R') (fun x y z t=>[]) hs hw ?kk ⟨drs,drs,drs,drs,drs,drs,drs,drn,?m1,drs,drs,drs,drm,trivial⟩
  case m1=>
   intro x y z t LD a W hs hw;have hw:Has 0 w0 W (Sx.Own 38 13 (.slice ad r.out.msgs.length cap) r.out.msgs.length xs::aA x.n (aF m' (.slice vad m.es.length vcap)) 38::aA b (aF m' (.slice vad m.es.length vcap)) 38::aJ p r pl pv pt (.slice ad r.out.msgs.length cap)::R'):=hw.pm;refine i6 hs hw In.hd hch hin rfl rfl (by omega) (by omega) (k:=fun a ad2 cap2 W hs hw _=>?_);exact ⟨{ad:=ad2,cap:=cap2},hs,hw.sl⟩
  case kk=>
   intro x y z a W hs hw;refine cO hs rfl ⟨rfl,?_⟩;rw [hR] at hw;have he:r.say m= {r with out:={r.out with msgs:=r.out.msgs ++ [m']}}:=by rw [hm'];rfl
   rw [he];exact aBe (r:={r with out:={r.out with msgs:=r.out.msgs ++ [m']}}) (hw.sl) (hch.app (Ch.unit hin))
theorem s6 (h:fM) (hw:Has 0 w0 W (aE H p r::R)):
  Calls prog 132 ⟨[ptr p,.agg ⟨[.int .i64 h.term,.int .i64 h.vote]⟩]⟩ W fun e W'=>e= .returned (.tuple ⟨[]⟩)∧Has 0 w0 W' (aE H p (r.hardD h)::R):=by
 obtain ⟨pl,pv,pt,mv,hw⟩:=dG hw;obtain ⟨id,rh,rl,cm,role,ldr,hrd,rv,rt,⟨ms,hd,fr,sp⟩⟩:=r;refine en Tryz.func132 Tryz.ntmps132 fun a hs=>?_;refine sc hs ?_;refine sn hs hw fun b a W hs hw=>?_;refine sc hs ?_;cases hd with
 |true=>
  replace hw:Has 0 w0 W (aA b [.int .i64 h.term,.int .i64 h.vote] 44::gY p id rh.term rh.vote pl cm role ldr hrd pv pt mv (true) fr sp::aG pl rl::VoR pv rv::ToR pt rt::aD H mv ms::R):=hw;refine bB [17] [.f 0 0,.f 0 0,.f 0 0,.f 0 0,.f 0 0,.f 0 0,.f 0 0,.f 0 0,.f 0 0,.f 0 0,.f 0 0,.f 0 0,.f 0 0,.f 0 0,.f 0 0,.f 0 0,.f 0 0,.m 0] [.c0 _,.c0 _,.c0 _,.c0 _,.c0 _,.c0 _,.c0 _,.c0 _,.c0 _,.c0 _,.c0 _,.c0 _,.c0 _,.c0 _,.c0 _,.c0 _,.c0 _,.c1 (fun x=>undef)] (aA b [.int .i64 h.term,.int .i64 h.vote] 44::gY p id rh.term rh.vote pl cm role ldr hrd pv pt mv (true) fr sp::aG pl rl::VoR pv rv::ToR pt rt::aD H mv ms::R) (fun x=>aA b [.int .i64 h.term,.int .i64 h.vote] 44::gY p id rh.term rh.vote pl cm role ldr hrd pv pt mv (true) fr sp::aG pl rl::VoR pv rv::ToR pt rt::aD H mv ms::R) (fun x y=>[]) (fun x y z=>[]) (fun x y z t=>[]) hs hw ?kk ⟨drs,drs,drs,drs,drs,drs,drs,drs,drs,drs,drs,drs,drs,drs,drs,drs,drs,drm,trivial⟩
  case kk=>
   intro _ a W hs hw;refine sx hs hw fun a W hs hw=>?_;refine cO hs rfl ⟨rfl,?_⟩;exact cD (r:=⟨id,h,rl,cm,role,ldr,hrd,rv,rt,⟨ms,true,fr,sp⟩⟩) (hw.d1)
 |false=>
  replace hw:Has 0 w0 W (aA b [.int .i64 h.term,.int .i64 h.vote] 44::gY p id rh.term rh.vote pl cm role ldr hrd pv pt mv (false) fr sp::aG pl rl::VoR pv rv::ToR pt rt::aD H mv ms::R):=hw;refine bB [17] [.f 0 0,.f 0 0,.f 0 0,.f 0 0,.f 0 0,.f 0 0,.f 0 0,.f 0 0,.f 0 0,.f 0 0,.f 0 0,.f 0 0,.f 0 0,.f 0 0,.f 0 0,.f 0 0,.f 0 0,.m 0] [.c0 _,.c0 _,.c0 _,.c0 _,.c0 _,.c0 _,.c0 _,.c0 _,.c0 _,.c0 _,.c0 _,.c0 _,.c0 (.bool (!((h.term == rh.term) && (h.vote == rh.vote)))),.c0 _,.c0 _,.c0 _,.c0 _,.c1 (fun x=>undef)] (aA b [.int .i64 h.term,.int .i64 h.vote] 44::gY p id rh.term rh.vote pl cm role ldr hrd pv pt mv (false) fr sp::aG pl rl::VoR pv rv::ToR pt rt::aD H mv ms::R) (fun x=>aA b [.int .i64 h.term,.int .i64 h.vote] 44::gY p id rh.term rh.vote pl cm role ldr hrd pv pt mv (!((h.term == rh.term) && (h.vote == rh.vote))) fr sp::aG pl rl::VoR pv rv::ToR pt rt::aD H mv ms::R) (fun x y=>[]) (fun x y z=>[]) (fun x y z t=>[]) hs hw ?kk ⟨drs,drs,drs,drs,drs,drs,drs,drs,drs,drs,drs,drs,?f12,drs,drs,drs,drs,drm,trivial⟩
  case f12=>
   refine ⟨?_,trivial,trivial,trivial,trivial⟩;intro x y z t LD a W hs hw;refine sc hs ?_;refine aEW [(2,.i h.term,.i rh.term),(3,.i h.vote,.i rh.vote)] ((h.term == rh.term) && (h.vote == rh.vote)) (by simp [FV.eqv]) hs (by simp only [List.mem_cons,List.not_mem_nil,or_false];rintro v (rfl|rfl) <;> exact rW _ _) fun a hs=>?_;exact ⟨hs,hw⟩
  case kk=>
   intro _ a W hs hw;refine sx hs hw fun a W hs hw=>?_;refine cO hs rfl ⟨rfl,?_⟩;exact cD (r:=⟨id,h,rl,cm,role,ldr,hrd,rv,rt,⟨ms,!((h.term == rh.term) && (h.vote == rh.vote)),fr,sp⟩⟩) (hw.d1)
theorem aGw (t:Int) (hw:Has 0 w0 W (aE H p r::R)):
  Calls prog 140 ⟨[ptr p,.int .i64 t]⟩ W fun e W'=>e= .returned (.tuple ⟨[]⟩)∧Has 0 w0 W' (aE H p (r.yield t)::R):=by
 refine en Tryz.func140 Tryz.ntmps140 fun a hs=>?_;refine sv hs hw fun a hs=>?_;refine cl hs (s6 ⟨t,0⟩ hw) fun a W hs hw=>?_;obtain ⟨pl,pv,pt,mv,hw⟩:=dG hw;refine sx hs hw fun a W hs hw=>?_;exact cO hs rfl ⟨rfl,cD (r:=r.yield t) hw⟩
theorem s7 (hw:Has 0 w0 W (aE H p r::R)):
  Calls prog 122 ⟨[ptr p]⟩ W fun e W'=>∃s:Option Addr×Nat,e= .returned (.agg ⟨[.slice s.1 r.out.msgs.length s.2,.bool r.out.hard,.int .i64 r.out.from_,.bool r.out.snap]⟩)∧True∧Has 0 w0 W' (aE H p r.did.1::aD H (.slice s.1 r.out.msgs.length s.2) r.out.msgs::R):=by
 obtain ⟨pl,pv,pt,ad,cap,xs,hch,hw⟩:=aBd hw;refine en Tryz.func122 Tryz.ntmps122 fun a hs=>?_;refine sc hs ?_;refine sn hs hw fun b2 a W hs hw=>?_;refine sv hs hw fun a hs=>?_;refine sn hs hw fun b3 a W hs hw=>?_;refine sx hs hw fun a W hs hw=>?_;refine rc1 hs rfl rfl hw inn rfl ⟨(ad,cap),rfl,trivial,?_⟩;have hw:Has 0 w0 W (Sx.Own 38 13 (.slice none 0 0) 0 []::_):=hw.nilOwn 38 13;have hw:Has 0 w0 W (aE H p r.did.1::Sx.Own 38 13 (.slice ad r.out.msgs.length cap) r.out.msgs.length xs::R):=aBe (r:=r.did.1) (xs:=[]) (pl:=pl) (pv:=pv) (pt:=pt) (mv:= .slice none 0 0) (hw.sl) rfl;exact (lB hw.swap2 hch).swap2
end
section
variable {H H':Fh} {p pl:Nat} {pv pt mv:Value} {r:RaftD} {w0 W:World} {R L:List Res} {l:List bF} {v:Value}
theorem qL (i:Int) (ok:Bool) (hw:Has 0 w0 W (aE H p r::R)):
  Calls prog 215 ⟨[ptr p,.int .i64 i,.bool ok]⟩ W fun e W'=>e= .returned (.bool ok)∧Has 0 w0 W' (aE H p (r.changed i)::R):=by
 obtain ⟨pl,pv,pt,mv,hw⟩:=dG hw;have he:r.changed i=match decide (i > 0) && (r.out.from_ == 0 || decide (i<r.out.from_)) with|true=>{r with out:={r.out with from_:=i}}|false=>r:=rfl
 rw [he];refine en Tryz.func215 Tryz.ntmps215 fun a hs=>?_;refine sv hs hw fun a hs=>?_;cases c1:decide (i > 0) with
 |false=>
  rw [c1] at hs;refine sv hs hw fun a hs=>?_;exact rt1 hs rfl rfl ⟨rfl,cD hw⟩
 |true=>
 rw [c1] at hs;refine sv hs hw fun a hs=>?_;cases c2:r.out.from_ == 0 with
 |true=>
  rw [c2] at hs;refine sx hs hw fun a W hs hw=>?_;exact rt1 hs rfl rfl ⟨rfl,cD (r:={r with out:={r.out with from_:=i}}) hw⟩
 |false=>
 rw [c2] at hs;refine sv hs hw fun a hs=>?_;cases c3:decide (i<r.out.from_) with
 |true=>
  rw [c3] at hs;refine sx hs hw fun a W hs hw=>?_;exact rt1 hs rfl rfl ⟨rfl,cD (r:={r with out:={r.out with from_:=i}}) hw⟩
 |false=>
  rw [c3] at hs;refine sv hs hw fun a hs=>?_;exact rt1 hs rfl rfl ⟨rfl,cD hw⟩
theorem aGx {α:Type} {l:List α} {i:Nat} {o:α} (f:α→Bool) (h:l[i]? =some o):(l.take (i+1)).filter f=(l.take i).filter f ++ (match f o with|true=>[o]|false=>[]):=by
 rw [fQ h,List.filter_append];cases hf:f o <;> simp [hf]
theorem aBf:∀(l:List bY) (k:Int) (x:List Int×Int),jV k l=some x→x.1.length≤7
 | [],_,_,h=>by cases h
 |e::r,k,x,h=>by
  unfold jV at h;split at h
  ·rename_i h1;obtain rfl:=Option.some.inj h;rw [Bool.and_eq_true] at h1;unfold dL at h1⊢;cases hm:dB (e.data.data.toList.map fun c=>(c.toNat:Int) - 48) with
   |false=>rw [hm] at h1;cases h1.1
   |true=>exact pZ hm
  ·exact aBf r (k - 1) x h
theorem aGy (s:List UInt8):(dL s).1.length≤7:=by
 unfold dL;cases hm:dB (s.map fun c=>(c.toNat:Int) - 48) with
 |false=>simp
 |true=>exact pZ hm
theorem qM (l:LogD) (i:Int):(l.confAt i).1.length≤7:=by
 unfold LogD.confAt;split
 ·rename_i x h;exact aBf _ _ x h
 ·split
  ·exact aGy _
  ·simp
theorem aBg (hw:Has 0 w0 W (aE H p r::R)):
  Calls prog 138 ⟨[ptr p]⟩ W fun e W'=>∃s:Option Addr×Nat,e= .returned (.slice s.1 r.others.length s.2)∧True∧Has 0 w0 W' (aM (.slice s.1 r.others.length s.2) r.others::aE H p r::R):=by
 obtain ⟨pl,pv,pt,mv,hw⟩:=dG hw;have he:r.others=r.l.conf.1.filter fun x=>x !=r.id:=rfl;have h7:=qM r.l r.l.last;rw [he];refine en Tryz.func138 Tryz.ntmps138 fun a hs=>?_;refine sx hs hw fun a W hs hw=>?_;refine aH hs (hc:=(sR (l:=r.l)).ok hw.rebase) (k:=?_);rintro e' W' ⟨x,rfl,hw'⟩;refine ⟨_,rfl,fun a hs=>?_⟩;have hw:=(hw.trans hw').nilOwn 3 1;rw [show r.l.conf.1=(r.l.confAt r.l.last).1 from rfl] at hs hw⊢;generalize (r.l.confAt r.l.last).1=c at *;replace hw:Has 0 w0 W' (aM (.slice none 0 0) []::aM (.slice x.1 c.length x.2) c::aJ p r pl pv pt mv::aG pl r.l::VoR pv r.v::ToR pt r.t::aD H mv r.out.msgs::R):=hw;refine sv hs hw fun a hs=>?_
 let f:Int→Bool:=fun x=>x !=r.id
 refine bX (σ:=Nat×Option Addr×Nat) (fun q=>[(0,ptr p),(5,.slice q.2.1 ((c.take q.1).filter f).length q.2.2),(16,.slice x.1 c.length x.2),(17,.int .i64 (c.length:Int)),(18,.int .i64 (q.1:Int))]) (fun q=>aM (.slice q.2.1 ((c.take q.1).filter f).length q.2.2) ((c.take q.1).filter f)::aM (.slice x.1 c.length x.2) c::aJ p r pl pv pt mv::aG pl r.l::VoR pv r.v::ToR pt r.t::aD H mv r.out.msgs::R) (fun q=>q.1≤c.length) (fun q=>c.length - q.1) (0,none,0) (Nat.zero_le _) hs ⟨rfl,rfl,rfl,rfl,rfl,trivial⟩ hw ?_;clear hs hw;rintro ⟨i,ad,cap⟩ a W hi hs hw;have hi:i≤c.length:=hi;simp only at hs hw;refine sv hs hw fun a hs=>?_;refine cI hs (kt:=fun hc=>?_) (kf:=fun hc=>?_)
 ·have hi':i<c.length:=by simpa using hc
  obtain ⟨o,ho,hd⟩:=dP hi';have hn:=aGx f ho;have hle:((c.take i).filter f).length≤7:=Nat.le_trans (List.length_filter_le _ _) (by rw [List.length_take];omega);refine sc hs ?_;refine iI hs (hw.rd_own (In.tl In.hd)) ho rfl fun a b fo hs=>?_;refine sv hs hw fun a hs=>?_;rw [show (o !=r.id)=f o from rfl] at hs;cases c1:f o with
  |true=>
   rw [c1] at hs hn;replace hn:(c.take (i+1)).filter f=(c.take i).filter f ++ [o]:=hn;refine sv hs hw fun a hs=>?_;refine sn hs hw fun b a W hs hw=>?_;refine mG hs hw Pick.hd (by omega) fun a ad cap W hs hw=>?_;rw [←hn] at hs hw;refine sv hs hw fun a hs=>?_;exact bS (i+1,ad,cap) hs hw hi' (by show c.length - (i+1)<c.length - i;omega) ⟨rfl,rfl,rfl,rfl,bU (i1 (by omega)),trivial⟩
  |false=>
   rw [c1] at hs hn;replace hn:(c.take (i+1)).filter f=(c.take i).filter f:=by rw [hn];simp
   refine sv hs hw fun a hs=>?_;exact bS (i+1,ad,cap) hs (by show Has 0 w0 W (aM (.slice ad ((c.take (i+1)).filter f).length cap) ((c.take (i+1)).filter f)::_);rw [hn];exact hw) hi' (by show c.length - (i+1)<c.length - i;omega) ⟨rfl,by rw [hn];rfl,rfl,rfl,bU (i1 (by omega)),trivial⟩
 ·have:c.take i=c:=List.take_of_length_le (by simp at hc;omega);rw [this] at hs hw;refine sv hs hw fun a hs=>?_;refine rt1 hs rfl rfl ⟨(ad,cap),rfl,trivial,?_⟩;have hw:Has 0 w0 W (aE H p r::aM (.slice ad (c.filter f).length cap) (c.filter f)::R):=cD (hw.sl);exact hw.swap2
end
section
variable {L:List Res} {X i j:Int} {sl:Value}
instance track_Next0:Get prog 219 [.pointer none,.int .i64 X] L (.int .i64 0) L:=⟨fun {w W} hw=>by
 refine en Tryz.func219 Tryz.ntmps219 fun a hs=>?_;refine sx hs hw fun a W hs hw=>?_
 exact rt1 hs rfl rfl ⟨rfl,hw⟩⟩
instance track_Sent0:Get prog 262 [.pointer none,.int .i64 X,.int .i64 i] L (.tuple ⟨[]⟩) L:=⟨fun {w W} hw=>by
 refine en Tryz.func262 Tryz.ntmps262 fun a hs=>?_;refine sx hs hw fun a W hs hw=>?_
 exact cO hs rfl ⟨rfl,hw⟩⟩
instance track_Yes0:Get prog 218 [.pointer none,.int .i64 X,.int .i64 i] L (.bool false) L:=⟨fun {w W} hw=>by
 refine en Tryz.func218 Tryz.ntmps218 fun a hs=>?_;refine sx hs hw fun a W hs hw=>?_
 exact rt1 hs rfl rfl ⟨rfl,hw⟩⟩
instance track_No0:Get prog 217 [.pointer none,.int .i64 X,.int .i64 i] L (.bool false) L:=⟨fun {w W} hw=>by
 refine en Tryz.func217 Tryz.ntmps217 fun a hs=>?_;refine sx hs hw fun a W hs hw=>?_
 exact rt1 hs rfl rfl ⟨rfl,hw⟩⟩
instance track_Middle0:Get prog 257 [.pointer none,sl,.int .i64 i,.int .i64 j] L (.int .i64 0) L:=⟨fun {w W} hw=>by
 refine en Tryz.func257 Tryz.ntmps257 fun a hs=>?_;refine sx hs hw fun a W hs hw=>?_
 exact rt1 hs rfl rfl ⟨rfl,hw⟩⟩
end
section
variable {w0 W:World} {R:List Res} {pt pv:Value} {t:jW} {v:k5} {o:TrackD} {vo:VotesD} {q:Nat} {X i j:Int} {sl:Value} {l:List Int}
theorem qN (h:Has 0 w0 W (ToR pt (some o)::R)):∃q,pt=ptr q∧Has 0 w0 W (gL q o::R):=by
 obtain ⟨q,h⟩:=Has.open h;have h:Has 0 w0 W (gL q o::bQ (pt=ptr q)::R):=h;exact ⟨q,h.told (In.tl In.hd),h.sl⟩
theorem oB (h:Has 0 w0 W (gL q o::R)):Has 0 w0 W (ToR (ptr q) (some o)::R):=
 Has.shut q ((h.fact (rfl:ptr q=ptr q)).pm)
theorem qO (h:Has 0 w0 W (ToR pt none::R)):pt= .pointer none:=(show Has 0 w0 W (bQ (pt= .pointer none)::R) from h).told In.hd
theorem s8 (h:Has 0 w0 W (VoR pv (some vo)::R)):∃q,pv=ptr q∧Has 0 w0 W (gA q vo::R):=by
 obtain ⟨q,h⟩:=Has.open h;have h:Has 0 w0 W (gA q vo::bQ (pv=ptr q)::R):=h;exact ⟨q,h.told (In.tl In.hd),h.sl⟩
theorem qP (h:Has 0 w0 W (gA q vo::R)):Has 0 w0 W (VoR (ptr q) (some vo)::R):=
 Has.shut q ((h.fact (rfl:ptr q=ptr q)).pm)
theorem tA (h:Has 0 w0 W (VoR pv none::R)):pv= .pointer none:=(show Has 0 w0 W (bQ (pv= .pointer none)::R) from h).told In.hd
theorem xH (hw:Has 0 w0 W (ToR pt t::R)):Calls prog 219 ⟨[pt,.int .i64 X]⟩ W fun e W'=>e= .returned (.int .i64 (bL t X))∧Has 0 w0 W' (ToR pt t::R):=by
 cases t with
 |none=>obtain rfl:=qO hw;exact track_Next0.ok hw
 |some o=>obtain ⟨q,rfl,h⟩:=qN hw;exact (track_Next.ok h).mono fun e W' ⟨h1,h2⟩=>⟨h1,oB h2⟩
theorem aGz (hw:Has 0 w0 W (ToR pt t::R)):Calls prog 262 ⟨[pt,.int .i64 X,.int .i64 i]⟩ W fun e W'=>e= .returned (.tuple ⟨[]⟩)∧Has 0 w0 W' (ToR pt (mQ t X i)::R):=by
 cases t with
 |none=>obtain rfl:=qO hw;exact track_Sent0.ok hw
 |some o=>obtain ⟨q,rfl,h⟩:=qN hw;exact (track_Sent.ok h).mono fun e W' ⟨h1,h2⟩=>⟨h1,oB h2⟩
theorem aHA (hw:Has 0 w0 W (ToR pt t::R)):Calls prog 218 ⟨[pt,.int .i64 X,.int .i64 i]⟩ W fun e W'=>e= .returned (.bool (gK t X i).2)∧Has 0 w0 W' (ToR pt (gK t X i).1::R):=by
 cases t with
 |none=>obtain rfl:=qO hw;exact track_Yes0.ok hw
 |some o=>obtain ⟨q,rfl,h⟩:=qN hw;exact (track_Yes.ok h).mono fun e W' ⟨h1,h2⟩=>⟨h1,oB h2⟩
theorem aHB (hw:Has 0 w0 W (ToR pt t::R)):Calls prog 217 ⟨[pt,.int .i64 X,.int .i64 i]⟩ W fun e W'=>e= .returned (.bool (gX t X i).2)∧Has 0 w0 W' (ToR pt (gX t X i).1::R):=by
 cases t with
 |none=>obtain rfl:=qO hw;exact track_No0.ok hw
 |some o=>obtain ⟨q,rfl,h⟩:=qN hw;exact (track_No.ok h).mono fun e W' ⟨h1,h2⟩=>⟨h1,oB h2⟩
theorem aHC (hw:Has 0 w0 W (ToR pt t::aM sl l::R)):Calls prog 257 ⟨[pt,sl,.int .i64 i,.int .i64 j]⟩ W fun e W'=>e= .returned (.int .i64 (k8 t l i j))∧Has 0 w0 W' (ToR pt t::aM sl l::R):=by
 cases t with
 |none=>obtain rfl:=qO hw;exact track_Middle0.ok hw
 |some o=>obtain ⟨q,rfl,h⟩:=qN hw;exact ((aGv i j).ok h).mono fun e W' ⟨h1,h2⟩=>⟨h1,oB h2⟩
theorem aHD (hb:∀o,v=some o→o.yes.length≤1000) (hw:Has 0 w0 W (VoR pv v::R)):Calls prog 134 ⟨[pv,.int .i64 X]⟩ W fun e W'=>∃b,e= .returned (.bool b)∧True∧Has 0 w0 W' (VoR pv (sK v X)::R):=by
 cases v with
 |none=>obtain rfl:=tA hw;exact (vote_Yes0.ok hw).mono fun e W' ⟨h1,h2⟩=>⟨_,h1,trivial,h2⟩
 |some o=>obtain ⟨q,rfl,h⟩:=s8 hw;exact ((aBK (hb o rfl)).ok h).mono fun e W' ⟨h1,h2⟩=>⟨_,h1,trivial,qP h2⟩
theorem aHE (hb:∀o,v=some o→o.no.length≤1000) (hw:Has 0 w0 W (VoR pv v::R)):Calls prog 212 ⟨[pv,.int .i64 X]⟩ W fun e W'=>∃b,e= .returned (.bool b)∧True∧Has 0 w0 W' (VoR pv (sL v X)::R):=by
 cases v with
 |none=>obtain rfl:=tA hw;exact (vote_No0.ok hw).mono fun e W' ⟨h1,h2⟩=>⟨_,h1,trivial,h2⟩
 |some o=>obtain ⟨q,rfl,h⟩:=s8 hw;exact ((aGJ (hb o rfl)).ok h).mono fun e W' ⟨h1,h2⟩=>⟨_,h1,trivial,qP h2⟩
theorem xI (hw:Has 0 w0 W (VoR pv v::R)):Calls prog 135 ⟨[pv]⟩ W fun e W'=>e= .returned (.bool (k7 v))∧Has 0 w0 W' (VoR pv v::R):=by
 cases v with
 |none=>obtain rfl:=tA hw;exact vote_Won0.ok hw
 |some o=>obtain ⟨q,rfl,h⟩:=s8 hw;exact (vote_Won.ok h).mono fun e W' ⟨h1,h2⟩=>⟨h1,qP h2⟩
theorem aBh (hw:Has 0 w0 W (VoR pv v::R)):Calls prog 213 ⟨[pv]⟩ W fun e W'=>e= .returned (.bool (pS v))∧Has 0 w0 W' (VoR pv v::R):=by
 cases v with
 |none=>obtain rfl:=tA hw;exact vote_Lost0.ok hw
 |some o=>obtain ⟨q,rfl,h⟩:=s8 hw;exact (vote_Lost.ok h).mono fun e W' ⟨h1,h2⟩=>⟨h1,qP h2⟩
end
theorem aBi {α:Type} {p:α→Bool} {l:List α} {i:Nat} {o:α} (h:l[i]? =some o) (ha:(l.take i).any p=false) (hp:p o=false):(l.take (i+1)).any p=false:=by
 rw [fQ h,List.any_append,ha];simp [hp]
def kH (x:Int):Bool:=decide (x<0) || decide (x > 1099511627776)
section
variable {p:Nat} {l:LogD} {w0 W:World} {L R:List Res}
theorem aHF (x:Int):Get prog 237 [.int .i64 x] L (.bool (kH x)) L:=⟨fun {w W} hw=>by
 refine en Tryz.func237 Tryz.ntmps237 fun a hs=>?_;refine sv hs hw fun a hs=>?_;unfold kH;cases c1:decide (x<0) with
 |true=>
  rw [c1] at hs;refine sv hs hw fun a hs=>?_;exact rt1 hs rfl rfl ⟨rfl,hw⟩
 |false=>
  rw [c1] at hs;refine sv hs hw fun a hs=>?_
  exact rt1 hs rfl rfl ⟨rfl,hw⟩⟩
theorem aHG (all:List Int) (v:Value) (r:∀{W},Has 0 w0 W R→Rd W 1 v all.length (bR all)) (hw:Has 0 w0 W R):
  Calls prog 271 ⟨[v,.func (.func 237) ⟨[]⟩ ⟨[]⟩]⟩ W fun e W'=>∃i:Int,e= .returned (.int .i64 i)∧decide (i≥0)=all.any kH∧Has 0 w0 W' R:=by
 obtain ⟨sad,scap,rfl⟩:∃ad cap,v= .slice ad all.length cap:=by obtain ⟨_,ad,cap,e,_⟩:=r hw;exact ⟨ad,cap,e⟩
 have hlen:=(r hw).len;refine en Tryz.func271 Tryz.ntmps271 fun a hs=>?_;refine sv hs hw fun a hs=>?_;refine bX (σ:=Nat) (fun i=>[(0,.slice sad all.length scap),(1,.func (.func 237) ⟨[]⟩ ⟨[]⟩),(7,.int .i64 (all.length:Int)),(8,.int .i64 (i:Int))]) (fun _=>R) (fun i=>i≤all.length∧(all.take i).any kH=false) (fun i=>all.length - i) 0 ⟨Nat.zero_le _,rfl⟩ hs ⟨rfl,rfl,rfl,rfl,trivial⟩ hw ?_;clear hs hw;rintro i a W ⟨hi,ha⟩ hs hw;refine sv hs hw fun a hs=>?_;refine cI hs (kt:=fun hcc=>?_) (kf:=fun hcc=>?_)
 ·have hi':i<all.length:=by simpa using hcc
  obtain ⟨o,ho,hd⟩:=dP hi';refine sv hs hw fun a hs=>?_;refine iI hs (r hw) ho rfl fun a b f hs=>?_;refine aAF hs (hf:=by kernel_rfl) (hc:=(aHF (L:=R) o).ok hw.rebase) (k:=?_);rintro e0 W1 ⟨rfl,hw'⟩;refine ⟨_,rfl,fun a hs=>?_⟩;have hw:=hw.trans hw';cases hq:kH o with
  |true=>
   rw [hq] at hs;refine sv hs hw fun a hs=>?_;exact rt1 hs rfl rfl ⟨_,rfl,by rw [List.any_eq_true.2 ⟨o,List.mem_of_getElem? ho,hq⟩];exact decide_eq_true (by omega),hw⟩
  |false=>
   rw [hq] at hs;refine sv hs hw fun a hs=>?_;exact bS (i+1) hs hw ⟨hi',aBi ho ha hq⟩ (by show all.length - (i+1)<all.length - i;omega) ⟨rfl,rfl,rfl,bU (i1 (by omega)),trivial⟩
 ·have:all.take i=all:=List.take_of_length_le (by simp at hcc;omega);rw [this] at ha;refine sv hs hw fun a hs=>?_;exact rt1 hs rfl rfl ⟨_,rfl,by rw [ha];decide,hw⟩
theorem aHH (all:List Int) (v:Value) (r:∀{W},Has 0 w0 W R→Rd W 1 v all.length (bR all)) (hw:Has 0 w0 W R):
  Calls prog 162 ⟨[v]⟩ W fun e W'=>e= .returned (.bool (!all.any kH))∧Has 0 w0 W' R:=by
 have h1:∀{W},Has 0 w0 W R→Calls prog 236 ⟨[v,.func (.func 237) ⟨[]⟩ ⟨[]⟩]⟩ W fun e W'=>e= .returned (.bool (all.any kH))∧Has 0 w0 W' R:=by
  intro W hw;refine en Tryz.func236 Tryz.ntmps236 fun a hs=>?_;refine sv hs hw fun a hs=>?_;refine aH hs (hc:=aHG all v r hw) (k:=?_);rintro e0 W1 ⟨i,rfl,hi,hw⟩;refine ⟨_,rfl,fun a hs=>?_⟩;refine sv hs hw fun a hs=>?_;rw [hi] at hs;exact rt1 hs rfl rfl ⟨rfl,hw⟩
 refine en Tryz.func162 Tryz.ntmps162 fun a hs=>?_;refine sv hs hw fun a hs=>?_;refine cl hs (h1 hw) fun a W hs hw=>?_;refine sv hs hw fun a hs=>?_;exact rt1 hs rfl rfl ⟨rfl,hw⟩
theorem aHI (x:Int):kH x=!cV x:=by unfold kH cV;cases decide (x<0) <;> cases decide (x > 1099511627776) <;> rfl
theorem aBj (s:dI) (l:List bY) (v:Value) (hm:pR s l=true) (hc:s.conf.size≤1000000) (hd:∀e∈l,e.data.size≤1000000) (hr:∀{W},Has 0 w0 W R→Rd W 4 v l.length (l.flatMap bA)) (hw:Has 0 w0 W R):
  Calls prog 93 ⟨[.agg ⟨dM s⟩,v]⟩ W fun e W'=>∃q:Nat,e= .returned (ptr q)∧True∧Has 0 w0 W' (aG q ⟨s,l⟩::R):=by
 unfold pR at hm;simp only [Bool.and_eq_true] at hm;obtain ⟨⟨⟨h1,h2⟩,h3⟩,h4⟩:=hm;have h3':decide ((l.length:Int) > 200)=false:=by simpa using h3
 have h200:=of_decide_eq_false h3';have hin:0≤s.ix∧s.ix≤1099511627776:=by unfold cV at h1;simp at h1;omega
 obtain ⟨vad,vcap,rfl⟩:∃ad cap,v= .slice ad l.length cap:=by obtain ⟨_,ad,cap,e,_⟩:=hr hw;exact ⟨ad,cap,e⟩
 have ho:([s.ix,s.term].any kH)=false:=by simp [aHI,h1,h2]
 refine en Tryz.func93 Tryz.ntmps93 fun a hs=>?_;refine sc hs ?_;refine sn hs hw fun b2 a W hs hw=>?_;refine sv hs hw fun a hs=>?_;refine sn hs hw fun b3 a W hs hw=>?_;replace hw:Has 0 w0 W (aA b3 (bR [s.ix,s.term]) 2::aA b2 (dM s) 36::R):=hw;refine cl hs (aHH [s.ix,s.term] _ (fun h=>h.rd_lit (cs:=bR [s.ix,s.term]) (n:=2) (size:=1) In.hd (by rfl) (by omega)) hw) fun a W hs hw=>?_;rw [ho] at hs;refine sv hs hw fun a hs=>?_;rw [h3'] at hs;refine sv hs hw fun a hs=>?_;refine cl hs (aBQ w0 _ s.ix s.term l _ _ (fun h=>hr (h.d2)) hw) fun a W hs hw=>?_;rw [h4] at hs;refine sv hs hw fun a hs=>?_;replace hw:Has 0 w0 W (aA b2 (dM s) 36::R):=hw.d1;refine bB [2,4] [.f 0 1,.f 0 0,.m 0,.f 1 1,.m 1,.f 2 2] [.c0 _,.c0 _,.c1 (fun x=> .slice x.ad l.length x.cap),.c1 _,.c2 (fun x y=>ptr y.n),.c2 _] (aA b2 (dM s) 36::R) (fun x=>bE (.slice x.ad l.length x.cap) l::aA b2 (dM s) 36::R) (fun x y=>eW y.n s (.slice x.ad l.length x.cap)::bE (.slice x.ad l.length x.cap) l::aA b2 (dM s) 36::R) (fun x y z=>[]) (fun x y z t=>[]) hs hw ?kk ⟨drs,drs,?m0,drs,drn,drs,trivial⟩
 case m0=>
  intro x y z t LD a W hs hw;refine cle hs (sT w0 W l _ _ (by omega) (fun h=>hr (h.d1)) hw) fun x a W _ hs hw=>?_;exact ⟨{ad:=x.1,cap:=x.2},hs,hw⟩
 case kk=>
  intro x y a W hs hw;refine sc hs ?_;refine rt1 hs rfl rfl ⟨y.n,rfl,trivial,?_⟩;exact iC (l:=⟨s,l⟩) (hw.sl) ⟨hin.1,hin.2,by show l.length≤200;omega,hc,hd⟩
end
section
variable {H H':Fh} {p pl:Nat} {pv pt mv:Value} {r:RaftD} {w0 W:World} {R L:List Res} {l:List bF} {v:Value}
theorem aBk (kind:Int) (s:ByteArray) (hsz:s.size≤1000000) (hw:Has 0 w0 W (aE H p r::R)):
  Calls prog 192 ⟨[ptr p,.int .i64 kind,.string s]⟩ W fun e W'=>e= .returned (.int .i64 (r.put kind s).2)∧Has 0 w0 W' (aE H p (r.put kind s).1::R):=by
 obtain ⟨pl,pv,pt,mv,hw⟩:=dG hw;obtain ⟨hl,_⟩:=iQ (hw.swap2:Has 0 w0 W (aG pl r.l::aJ p r pl pv pt mv::VoR pv r.v::ToR pt r.t::aD H mv r.out.msgs::R));have hla:=n9 hl;have ⟨hl0,hl1,hl2,_,_⟩:=hl;have hi0:0≤w64 (r.l.last+1):=by rw [show w64 (r.l.last+1)=r.l.last+1 from IntWalk.i64_in _ (by omega)];omega
 obtain ⟨e,he⟩:∃e:bY,e=⟨w64 (r.l.last+1),r.h.term,kind,s⟩:=⟨_,rfl⟩
 have hput:r.put kind s=({r with l:=(r.l.put [e]).1}.changed (r.l.put [e]).2.1,w64 (r.l.last+1)):=by rw [he];rfl
 rw [hput];have hes:∀e'∈[e],0≤e'.ix∧e'.data.size≤1000000:=by
  intro e' h;obtain rfl:=List.mem_singleton.1 h;rw [he];exact ⟨hi0,hsz⟩
 refine en Tryz.func192 Tryz.ntmps192 fun a hs=>?_;refine sx hs hw fun a W hs hw=>?_;refine bB [14,15,18] [.f 0 2,.f 0 1,.f 0 1,.f 0 1,.f 0 1,.f 0 0,.f 0 0,.f 0 0,.f 0 0,.f 0 0,.f 0 0,.f 0 0,.f 0 0,.f 0 0,.m 0,.m 1,.f 2 2,.f 2 2,.m 2] [.c0 _,.c0 _,.c0 _,.c0 _,.c0 _,.c0 _,.c0 _,.c0 _,.c0 _,.c0 _,.c0 _,.c0 _,.c0 _,.c0 _,.c1 (fun x=> .slice (some ⟨x.n,0,none⟩) 1 1),.c2 (fun x y=> .tuple ⟨[.int .i64 (r.l.put [e]).2.1,.bool (r.l.put [e]).2.2]⟩),.c2 _,.c2 _,.c3 (fun x y z=> .bool (r.l.put [e]).2.2)] (aJ p r pl pv pt mv::aG pl (r.l)::VoR pv r.v::ToR pt r.t::aD H mv r.out.msgs::R) (fun x=>aA x.n (bA ⟨w64 (r.l.last+1),r.h.term,kind,s⟩) 137::aJ p r pl pv pt mv::aG pl (r.l)::VoR pv r.v::ToR pt r.t::aD H mv r.out.msgs::R) (fun x y=>aA x.n (bA e) 137::aJ p r pl pv pt mv::aG pl ((r.l.put [e]).1)::VoR pv r.v::ToR pt r.t::aD H mv r.out.msgs::R) (fun x y z=>aA x.n (bA e) 137::aE H p ({r with l:=(r.l.put [e]).1}.changed (r.l.put [e]).2.1)::R) (fun x y z t=>[]) hs hw ?kk ⟨drs,drs,drs,drs,drs,drs,drs,drs,drs,drs,drs,drs,drs,drs,drn,?m1,drs,drs,?m2,trivial⟩
 case m1=>
  intro x y z t LD a W hs hw;rw [←he] at hw;have hw:Has 0 w0 W (aG pl r.l::aA x.n (bA e) 137::aJ p r pl pv pt mv::VoR pv r.v::ToR pt r.t::aD H mv r.out.msgs::R):=hw.pm;refine cl hs (qB [e] (.slice (some ⟨x.n,0,none⟩) 1 1) (by simp) hes (fun h=>h.rd_lit (cs:=bA e) (n:=1) (size:=4) In.hd (by rfl) (by omega)) hw) fun a W hs hw=>?_;exact ⟨{},hs,hw.pm⟩
 case m2=>
  intro x y z t LD a W hs hw;have hw:Has 0 w0 W (aE H p {r with l:=(r.l.put [e]).1}::aA x.n (bA e) 137::R):=cD (r:={r with l:=(r.l.put [e]).1}) (hw.pm);refine cl hs (qL _ _ hw) fun a W hs hw=>?_;exact ⟨{},hs,hw.swap2⟩
 case kk=>
  intro x y z a W hs hw;refine sv hs hw fun a hs=>?_;exact rt1 hs rfl rfl ⟨rfl,hw.d1⟩
end
end Go.Proofs.YtgpbngfehfbndaaGreatDoor.Sw
