/-
  Texts of the proof, one behind the other (part 22).
-/
import Derived.Test.YtgpbngfehfbndaaGreatDoorM20
import Derived.Test.YtgpbngfehfbndaaGreatDoorM21
import Derived.Test.YtgpbngfehfbndaaGreatDoorChecked
import Derived.Test.YtgpbngfehfbndaaGreatDoorProg
set_option maxHeartbeats 16000000
set_option linter.unusedVariables false
set_option maxRecDepth 10000
namespace Go.Sx
open Go.RowKit
section
variable {P:Program} {ops:Array Oper} {aE:List Oper} {Q:Exit→Act→World→Prop} {a:Act} {n:Nat} {L:List (Nat×Value)} {W:World} {d:Nat} {T S E:TypeId} {p:String} {e:Array Edge} {x:Operand} {k b o:Nat} {z:List Value}
theorem aCX {agg:Bool} [ar:Ar P S k E] [t:Ty P E agg z] (hs:Slots a n L) (hx:ev L x=some (.pointer (some ⟨b,o,none⟩)):=by with_unfolding_all exact rfl) (hd:Nat.blt d n=true:=by with_unfolding_all exact rfl)
  (c:∀a',Slots a' n ((d,.slice (some ⟨b,o,none⟩) k k)::L)→wpList P ops Q aE a' W):wpList P ops Q (⟨some d,.slice S x none none none,T,p,e,none⟩::aE) a W:=by
 refine bW hs hd (v:= .slice (some ⟨b,o,none⟩) k k) (W':=W) ?_ c;simp only [execOp,Option.map_none,hs.ev hx];simp [Instr.sliceAt,Instr.sureAddr,run_underlying ar.out,Instr.sliceBounds,t.sizeOf,eK]
end
end Go.Sx
namespace Go.Proofs.YtgpbngfehfbndaaGreatDoor.Sw
open Go.RowKit Go.Sx
def jI (v:Int) (k:Nat):List Int:=List.replicate k v ++ List.replicate (8 - k) 0
theorem oP {v:Int} {k:Nat} (h:k≤8):(jI v k).length=8:=by simp [jI];omega
theorem aCY {v:Int} {k:Nat} (h:k<8):eG (jI v k) (k:Int) v=jI v (k+1):=by
 obtain rfl|rfl|rfl|rfl|rfl|rfl|rfl|rfl:k=0∨k=1∨k=2∨k=3∨k=4∨k=5∨k=6∨k=7:=by omega
 all_goals rfl
section
variable {p:Nat} {t:TrackD} {L L1 L2:List Res} {X i last:Int}
theorem aHj:New Tryz.prog 210 [.int .i64 last] L Nat (fun b=>ptr b) (fun b=>gM b (mE last)::L):=⟨fun {w W} hw=>by
 have e:mE last=⟨jI (w64 ((match dB last with|true=>last|false=>0)+1)) 8,List.replicate 8 0⟩:=by
  unfold mE jI;cases dB last <;> simp
 rw [e];refine enter Tryz.func210 Tryz.ntmps210 rfl rfl fun a hs=>?_;refine sx hs hw fun a W hs hw=>?_;cases c1:dB last with
 |true=>
  rw [c1] at hs;refine sv hs hw fun a hs=>?_;refine sn hs hw fun b a W hs hw=>?_;refine sv hs hw fun a hs=>?_;have hz:(aA b (bU (jI (w64 (last+1)) 0) ++ bU (List.replicate 8 0)) 340::L)=(aA b (bU (jI (w64 (last+1)) 0) ++ bU (List.replicate 8 0)) 340::L):=rfl;refine bY (σ:=Nat) (fun k=>[(0,.int .i64 last),(3,ptr b),(10,.int .i64 (k:Int))]) (fun k=>aA b (bU (jI (w64 (last+1)) k) ++ bU (List.replicate 8 0)) 340::L) (fun k=>k≤8) (fun k=>8 - k) 0 (Nat.zero_le _) hs ⟨rfl,rfl,rfl,trivial⟩ hw ?_;clear hs hw;intro k a W hk hs hw;refine sv hs hw fun a hs=>?_;refine cI hs (kt:=fun hc=>?_) (kf:=fun hc=>?_)
  ·have hk':k<8:=by have:=hc;simp at this;omega
   have hj0:(0:Int)≤(k:Int):=by omega
   have hj1:(k:Int)<((8:Nat):Int):=by omega
   have hl3:=q0 (mt:=List.replicate 8 0) (x:=(k:Int)) (oP (v:=w64 (last+1)) hk) (by simp) ⟨hj0,by omega⟩ (.int .i64 (w64 (last+1)));refine sw (P:=Tryz.prog) hs hw fun a W hs hw=>?_;rw [qZ (oP hk) ⟨hj0,by omega⟩,aCY hk'] at hw;exact bQ (k+1) hs hw hk' (by show 8 - (k+1)<8 - k;omega) ⟨rfl,rfl,bR (i1 (by omega)),trivial⟩
  ·obtain rfl:k=8:=by simp at hc;omega
   refine sv hs hw fun a hs=>?_;exact rt1 hs rfl rfl ⟨b,rfl,iV (t:=⟨_,_⟩) hw ⟨oP hk,by simp⟩⟩
 |false=>
  rw [c1] at hs;refine sv hs hw fun a hs=>?_;refine sn hs hw fun b a W hs hw=>?_;refine sv hs hw fun a hs=>?_;have hz:(aA b (bU (jI (w64 (0+1)) 0) ++ bU (List.replicate 8 0)) 340::L)=(aA b (bU (jI (w64 (0+1)) 0) ++ bU (List.replicate 8 0)) 340::L):=rfl;refine bY (σ:=Nat) (fun k=>[(0,.int .i64 0),(3,ptr b),(10,.int .i64 (k:Int))]) (fun k=>aA b (bU (jI (w64 (0+1)) k) ++ bU (List.replicate 8 0)) 340::L) (fun k=>k≤8) (fun k=>8 - k) 0 (Nat.zero_le _) hs ⟨rfl,rfl,rfl,trivial⟩ hw ?_;clear hs hw;intro k a W hk hs hw;refine sv hs hw fun a hs=>?_;refine cI hs (kt:=fun hc=>?_) (kf:=fun hc=>?_)
  ·have hk':k<8:=by have:=hc;simp at this;omega
   have hj0:(0:Int)≤(k:Int):=by omega
   have hj1:(k:Int)<((8:Nat):Int):=by omega
   have hl3:=q0 (mt:=List.replicate 8 0) (x:=(k:Int)) (oP (v:=w64 (0+1)) hk) (by simp) ⟨hj0,by omega⟩ (.int .i64 (w64 (0+1)));refine sw (P:=Tryz.prog) hs hw fun a W hs hw=>?_;rw [qZ (oP hk) ⟨hj0,by omega⟩,aCY hk'] at hw;exact bQ (k+1) hs hw hk' (by show 8 - (k+1)<8 - k;omega) ⟨rfl,rfl,bR (i1 (by omega)),trivial⟩
  ·obtain rfl:k=8:=by simp at hc;omega
   refine sv hs hw fun a hs=>?_
   exact rt1 hs rfl rfl ⟨b,rfl,iV (t:=⟨_,_⟩) hw ⟨oP hk,by simp⟩⟩⟩
theorem aCZ {l:List Int} (h:l.length=8):∃a b c d e f g i,l= [a,b,c,d,e,f,g,i]:=by
 match l,h with
 | [a,b,c,d,e,f,g,i],_=>exact ⟨a,b,c,d,e,f,g,i,rfl⟩
theorem aHk {l:List Int} {x v:Int} (h:l.length=8) (hx:0≤x∧x<8):ov (bU l) (0+x.toNat*1) [.int .i64 v]=bU (eG l x v):=by
 rw [show 0+x.toNat*1=x.toNat by omega,yN (by simp;omega)];unfold eG bU;rw [List.map_set]
theorem aHl {sl:Value} {l:List Int} (self last:Int) [c:dI (fun t=>gM p t) L t L1] [c2:dI (fun l=>aN sl l) L l L2]:Get Tryz.prog 257 [ptr p,sl,.int .i64 self,.int .i64 last] L (.int .i64 (t.mid l self last)) L:=⟨fun {w W} hw=>by
 have e:t.mid l self last=tE l (match srv self with|true=>eG t.mat self last|false=>t.mat):=rfl;obtain ⟨hl,_⟩:=oM (hw.pick c.p);rw [e];obtain ⟨nx,mt⟩:=t;obtain ⟨hl1,hl2⟩:nx.length=8∧mt.length=8:=hl;obtain ⟨n0,n1,n2,n3,n4,n5,n6,n7,hnx⟩:=aCZ hl1;obtain ⟨m0,m1,m2,m3,m4,m5,m6,m7,hmt⟩:=aCZ hl2;have drop1:∀{W A},Has 0 w W (A::L)→Has 0 w W L:=fun h=>h.d1;refine enter Tryz.func257 Tryz.ntmps257 rfl rfl fun a hs=>?_;refine sv hs hw fun a hs=>?_;have hw2:Has 0 w W (aA p (bU [n0,n1,n2,n3,n4,n5,n6,n7] ++ bU [m0,m1,m2,m3,m4,m5,m6,m7]) 340::L1):=by
  have:=(oM (hw.pick c.p)).2;rw [←hnx,←hmt];exact this
 refine vX hs (hw:=hw2) (hi:=In.hd) (k:=fun a hs=>?_);refine sn hs hw fun b a W hs hw=>?_;refine sx hs hw fun a W hs hw=>?_;replace hw:Has 0 w W (aA b (bU mt) 338::L):=by rw [hmt];exact hw
 cases c1:srv self with
 |false=>
  rw [c1] at hs;refine sv hs hw fun a hs=>?_;refine aCX hs (c:=fun a hs=>?_);refine cl hs ((aCW (l:=l) (sl:=sl) (at_:=mt) (L:=aA b (bU mt) 338::L) hl2 In.hd).ok hw) fun a W hs hw=>?_;refine sv hs hw fun a hs=>?_;exact rt1 hs rfl rfl ⟨rfl,drop1 hw⟩
 |true=>
  rw [c1] at hs;have hx:=qX c1;have hj0:=hx.1;have hj1:self<((8:Nat):Int):=hx.2;have hl3:Nat.ble (0+self.toNat*1+ [Value.int .i64 last].length) (bU mt).length=true:=Nat.ble_eq_true_of_le (by simp;omega);refine sw (P:=Tryz.prog) hs hw fun a W hs hw=>?_;rw [aHk hl2 hx] at hw;refine aCX hs (c:=fun a hs=>?_);refine cl hs ((aCW (l:=l) (sl:=sl) (at_:=eG mt self last) (L:=aA b (bU (eG mt self last)) 338::L) (tU hl2) In.hd).ok hw) fun a W hs hw=>?_;refine sv hs hw fun a hs=>?_
  exact rt1 hs rfl rfl ⟨rfl,drop1 hw⟩⟩
end
section
variable {H H':Fh} {p pl:Nat} {pv pt mv:Value} {r:RaftD} {w0 W:World} {R L:List Res} {l:List bS} {v:Value}
theorem aC0 (h:Has 0 w0 W (aF H p r::R)):∃pl pv pt ad cap xs,Ch (MsgIn H) r.out.msgs xs∧Has 0 w0 W (Sx.Own 38 13 (.slice ad r.out.msgs.length cap) r.out.msgs.length xs::aK p r pl pv pt (.slice ad r.out.msgs.length cap)::aH pl r.l::VoR pv r.v::ToR pt r.t::R):=by
 obtain ⟨pl,pv,pt,mv,h⟩:=dG h;obtain ⟨ad,cap,xs,rfl,hc,h⟩:=q9 (h.pm:Has 0 w0 W (aD H mv r.out.msgs::aK p r pl pv pt mv::aH pl r.l::VoR pv r.v::ToR pt r.t::R));exact ⟨pl,pv,pt,ad,cap,xs,hc,h⟩
theorem aC1 {xs:List Value} (h:Has 0 w0 W (Sx.Own 38 13 mv r.out.msgs.length xs::aK p r pl pv pt mv::aH pl r.l::VoR pv r.v::ToR pt r.t::R)) (hc:Ch (MsgIn H) r.out.msgs xs):Has 0 w0 W (aF H p r::R):=
 cG ((j0 h hc).pm)
theorem fS (m:bS) (v:Value) (hm:fW H v m.es) (hc:m.snap.conf.size≤1000000) (hl:r.out.msgs.length≤1000) (hw:Has 0 w0 W (aF H p r::R)):
  Calls Tryz.prog 139 ⟨[ptr p,.agg ⟨aI m v⟩]⟩ W fun e W'=>e= .returned (.tuple ⟨[]⟩)∧Has 0 w0 W' (aF H p (r.say m)::R):=by
 obtain ⟨pl,pv,pt,ad,cap,xs,hch,hw⟩:=aC0 hw;obtain ⟨vad,vcap,rfl⟩:=hm.slice;obtain ⟨R',hR⟩:∃R',R'=aH pl r.l::VoR pv r.v::ToR pt r.t::R:=⟨_,rfl⟩
 rw [←hR] at hw;refine enter Tryz.func139 Tryz.ntmps139 rfl rfl fun a hs=>?_;refine sc hs ?_;refine sn hs hw fun b a W hs hw=>?_;refine sc hs ?_;refine bG [10,12] [.f 0 0,.f 0 0,.f 0 0,.f 0 0,.f 0 1,.f 0 1,.f 0 1,.f 0 1,.f 0 1,.f 0 0,.m 0,.f 1 1,.m 1] [.c0 _,.c0 _,.c0 _,.c0 _,.c0 _,.c0 _,.c0 _,.c0 _,.c0 _,.c0 _,.c1 (fun x=>undef),.c1 _,.c2 (fun x y=>undef)] (aA b (aI m (.slice vad m.es.length vcap)) 38::Sx.Own 38 13 (.slice ad r.out.msgs.length cap) r.out.msgs.length xs::aK p r pl pv pt (.slice ad r.out.msgs.length cap)::R') (fun x=>aA b (aI {m with from_:=r.id} (.slice vad m.es.length vcap)) 38::Sx.Own 38 13 (.slice ad r.out.msgs.length cap) r.out.msgs.length xs::aK p r pl pv pt (.slice ad r.out.msgs.length cap)::R') (fun x y=>aA b (aI {m with from_:=r.id,term:=r.h.term} (.slice vad m.es.length vcap)) 38::Sx.Own 38 13 (.slice ad r.out.msgs.length cap) r.out.msgs.length xs::aK p r pl pv pt (.slice ad r.out.msgs.length cap)::R') (fun x y z=>[]) (fun x y z t=>[]) hs hw ?kk ⟨drs,drs,drs,drs,drs,drs,drs,drs,drs,drs,drm,drs,drm,trivial⟩
 case kk=>
  intro _ _ a W hs hw;replace hs:Slots a 27 [(0,ptr p),(3,ptr b)]:=hs.ot;obtain ⟨m',hm'⟩:∃m':bS,m'= {m with from_:=r.id,term:=r.h.term}:=⟨_,rfl⟩
  have hes:m'.es=m.es:=by rw [hm']
  have hin:MsgIn H m' (aI m' (.slice vad m.es.length vcap)):=⟨_,rfl,by rw [hes];exact hm,by rw [hm'];exact hc⟩
  rw [←hm'] at hw;refine sc hs ?_;refine bG [7,8,12] [.f 0 2,.f 0 1,.f 0 1,.f 0 1,.f 0 1,.f 0 1,.f 0 0,.m 0,.m 1,.f 2 2,.f 2 2,.f 2 2,.m 2] [.c0 _,.c0 _,.c0 _,.c0 _,.c0 _,.c0 _,.c0 _,.c1 (fun x=> .slice (some ⟨x.n,0,none⟩) 1 1),.c2 (fun x y=> .slice y.ad (r.out.msgs ++ [m']).length y.cap),.c2 _,.c2 _,.c2 _,.c3 (fun x y z=>undef)] (aA b (aI m' (.slice vad m.es.length vcap)) 38::Sx.Own 38 13 (.slice ad r.out.msgs.length cap) r.out.msgs.length xs::aK p r pl pv pt (.slice ad r.out.msgs.length cap)::R') (fun x=>aA x.n (aI m' (.slice vad m.es.length vcap)) 38::aA b (aI m' (.slice vad m.es.length vcap)) 38::Sx.Own 38 13 (.slice ad r.out.msgs.length cap) r.out.msgs.length xs::aK p r pl pv pt (.slice ad r.out.msgs.length cap)::R') (fun x y=>aA b (aI m' (.slice vad m.es.length vcap)) 38::Sx.Own 38 13 (.slice y.ad (r.out.msgs ++ [m']).length y.cap) (r.out.msgs ++ [m']).length (xs ++ aI m' (.slice vad m.es.length vcap))::aK p r pl pv pt (.slice ad r.out.msgs.length cap)::R') (fun x y z=>aA b (aI m' (.slice vad m.es.length vcap)) 38::Sx.Own 38 13 (.slice y.ad (r.out.msgs ++ [m']).length y.cap) (r.out.msgs ++ [m']).length (xs ++ aI m' (.slice vad m.es.length vcap))::aK p r pl pv pt (.slice y.ad (r.out.msgs ++ [m']).length y.cap)::R') (fun x y z t=>[]) hs hw ?kk ⟨drs,drs,drs,drs,drs,drs,drs,drn,?m1,drs,drs,drs,drm,trivial⟩
  case m1=>
   intro x y z t LD a W hs hw;have hw:Has 0 w0 W (Sx.Own 38 13 (.slice ad r.out.msgs.length cap) r.out.msgs.length xs::aA x.n (aI m' (.slice vad m.es.length vcap)) 38::aA b (aI m' (.slice vad m.es.length vcap)) 38::aK p r pl pv pt (.slice ad r.out.msgs.length cap)::R'):=hw.pm;refine jP hs hw In.hd hch hin rfl rfl (by omega) (by omega) (k:=fun a ad2 cap2 W hs hw _=>?_);exact ⟨{ad:=ad2,cap:=cap2},hs,hw.sl⟩
  case kk=>
   intro x y z a W hs hw;refine cP hs rfl ⟨rfl,?_⟩;rw [hR] at hw;have he:r.say m= {r with out:={r.out with msgs:=r.out.msgs ++ [m']}}:=by rw [hm'];rfl
   rw [he];exact aC1 (r:={r with out:={r.out with msgs:=r.out.msgs ++ [m']}}) (hw.sl) (hch.app (Ch.unit hin))
theorem tV (h:fV) (hw:Has 0 w0 W (aF H p r::R)):
  Calls Tryz.prog 132 ⟨[ptr p,.agg ⟨[.int .i64 h.term,.int .i64 h.vote]⟩]⟩ W fun e W'=>e= .returned (.tuple ⟨[]⟩)∧Has 0 w0 W' (aF H p (r.hardD h)::R):=by
 obtain ⟨pl,pv,pt,mv,hw⟩:=dG hw;obtain ⟨id,rh,rl,cm,role,ldr,hrd,rv,rt,⟨ms,hd,fr,sp⟩⟩:=r;refine enter Tryz.func132 Tryz.ntmps132 rfl rfl fun a hs=>?_;refine sc hs ?_;refine sn hs hw fun b a W hs hw=>?_;refine sc hs ?_;cases hd with
 |true=>
  replace hw:Has 0 w0 W (aA b [.int .i64 h.term,.int .i64 h.vote] 44::gZ p id rh.term rh.vote pl cm role ldr hrd pv pt mv (true) fr sp::aH pl rl::VoR pv rv::ToR pt rt::aD H mv ms::R):=hw;refine bG [17] [.f 0 0,.f 0 0,.f 0 0,.f 0 0,.f 0 0,.f 0 0,.f 0 0,.f 0 0,.f 0 0,.f 0 0,.f 0 0,.f 0 0,.f 0 0,.f 0 0,.f 0 0,.f 0 0,.f 0 0,.m 0] [.c0 _,.c0 _,.c0 _,.c0 _,.c0 _,.c0 _,.c0 _,.c0 _,.c0 _,.c0 _,.c0 _,.c0 _,.c0 _,.c0 _,.c0 _,.c0 _,.c0 _,.c1 (fun x=>undef)] (aA b [.int .i64 h.term,.int .i64 h.vote] 44::gZ p id rh.term rh.vote pl cm role ldr hrd pv pt mv (true) fr sp::aH pl rl::VoR pv rv::ToR pt rt::aD H mv ms::R) (fun x=>aA b [.int .i64 h.term,.int .i64 h.vote] 44::gZ p id rh.term rh.vote pl cm role ldr hrd pv pt mv (true) fr sp::aH pl rl::VoR pv rv::ToR pt rt::aD H mv ms::R) (fun x y=>[]) (fun x y z=>[]) (fun x y z t=>[]) hs hw ?kk ⟨drs,drs,drs,drs,drs,drs,drs,drs,drs,drs,drs,drs,drs,drs,drs,drs,drs,drm,trivial⟩
  case kk=>
   intro _ a W hs hw;refine sx hs hw fun a W hs hw=>?_;refine cP hs rfl ⟨rfl,?_⟩;exact cG (r:=⟨id,h,rl,cm,role,ldr,hrd,rv,rt,⟨ms,true,fr,sp⟩⟩) (hw.d1)
 |false=>
  replace hw:Has 0 w0 W (aA b [.int .i64 h.term,.int .i64 h.vote] 44::gZ p id rh.term rh.vote pl cm role ldr hrd pv pt mv (false) fr sp::aH pl rl::VoR pv rv::ToR pt rt::aD H mv ms::R):=hw;refine bG [17] [.f 0 0,.f 0 0,.f 0 0,.f 0 0,.f 0 0,.f 0 0,.f 0 0,.f 0 0,.f 0 0,.f 0 0,.f 0 0,.f 0 0,.f 0 0,.f 0 0,.f 0 0,.f 0 0,.f 0 0,.m 0] [.c0 _,.c0 _,.c0 _,.c0 _,.c0 _,.c0 _,.c0 _,.c0 _,.c0 _,.c0 _,.c0 _,.c0 _,.c0 (.bool (!((h.term == rh.term) && (h.vote == rh.vote)))),.c0 _,.c0 _,.c0 _,.c0 _,.c1 (fun x=>undef)] (aA b [.int .i64 h.term,.int .i64 h.vote] 44::gZ p id rh.term rh.vote pl cm role ldr hrd pv pt mv (false) fr sp::aH pl rl::VoR pv rv::ToR pt rt::aD H mv ms::R) (fun x=>aA b [.int .i64 h.term,.int .i64 h.vote] 44::gZ p id rh.term rh.vote pl cm role ldr hrd pv pt mv (!((h.term == rh.term) && (h.vote == rh.vote))) fr sp::aH pl rl::VoR pv rv::ToR pt rt::aD H mv ms::R) (fun x y=>[]) (fun x y z=>[]) (fun x y z t=>[]) hs hw ?kk ⟨drs,drs,drs,drs,drs,drs,drs,drs,drs,drs,drs,drs,?f12,drs,drs,drs,drs,drm,trivial⟩
  case f12=>
   refine ⟨?_,trivial,trivial,trivial,trivial⟩;intro x y z t LD a W hs hw;refine sc hs ?_;refine aFQ [(2,.i h.term,.i rh.term),(3,.i h.vote,.i rh.vote)] ((h.term == rh.term) && (h.vote == rh.vote)) (by simp [FV.eqv]) hs (by simp only [List.mem_cons,List.not_mem_nil,or_false];rintro v (rfl|rfl) <;> exact sQ _ _) fun a hs=>?_;exact ⟨hs,hw⟩
  case kk=>
   intro _ a W hs hw;refine sx hs hw fun a W hs hw=>?_;refine cP hs rfl ⟨rfl,?_⟩;exact cG (r:=⟨id,h,rl,cm,role,ldr,hrd,rv,rt,⟨ms,!((h.term == rh.term) && (h.vote == rh.vote)),fr,sp⟩⟩) (hw.d1)
theorem aHm (t:Int) (hw:Has 0 w0 W (aF H p r::R)):
  Calls Tryz.prog 140 ⟨[ptr p,.int .i64 t]⟩ W fun e W'=>e= .returned (.tuple ⟨[]⟩)∧Has 0 w0 W' (aF H p (r.yield t)::R):=by
 refine enter Tryz.func140 Tryz.ntmps140 rfl rfl fun a hs=>?_;refine sv hs hw fun a hs=>?_;refine cl hs (tV ⟨t,0⟩ hw) fun a W hs hw=>?_;obtain ⟨pl,pv,pt,mv,hw⟩:=dG hw;refine sx hs hw fun a W hs hw=>?_;exact cP hs rfl ⟨rfl,cG (r:=r.yield t) hw⟩
theorem tW (hw:Has 0 w0 W (aF H p r::R)):
  Calls Tryz.prog 122 ⟨[ptr p]⟩ W fun e W'=>∃s:Option Addr×Nat,e= .returned (.agg ⟨[.slice s.1 r.out.msgs.length s.2,.bool r.out.hard,.int .i64 r.out.from_,.bool r.out.snap]⟩)∧True∧Has 0 w0 W' (aF H p r.did.1::aD H (.slice s.1 r.out.msgs.length s.2) r.out.msgs::R):=by
 obtain ⟨pl,pv,pt,ad,cap,xs,hch,hw⟩:=aC0 hw;refine enter Tryz.func122 Tryz.ntmps122 rfl rfl fun a hs=>?_;refine sc hs ?_;refine sn hs hw fun b2 a W hs hw=>?_;refine sv hs hw fun a hs=>?_;refine sn hs hw fun b3 a W hs hw=>?_;refine sx hs hw fun a W hs hw=>?_;refine rc1 hs rfl rfl hw inn rfl ⟨(ad,cap),rfl,trivial,?_⟩;have hw:Has 0 w0 W (Sx.Own 38 13 (.slice none 0 0) 0 []::_):=hw.nilOwn 38 13;have hw:Has 0 w0 W (aF H p r.did.1::Sx.Own 38 13 (.slice ad r.out.msgs.length cap) r.out.msgs.length xs::R):=aC1 (r:=r.did.1) (xs:=[]) (pl:=pl) (pv:=pv) (pt:=pt) (mv:= .slice none 0 0) (hw.sl) rfl;exact (j0 hw.swap2 hch).swap2
end
section
variable {H H':Fh} {p pl:Nat} {pv pt mv:Value} {r:RaftD} {w0 W:World} {R L:List Res} {l:List bS} {v:Value}
theorem rB (i:Int) (ok:Bool) (hw:Has 0 w0 W (aF H p r::R)):
  Calls Tryz.prog 215 ⟨[ptr p,.int .i64 i,.bool ok]⟩ W fun e W'=>e= .returned (.bool ok)∧Has 0 w0 W' (aF H p (r.changed i)::R):=by
 obtain ⟨pl,pv,pt,mv,hw⟩:=dG hw;have he:r.changed i=match decide (i > 0) && (r.out.from_ == 0 || decide (i<r.out.from_)) with|true=>{r with out:={r.out with from_:=i}}|false=>r:=rfl
 rw [he];refine enter Tryz.func215 Tryz.ntmps215 rfl rfl fun a hs=>?_;refine sv hs hw fun a hs=>?_;cases c1:decide (i > 0) with
 |false=>
  rw [c1] at hs;refine sv hs hw fun a hs=>?_;exact rt1 hs rfl rfl ⟨rfl,cG hw⟩
 |true=>
 rw [c1] at hs;refine sv hs hw fun a hs=>?_;cases c2:r.out.from_ == 0 with
 |true=>
  rw [c2] at hs;refine sx hs hw fun a W hs hw=>?_;exact rt1 hs rfl rfl ⟨rfl,cG (r:={r with out:={r.out with from_:=i}}) hw⟩
 |false=>
 rw [c2] at hs;refine sv hs hw fun a hs=>?_;cases c3:decide (i<r.out.from_) with
 |true=>
  rw [c3] at hs;refine sx hs hw fun a W hs hw=>?_;exact rt1 hs rfl rfl ⟨rfl,cG (r:={r with out:={r.out with from_:=i}}) hw⟩
 |false=>
  rw [c3] at hs;refine sv hs hw fun a hs=>?_;exact rt1 hs rfl rfl ⟨rfl,cG hw⟩
theorem aHn {α:Type} {l:List α} {i:Nat} {o:α} (f:α→Bool) (h:l[i]? =some o):(l.take (i+1)).filter f=(l.take i).filter f ++ (match f o with|true=>[o]|false=>[]):=by
 rw [gB h,List.filter_append];cases hf:f o <;> simp [hf]
theorem aC2:∀(l:List cD) (k:Int) (x:List Int×Int),jX k l=some x→x.1.length≤7
 | [],_,_,h=>by cases h
 |e::r,k,x,h=>by
  unfold jX at h;split at h
  ·rename_i h1;obtain rfl:=Option.some.inj h;rw [Bool.and_eq_true] at h1;unfold dL at h1⊢;cases hm:cV (e.data.data.toList.map fun c=>(c.toNat:Int) - 48) with
   |false=>rw [hm] at h1;cases h1.1
   |true=>exact qN hm
  ·exact aC2 r (k - 1) x h
theorem aHo (s:List UInt8):(dL s).1.length≤7:=by
 unfold dL;cases hm:cV (s.map fun c=>(c.toNat:Int) - 48) with
 |false=>simp
 |true=>exact qN hm
theorem oQ (l:LogD) (i:Int):(l.confAt i).1.length≤7:=by
 unfold LogD.confAt;split
 ·rename_i x h;exact aC2 _ _ x h
 ·split
  ·exact aHo _
  ·simp
theorem aC3 (hw:Has 0 w0 W (aF H p r::R)):
  Calls Tryz.prog 138 ⟨[ptr p]⟩ W fun e W'=>∃s:Option Addr×Nat,e= .returned (.slice s.1 r.others.length s.2)∧True∧Has 0 w0 W' (aN (.slice s.1 r.others.length s.2) r.others::aF H p r::R):=by
 obtain ⟨pl,pv,pt,mv,hw⟩:=dG hw;have he:r.others=r.l.conf.1.filter fun x=>x !=r.id:=rfl;have h7:=oQ r.l r.l.last;rw [he];refine enter Tryz.func138 Tryz.ntmps138 rfl rfl fun a hs=>?_;refine sx hs hw fun a W hs hw=>?_;refine aG hs (hc:=(qR (l:=r.l)).ok hw.rebase) (k:=?_);rintro e' W' ⟨x,rfl,hw'⟩;refine ⟨_,rfl,fun a hs=>?_⟩;have hw:=(hw.trans hw').nilOwn 3 1;rw [show r.l.conf.1=(r.l.confAt r.l.last).1 from rfl] at hs hw⊢;generalize (r.l.confAt r.l.last).1=c at *;replace hw:Has 0 w0 W' (aN (.slice none 0 0) []::aN (.slice x.1 c.length x.2) c::aK p r pl pv pt mv::aH pl r.l::VoR pv r.v::ToR pt r.t::aD H mv r.out.msgs::R):=hw;refine sv hs hw fun a hs=>?_
 let f:Int→Bool:=fun x=>x !=r.id
 refine bY (σ:=Nat×Option Addr×Nat) (fun q=>[(0,ptr p),(5,.slice q.2.1 ((c.take q.1).filter f).length q.2.2),(16,.slice x.1 c.length x.2),(17,.int .i64 (c.length:Int)),(18,.int .i64 (q.1:Int))]) (fun q=>aN (.slice q.2.1 ((c.take q.1).filter f).length q.2.2) ((c.take q.1).filter f)::aN (.slice x.1 c.length x.2) c::aK p r pl pv pt mv::aH pl r.l::VoR pv r.v::ToR pt r.t::aD H mv r.out.msgs::R) (fun q=>q.1≤c.length) (fun q=>c.length - q.1) (0,none,0) (Nat.zero_le _) hs ⟨rfl,rfl,rfl,rfl,rfl,trivial⟩ hw ?_;clear hs hw;rintro ⟨i,ad,cap⟩ a W hi hs hw;have hi:i≤c.length:=hi;simp only at hs hw;refine sv hs hw fun a hs=>?_;refine cI hs (kt:=fun hc=>?_) (kf:=fun hc=>?_)
 ·have hi':i<c.length:=by simpa using hc
  obtain ⟨o,ho,hd⟩:=dR hi';have hn:=aHn f ho;have hle:((c.take i).filter f).length≤7:=Nat.le_trans (List.length_filter_le _ _) (by rw [List.length_take];omega);refine sc hs ?_;refine hQ hs (hw.rd_own (In.tl In.hd)) ho rfl fun a b fo hs=>?_;refine sv hs hw fun a hs=>?_;rw [show (o !=r.id)=f o from rfl] at hs;cases c1:f o with
  |true=>
   rw [c1] at hs hn;replace hn:(c.take (i+1)).filter f=(c.take i).filter f ++ [o]:=hn;refine sv hs hw fun a hs=>?_;refine sn hs hw fun b a W hs hw=>?_;refine mW hs hw Pick.hd (by omega) fun a ad cap W hs hw=>?_;rw [←hn] at hs hw;refine sv hs hw fun a hs=>?_;exact bQ (i+1,ad,cap) hs hw hi' (by show c.length - (i+1)<c.length - i;omega) ⟨rfl,rfl,rfl,rfl,bR (i1 (by omega)),trivial⟩
  |false=>
   rw [c1] at hs hn;replace hn:(c.take (i+1)).filter f=(c.take i).filter f:=by rw [hn];simp
   refine sv hs hw fun a hs=>?_;exact bQ (i+1,ad,cap) hs (by show Has 0 w0 W (aN (.slice ad ((c.take (i+1)).filter f).length cap) ((c.take (i+1)).filter f)::_);rw [hn];exact hw) hi' (by show c.length - (i+1)<c.length - i;omega) ⟨rfl,by rw [hn];rfl,rfl,rfl,bR (i1 (by omega)),trivial⟩
 ·have:c.take i=c:=List.take_of_length_le (by simp at hc;omega);rw [this] at hs hw;refine sv hs hw fun a hs=>?_;refine rt1 hs rfl rfl ⟨(ad,cap),rfl,trivial,?_⟩;have hw:Has 0 w0 W (aF H p r::aN (.slice ad (c.filter f).length cap) (c.filter f)::R):=cG (hw.sl);exact hw.swap2
end
section
variable {L:List Res} {X i j:Int} {sl:Value}
instance track_Next0:Get Tryz.prog 219 [.pointer none,.int .i64 X] L (.int .i64 0) L:=⟨fun {w W} hw=>by
 refine enter Tryz.func219 Tryz.ntmps219 rfl rfl fun a hs=>?_;refine sx hs hw fun a W hs hw=>?_
 exact rt1 hs rfl rfl ⟨rfl,hw⟩⟩
instance track_Sent0:Get Tryz.prog 262 [.pointer none,.int .i64 X,.int .i64 i] L (.tuple ⟨[]⟩) L:=⟨fun {w W} hw=>by
 refine enter Tryz.func262 Tryz.ntmps262 rfl rfl fun a hs=>?_;refine sx hs hw fun a W hs hw=>?_
 exact cP hs rfl ⟨rfl,hw⟩⟩
instance track_Yes0:Get Tryz.prog 218 [.pointer none,.int .i64 X,.int .i64 i] L (.bool false) L:=⟨fun {w W} hw=>by
 refine enter Tryz.func218 Tryz.ntmps218 rfl rfl fun a hs=>?_;refine sx hs hw fun a W hs hw=>?_
 exact rt1 hs rfl rfl ⟨rfl,hw⟩⟩
instance track_No0:Get Tryz.prog 217 [.pointer none,.int .i64 X,.int .i64 i] L (.bool false) L:=⟨fun {w W} hw=>by
 refine enter Tryz.func217 Tryz.ntmps217 rfl rfl fun a hs=>?_;refine sx hs hw fun a W hs hw=>?_
 exact rt1 hs rfl rfl ⟨rfl,hw⟩⟩
instance track_Middle0:Get Tryz.prog 257 [.pointer none,sl,.int .i64 i,.int .i64 j] L (.int .i64 0) L:=⟨fun {w W} hw=>by
 refine enter Tryz.func257 Tryz.ntmps257 rfl rfl fun a hs=>?_;refine sx hs hw fun a W hs hw=>?_
 exact rt1 hs rfl rfl ⟨rfl,hw⟩⟩
end
section
variable {w0 W:World} {R:List Res} {pt pv:Value} {t:jY} {v:lF} {o:TrackD} {vo:VotesD} {q:Nat} {X i j:Int} {sl:Value} {l:List Int}
theorem rC (h:Has 0 w0 W (ToR pt (some o)::R)):∃q,pt=ptr q∧Has 0 w0 W (gM q o::R):=by
 obtain ⟨q,h⟩:=Has.open h;have h:Has 0 w0 W (gM q o::bO (pt=ptr q)::R):=h;exact ⟨q,h.told (In.tl In.hd),h.sl⟩
theorem oR (h:Has 0 w0 W (gM q o::R)):Has 0 w0 W (ToR (ptr q) (some o)::R):=
 Has.shut q ((h.fact (rfl:ptr q=ptr q)).pm)
theorem rD (h:Has 0 w0 W (ToR pt none::R)):pt= .pointer none:=(show Has 0 w0 W (bO (pt= .pointer none)::R) from h).told In.hd
theorem tX (h:Has 0 w0 W (VoR pv (some vo)::R)):∃q,pv=ptr q∧Has 0 w0 W (gF q vo::R):=by
 obtain ⟨q,h⟩:=Has.open h;have h:Has 0 w0 W (gF q vo::bO (pv=ptr q)::R):=h;exact ⟨q,h.told (In.tl In.hd),h.sl⟩
theorem rE (h:Has 0 w0 W (gF q vo::R)):Has 0 w0 W (VoR (ptr q) (some vo)::R):=
 Has.shut q ((h.fact (rfl:ptr q=ptr q)).pm)
theorem tY (h:Has 0 w0 W (VoR pv none::R)):pv= .pointer none:=(show Has 0 w0 W (bO (pv= .pointer none)::R) from h).told In.hd
theorem yU (hw:Has 0 w0 W (ToR pt t::R)):Calls Tryz.prog 219 ⟨[pt,.int .i64 X]⟩ W fun e W'=>e= .returned (.int .i64 (bM t X))∧Has 0 w0 W' (ToR pt t::R):=by
 cases t with
 |none=>obtain rfl:=rD hw;exact track_Next0.ok hw
 |some o=>obtain ⟨q,rfl,h⟩:=rC hw;exact (track_Next.ok h).mono fun e W' ⟨h1,h2⟩=>⟨h1,oR h2⟩
theorem aHp (hw:Has 0 w0 W (ToR pt t::R)):Calls Tryz.prog 262 ⟨[pt,.int .i64 X,.int .i64 i]⟩ W fun e W'=>e= .returned (.tuple ⟨[]⟩)∧Has 0 w0 W' (ToR pt (nC t X i)::R):=by
 cases t with
 |none=>obtain rfl:=rD hw;exact track_Sent0.ok hw
 |some o=>obtain ⟨q,rfl,h⟩:=rC hw;exact (track_Sent.ok h).mono fun e W' ⟨h1,h2⟩=>⟨h1,oR h2⟩
theorem aHq (hw:Has 0 w0 W (ToR pt t::R)):Calls Tryz.prog 218 ⟨[pt,.int .i64 X,.int .i64 i]⟩ W fun e W'=>e= .returned (.bool (gL t X i).2)∧Has 0 w0 W' (ToR pt (gL t X i).1::R):=by
 cases t with
 |none=>obtain rfl:=rD hw;exact track_Yes0.ok hw
 |some o=>obtain ⟨q,rfl,h⟩:=rC hw;exact (track_Yes.ok h).mono fun e W' ⟨h1,h2⟩=>⟨h1,oR h2⟩
theorem aHr (hw:Has 0 w0 W (ToR pt t::R)):Calls Tryz.prog 217 ⟨[pt,.int .i64 X,.int .i64 i]⟩ W fun e W'=>e= .returned (.bool (gX t X i).2)∧Has 0 w0 W' (ToR pt (gX t X i).1::R):=by
 cases t with
 |none=>obtain rfl:=rD hw;exact track_No0.ok hw
 |some o=>obtain ⟨q,rfl,h⟩:=rC hw;exact (track_No.ok h).mono fun e W' ⟨h1,h2⟩=>⟨h1,oR h2⟩
theorem aHs (hw:Has 0 w0 W (ToR pt t::aN sl l::R)):Calls Tryz.prog 257 ⟨[pt,sl,.int .i64 i,.int .i64 j]⟩ W fun e W'=>e= .returned (.int .i64 (lH t l i j))∧Has 0 w0 W' (ToR pt t::aN sl l::R):=by
 cases t with
 |none=>obtain rfl:=rD hw;exact track_Middle0.ok hw
 |some o=>obtain ⟨q,rfl,h⟩:=rC hw;exact ((aHl i j).ok h).mono fun e W' ⟨h1,h2⟩=>⟨h1,oR h2⟩
theorem aHt (hb:∀o,v=some o→o.yes.length≤1000) (hw:Has 0 w0 W (VoR pv v::R)):Calls Tryz.prog 134 ⟨[pv,.int .i64 X]⟩ W fun e W'=>∃b,e= .returned (.bool b)∧True∧Has 0 w0 W' (VoR pv (tF v X)::R):=by
 cases v with
 |none=>obtain rfl:=tY hw;exact (vote_Yes0.ok hw).mono fun e W' ⟨h1,h2⟩=>⟨_,h1,trivial,h2⟩
 |some o=>obtain ⟨q,rfl,h⟩:=tX hw;exact ((aBw (hb o rfl)).ok h).mono fun e W' ⟨h1,h2⟩=>⟨_,h1,trivial,rE h2⟩
theorem aHu (hb:∀o,v=some o→o.no.length≤1000) (hw:Has 0 w0 W (VoR pv v::R)):Calls Tryz.prog 212 ⟨[pv,.int .i64 X]⟩ W fun e W'=>∃b,e= .returned (.bool b)∧True∧Has 0 w0 W' (VoR pv (tG v X)::R):=by
 cases v with
 |none=>obtain rfl:=tY hw;exact (vote_No0.ok hw).mono fun e W' ⟨h1,h2⟩=>⟨_,h1,trivial,h2⟩
 |some o=>obtain ⟨q,rfl,h⟩:=tX hw;exact ((aGz (hb o rfl)).ok h).mono fun e W' ⟨h1,h2⟩=>⟨_,h1,trivial,rE h2⟩
theorem yV (hw:Has 0 w0 W (VoR pv v::R)):Calls Tryz.prog 135 ⟨[pv]⟩ W fun e W'=>e= .returned (.bool (lG v))∧Has 0 w0 W' (VoR pv v::R):=by
 cases v with
 |none=>obtain rfl:=tY hw;exact vote_Won0.ok hw
 |some o=>obtain ⟨q,rfl,h⟩:=tX hw;exact (vote_Won.ok h).mono fun e W' ⟨h1,h2⟩=>⟨h1,rE h2⟩
theorem aC4 (hw:Has 0 w0 W (VoR pv v::R)):Calls Tryz.prog 213 ⟨[pv]⟩ W fun e W'=>e= .returned (.bool (qF v))∧Has 0 w0 W' (VoR pv v::R):=by
 cases v with
 |none=>obtain rfl:=tY hw;exact vote_Lost0.ok hw
 |some o=>obtain ⟨q,rfl,h⟩:=tX hw;exact (vote_Lost.ok h).mono fun e W' ⟨h1,h2⟩=>⟨h1,rE h2⟩
end
end Go.Proofs.YtgpbngfehfbndaaGreatDoor.Sw
