import Derived.Test.YtgpbngfehfbndaaGreatDoorV23
set_option maxHeartbeats 16000000
set_option linter.all false
set_option maxRecDepth 10000
namespace Go.Proofs.YtgpbngfehfbndaaGreatDoor.Sw
open Go.RowKit Go.Sx
open Go.Proofs.Tryz (prog)
section
variable {H H':Fh} {p pl:Nat} {pv pt mv:Value} {r:RaftD} {w0 W:World} {R L:List Res} {l:List bF} {v:Value}
theorem fU:fN H (.slice none 0 0) []:=RdH.nil H 4 0 (by omega)
abbrev fC:List Value:=aF cM (.slice none 0 0)
theorem tB (to_:Int) (hl:r.out.msgs.length≤1000) (hw:Has 0 w0 W (aE H p r::Fz H::R)):
  Calls prog 206 ⟨[ptr p,.int .i64 to_]⟩ W fun e W'=>e= .returned (.tuple ⟨[]⟩)∧∃H',H.le H'∧Has 0 w0 W' (aE H' p (r.send to_)::Fz H'::R):=by
 obtain ⟨pl,pv,pt,mv,hw⟩:=dG hw;obtain ⟨hlw,_⟩:=iQ (hw.swap2:Has 0 w0 W (aG pl r.l::aJ p r pl pv pt mv::VoR pv r.v::ToR pt r.t::aD H mv r.out.msgs::Fz H::R));refine en Tryz.func206 Tryz.ntmps206 fun a hs=>?_;refine sv hs hw fun a hs=>?_;have hw:Has 0 w0 W (ToR pt r.t::aJ p r pl pv pt mv::aG pl r.l::VoR pv r.v::aD H mv r.out.msgs::Fz H::R):=hw.pm;refine cl hs (xH hw) fun a W hs hw=>?_;have hw:Has 0 w0 W (aJ p r pl pv pt mv::aG pl r.l::VoR pv r.v::ToR pt (r.t)::aD H mv r.out.msgs::Fz H::R):=hw.pm;refine sx hs hw fun a W hs hw=>?_;cases c1:decide (bL r.t to_<r.l.first) with
 |true=>
  rw [c1] at hs;have he:r.send to_=r.say {cM with kind:=5,to_:=to_,snap:=r.l.s}:=by unfold RaftD.send;rw [if_pos (of_decide_eq_true c1)]
  rw [he];refine sx hs hw fun a W hs hw=>?_;have hw:Has 0 w0 W (aE H p r::Fz H::R):=cD hw;refine cl hs (fO {cM with kind:=5,to_:=to_,snap:=r.l.s} (.slice none 0 0) fU hlw.2.2.2.1 hl hw) fun a W hs hw=>?_;refine sc hs ?_;exact rt0 hs rfl ⟨rfl,H,Fh.le.refl H,hw⟩
 |false=>
 rw [c1] at hs;refine sx hs hw fun a W hs hw=>?_;refine fV (G:=0) (w:=w0) (σ:=Un) (V:=fun u=>[.int .i64 to_,.int .i64 (bL r.t to_),.int .i64 (w64 (bL r.t to_ - 1)),.int .i64 (r.l.term (w64 (bL r.t to_ - 1))).1,ptr p,ptr p,.pointer (some ⟨p,0+3,none⟩),ptr pl,.int .i64 (bL r.t to_),.slice (u 9).ad (r.l.get (bL r.t to_) 8).length (u 9).cap,ptr p,ptr p,.pointer (some ⟨p,0+4,none⟩),.int .i64 r.commit,.agg ⟨aF ⟨3,0,to_,0,w64 (bL r.t to_ - 1),(r.l.term (w64 (bL r.t to_ - 1))).1,r.commit,false,r.l.get (bL r.t to_) 8,zeroSnap⟩ (.slice (u 14).ad (r.l.get (bL r.t to_) 8).length (u 14).cap)⟩,ptr (u 15).n,.bool true])
  (Rs:=fun u D=>(if D 15 then aA (u 15).n (if D 16 then aF ⟨3,0,to_,0,w64 (bL r.t to_ - 1),(r.l.term (w64 (bL r.t to_ - 1))).1,r.commit,false,r.l.get (bL r.t to_) 8,zeroSnap⟩ (.slice (u 9).ad (r.l.get (bL r.t to_) 8).length (u 9).cap) else fC) 38 else bT)::(if D 9 then bE (.slice (u 9).ad (r.l.get (bL r.t to_) 8).length (u 9).cap) (r.l.get (bL r.t to_) 8) else bT)::bQ (D 14=true→u 14=u 9)::aJ p r pl pv pt mv::aG pl r.l::VoR pv r.v::ToR pt (r.t)::aD H mv r.out.msgs::Fz H::R) (fun _=>{}) hs ?h0 (hVu:=?vu) (ho:=⟨?c0,?c1,?c2,?c3,?c4,?c5,?c6,?c7,?c8,?c9,?c10,?c11,?c12,?c13,?c14,?c15,?c16,trivial⟩) (k:=?kk)
 case h0=>exact ((hw.fact (show false=true→({}:Un)= {} from fun _=>rfl)).free).free
 case vu=>
  intro u u' j h;rcases j with _|_|_|_|_|_|_|_|_|_|_|_|_|_|_|_|_|j
  all_goals first|rfl|simp [h]
 case c9=>
  intro u LD D a W hcl hi hp hs hw;have h14:=Go.Sx.not_done hcl hi 14 (by kernel_rfl);have h16:=Go.Sx.not_done hcl hi 16 (by kernel_rfl);simp only [hi,h16,Bool.false_eq_true,if_false] at hw;refine sg hs hw (fun x a W hs hw=>?_) (g:=mZ);refine Or.inr ⟨{ad:=x.1,cap:=x.2},hs,?_⟩;show Has 0 w0 _ ((if D 15=true then aA (u 15).n (if D 16=true then _ else fC) 38 else bT)::bE (.slice x.1 (r.l.get (bL r.t to_) 8).length x.2) (r.l.get (bL r.t to_) 8)::bQ (D 14=true→u 14= {ad:=x.1,cap:=x.2})::aJ p r pl pv pt mv::aG pl r.l::VoR pv r.v::ToR pt (r.t)::aD H mv r.out.msgs::Fz H::R);rw [h16,h14];have hw:=hw.fact (show false=true→u 14= {ad:=x.1,cap:=x.2} from fun h=>by cases h);exact hw.sl
 case c0=>exact dru
 case c1=>exact dru
 case c2=>exact dru
 case c3=>exact dru
 case c4=>exact dru
 case c5=>exact dru
 case c6=>exact dru
 case c7=>exact dru
 case c8=>exact dru
 case c10=>exact dru
 case c11=>exact dru
 case c12=>exact dru
 case c13=>exact dru
 case c14=>
  intro u LD D a W hcl hi hp hs hw;have h9:=Go.Sx.done hp 9 (by kernel_rfl);refine sv hs hw fun a hs=>?_;refine Or.inr ⟨u 9,hs,?_⟩;show Has 0 w0 _ ((if D 15=true then aA (u 15).n (if D 16=true then aF ⟨3,0,to_,0,w64 (bL r.t to_ - 1),(r.l.term (w64 (bL r.t to_ - 1))).1,r.commit,false,r.l.get (bL r.t to_) 8,zeroSnap⟩ (.slice (u 9).ad (r.l.get (bL r.t to_) 8).length (u 9).cap) else fC) 38 else bT)::(if D 9=true then bE (.slice (u 9).ad (r.l.get (bL r.t to_) 8).length (u 9).cap) (r.l.get (bL r.t to_) 8) else bT)::bQ (true=true→u 9=u 9)::aJ p r pl pv pt mv::aG pl r.l::VoR pv r.v::ToR pt (r.t)::aD H mv r.out.msgs::Fz H::R);have hw:=hw.fact (show true=true→u 9=u 9 from fun _=>rfl);exact hw.sl
 case c15=>
  intro u LD D a W hcl hi hp hs hw;have h16:=Go.Sx.not_done hcl hi 16 (by kernel_rfl);simp only [hi,Bool.false_eq_true,if_false] at hw;refine sn hs hw fun b a W hs hw=>?_;refine Or.inr ⟨{n:=b},hs,?_⟩;show Has 0 w0 _ (aA b (if (Nat.beq 16 15 || D 16)=true then _ else _) _::_);rw [h16];exact hw.fill Upd.hd
 case c16=>
  intro u LD D a W hcl hi hp hs hw;have h15:=Go.Sx.done hp 15 (by kernel_rfl);have h14:=Go.Sx.done hp 14 (by kernel_rfl);simp only [h15,hi,Bool.false_eq_true,if_false,if_true] at hw;have h9:=hw.told (In.tl (In.tl In.hd)) h14;refine d7 hs (hw:=hw) (vs:=aF ⟨3,0,to_,0,w64 (bL r.t to_ - 1),(r.l.term (w64 (bL r.t to_ - 1))).1,r.commit,false,r.l.get (bL r.t to_) 8,zeroSnap⟩ (.slice (u 14).ad (r.l.get (bL r.t to_) 8).length (u 14).cap)) (k:=fun W hs hw=>?_);refine Or.inl ⟨hs,?_⟩;have e:(aF ⟨3,0,to_,0,w64 (bL r.t to_ - 1),(r.l.term (w64 (bL r.t to_ - 1))).1,r.commit,false,r.l.get (bL r.t to_) 8,zeroSnap⟩ (.slice (u 14).ad (r.l.get (bL r.t to_) 8).length (u 14).cap))=aF ⟨3,0,to_,0,w64 (bL r.t to_ - 1),(r.l.term (w64 (bL r.t to_ - 1))).1,r.commit,false,r.l.get (bL r.t to_) 8,zeroSnap⟩ (.slice (u 9).ad (r.l.get (bL r.t to_) 8).length (u 9).cap):=by rw [h9]
  have hw:Has 0 w0 W (aA (u 15).n (aF ⟨3,0,to_,0,w64 (bL r.t to_ - 1),(r.l.term (w64 (bL r.t to_ - 1))).1,r.commit,false,r.l.get (bL r.t to_) 8,zeroSnap⟩ (.slice (u 14).ad (r.l.get (bL r.t to_) 8).length (u 14).cap)) 38::(if D 9=true then bE (.slice (u 9).ad (r.l.get (bL r.t to_) 8).length (u 9).cap) (r.l.get (bL r.t to_) 8) else bT)::bQ (D 14=true→u 14=u 9)::aJ p r pl pv pt mv::aG pl r.l::VoR pv r.v::ToR pt (r.t)::aD H mv r.out.msgs::Fz H::R):=hw;rw [e] at hw;show Has 0 w0 _ ((if D 15=true then _ else _)::_);rw [h15];exact hw
 case kk=>
 intro u a W hs hw;have hw:Has 0 w0 W (aA (u 15).n (aF ⟨3,0,to_,0,w64 (bL r.t to_ - 1),(r.l.term (w64 (bL r.t to_ - 1))).1,r.commit,false,r.l.get (bL r.t to_) 8,zeroSnap⟩ (.slice (u 9).ad (r.l.get (bL r.t to_) 8).length (u 9).cap)) 38::bE (.slice (u 9).ad (r.l.get (bL r.t to_) 8).length (u 9).cap) (r.l.get (bL r.t to_) 8)::bQ (true=true→u 14=u 9)::aJ p r pl pv pt mv::aG pl r.l::VoR pv r.v::ToR pt (r.t)::aD H mv r.out.msgs::Fz H::R):=hw;replace hs:Slots a 70 [(0,ptr p),(1,.int .i64 to_),(4,.int .i64 (bL r.t to_)),(7,ptr (u 15).n)]:=hs.ot;obtain ⟨b,hb⟩:∃b,b=(u 15).n:=⟨_,rfl⟩
 obtain ⟨xx,hx⟩:∃xx:Un,xx=u 9:=⟨_,rfl⟩
 rw [←hb] at hs hw;rw [←hx] at hw;have hw:Has 0 w0 W (bE (.slice xx.ad (r.l.get (bL r.t to_) 8).length xx.cap) (r.l.get (bL r.t to_) 8)::Fz H::aD H mv r.out.msgs::aA b (aF ⟨3,0,to_,0,w64 (bL r.t to_ - 1),(r.l.term (w64 (bL r.t to_ - 1))).1,r.commit,false,r.l.get (bL r.t to_) 8,zeroSnap⟩ (.slice (xx).ad (r.l.get (bL r.t to_) 8).length (xx).cap)) 38::aJ p r pl pv pt mv::aG pl r.l::VoR pv r.v::ToR pt r.t::R):=hw.sl;obtain ⟨H',hle,hw,hes⟩:=hw.freeze_own;have hw:=xE hw.swap2 hle;have he:r.send to_= {r with t:=mQ r.t to_ (w64 (w64 (bL r.t to_ - 1)+((r.l.get (bL r.t to_) 8).length:Int)))}.say ⟨3,0,to_,0,w64 (bL r.t to_ - 1),(r.l.term (w64 (bL r.t to_ - 1))).1,r.commit,false,r.l.get (bL r.t to_) 8,zeroSnap⟩:=by unfold RaftD.send;rw [if_neg (of_decide_eq_false c1)];rfl
 rw [he];generalize r.l.get (bL r.t to_) 8=es at *;have hw:Has 0 w0 W (aA b (aF ⟨3,0,to_,0,w64 (bL r.t to_ - 1),(r.l.term (w64 (bL r.t to_ - 1))).1,r.commit,false,es,zeroSnap⟩ (.slice xx.ad es.length xx.cap)) 38::aJ p r pl pv pt mv::aG pl r.l::VoR pv r.v::ToR pt (r.t)::aD H' mv r.out.msgs::Fz H'::R):=hw.pm;refine sc hs ?_;refine bB [11] [.f 0 0,.f 0 0,.f 0 0,.f 0 0,.f 0 0,.f 0 0,.f 0 0,.f 0 0,.f 0 0,.f 0 0,.f 0 0,.m 0] [.c0 _,.c0 _,.c0 _,.c0 _,.c0 _,.c0 _,.c0 _,.c0 _,.c0 _,.c0 _,.c0 _,.c1 (fun x=> .tuple ⟨[]⟩)] (aA b (aF ⟨3,0,to_,0,w64 (bL r.t to_ - 1),(r.l.term (w64 (bL r.t to_ - 1))).1,r.commit,false,es,zeroSnap⟩ (.slice xx.ad es.length xx.cap)) 38::aJ p r pl pv pt mv::aG pl r.l::VoR pv r.v::ToR pt (r.t)::aD H' mv r.out.msgs::Fz H'::R) (fun x=>aA b (aF ⟨3,0,to_,0,w64 (bL r.t to_ - 1),(r.l.term (w64 (bL r.t to_ - 1))).1,r.commit,false,es,zeroSnap⟩ (.slice xx.ad es.length xx.cap)) 38::aJ p r pl pv pt mv::aG pl r.l::VoR pv r.v::ToR pt (mQ r.t to_ (w64 (w64 (bL r.t to_ - 1)+(es.length:Int))))::aD H' mv r.out.msgs::Fz H'::R) (fun x y=>[]) (fun x y z=>[]) (fun x y z t=>[]) hs hw ?kk ⟨drs,drs,drs,drs,drs,drs,drs,drs,drs,drs,drs,?m0,trivial⟩
 case m0=>
  intro x1 y z t LD a W hs hw;have hw:Has 0 w0 W (ToR pt r.t::aA b (aF ⟨3,0,to_,0,w64 (bL r.t to_ - 1),(r.l.term (w64 (bL r.t to_ - 1))).1,r.commit,false,es,zeroSnap⟩ (.slice xx.ad es.length xx.cap)) 38::aJ p r pl pv pt mv::aG pl r.l::VoR pv r.v::aD H' mv r.out.msgs::Fz H'::R):=hw.pm;refine cl hs (aGz hw) fun a W hs hw=>?_;exact ⟨{},hs,hw.pm⟩
 case kk=>
  intro _ a W hs hw;refine sv hs hw fun a hs=>?_;have hw:Has 0 w0 W (aE H' p {r with t:=mQ r.t to_ (w64 (w64 (bL r.t to_ - 1)+(es.length:Int)))}::Fz H'::R):=cD (r:={r with t:=mQ r.t to_ (w64 (w64 (bL r.t to_ - 1)+(es.length:Int)))}) (hw.d1);refine cl hs (fO (r:={r with t:=mQ r.t to_ (w64 (w64 (bL r.t to_ - 1)+(es.length:Int)))}) ⟨3,0,to_,0,w64 (bL r.t to_ - 1),(r.l.term (w64 (bL r.t to_ - 1))).1,r.commit,false,es,zeroSnap⟩ (.slice xx.ad es.length xx.cap) hes (by show (0:Nat)≤1000000;omega) hl hw) fun a W hs hw=>?_;refine sc hs ?_;exact cO hs rfl ⟨rfl,H',hle,hw⟩
end
section
variable {H H':Fh} {p pl:Nat} {pv pt mv:Value} {r:RaftD} {w0 W:World} {R L:List Res} {l:List bF} {v:Value}
theorem qQ (r:RaftD) (i:Int):(r.changed i).out.msgs=r.out.msgs:=by unfold RaftD.changed;split <;> rfl
theorem aHJ (r:RaftD) (x:Int):(r.send x).out.msgs.length=r.out.msgs.length+1:=by
 unfold RaftD.send;split <;> simp [RaftD.say]
theorem aBl (r:RaftD):r.others.length≤7:=Nat.le_trans (List.length_filter_le _ _) (qM r.l r.l.last)
theorem aHK (l:List Int):∀r:RaftD,(l.foldl RaftD.send r).out.msgs.length=r.out.msgs.length+l.length:=by
 induction l with
 |nil=>intro r;rfl
 |cons x l ih=>intro r;rw [List.foldl_cons,ih,aHJ];simp;omega
theorem aBm {α β:Type} {f:β→α→β} {l:List α} {i:Nat} {o:α} {b:β} (h:l[i]? =some o):(l.take (i+1)).foldl f b=f ((l.take i).foldl f b) o:=by
 rw [fQ h,List.foldl_append];rfl
theorem tC (hl:r.out.msgs.length≤900) (hw:Has 0 w0 W (aE H p r::Fz H::R)):
  Calls prog 130 ⟨[ptr p]⟩ W fun e W'=>e= .returned (.tuple ⟨[]⟩)∧∃H',H.le H'∧Has 0 w0 W' (aE H' p r.all::Fz H'::R):=by
 have he:r.all=match r.role == 2 with|false=>r|true=>r.others.foldl RaftD.send r:=rfl
 rw [he];have hw0:=hw;obtain ⟨pl,pv,pt,mv,hw⟩:=dG hw;have h7:=aBl r;refine en Tryz.func130 Tryz.ntmps130 fun a hs=>?_;refine sv hs hw fun a hs=>?_;rw [show (r.role !=2)=!(r.role == 2) from rfl] at hs;replace hw:=hw0;cases c1:r.role == 2 with
 |false=>
  rw [c1] at hs;refine sc hs ?_;exact rt0 hs rfl ⟨rfl,H,Fh.le.refl H,hw⟩
 |true=>
  rw [c1] at hs;refine sv hs hw fun a hs=>?_;refine cle hs (aBg hw) fun s a W _ hs hw=>?_;refine sv hs hw fun a hs=>?_;have hw:Has 0 w0 W (aE H p r::Fz H::aM (.slice s.1 r.others.length s.2) r.others::R):=hw.pm;have hlen:∀i,((r.others.take i).foldl RaftD.send r).out.msgs.length≤1000:=fun i=>by rw [aHK,List.length_take];omega
  generalize r.others=c at *;refine bX (σ:=Nat×Fh) (fun q=>[(0,ptr p),(10,.slice s.1 c.length s.2),(11,.int .i64 (c.length:Int)),(12,.int .i64 (q.1:Int))]) (fun q=>aE q.2 p ((c.take q.1).foldl RaftD.send r)::Fz q.2::aM (.slice s.1 c.length s.2) c::R) (fun q=>q.1≤c.length∧H.le q.2) (fun q=>c.length - q.1) (0,H) ⟨Nat.zero_le _,Fh.le.refl H⟩ hs ⟨rfl,rfl,rfl,rfl,trivial⟩ hw ?_;clear hs hw;rintro ⟨i,H2⟩ a W ⟨hi,hle⟩ hs hw;simp only at hi hle hs hw;refine sv hs hw fun a hs=>?_;refine cI hs (kt:=fun hc=>?_) (kf:=fun hc=>?_)
  ·have hi':i<c.length:=by simpa using hc
   obtain ⟨o,ho,hd⟩:=dP hi';refine sc hs ?_;refine iI hs (hw.rd_own (In.tl (In.tl In.hd))) ho rfl fun a b f hs=>?_;refine sv hs hw fun a hs=>?_;refine aH hs (hc:=tB o (hlen i) hw) (k:=?_);rintro e' W' ⟨rfl,H3,hle3,hw⟩;refine ⟨_,rfl,fun a hs=>?_⟩;refine sv hs hw fun a hs=>?_;rw [←aBm (f:=RaftD.send) (b:=r) ho] at hw;exact bS (i+1,H3) hs hw ⟨hi',hle.trans hle3⟩ (by show c.length - (i+1)<c.length - i;omega) ⟨rfl,rfl,rfl,bU (i1 (by omega)),trivial⟩
  ·have:c.take i=c:=List.take_of_length_le (by simp at hc;omega);rw [this] at hw;refine sc hs ?_;exact cO hs rfl ⟨rfl,H2,hle,hw.sl⟩
theorem tD (hw:Has 0 w0 W (aE H p r::R)):
  Calls prog 193 ⟨[ptr p]⟩ W fun e W'=>e= .returned (.tuple ⟨[]⟩)∧Has 0 w0 W' (aE H p r.move::R):=by
 obtain ⟨pl,pv,pt,mv,hw⟩:=dG hw;have h7:=qM r.l r.l.last;refine en Tryz.func193 Tryz.ntmps193 fun a hs=>?_;refine sv hs hw fun a hs=>?_;refine aH hs (hc:=(sR (l:=r.l)).ok hw.rebase) (k:=?_);rintro e' W' ⟨xx,rfl,hw'⟩;refine ⟨_,rfl,fun a hs=>?_⟩;have hw:=hw.trans hw'
 have hm:r.move=(if k8 r.t r.l.conf.1 r.id r.l.last≤r.commit∨r.l.fits (k8 r.t r.l.conf.1 r.id r.l.last) r.h.term=false then r
  else match !has r.l.conf.1 r.id && decide (r.l.conf.2≤k8 r.t r.l.conf.1 r.id r.l.last) with
   |true=>{r with commit:=k8 r.t r.l.conf.1 r.id r.l.last,role:=0,leader:=0}
   |false=>{r with commit:=k8 r.t r.l.conf.1 r.id r.l.last}):=rfl
 rw [hm];rw [show r.l.conf=r.l.confAt r.l.last from rfl] at hs hw⊢;generalize (r.l.confAt r.l.last).1=c at *;generalize (r.l.confAt r.l.last).2=ci at *;replace hw:Has 0 w0 W' (aM (.slice xx.1 c.length xx.2) c::aJ p r pl pv pt mv::aG pl r.l::VoR pv r.v::ToR pt r.t::aD H mv r.out.msgs::R):=hw;refine sv hs hw fun a hs=>?_;refine bB [13,14] [.f 0 1,.f 0 1,.f 0 1,.f 0 1,.f 0 1,.f 0 1,.f 0 1,.f 0 1,.f 0 1,.f 0 0,.f 0 0,.f 0 0,.f 0 0,.m 0,.m 1,.f 2 2] [.c0 _,.c0 _,.c0 _,.c0 _,.c0 _,.c0 _,.c0 _,.c0 _,.c0 _,.c0 _,.c0 _,.c0 _,.c0 _,.c1 (fun x=> .int .i64 r.l.last),.c2 (fun x y=> .int .i64 (k8 r.t c r.id r.l.last)),.c2 _] (aM (.slice xx.1 c.length xx.2) c::aJ p r pl pv pt mv::aG pl r.l::VoR pv r.v::ToR pt r.t::aD H mv r.out.msgs::R) (fun x=>aM (.slice xx.1 c.length xx.2) c::aJ p r pl pv pt mv::aG pl r.l::VoR pv r.v::ToR pt r.t::aD H mv r.out.msgs::R) (fun x y=>aM (.slice xx.1 c.length xx.2) c::aJ p r pl pv pt mv::aG pl r.l::VoR pv r.v::ToR pt r.t::aD H mv r.out.msgs::R) (fun x y z=>[]) (fun x y z t=>[]) hs hw ?kk ⟨drs,drs,drs,drs,drs,drs,drs,drs,drs,drs,drs,drs,drs,drm,?m1,drs,trivial⟩
 case m1=>
  intro x y z t LD a W hs hw;have hw:Has 0 w0 W (ToR pt r.t::aM (.slice xx.1 c.length xx.2) c::aJ p r pl pv pt mv::aG pl r.l::VoR pv r.v::aD H mv r.out.msgs::R):=hw.pm;refine cl hs (aHC hw) fun a W hs hw=>?_;exact ⟨{},hs,hw.pm⟩
 case kk=>
 intro _ _ a W hs hw;generalize k8 r.t c r.id r.l.last=N at *;replace hs:Slots a 70 [(0,ptr p),(2,.slice xx.1 c.length xx.2),(3,.int .i64 ci),(4,.int .i64 N)]:=hs.ot;refine sc hs ?_;have fin:∀{W r'},Has 0 w0 W (aM (.slice xx.1 c.length xx.2) c::aJ p r' pl pv pt mv::aG pl r'.l::VoR pv r'.v::ToR pt r'.t::aD H mv r'.out.msgs::R)→Has 0 w0 W (aE H p r'::R):=fun h=>cD (h.d1);cases c1:decide (N≤r.commit) with
 |true=>
  refine bB [17] [.f 0 0,.f 0 0,.f 0 0,.f 0 0,.f 0 0,.f 0 0,.f 0 0,.f 0 0,.f 0 0,.f 0 0,.f 0 0,.f 0 0,.f 0 0,.f 0 0,.f 0 0,.f 0 0,.f 0 0,.m 0,.f 1 1,.f 1 1] [.c0 _,.c0 _,.c0 _,.c0 _,.c0 _,.c0 (.bool true),.c0 _,.c0 _,.c0 _,.c0 _,.c0 _,.c0 _,.c0 _,.c0 _,.c0 _,.c0 _,.c0 _,.c1 (fun x=>undef),.c1 _,.c1 _] (aM (.slice xx.1 c.length xx.2) c::aJ p r pl pv pt mv::aG pl r.l::VoR pv r.v::ToR pt r.t::aD H mv r.out.msgs::R) (fun x=>aM (.slice xx.1 c.length xx.2) c::aJ p r pl pv pt mv::aG pl r.l::VoR pv r.v::ToR pt r.t::aD H mv r.out.msgs::R) (fun x y=>[]) (fun x y z=>[]) (fun x y z t=>[]) hs hw ?kk ⟨drs,drs,drs,drs,drs,?f5,drs,drs,drs,drs,drs,drs,drs,drs,drs,drs,drs,drm,drs,drs,trivial⟩
  case f5=>
   refine ⟨?_,trivial,trivial,trivial,trivial⟩;intro x y z t LD a W hs hw;refine sv hs hw fun a hs=>?_;rw [c1] at hs;exact ⟨hs,hw⟩
  case kk=>
   intro _ a W hs hw;rw [if_pos (.inl (of_decide_eq_true c1))];refine sc hs ?_;exact rt0 hs rfl ⟨rfl,fin hw⟩
 |false=>
  refine bB [17] [.f 0 0,.f 0 0,.f 0 0,.f 0 0,.f 0 0,.f 0 0,.f 0 0,.f 0 0,.f 0 0,.f 0 0,.f 0 0,.f 0 0,.f 0 0,.f 0 0,.f 0 0,.f 0 0,.f 0 0,.m 0,.f 1 1,.f 1 1] [.c0 _,.c0 _,.c0 _,.c0 _,.c0 _,.c0 (.bool false),.c0 _,.c0 _,.c0 _,.c0 _,.c0 _,.c0 _,.c0 _,.c0 _,.c0 _,.c0 _,.c0 _,.c1 (fun x=> .bool (r.l.fits N r.h.term)),.c1 _,.c1 _] (aM (.slice xx.1 c.length xx.2) c::aJ p r pl pv pt mv::aG pl r.l::VoR pv r.v::ToR pt r.t::aD H mv r.out.msgs::R) (fun x=>aM (.slice xx.1 c.length xx.2) c::aJ p r pl pv pt mv::aG pl r.l::VoR pv r.v::ToR pt r.t::aD H mv r.out.msgs::R) (fun x y=>[]) (fun x y z=>[]) (fun x y z t=>[]) hs hw ?kk ⟨drs,drs,drs,drs,drs,?f5,drs,drs,drs,drs,drs,drs,drs,drs,drs,drs,drs,drm,drs,drs,trivial⟩
  case f5=>
   refine ⟨?_,trivial,trivial,trivial,trivial⟩;intro x y z t LD a W hs hw;refine sv hs hw fun a hs=>?_;rw [c1] at hs;exact ⟨hs,hw⟩
  case kk=>
  intro _ a W hs hw;replace hs:Slots a 70 [(0,ptr p),(2,.slice xx.1 c.length xx.2),(3,.int .i64 ci),(4,.int .i64 N),(47,.bool (!r.l.fits N r.h.term))]:=hs.ot;cases c2:r.l.fits N r.h.term with
  |false=>
   rw [c2] at hs;rw [if_pos (.inr rfl)];refine sc hs ?_;exact rt0 hs rfl ⟨rfl,fin hw⟩
  |true=>
   rw [c2] at hs;rw [if_neg (by have:=of_decide_eq_false c1;simp;omega)];refine sx hs hw fun a W hs hw=>?_;cases c3:has c r.id with
   |true=>
    rw [c3] at hs;refine sv hs hw fun a hs=>?_;exact cO hs rfl ⟨rfl,fin (r':={r with commit:=N}) hw⟩
   |false=>
    rw [c3] at hs;refine sv hs hw fun a hs=>?_;cases c4:decide (ci≤N) with
    |false=>
     rw [c4] at hs;refine sc hs ?_;exact cO hs rfl ⟨rfl,fin (r':={r with commit:=N}) hw⟩
    |true=>
     rw [c4] at hs;refine sx hs hw fun a W hs hw=>?_;exact cO hs rfl ⟨rfl,fin (r':={r with commit:=N,role:=0,leader:=0}) hw⟩
theorem aHL (m:bF) (v:Value) (hv:∃ad cap,v= .slice ad m.es.length cap) (hw:Has 0 w0 W (aE H p r::R)):
  Calls prog 214 ⟨[ptr p,.agg ⟨aF m v⟩]⟩ W fun e W'=>e= .returned (.bool (!(r.role == 2)))∧Has 0 w0 W' (aE H p (match r.role == 2 with|true=>r|false=>{r with role:=0,leader:=m.from_,heard:=true})::R):=by
 obtain ⟨vad,vcap,rfl⟩:=hv;obtain ⟨pl,pv,pt,mv,hw⟩:=dG hw;refine en Tryz.func214 Tryz.ntmps214 fun a hs=>?_;refine sc hs ?_;refine sn hs hw fun b a W hs hw=>?_;refine sv hs hw fun a hs=>?_;cases c1:r.role == 2 with
 |true=>
  rw [c1] at hs;refine sv hs hw fun a hs=>?_;exact rt1 hs rfl rfl ⟨rfl,cD (hw.d1)⟩
 |false=>
  rw [c1] at hs;refine sc hs ?_;replace hw:Has 0 w0 W (aA b (aF m (.slice vad m.es.length vcap)) 38::gY p r.id r.h.term r.h.vote pl r.commit (r.role) (r.leader) (r.heard) pv pt mv r.out.hard r.out.from_ r.out.snap::aG pl r.l::VoR pv r.v::ToR pt r.t::aD H mv r.out.msgs::R):=hw;refine bB [7,10,13] [.f 0 0,.f 0 1,.f 0 2,.f 0 1,.f 0 1,.f 0 0,.f 0 0,.m 0,.f 1 1,.f 1 1,.m 1,.f 2 2,.f 2 2,.m 2] [.c0 _,.c0 _,.c0 _,.c0 _,.c0 _,.c0 _,.c0 _,.c1 (fun x=>undef),.c1 _,.c1 _,.c2 (fun x y=>undef),.c2 _,.c2 _,.c3 (fun x y z=>undef)] (aA b (aF m (.slice vad m.es.length vcap)) 38::gY p r.id r.h.term r.h.vote pl r.commit (r.role) (r.leader) (r.heard) pv pt mv r.out.hard r.out.from_ r.out.snap::aG pl r.l::VoR pv r.v::ToR pt r.t::aD H mv r.out.msgs::R) (fun x=>aA b (aF m (.slice vad m.es.length vcap)) 38::gY p r.id r.h.term r.h.vote pl r.commit (0) (r.leader) (r.heard) pv pt mv r.out.hard r.out.from_ r.out.snap::aG pl r.l::VoR pv r.v::ToR pt r.t::aD H mv r.out.msgs::R) (fun x y=>aA b (aF m (.slice vad m.es.length vcap)) 38::gY p r.id r.h.term r.h.vote pl r.commit (0) (m.from_) (r.heard) pv pt mv r.out.hard r.out.from_ r.out.snap::aG pl r.l::VoR pv r.v::ToR pt r.t::aD H mv r.out.msgs::R) (fun x y z=>aA b (aF m (.slice vad m.es.length vcap)) 38::gY p r.id r.h.term r.h.vote pl r.commit (0) (m.from_) (true) pv pt mv r.out.hard r.out.from_ r.out.snap::aG pl r.l::VoR pv r.v::ToR pt r.t::aD H mv r.out.msgs::R) (fun x y z t=>[]) hs hw ?kk ⟨drs,drs,drs,drs,drs,drs,drs,drm,drs,drs,drm,drs,drs,drm,trivial⟩
  case kk=>
   intro _ _ _ a W hs hw;refine sv hs hw fun a hs=>?_;exact rt1 hs rfl rfl ⟨rfl,cD (r:={r with role:=0,leader:=m.from_,heard:=true}) (hw.d1)⟩
end
section
variable {H H':Fh} {p pl:Nat} {pv pt mv:Value} {r:RaftD} {w0 W:World} {R L:List Res} {l:List bF} {v:Value}
theorem aBn (r:RaftD) (k:Int) (s:ByteArray):(r.put k s).1.out.msgs=r.out.msgs:=by
 unfold RaftD.put;exact qQ _ _
theorem tE (r:RaftD):r.move.out.msgs=r.out.msgs:=by
 unfold RaftD.move;simp only [];split
 ·rfl
 ·split <;> rfl
theorem xJ (hl:r.out.msgs.length≤900) (hw:Has 0 w0 W (aE H p r::Fz H::R)):
  Calls prog 136 ⟨[ptr p]⟩ W fun e W'=>e= .returned (.tuple ⟨[]⟩)∧∃H',H.le H'∧Has 0 w0 W' (aE H' p r.lead::Fz H'::R):=by
 obtain ⟨pl,pv,pt,mv,hw⟩:=dG hw;refine en Tryz.func136 Tryz.ntmps136 fun a hs=>?_;refine sx hs hw fun a W hs hw=>?_;refine sg hs hw (fun q a W hs hw=>?_) (g:=aGt);refine sx hs hw fun a W hs hw=>?_;obtain ⟨r1,hr1⟩:∃r1:RaftD,r1= {r with role:=2,leader:=r.id,t:=some (lU r.l.last)}:=⟨_,rfl⟩
 have hrl:r1.l=r.l:=by rw [hr1]
 have he:r.lead=(if ((r1.l.get r1.l.first 200).length:Int)<200 then (r1.put 1 ⟨#[]⟩).1 else r1).move.all:=by rw [hr1];rfl
 rw [he];have hm1:r1.out.msgs.length≤900:=by rw [hr1];exact hl
 have hw:Has 0 w0 W (gL q (lU r.l.last)::aJ p {r with role:=2,leader:=r.id,t:=some (lU r.l.last)} pl pv (ptr q) mv::aG pl r.l::VoR pv r.v::ToR pt r.t::aD H mv r.out.msgs::Fz H::R):=hw;have hw:=oB hw;have hw:Has 0 w0 W (aE H p r1::Fz H::R):=by rw [hr1];exact cD (r:={r with role:=2,leader:=r.id,t:=some (lU r.l.last)}) (hw.sl)
 clear hr1 he;obtain ⟨pl1,pv1,pt1,mv1,hw⟩:=dG hw;refine bB [8,9] [.f 0 1,.f 0 1,.f 0 1,.f 0 1,.f 0 0,.f 0 0,.f 0 0,.f 0 0,.m 0,.m 1,.f 2 2,.f 2 2] [.c0 _,.c0 _,.c0 _,.c0 _,.c0 _,.c0 _,.c0 _,.c0 _,.c1 (fun x=> .int .i64 r1.l.first),.c2 (fun x y=> .slice y.ad (r1.l.get r1.l.first 200).length y.cap),.c2 _,.c2 _] (aJ p r1 pl1 pv1 pt1 mv1::aG pl1 r1.l::VoR pv1 r1.v::ToR pt1 r1.t::aD H mv1 r1.out.msgs::Fz H::R) (fun x=>aJ p r1 pl1 pv1 pt1 mv1::aG pl1 r1.l::VoR pv1 r1.v::ToR pt1 r1.t::aD H mv1 r1.out.msgs::Fz H::R) (fun x y=>aJ p r1 pl1 pv1 pt1 mv1::aG pl1 r1.l::VoR pv1 r1.v::ToR pt1 r1.t::aD H mv1 r1.out.msgs::Fz H::R) (fun x y z=>[]) (fun x y z t=>[]) hs hw ?kk ⟨drs,drs,drs,drs,drs,drs,drs,drs,drm,?m1,drs,drs,trivial⟩
 case m1=>
  intro x y z t LD a W hs hw;refine sg hs hw (fun s a W hs hw=>?_) (g:=mZ);exact ⟨{ad:=s.1,cap:=s.2},hs,hw.d1⟩
 case kk=>
 intro _ y a W hs hw;have hw:Has 0 w0 W (aE H p r1::Fz H::R):=cD hw;replace hs:Slots a 39 [(0,ptr p),(32,.bool (decide (((r1.l.get r1.l.first 200).length:Int)<200)))]:=hs.ot;cases c1:decide (((r1.l.get r1.l.first 200).length:Int)<200) with
 |true=>
  rw [c1] at hs;rw [if_pos (of_decide_eq_true c1)];refine sv hs hw fun a hs=>?_;refine cl hs (aBk 1 ⟨#[]⟩ (by show (0:Nat)≤1000000;omega) hw) fun a W hs hw=>?_;refine sv hs hw fun a hs=>?_;refine cl hs (tD hw) fun a W hs hw=>?_;refine sv hs hw fun a hs=>?_;refine aH hs (hc:=tC (by rw [tE,aBn];exact hm1) hw) (k:=?_);rintro e' W' ⟨rfl,H3,hle3,hw⟩;refine ⟨_,rfl,fun a hs=>?_⟩;refine sc hs ?_;exact cO hs rfl ⟨rfl,H3,hle3,hw⟩
 |false=>
  rw [c1] at hs;rw [if_neg (of_decide_eq_false c1)];refine sv hs hw fun a hs=>?_;refine cl hs (tD hw) fun a W hs hw=>?_;refine sv hs hw fun a hs=>?_;refine aH hs (hc:=tC (by rw [tE];exact hm1) hw) (k:=?_);rintro e' W' ⟨rfl,H3,hle3,hw⟩;refine ⟨_,rfl,fun a hs=>?_⟩;refine sc hs ?_;exact cO hs rfl ⟨rfl,H3,hle3,hw⟩
end
section
variable {H H':Fh} {p pl:Nat} {pv pt mv:Value} {r:RaftD} {w0 W:World} {R L:List Res} {l:List bF} {v:Value}
theorem aHM (m:bF) (v:Value) (hv:∃ad cap,v= .slice ad m.es.length cap) (hl:r.out.msgs.length≤1000) (hw:Has 0 w0 W (aE H p r::R)):
  Calls prog 141 ⟨[ptr p,.agg ⟨aF m v⟩]⟩ W fun e W'=>e= .returned (.tuple ⟨[]⟩)∧Has 0 w0 W' (aE H p (r.asked m)::R):=by
 obtain ⟨vad,vcap,rfl⟩:=hv;have he2:r.asked m=match (r.h.vote == 0 || r.h.vote == m.from_) && r.l.newer m.ix m.lterm with
  |true=>{r.hardD ⟨r.h.term,m.from_⟩ with heard:=true}.say {cM with kind:=2,to_:=m.from_,yes:=true}
  |false=>r.say {cM with kind:=2,to_:=m.from_}:=rfl
 obtain ⟨pl,pv,pt,mv,hw⟩:=dG hw;refine en Tryz.func141 Tryz.ntmps141 fun a hs=>?_;refine sc hs ?_;refine sn hs hw fun b a W hs hw=>?_;refine sc hs ?_;cases cA:(r.h.vote == 0) with
 |true=>
  have he1:∀g:Bool,g=true→g=r.l.newer m.ix m.lterm→r.asked m= {r.hardD ⟨r.h.term,m.from_⟩ with heard:=true}.say {cM with kind:=2,to_:=m.from_,yes:=true}:=fun g h1 h2=>by rw [he2,cA,←h2,h1];rfl
  have he0:∀g:Bool,g=false→g=r.l.newer m.ix m.lterm→r.asked m=r.say {cM with kind:=2,to_:=m.from_}:=fun g h1 h2=>by rw [he2,cA,←h2,h1];rfl
  refine bB [25] [.f 0 0,.f 0 0,.f 0 0,.f 0 0,.f 0 0,.f 0 0,.f 0 0,.f 0 0,.f 0 0,.f 0 0,.f 0 0,.f 0 0,.f 0 0,.f 0 0,.f 0 0,.f 0 0,.f 0 0,.f 0 0,.f 0 0,.f 0 0,.f 0 0,.f 0 0,.f 0 0,.f 0 0,.f 0 0,.m 0,.f 1 1,.f 1 1] [.c0 _,.c0 _,.c0 _,.c0 _,.c0 _,.c0 (.bool true),.c0 _,.c0 _,.c0 _,.c0 _,.c0 _,.c0 _,.c0 _,.c0 _,.c0 _,.c0 _,.c0 _,.c0 _,.c0 _,.c0 _,.c0 _,.c0 _,.c0 _,.c0 _,.c0 _,.c1 (fun x=> .bool (r.l.newer m.ix m.lterm)),.c1 _,.c1 _] (aA b (aF m (.slice vad m.es.length vcap)) 38::aJ p r pl pv pt mv::aG pl r.l::VoR pv r.v::ToR pt r.t::aD H mv r.out.msgs::R) (fun x=>aA b (aF m (.slice vad m.es.length vcap)) 38::aJ p r pl pv pt mv::aG pl r.l::VoR pv r.v::ToR pt r.t::aD H mv r.out.msgs::R) (fun x y=>[]) (fun x y z=>[]) (fun x y z t=>[]) hs hw ?kk ⟨drs,drs,drs,drs,drs,?f5,drs,drs,drs,drs,drs,drs,drs,drs,drs,drs,drs,drs,drs,drs,drs,drs,drs,drs,drs,drm,drs,drs,trivial⟩
  case f5=>
   refine ⟨?_,trivial,trivial,trivial,trivial⟩;intro x y z t LD a W hs hw;refine sv hs hw fun a hs=>?_;rw [cA] at hs;exact ⟨hs,hw⟩
  case kk=>
   intro _ a W hs hw;clear he2;replace hs:Slots a 52 [(0,ptr p),(3,ptr b),(4,.bool (r.l.newer m.ix m.lterm))]:=hs.ot;cases c2:r.l.newer m.ix m.lterm with
   |true=>
    rw [c2] at hs;refine sv hs hw fun a hs=>?_;refine bB [9] [.f 0 0,.f 0 0,.f 0 0,.f 0 0,.f 0 0,.f 0 0,.f 0 0,.f 0 0,.f 0 0,.m 0] [.c0 _,.c0 _,.c0 _,.c0 _,.c0 _,.c0 _,.c0 _,.c0 _,.c0 _,.c1 (fun x=> .tuple ⟨[]⟩)] (aA b (aF m (.slice vad m.es.length vcap)) 38::aJ p r pl pv pt mv::aG pl r.l::VoR pv r.v::ToR pt r.t::aD H mv r.out.msgs::R) (fun x=>aA b (aF m (.slice vad m.es.length vcap)) 38::aE H p (r.hardD ⟨r.h.term,m.from_⟩)::R) (fun x y=>[]) (fun x y z=>[]) (fun x y z t=>[]) hs hw ?kk ⟨drs,drs,drs,drs,drs,drs,drs,drs,drs,?m0,trivial⟩
    case m0=>
     intro x y z t LD a W hs hw;have hw:Has 0 w0 W (aE H p r::aA b (aF m (.slice vad m.es.length vcap)) 38::R):=cD (hw.pm);refine cl hs (s6 ⟨r.h.term,m.from_⟩ hw) fun a W hs hw=>?_;exact ⟨{},hs,hw.swap2⟩
    case kk=>
     intro _ a W hs hw;obtain ⟨r2,hr2⟩:∃r2:RaftD,r2=r.hardD ⟨r.h.term,m.from_⟩:=⟨_,rfl⟩
     rw [←hr2] at hw;have he:r.asked m= {r2 with heard:=true}.say {cM with kind:=2,to_:=m.from_,yes:=true}:=by rw [hr2,he1 _ c2 rfl]
     have hm2:r2.out.msgs.length≤1000:=by rw [hr2];exact hl
     rw [he];obtain ⟨pl2,pv2,pt2,mv2,hw⟩:=dG hw.swap2;refine sx hs hw fun a W hs hw=>?_;have hw:Has 0 w0 W (aE H p {r2 with heard:=true}::aA b (aF m (.slice vad m.es.length vcap)) 38::R):=cD (r:={r2 with heard:=true}) hw;refine cl hs (fO (r:={r2 with heard:=true}) {cM with kind:=2,to_:=m.from_,yes:=true} (.slice none 0 0) fU (by show (0:Nat)≤1000000;omega) hm2 hw) fun a W hs hw=>?_;refine sc hs ?_;exact cO hs rfl ⟨rfl,hw.sl⟩
   |false=>
    rw [c2] at hs;have he:r.asked m=r.say {cM with kind:=2,to_:=m.from_}:=he0 _ c2 rfl;rw [he];refine sx hs hw fun a W hs hw=>?_;have hw:Has 0 w0 W (aE H p r::aA b (aF m (.slice vad m.es.length vcap)) 38::R):=cD (hw.pm);refine cl hs (fO {cM with kind:=2,to_:=m.from_} (.slice none 0 0) fU (by show (0:Nat)≤1000000;omega) hl hw) fun a W hs hw=>?_;refine sc hs ?_;exact cO hs rfl ⟨rfl,hw.sl⟩
 |false=>
  cases cB:(r.h.vote == m.from_) with
  |true=>
   have he1:∀g:Bool,g=true→g=r.l.newer m.ix m.lterm→r.asked m= {r.hardD ⟨r.h.term,m.from_⟩ with heard:=true}.say {cM with kind:=2,to_:=m.from_,yes:=true}:=fun g h1 h2=>by rw [he2,cA,cB,←h2,h1];rfl
   have he0:∀g:Bool,g=false→g=r.l.newer m.ix m.lterm→r.asked m=r.say {cM with kind:=2,to_:=m.from_}:=fun g h1 h2=>by rw [he2,cA,cB,←h2,h1];rfl
   refine bB [25] [.f 0 0,.f 0 0,.f 0 0,.f 0 0,.f 0 0,.f 0 0,.f 0 0,.f 0 0,.f 0 0,.f 0 0,.f 0 0,.f 0 0,.f 0 0,.f 0 0,.f 0 0,.f 0 0,.f 0 0,.f 0 0,.f 0 0,.f 0 0,.f 0 0,.f 0 0,.f 0 0,.f 0 0,.f 0 0,.m 0,.f 1 1,.f 1 1] [.c0 _,.c0 _,.c0 _,.c0 _,.c0 _,.c0 (.bool false),.c0 _,.c0 _,.c0 _,.c0 _,.c0 _,.c0 _,.c0 _,.c0 _,.c0 (.bool true),.c0 _,.c0 _,.c0 _,.c0 _,.c0 _,.c0 _,.c0 _,.c0 _,.c0 _,.c0 _,.c1 (fun x=> .bool (r.l.newer m.ix m.lterm)),.c1 _,.c1 _] (aA b (aF m (.slice vad m.es.length vcap)) 38::aJ p r pl pv pt mv::aG pl r.l::VoR pv r.v::ToR pt r.t::aD H mv r.out.msgs::R) (fun x=>aA b (aF m (.slice vad m.es.length vcap)) 38::aJ p r pl pv pt mv::aG pl r.l::VoR pv r.v::ToR pt r.t::aD H mv r.out.msgs::R) (fun x y=>[]) (fun x y z=>[]) (fun x y z t=>[]) hs hw ?kk ⟨drs,drs,drs,drs,drs,?f5,drs,drs,drs,drs,drs,drs,drs,drs,?f14,drs,drs,drs,drs,drs,drs,drs,drs,drs,drs,drm,drs,drs,trivial⟩
   case f5=>
    refine ⟨?_,trivial,trivial,trivial,trivial⟩;intro x y z t LD a W hs hw;refine sv hs hw fun a hs=>?_;rw [cA] at hs;exact ⟨hs,hw⟩
   case f14=>
    refine ⟨?_,trivial,trivial,trivial,trivial⟩;intro x y z t LD a W hs hw;refine sv hs hw fun a hs=>?_;rw [cB] at hs;exact ⟨hs,hw⟩
   case kk=>
    intro _ a W hs hw;clear he2;replace hs:Slots a 52 [(0,ptr p),(3,ptr b),(4,.bool (r.l.newer m.ix m.lterm))]:=hs.ot;cases c2:r.l.newer m.ix m.lterm with
    |true=>
     rw [c2] at hs;refine sv hs hw fun a hs=>?_;refine bB [9] [.f 0 0,.f 0 0,.f 0 0,.f 0 0,.f 0 0,.f 0 0,.f 0 0,.f 0 0,.f 0 0,.m 0] [.c0 _,.c0 _,.c0 _,.c0 _,.c0 _,.c0 _,.c0 _,.c0 _,.c0 _,.c1 (fun x=> .tuple ⟨[]⟩)] (aA b (aF m (.slice vad m.es.length vcap)) 38::aJ p r pl pv pt mv::aG pl r.l::VoR pv r.v::ToR pt r.t::aD H mv r.out.msgs::R) (fun x=>aA b (aF m (.slice vad m.es.length vcap)) 38::aE H p (r.hardD ⟨r.h.term,m.from_⟩)::R) (fun x y=>[]) (fun x y z=>[]) (fun x y z t=>[]) hs hw ?kk ⟨drs,drs,drs,drs,drs,drs,drs,drs,drs,?m0,trivial⟩
     case m0=>
      intro x y z t LD a W hs hw;have hw:Has 0 w0 W (aE H p r::aA b (aF m (.slice vad m.es.length vcap)) 38::R):=cD (hw.pm);refine cl hs (s6 ⟨r.h.term,m.from_⟩ hw) fun a W hs hw=>?_;exact ⟨{},hs,hw.swap2⟩
     case kk=>
      intro _ a W hs hw;obtain ⟨r2,hr2⟩:∃r2:RaftD,r2=r.hardD ⟨r.h.term,m.from_⟩:=⟨_,rfl⟩
      rw [←hr2] at hw;have he:r.asked m= {r2 with heard:=true}.say {cM with kind:=2,to_:=m.from_,yes:=true}:=by rw [hr2,he1 _ c2 rfl]
      have hm2:r2.out.msgs.length≤1000:=by rw [hr2];exact hl
      rw [he];obtain ⟨pl2,pv2,pt2,mv2,hw⟩:=dG hw.swap2;refine sx hs hw fun a W hs hw=>?_;have hw:Has 0 w0 W (aE H p {r2 with heard:=true}::aA b (aF m (.slice vad m.es.length vcap)) 38::R):=cD (r:={r2 with heard:=true}) hw;refine cl hs (fO (r:={r2 with heard:=true}) {cM with kind:=2,to_:=m.from_,yes:=true} (.slice none 0 0) fU (by show (0:Nat)≤1000000;omega) hm2 hw) fun a W hs hw=>?_;refine sc hs ?_;exact cO hs rfl ⟨rfl,hw.sl⟩
    |false=>
     rw [c2] at hs;have he:r.asked m=r.say {cM with kind:=2,to_:=m.from_}:=he0 _ c2 rfl;rw [he];refine sx hs hw fun a W hs hw=>?_;have hw:Has 0 w0 W (aE H p r::aA b (aF m (.slice vad m.es.length vcap)) 38::R):=cD (hw.pm);refine cl hs (fO {cM with kind:=2,to_:=m.from_} (.slice none 0 0) fU (by show (0:Nat)≤1000000;omega) hl hw) fun a W hs hw=>?_;refine sc hs ?_;exact cO hs rfl ⟨rfl,hw.sl⟩
  |false=>
   refine bB [25] [.f 0 0,.f 0 0,.f 0 0,.f 0 0,.f 0 0,.f 0 0,.f 0 0,.f 0 0,.f 0 0,.f 0 0,.f 0 0,.f 0 0,.f 0 0,.f 0 0,.f 0 0,.f 0 0,.f 0 0,.f 0 0,.f 0 0,.f 0 0,.f 0 0,.f 0 0,.f 0 0,.f 0 0,.f 0 0,.m 0,.f 1 1,.f 1 1] [.c0 _,.c0 _,.c0 _,.c0 _,.c0 _,.c0 (.bool false),.c0 _,.c0 _,.c0 _,.c0 _,.c0 _,.c0 _,.c0 _,.c0 _,.c0 (.bool false),.c0 _,.c0 _,.c0 _,.c0 _,.c0 _,.c0 _,.c0 _,.c0 _,.c0 _,.c0 _,.c1 (fun x=>undef),.c1 _,.c1 _] (aA b (aF m (.slice vad m.es.length vcap)) 38::aJ p r pl pv pt mv::aG pl r.l::VoR pv r.v::ToR pt r.t::aD H mv r.out.msgs::R) (fun x=>aA b (aF m (.slice vad m.es.length vcap)) 38::aJ p r pl pv pt mv::aG pl r.l::VoR pv r.v::ToR pt r.t::aD H mv r.out.msgs::R) (fun x y=>[]) (fun x y z=>[]) (fun x y z t=>[]) hs hw ?kk ⟨drs,drs,drs,drs,drs,?f5,drs,drs,drs,drs,drs,drs,drs,drs,?f14,drs,drs,drs,drs,drs,drs,drs,drs,drs,drs,drm,drs,drs,trivial⟩
   case f5=>
    refine ⟨?_,trivial,trivial,trivial,trivial⟩;intro x y z t LD a W hs hw;refine sv hs hw fun a hs=>?_;rw [cA] at hs;exact ⟨hs,hw⟩
   case f14=>
    refine ⟨?_,trivial,trivial,trivial,trivial⟩;intro x y z t LD a W hs hw;refine sv hs hw fun a hs=>?_;rw [cB] at hs;exact ⟨hs,hw⟩
   case kk=>
    intro _ a W hs hw;replace hs:Slots a 52 [(0,ptr p),(3,ptr b),(4,.bool false)]:=hs.ot;have he:r.asked m=r.say {cM with kind:=2,to_:=m.from_}:=by rw [he2,cA,cB];rfl
    rw [he];refine sx hs hw fun a W hs hw=>?_;have hw:Has 0 w0 W (aE H p r::aA b (aF m (.slice vad m.es.length vcap)) 38::R):=cD (hw.pm);refine cl hs (fO {cM with kind:=2,to_:=m.from_} (.slice none 0 0) fU (by show (0:Nat)≤1000000;omega) hl hw) fun a W hs hw=>?_;refine sc hs ?_;exact cO hs rfl ⟨rfl,hw.sl⟩
end
section
variable {H H':Fh} {p pl:Nat} {pv pt mv:Value} {r:RaftD} {w0 W:World} {R L:List Res} {l:List bF} {v:Value}
theorem aHN (m:bF) (v:Value) (hv:∃ad cap,v= .slice ad m.es.length cap) (hl:r.out.msgs.length≤900) (hy:∀o,r.v=some o→o.yes.length≤1000∧o.no.length≤1000) (hw:Has 0 w0 W (aE H p r::Fz H::R)):
  Calls prog 142 ⟨[ptr p,.agg ⟨aF m v⟩]⟩ W fun e W'=>e= .returned (.tuple ⟨[]⟩)∧∃H',H.le H'∧Has 0 w0 W' (aE H' p (r.voted m)::Fz H'::R):=by
 obtain ⟨vad,vcap,rfl⟩:=hv;obtain ⟨vo,hvo⟩:∃vo,vo=(match m.yes with|true=>sK r.v m.from_|false=>sL r.v m.from_):=⟨_,rfl⟩
 have he:r.voted m=match r.role == 1 with
  |false=>r
  |true=>match k7 vo,pS vo with
   |true,_=>{r with v:=vo}.lead
   |false,true=>{r with v:=vo,role:=0}
   |false,false=>{r with v:=vo}:=by rw [hvo];rfl
 rw [he];obtain ⟨pl,pv,pt,mv,hw⟩:=dG hw;refine en Tryz.func142 Tryz.ntmps142 fun a hs=>?_;refine sc hs ?_;refine sn hs hw fun b a W hs hw=>?_;refine sv hs hw fun a hs=>?_;rw [show (r.role !=1)=!(r.role == 1) from rfl] at hs;cases c1:r.role == 1 with
 |false=>
  rw [c1] at hs;refine sc hs ?_;have hw:Has 0 w0 W (aE H p r::aA b (aF m (.slice vad m.es.length vcap)) 38::Fz H::R):=cD (hw.pm);exact rt0 hs rfl ⟨rfl,H,Fh.le.refl H,hw.sl⟩
 |true=>
 rw [c1] at hs;refine sv hs hw fun a hs=>?_;have mid:∀{W},Has 0 w0 W (aA b (aF m (.slice vad m.es.length vcap)) 38::aJ p r pl pv pt mv::aG pl r.l::VoR pv (vo)::ToR pt r.t::aD H mv r.out.msgs::Fz H::R)→Has 0 w0 W (aE H p {r with v:=vo}::Fz H::R):=fun h=>cD (r:={r with v:=vo}) (h.d1);cases c2:m.yes with
 |true=>
  rw [c2] at hs hvo;replace hvo:vo=sK r.v m.from_:=hvo;refine sc hs ?_;refine bB [6] [.f 0 0,.f 0 0,.f 0 0,.f 0 0,.f 0 0,.f 0 0,.m 0] [.c0 _,.c0 _,.c0 _,.c0 _,.c0 _,.c0 _,.c1 (fun x=>x.v)] (aA b (aF m (.slice vad m.es.length vcap)) 38::aJ p r pl pv pt mv::aG pl r.l::VoR pv (r.v)::ToR pt r.t::aD H mv r.out.msgs::Fz H::R) (fun x=>aA b (aF m (.slice vad m.es.length vcap)) 38::aJ p r pl pv pt mv::aG pl r.l::VoR pv (vo)::ToR pt r.t::aD H mv r.out.msgs::Fz H::R) (fun x y=>[]) (fun x y z=>[]) (fun x y z t=>[]) hs hw ?kk ⟨drs,drs,drs,drs,drs,drs,?m0,trivial⟩
  case m0=>
   intro x y z t LD a W hs hw;have hw:Has 0 w0 W (VoR pv r.v::aA b (aF m (.slice vad m.es.length vcap)) 38::aJ p r pl pv pt mv::aG pl r.l::ToR pt r.t::aD H mv r.out.msgs::Fz H::R):=hw.pm;refine cle hs (aHD (X:=m.from_) (fun o h=>(hy o h).1) hw) fun bb a W _ hs hw=>?_;rw [←hvo] at hw;exact ⟨{v:= .bool bb},hs,hw.pm⟩
  case kk=>
   intro _ a W hs hw;replace hs:Slots a 42 [(0,ptr p)]:=hs.ot;refine sv hs hw fun a hs=>?_;have hw:Has 0 w0 W (VoR pv vo::aA b (aF m (.slice vad m.es.length vcap)) 38::aJ p r pl pv pt mv::aG pl r.l::ToR pt r.t::aD H mv r.out.msgs::Fz H::R):=hw.pm;refine cl hs (xI hw) fun a W hs hw=>?_;have hw:Has 0 w0 W (aA b (aF m (.slice vad m.es.length vcap)) 38::aJ p r pl pv pt mv::aG pl r.l::VoR pv (vo)::ToR pt r.t::aD H mv r.out.msgs::Fz H::R):=hw.pm;refine sv hs hw fun a hs=>?_;cases c3:k7 vo with
   |true=>
    rw [c3] at hs;refine sv hs hw fun a hs=>?_;have hw:=mid hw;refine aH hs (hc:=xJ (r:={r with v:=vo}) hl hw) (k:=?_);rintro e' W' ⟨rfl,H3,hle3,hw⟩;refine ⟨_,rfl,fun a hs=>?_⟩;refine sc hs ?_;exact cO hs rfl ⟨rfl,H3,hle3,hw⟩
   |false=>
    rw [c3] at hs;refine sv hs hw fun a hs=>?_;have hw:Has 0 w0 W (VoR pv vo::aA b (aF m (.slice vad m.es.length vcap)) 38::aJ p r pl pv pt mv::aG pl r.l::ToR pt r.t::aD H mv r.out.msgs::Fz H::R):=hw.pm;refine cl hs (aBh hw) fun a W hs hw=>?_;have hw:Has 0 w0 W (aA b (aF m (.slice vad m.es.length vcap)) 38::aJ p r pl pv pt mv::aG pl r.l::VoR pv (vo)::ToR pt r.t::aD H mv r.out.msgs::Fz H::R):=hw.pm;refine sv hs hw fun a hs=>?_;cases c4:pS vo with
    |true=>
     rw [c4] at hs;refine sx hs hw fun a W hs hw=>?_;exact cO hs rfl ⟨rfl,H,Fh.le.refl H,cD (r:={r with v:=vo,role:=0}) (hw.d1)⟩
    |false=>
     rw [c4] at hs;refine sc hs ?_;exact cO hs rfl ⟨rfl,H,Fh.le.refl H,mid hw⟩
 |false=>
  rw [c2] at hs hvo;replace hvo:vo=sL r.v m.from_:=hvo;refine sc hs ?_;refine bB [6] [.f 0 0,.f 0 0,.f 0 0,.f 0 0,.f 0 0,.f 0 0,.m 0] [.c0 _,.c0 _,.c0 _,.c0 _,.c0 _,.c0 _,.c1 (fun x=>x.v)] (aA b (aF m (.slice vad m.es.length vcap)) 38::aJ p r pl pv pt mv::aG pl r.l::VoR pv (r.v)::ToR pt r.t::aD H mv r.out.msgs::Fz H::R) (fun x=>aA b (aF m (.slice vad m.es.length vcap)) 38::aJ p r pl pv pt mv::aG pl r.l::VoR pv (vo)::ToR pt r.t::aD H mv r.out.msgs::Fz H::R) (fun x y=>[]) (fun x y z=>[]) (fun x y z t=>[]) hs hw ?kk ⟨drs,drs,drs,drs,drs,drs,?m0,trivial⟩
  case m0=>
   intro x y z t LD a W hs hw;have hw:Has 0 w0 W (VoR pv r.v::aA b (aF m (.slice vad m.es.length vcap)) 38::aJ p r pl pv pt mv::aG pl r.l::ToR pt r.t::aD H mv r.out.msgs::Fz H::R):=hw.pm;refine cle hs (aHE (X:=m.from_) (fun o h=>(hy o h).2) hw) fun bb a W _ hs hw=>?_;rw [←hvo] at hw;exact ⟨{v:= .bool bb},hs,hw.pm⟩
  case kk=>
   intro _ a W hs hw;replace hs:Slots a 42 [(0,ptr p)]:=hs.ot;refine sv hs hw fun a hs=>?_;have hw:Has 0 w0 W (VoR pv vo::aA b (aF m (.slice vad m.es.length vcap)) 38::aJ p r pl pv pt mv::aG pl r.l::ToR pt r.t::aD H mv r.out.msgs::Fz H::R):=hw.pm;refine cl hs (xI hw) fun a W hs hw=>?_;have hw:Has 0 w0 W (aA b (aF m (.slice vad m.es.length vcap)) 38::aJ p r pl pv pt mv::aG pl r.l::VoR pv (vo)::ToR pt r.t::aD H mv r.out.msgs::Fz H::R):=hw.pm;refine sv hs hw fun a hs=>?_;cases c3:k7 vo with
   |true=>
    rw [c3] at hs;refine sv hs hw fun a hs=>?_;have hw:=mid hw;refine aH hs (hc:=xJ (r:={r with v:=vo}) hl hw) (k:=?_);rintro e' W' ⟨rfl,H3,hle3,hw⟩;refine ⟨_,rfl,fun a hs=>?_⟩;refine sc hs ?_;exact cO hs rfl ⟨rfl,H3,hle3,hw⟩
   |false=>
    rw [c3] at hs;refine sv hs hw fun a hs=>?_;have hw:Has 0 w0 W (VoR pv vo::aA b (aF m (.slice vad m.es.length vcap)) 38::aJ p r pl pv pt mv::aG pl r.l::ToR pt r.t::aD H mv r.out.msgs::Fz H::R):=hw.pm;refine cl hs (aBh hw) fun a W hs hw=>?_;have hw:Has 0 w0 W (aA b (aF m (.slice vad m.es.length vcap)) 38::aJ p r pl pv pt mv::aG pl r.l::VoR pv (vo)::ToR pt r.t::aD H mv r.out.msgs::Fz H::R):=hw.pm;refine sv hs hw fun a hs=>?_;cases c4:pS vo with
    |true=>
     rw [c4] at hs;refine sx hs hw fun a W hs hw=>?_;exact cO hs rfl ⟨rfl,H,Fh.le.refl H,cD (r:={r with v:=vo,role:=0}) (hw.d1)⟩
    |false=>
     rw [c4] at hs;refine sc hs ?_;exact cO hs rfl ⟨rfl,H,Fh.le.refl H,mid hw⟩
end
section
variable {H H':Fh} {p pl:Nat} {pv pt mv:Value} {r:RaftD} {w0 W:World} {R L:List Res} {l:List bF} {v:Value}
theorem aHO (m:bF) (v:Value) (hv:∃ad cap,v= .slice ad m.es.length cap) (hl:r.out.msgs.length≤900) (hw:Has 0 w0 W (aE H p r::Fz H::R)):
  Calls prog 144 ⟨[ptr p,.agg ⟨aF m v⟩]⟩ W fun e W'=>e= .returned (.tuple ⟨[]⟩)∧∃H',H.le H'∧Has 0 w0 W' (aE H' p (r.ack m)::Fz H'::R):=by
 obtain ⟨vad,vcap,rfl⟩:=hv;obtain ⟨pl,pv,pt,mv,hw⟩:=dG hw;refine en Tryz.func144 Tryz.ntmps144 fun a hs=>?_;refine sc hs ?_;refine sn hs hw fun b a W hs hw=>?_;refine sc hs ?_;have fin:∀{W},Has 0 w0 W (aA b (aF m (.slice vad m.es.length vcap)) 38::aJ p r pl pv pt mv::aG pl r.l::VoR pv r.v::ToR pt (r.t)::aD H mv r.out.msgs::Fz H::R)→Has 0 w0 W (aE H p r::Fz H::R):=fun h=>cD (h.d1);cases c1:(r.role == 2) with
 |false=>
  have he:r.ack m=r:=by unfold RaftD.ack;rw [if_pos (.inl (by simpa using c1))]
  rw [he];refine bB [12] [.f 0 0,.f 0 0,.f 0 0,.f 0 0,.f 0 0,.f 0 0,.f 0 1,.f 0 1,.f 0 0,.f 0 0,.f 0 0,.f 0 0,.m 0,.f 1 1,.f 1 1] [.c0 _,.c0 _,.c0 _,.c0 _,.c0 (.bool true),.c0 _,.c0 _,.c0 _,.c0 _,.c0 _,.c0 _,.c0 _,.c1 (fun x=>undef),.c1 _,.c1 _] (aA b (aF m (.slice vad m.es.length vcap)) 38::aJ p r pl pv pt mv::aG pl r.l::VoR pv r.v::ToR pt (r.t)::aD H mv r.out.msgs::Fz H::R) (fun x=>aA b (aF m (.slice vad m.es.length vcap)) 38::aJ p r pl pv pt mv::aG pl r.l::VoR pv r.v::ToR pt (r.t)::aD H mv r.out.msgs::Fz H::R) (fun x y=>[]) (fun x y z=>[]) (fun x y z t=>[]) hs hw ?kk ⟨drs,drs,drs,drs,?f4,drs,drs,drs,drs,drs,drs,drs,drm,drs,drs,trivial⟩
  case f4=>
   refine ⟨?_,trivial,trivial,trivial,trivial⟩;intro x y z t LD a W hs hw;refine sv hs hw fun a hs=>?_;rw [show (r.role !=2)=!(r.role == 2) from rfl,c1] at hs;exact ⟨hs,hw⟩
  case kk=>
   intro _ a W hs hw;refine sc hs ?_;exact rt0 hs rfl ⟨rfl,H,Fh.le.refl H,fin hw⟩
 |true=>
  refine bB [12] [.f 0 0,.f 0 0,.f 0 0,.f 0 0,.f 0 0,.f 0 0,.f 0 1,.f 0 1,.f 0 0,.f 0 0,.f 0 0,.f 0 0,.m 0,.f 1 1,.f 1 1] [.c0 _,.c0 _,.c0 _,.c0 _,.c0 (.bool false),.c0 _,.c0 _,.c0 _,.c0 _,.c0 _,.c0 _,.c0 _,.c1 (fun x=> .int .i64 r.l.last),.c1 _,.c1 _] (aA b (aF m (.slice vad m.es.length vcap)) 38::aJ p r pl pv pt mv::aG pl r.l::VoR pv r.v::ToR pt (r.t)::aD H mv r.out.msgs::Fz H::R) (fun x=>aA b (aF m (.slice vad m.es.length vcap)) 38::aJ p r pl pv pt mv::aG pl r.l::VoR pv r.v::ToR pt (r.t)::aD H mv r.out.msgs::Fz H::R) (fun x y=>[]) (fun x y z=>[]) (fun x y z t=>[]) hs hw ?kk ⟨drs,drs,drs,drs,?f4,drs,drs,drs,drs,drs,drs,drs,drm,drs,drs,trivial⟩
  case f4=>
   refine ⟨?_,trivial,trivial,trivial,trivial⟩;intro x y z t LD a W hs hw;refine sv hs hw fun a hs=>?_;rw [show (r.role !=2)=!(r.role == 2) from rfl,c1] at hs;exact ⟨hs,hw⟩
  case kk=>
  intro _ a W hs hw;replace hs:Slots a 70 [(0,ptr p),(3,ptr b),(18,.bool (decide (m.ix > r.l.last)))]:=hs.ot;have hr2:r.role=2:=by simpa using c1
  cases c2:decide (m.ix > r.l.last) with
  |true=>
   rw [c2] at hs;have he:r.ack m=r:=by unfold RaftD.ack;rw [if_pos (.inr (of_decide_eq_true c2))]
   rw [he];refine sc hs ?_;exact rt0 hs rfl ⟨rfl,H,Fh.le.refl H,fin hw⟩
  |false=>
  rw [c2] at hs;have he:r.ack m=match m.yes with
   |false=>match (gX r.t m.from_ m.ix).2 with
    |true=>{r with t:=(gX r.t m.from_ m.ix).1}.send m.from_
    |false=>{r with t:=(gX r.t m.from_ m.ix).1}
   |true=>
    let q:=match (gK r.t m.from_ m.ix).2 with|true=>{r with t:=(gK r.t m.from_ m.ix).1}.move|false=>{r with t:=(gK r.t m.from_ m.ix).1}
    match (q.role == 2) && decide (bL q.t m.from_≤q.l.last) with
    |true=>q.send m.from_
    |false=>q:=by
   unfold RaftD.ack;rw [if_neg (by have:=of_decide_eq_false c2;simp [hr2];omega)];rfl
  refine sv hs hw fun a hs=>?_;cases c3:m.yes with
  |false=>
   rw [c3] at hs;rw [he,c3];refine sc hs ?_;refine bB [8] [.f 0 0,.f 0 0,.f 0 0,.f 0 0,.f 0 0,.f 0 0,.f 0 0,.f 0 0,.m 0] [.c0 _,.c0 _,.c0 _,.c0 _,.c0 _,.c0 _,.c0 _,.c0 _,.c1 (fun x=> .bool (gX r.t m.from_ m.ix).2)] (aA b (aF m (.slice vad m.es.length vcap)) 38::aJ p r pl pv pt mv::aG pl r.l::VoR pv r.v::ToR pt (r.t)::aD H mv r.out.msgs::Fz H::R) (fun x=>aA b (aF m (.slice vad m.es.length vcap)) 38::aJ p r pl pv pt mv::aG pl r.l::VoR pv r.v::ToR pt ((gX r.t m.from_ m.ix).1)::aD H mv r.out.msgs::Fz H::R) (fun x y=>[]) (fun x y z=>[]) (fun x y z t=>[]) hs hw ?kk ⟨drs,drs,drs,drs,drs,drs,drs,drs,?m0,trivial⟩
   case m0=>
    intro x y z t LD a W hs hw;have hw:Has 0 w0 W (ToR pt r.t::aA b (aF m (.slice vad m.es.length vcap)) 38::aJ p r pl pv pt mv::aG pl r.l::VoR pv r.v::aD H mv r.out.msgs::Fz H::R):=hw.pm;refine cl hs (aHB hw) fun a W hs hw=>?_;exact ⟨{},hs,hw.pm⟩
   case kk=>
   intro _ a W hs hw;replace hs:Slots a 70 [(0,ptr p),(3,ptr b),(30,.bool (gX r.t m.from_ m.ix).2)]:=hs.ot;have hq:Has 0 w0 W (aE H p {r with t:=(gX r.t m.from_ m.ix).1}::Fz H::aA b (aF m (.slice vad m.es.length vcap)) 38::R):=cD (r:={r with t:=(gX r.t m.from_ m.ix).1}) (hw.pm);cases c4:(gX r.t m.from_ m.ix).2 with
   |true=>
    rw [c4] at hs;refine sv hs hw fun a hs=>?_;refine aH hs (hc:=tB (r:={r with t:=(gX r.t m.from_ m.ix).1}) m.from_ (by show r.out.msgs.length≤1000;omega) hq) (k:=?_);rintro e' W' ⟨rfl,H3,hle3,hw⟩;refine ⟨_,rfl,fun a hs=>?_⟩;refine sc hs ?_;exact rt0 hs rfl ⟨rfl,H3,hle3,hw.sl⟩
   |false=>
    rw [c4] at hs;refine sc hs ?_;exact rt0 hs rfl ⟨rfl,H,Fh.le.refl H,hq.sl⟩
  |true=>
   rw [c3] at hs;refine sc hs ?_;refine bB [8] [.f 0 0,.f 0 0,.f 0 0,.f 0 0,.f 0 0,.f 0 0,.f 0 0,.f 0 0,.m 0] [.c0 _,.c0 _,.c0 _,.c0 _,.c0 _,.c0 _,.c0 _,.c0 _,.c1 (fun x=> .bool (gK r.t m.from_ m.ix).2)] (aA b (aF m (.slice vad m.es.length vcap)) 38::aJ p r pl pv pt mv::aG pl r.l::VoR pv r.v::ToR pt (r.t)::aD H mv r.out.msgs::Fz H::R) (fun x=>aA b (aF m (.slice vad m.es.length vcap)) 38::aJ p r pl pv pt mv::aG pl r.l::VoR pv r.v::ToR pt ((gK r.t m.from_ m.ix).1)::aD H mv r.out.msgs::Fz H::R) (fun x y=>[]) (fun x y z=>[]) (fun x y z t=>[]) hs hw ?kk ⟨drs,drs,drs,drs,drs,drs,drs,drs,?m0,trivial⟩
   case m0=>
    intro x y z t LD a W hs hw;have hw:Has 0 w0 W (ToR pt r.t::aA b (aF m (.slice vad m.es.length vcap)) 38::aJ p r pl pv pt mv::aG pl r.l::VoR pv r.v::aD H mv r.out.msgs::Fz H::R):=hw.pm;refine cl hs (aHA hw) fun a W hs hw=>?_;exact ⟨{},hs,hw.pm⟩
   case kk=>
   intro _ a W hs hw;replace hs:Slots a 70 [(0,ptr p),(3,ptr b),(43,.bool (gK r.t m.from_ m.ix).2)]:=hs.ot;have hqw:Has 0 w0 W (aE H p {r with t:=(gK r.t m.from_ m.ix).1}::Fz H::aA b (aF m (.slice vad m.es.length vcap)) 38::R):=cD (r:={r with t:=(gK r.t m.from_ m.ix).1}) (hw.pm);cases c4:(gK r.t m.from_ m.ix).2 with
   |true=>
    rw [c4] at hs;replace hw:=hqw;refine sv hs hw fun a hs=>?_;refine cl hs (tD (r:={r with t:=(gK r.t m.from_ m.ix).1}) hw) fun a W hs hqw=>?_;obtain ⟨q,hq⟩:∃q,q=RaftD.move {r with t:=(gK r.t m.from_ m.ix).1}:=⟨_,rfl⟩
    refine sc hs ?_;have hmq:q.out.msgs.length≤900:=by rw [hq];rw [tE];exact hl
    have heq:r.ack m=match (q.role == 2) && decide (bL q.t m.from_≤q.l.last) with
     |true=>q.send m.from_
     |false=>q:=by
     rw [hq,he,c3];simp only [c4]
    rw [heq];rw [←hq] at hqw;clear hw;obtain ⟨pl2,pv2,pt2,mv2,hw⟩:=dG hqw;replace hs:Slots a 70 [(0,ptr p),(3,ptr b)]:=hs.ot;cases c5:(q.role == 2) with
    |false=>
     refine bB [12,17] [.f 0 0,.f 0 0,.f 0 0,.f 0 0,.f 0 0,.f 0 0,.f 0 0,.f 0 0,.f 0 0,.f 0 0,.f 0 0,.f 0 0,.m 0,.f 0 1,.f 0 1,.f 0 1,.f 0 1,.m 1,.f 2 2,.f 2 2] [.c0 _,.c0 _,.c0 _,.c0 _,.c0 (.bool false),.c0 _,.c0 _,.c0 _,.c0 _,.c0 _,.c0 _,.c0 _,.c1 (fun x=>undef),.c0 _,.c0 _,.c0 _,.c0 _,.c2 (fun x y=>undef),.c2 _,.c2 _] (aJ p q pl2 pv2 pt2 mv2::aG pl2 q.l::VoR pv2 q.v::ToR pt2 q.t::aD H mv2 q.out.msgs::Fz H::aA b (aF m (.slice vad m.es.length vcap)) 38::R) (fun x=>aJ p q pl2 pv2 pt2 mv2::aG pl2 q.l::VoR pv2 q.v::ToR pt2 q.t::aD H mv2 q.out.msgs::Fz H::aA b (aF m (.slice vad m.es.length vcap)) 38::R) (fun x y=>aJ p q pl2 pv2 pt2 mv2::aG pl2 q.l::VoR pv2 q.v::ToR pt2 q.t::aD H mv2 q.out.msgs::Fz H::aA b (aF m (.slice vad m.es.length vcap)) 38::R) (fun x y z=>[]) (fun x y z t=>[]) hs hw ?kk ⟨drs,drs,drs,drs,?f4,drs,drs,drs,drs,drs,drs,drs,drm,drs,drs,drs,drs,drm,drs,drs,trivial⟩
     case f4=>
      refine ⟨?_,trivial,trivial,trivial,trivial⟩;intro x y z t LD a W hs hw;refine sv hs hw fun a hs=>?_;rw [c5] at hs;exact ⟨hs,hw⟩
     case kk=>
      intro _ _ a W hs hw;have hw:Has 0 w0 W (aE H p q::Fz H::aA b (aF m (.slice vad m.es.length vcap)) 38::R):=cD hw;refine sc hs ?_;exact cO hs rfl ⟨rfl,H,Fh.le.refl H,hw.sl⟩
    |true=>
     refine bB [12,17] [.f 0 0,.f 0 0,.f 0 0,.f 0 0,.f 0 0,.f 0 0,.f 0 0,.f 0 0,.f 0 0,.f 0 0,.f 0 0,.f 0 0,.m 0,.f 0 1,.f 0 1,.f 0 1,.f 0 1,.m 1,.f 2 2,.f 2 2] [.c0 _,.c0 _,.c0 _,.c0 _,.c0 (.bool true),.c0 _,.c0 _,.c0 _,.c0 _,.c0 _,.c0 _,.c0 _,.c1 (fun x=> .int .i64 (bL q.t m.from_)),.c0 _,.c0 _,.c0 _,.c0 _,.c2 (fun x y=> .int .i64 q.l.last),.c2 _,.c2 _] (aJ p q pl2 pv2 pt2 mv2::aG pl2 q.l::VoR pv2 q.v::ToR pt2 q.t::aD H mv2 q.out.msgs::Fz H::aA b (aF m (.slice vad m.es.length vcap)) 38::R) (fun x=>aJ p q pl2 pv2 pt2 mv2::aG pl2 q.l::VoR pv2 q.v::ToR pt2 q.t::aD H mv2 q.out.msgs::Fz H::aA b (aF m (.slice vad m.es.length vcap)) 38::R) (fun x y=>aJ p q pl2 pv2 pt2 mv2::aG pl2 q.l::VoR pv2 q.v::ToR pt2 q.t::aD H mv2 q.out.msgs::Fz H::aA b (aF m (.slice vad m.es.length vcap)) 38::R) (fun x y z=>[]) (fun x y z t=>[]) hs hw ?kk ⟨drs,drs,drs,drs,?f4,drs,drs,drs,drs,drs,drs,drs,?m0,drs,drs,drs,drs,drm,drs,drs,trivial⟩
     case f4=>
      refine ⟨?_,trivial,trivial,trivial,trivial⟩;intro x y z t LD a W hs hw;refine sv hs hw fun a hs=>?_;rw [c5] at hs;exact ⟨hs,hw⟩
     case m0=>
      intro x y z t LD a W hs hw;refine sc hs ?_;have hw:Has 0 w0 W (ToR pt2 q.t::aJ p q pl2 pv2 pt2 mv2::aG pl2 q.l::VoR pv2 q.v::aD H mv2 q.out.msgs::Fz H::aA b (aF m (.slice vad m.es.length vcap)) 38::R):=hw.pm;refine cl hs (xH hw) fun a W hs hw=>?_;exact ⟨{},hs,hw.pm⟩
     case kk=>
     intro _ _ a W hs hw;have hw:Has 0 w0 W (aE H p q::Fz H::aA b (aF m (.slice vad m.es.length vcap)) 38::R):=cD hw;replace hs:Slots a 70 [(0,ptr p),(3,ptr b),(65,.bool (decide (bL q.t m.from_≤q.l.last)))]:=hs.ot;cases c6:decide (bL q.t m.from_≤q.l.last) with
     |true=>
      rw [c6] at hs;refine sv hs hw fun a hs=>?_;refine aH hs (hc:=tB m.from_ (by omega) hw) (k:=?_);rintro e' W' ⟨rfl,H3,hle3,hw⟩;refine ⟨_,rfl,fun a hs=>?_⟩;refine sc hs ?_;exact cO hs rfl ⟨rfl,H3,hle3,hw.sl⟩
     |false=>
      rw [c6] at hs;refine sc hs ?_;exact cO hs rfl ⟨rfl,H,Fh.le.refl H,hw.sl⟩
   |false=>
    rw [c4] at hs;obtain ⟨q,hq⟩:∃q,q=({r with t:=(gK r.t m.from_ m.ix).1}:RaftD):=⟨_,rfl⟩
    refine sc hs ?_;have hmq:q.out.msgs.length≤900:=by rw [hq];exact hl
    have heq:r.ack m=match (q.role == 2) && decide (bL q.t m.from_≤q.l.last) with
     |true=>q.send m.from_
     |false=>q:=by
     rw [hq,he,c3];simp only [c4]
    rw [heq];rw [←hq] at hqw;clear hw;obtain ⟨pl2,pv2,pt2,mv2,hw⟩:=dG hqw;replace hs:Slots a 70 [(0,ptr p),(3,ptr b)]:=hs.ot;cases c5:(q.role == 2) with
    |false=>
     refine bB [12,17] [.f 0 0,.f 0 0,.f 0 0,.f 0 0,.f 0 0,.f 0 0,.f 0 0,.f 0 0,.f 0 0,.f 0 0,.f 0 0,.f 0 0,.m 0,.f 0 1,.f 0 1,.f 0 1,.f 0 1,.m 1,.f 2 2,.f 2 2] [.c0 _,.c0 _,.c0 _,.c0 _,.c0 (.bool false),.c0 _,.c0 _,.c0 _,.c0 _,.c0 _,.c0 _,.c0 _,.c1 (fun x=>undef),.c0 _,.c0 _,.c0 _,.c0 _,.c2 (fun x y=>undef),.c2 _,.c2 _] (aJ p q pl2 pv2 pt2 mv2::aG pl2 q.l::VoR pv2 q.v::ToR pt2 q.t::aD H mv2 q.out.msgs::Fz H::aA b (aF m (.slice vad m.es.length vcap)) 38::R) (fun x=>aJ p q pl2 pv2 pt2 mv2::aG pl2 q.l::VoR pv2 q.v::ToR pt2 q.t::aD H mv2 q.out.msgs::Fz H::aA b (aF m (.slice vad m.es.length vcap)) 38::R) (fun x y=>aJ p q pl2 pv2 pt2 mv2::aG pl2 q.l::VoR pv2 q.v::ToR pt2 q.t::aD H mv2 q.out.msgs::Fz H::aA b (aF m (.slice vad m.es.length vcap)) 38::R) (fun x y z=>[]) (fun x y z t=>[]) hs hw ?kk ⟨drs,drs,drs,drs,?f4,drs,drs,drs,drs,drs,drs,drs,drm,drs,drs,drs,drs,drm,drs,drs,trivial⟩
     case f4=>
      refine ⟨?_,trivial,trivial,trivial,trivial⟩;intro x y z t LD a W hs hw;refine sv hs hw fun a hs=>?_;rw [c5] at hs;exact ⟨hs,hw⟩
     case kk=>
      intro _ _ a W hs hw;have hw:Has 0 w0 W (aE H p q::Fz H::aA b (aF m (.slice vad m.es.length vcap)) 38::R):=cD hw;refine sc hs ?_;exact cO hs rfl ⟨rfl,H,Fh.le.refl H,hw.sl⟩
    |true=>
     refine bB [12,17] [.f 0 0,.f 0 0,.f 0 0,.f 0 0,.f 0 0,.f 0 0,.f 0 0,.f 0 0,.f 0 0,.f 0 0,.f 0 0,.f 0 0,.m 0,.f 0 1,.f 0 1,.f 0 1,.f 0 1,.m 1,.f 2 2,.f 2 2] [.c0 _,.c0 _,.c0 _,.c0 _,.c0 (.bool true),.c0 _,.c0 _,.c0 _,.c0 _,.c0 _,.c0 _,.c0 _,.c1 (fun x=> .int .i64 (bL q.t m.from_)),.c0 _,.c0 _,.c0 _,.c0 _,.c2 (fun x y=> .int .i64 q.l.last),.c2 _,.c2 _] (aJ p q pl2 pv2 pt2 mv2::aG pl2 q.l::VoR pv2 q.v::ToR pt2 q.t::aD H mv2 q.out.msgs::Fz H::aA b (aF m (.slice vad m.es.length vcap)) 38::R) (fun x=>aJ p q pl2 pv2 pt2 mv2::aG pl2 q.l::VoR pv2 q.v::ToR pt2 q.t::aD H mv2 q.out.msgs::Fz H::aA b (aF m (.slice vad m.es.length vcap)) 38::R) (fun x y=>aJ p q pl2 pv2 pt2 mv2::aG pl2 q.l::VoR pv2 q.v::ToR pt2 q.t::aD H mv2 q.out.msgs::Fz H::aA b (aF m (.slice vad m.es.length vcap)) 38::R) (fun x y z=>[]) (fun x y z t=>[]) hs hw ?kk ⟨drs,drs,drs,drs,?f4,drs,drs,drs,drs,drs,drs,drs,?m0,drs,drs,drs,drs,drm,drs,drs,trivial⟩
     case f4=>
      refine ⟨?_,trivial,trivial,trivial,trivial⟩;intro x y z t LD a W hs hw;refine sv hs hw fun a hs=>?_;rw [c5] at hs;exact ⟨hs,hw⟩
     case m0=>
      intro x y z t LD a W hs hw;refine sc hs ?_;have hw:Has 0 w0 W (ToR pt2 q.t::aJ p q pl2 pv2 pt2 mv2::aG pl2 q.l::VoR pv2 q.v::aD H mv2 q.out.msgs::Fz H::aA b (aF m (.slice vad m.es.length vcap)) 38::R):=hw.pm;refine cl hs (xH hw) fun a W hs hw=>?_;exact ⟨{},hs,hw.pm⟩
     case kk=>
     intro _ _ a W hs hw;have hw:Has 0 w0 W (aE H p q::Fz H::aA b (aF m (.slice vad m.es.length vcap)) 38::R):=cD hw;replace hs:Slots a 70 [(0,ptr p),(3,ptr b),(65,.bool (decide (bL q.t m.from_≤q.l.last)))]:=hs.ot;cases c6:decide (bL q.t m.from_≤q.l.last) with
     |true=>
      rw [c6] at hs;refine sv hs hw fun a hs=>?_;refine aH hs (hc:=tB m.from_ (by omega) hw) (k:=?_);rintro e' W' ⟨rfl,H3,hle3,hw⟩;refine ⟨_,rfl,fun a hs=>?_⟩;refine sc hs ?_;exact cO hs rfl ⟨rfl,H3,hle3,hw.sl⟩
     |false=>
      rw [c6] at hs;refine sc hs ?_;exact cO hs rfl ⟨rfl,H,Fh.le.refl H,hw.sl⟩
end
section
variable {H H':Fh} {p pl:Nat} {pv pt mv:Value} {r:RaftD} {w0 W:World} {R L:List Res} {l:LogD} {v:Value}
theorem aHT (hw:Has 0 w0 W (aE H p r::R)):
  Calls prog 56 ⟨[ptr p]⟩ W fun e W'=>e= .returned (.int .i64 r.role)∧Has 0 w0 W' (aE H p r::R):=by
 obtain ⟨pl,pv,pt,mv,hw⟩:=dG hw;refine en Tryz.func56 Tryz.ntmps56 fun a hs=>?_;refine sv hs hw fun a hs=>?_;exact rt1 hs rfl rfl ⟨rfl,cD hw⟩
theorem aHU (hw:Has 0 w0 W (aE H p r::R)):
  Calls prog 124 ⟨[ptr p]⟩ W fun e W'=>e= .returned (.int .i64 r.commit)∧Has 0 w0 W' (aE H p r::R):=by
 obtain ⟨pl,pv,pt,mv,hw⟩:=dG hw;refine en Tryz.func124 Tryz.ntmps124 fun a hs=>?_;refine sv hs hw fun a hs=>?_;exact rt1 hs rfl rfl ⟨rfl,cD hw⟩
theorem aBs (hw:Has 0 w0 W (aE H p r::R)):
  Calls prog 21 ⟨[ptr p]⟩ W fun e W'=>e= .returned (.agg ⟨[.int .i64 r.h.term,.int .i64 r.h.vote]⟩)∧Has 0 w0 W' (aE H p r::R):=by
 obtain ⟨pl,pv,pt,mv,hw⟩:=dG hw;refine en Tryz.func21 Tryz.ntmps21 fun a hs=>?_;refine sc hs ?_;refine sn hs hw fun b a W hs hw=>?_;refine sx hs hw fun a W hs hw=>?_;exact rc1 hs rfl rfl hw inn rfl ⟨rfl,cD (hw.d1)⟩
theorem qR (hw:Has 0 w0 W (aJ p r pl pv pt mv::R)):
  Calls prog 67 ⟨[ptr p]⟩ W fun e W'=>e= .returned (ptr pl)∧Has 0 w0 W' (aJ p r pl pv pt mv::R):=by
 refine en Tryz.func67 Tryz.ntmps67 fun a hs=>?_;refine sv hs hw fun a hs=>?_;exact rt1 hs rfl rfl ⟨rfl,hw⟩
theorem aBt (id:Int) (h:fM) (commit:Int) (hr:mR id h l commit=some r) (hw:Has 0 w0 W (aG pl l::R)):
  Calls prog 92 ⟨[.int .i64 id,.agg ⟨[.int .i64 h.term,.int .i64 h.vote]⟩,ptr pl,.int .i64 commit]⟩ W fun e W'=>∃q:Nat,e= .returned (ptr q)∧True∧Has 0 w0 W' (aE H q r::R):=by
 unfold mR at hr;split at hr
 ·cases hr
 rename_i hn;obtain rfl:=Option.some.inj hr;have c1:decide (id<1)=false:=decide_eq_false (by omega);have c2:decide (id > 7)=false:=decide_eq_false (by omega);have c3:iA h=true:=by cases hh:iA h with|true=>rfl|false=>exact absurd (.inr (.inr (.inl hh))) hn
 have c4:decide (commit<l.s.ix)=false:=decide_eq_false (by omega);have c5:decide (commit > l.last)=false:=decide_eq_false (by omega);refine en Tryz.func92 Tryz.ntmps92 fun a hs=>?_;refine sc hs ?_;refine sn hs hw fun b a W hs hw=>?_;refine sv hs hw fun a hs=>?_;rw [c1] at hs;refine sv hs hw fun a hs=>?_;rw [c2] at hs;refine sv hs hw fun a hs=>?_;refine cl hs ((wal_May_hard (h:=h)).ok hw) fun a W hs hw=>?_;rw [c3] at hs;refine sx hs hw fun a W hs hw=>?_;rw [c4] at hs;refine sx hs hw fun a W hs hw=>?_;rw [c5] at hs;refine sv hs hw fun a hs=>?_;refine sn hs hw fun q a W hs hw=>?_;refine sv hs hw fun a hs=>?_;refine rt1 hs rfl rfl ⟨q,rfl,trivial,?_⟩;have hw:Has 0 w0 W (Sx.Own 38 13 (.slice none 0 0) 0 []::_):=hw.nilOwn 38 13;have hw:=lB (H:=H) (l:=[]) hw rfl;have hw:=(hw.fact (show Value.pointer none=Value.pointer none from rfl)).fact (show Value.pointer none=Value.pointer none from rfl);exact cD (r:=⟨id,h,l,commit,0,0,false,none,none,bW⟩) (pl:=pl) (pv:= .pointer none) (pt:= .pointer none) (mv:= .slice none 0 0) (hw.sl)
end
end Go.Proofs.YtgpbngfehfbndaaGreatDoor.Sw
