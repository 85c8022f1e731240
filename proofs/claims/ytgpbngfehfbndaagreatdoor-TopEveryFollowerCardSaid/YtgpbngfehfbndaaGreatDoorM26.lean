/-
  Texts of the proof, one behind the other (part 26).
-/
import Derived.Test.YtgpbngfehfbndaaGreatDoorM22
import Derived.Test.YtgpbngfehfbndaaGreatDoorM23
import Derived.Test.YtgpbngfehfbndaaGreatDoorM25
import Derived.Test.YtgpbngfehfbndaaGreatDoorChecked
import Derived.Test.YtgpbngfehfbndaaGreatDoorProg
set_option maxHeartbeats 16000000
set_option linter.unusedVariables false
set_option maxRecDepth 10000
namespace Go.Proofs.YtgpbngfehfbndaaGreatDoor.Sw
open Go.RowKit Go.Sx
section
variable {p q:Nat} {k k':dX} {v v2:Value} {w0 W:World} {R L:List Res} {d d':bF}
theorem aH4 (hw:Has 0 w0 W (aB nameS q none::R)):
  Calls Tryz.prog 86 ⟨[ptr q]⟩ W fun e W'=>∃p:Nat,e= .returned (.tuple ⟨[ptr p,.int .i64 0]⟩)∧True∧Has 0 w0 W' (cQ p q ⟨0,0⟩ zeroSnap (.slice none 0 0) 0::aB nameS q none::R):=by
 refine enter Tryz.func86 Tryz.ntmps86 rfl rfl fun a hs=>?_;refine sv hs hw fun a hs=>?_;refine sn hs hw fun p a W hs hw=>?_;refine sv hs hw fun a hs=>?_;refine cl hs (aCC w0 W nameS _ hw.swap2) fun a W hs hw=>?_;refine sv hs hw fun a hs=>?_;exact rt2 hs rfl rfl rfl ⟨p,rfl,trivial,hw.swap2⟩
theorem aH5 (conf data:ByteArray) (hk:qK none ⟨⟨0,0⟩,zeroSnap,[],0⟩ ⟨0,0,conf,data⟩=some (d',k')) (hw:Has 0 w0 W (cQ p q ⟨0,0⟩ zeroSnap (.slice none 0 0) 0::aB nameS q none::R)):
  Calls Tryz.prog 87 ⟨[ptr p,.agg ⟨fG ⟨0,0,conf,data⟩⟩]⟩ W fun e W'=>e= .returned (.int .i64 0)∧Has 0 w0 W' (aV p q k'::aB nameS q d'::R):=by
 obtain ⟨hsm,hd,rfl⟩:fA ⟨0,0,conf,data⟩=true∧nE (dC ⟨0,0,conf,data⟩ ++ cW ⟨0,0⟩ ++ ([]:List cD).flatMap cM)=some d'∧k'=⟨⟨0,0⟩,⟨0,0,conf,data⟩,[],(dC ⟨0,0,conf,data⟩ ++ cW ⟨0,0⟩ ++ ([]:List cD).flatMap cM).length⟩:=by
  unfold qK at hk;split at hk
  ·cases hk
  ·rename_i hn;have hm:fA ⟨0,0,conf,data⟩=true:=by cases hh:fA ⟨0,0,conf,data⟩ with|true=>rfl|false=>exact absurd (.inl hh) hn
   have hk:((nE (dC ⟨0,0,conf,data⟩ ++ cW ⟨0,0⟩ ++ ([]:List cD).flatMap cM)).map fun d=>(d,(⟨⟨0,0⟩,⟨0,0,conf,data⟩,[],(dC ⟨0,0,conf,data⟩ ++ cW ⟨0,0⟩ ++ ([]:List cD).flatMap cM).length⟩:dX)))=some (d',k'):=hk;rw [Option.map_eq_some_iff] at hk;obtain ⟨x,h1,h2⟩:=hk;injection h2 with h3 h4;exact ⟨hm,h3▸h1,h4.symm⟩
 have hpos:0<(dC ⟨0,0,conf,data⟩).length:=by unfold dC frB;simp
 obtain ⟨B,hB⟩:∃B,B=dC ⟨0,0,conf,data⟩:=⟨_,rfl⟩
 have hput:∀{W L},Has 0 w0 W L→Calls Tryz.prog 153 ⟨[.agg ⟨fG ⟨0,0,conf,data⟩⟩]⟩ W fun e W'=>∃x:Option Addr×Nat,e= .returned (.slice x.1 B.length x.2)∧True∧Has 0 w0 W' (bP (.slice x.1 B.length x.2) B::L):=fun {W L} h=>((yE hsm).ok h).mono fun e W' ⟨x,h1,h2⟩=>⟨x,by rw [hB];exact h1,trivial,by rw [hB];exact h2⟩
 rw [←hB] at hpos hd⊢;refine enter Tryz.func87 Tryz.ntmps87 rfl rfl fun a hs=>?_;refine sc hs ?_;refine sn hs hw fun b3 a W hs hw=>?_;have hw:Has 0 w0 W (cQ p q ⟨0,0⟩ zeroSnap (.slice none 0 0) 0::aB nameS q none::aA b3 (fG ⟨0,0,conf,data⟩) 36::R):=hw.pm;refine sv hs hw fun a hs=>?_;refine bG [1] [.f 0 0,.m 0,.f 1 1,.f 1 1,.f 1 1,.f 1 1,.f 1 1,.f 1 1,.f 1 1,.f 1 1,.f 1 1,.f 1 1,.f 1 1,.f 1 1] [.c0 _,.c1 (fun x=> .slice x.ad B.length x.cap),.c1 (fun x=> .bool false),.c1 _,.c1 _,.c1 _,.c1 _,.c1 _,.c1 _,.c1 _,.c1 _,.c1 _,.c1 _,.c1 _] (cQ p q ⟨0,0⟩ zeroSnap (.slice none 0 0) 0::aB nameS q none::aA b3 (fG ⟨0,0,conf,data⟩) 36::R) (fun x=>bP (.slice x.ad B.length x.cap) B::cQ p q ⟨0,0⟩ zeroSnap (.slice none 0 0) 0::aB nameS q none::aA b3 (fG ⟨0,0,conf,data⟩) 36::R) (fun x y=>[]) (fun x y z=>[]) (fun x y z t=>[]) hs hw ?kk ⟨drs,?m0,?f2,drs,drs,drs,drs,drs,drs,drs,drs,drs,drs,drs,trivial⟩
 case m0=>
  intro x y z t LD a W hs hw;refine cle hs (hput hw) fun s a W _ hs hw=>?_;exact ⟨{ad:=s.1,cap:=s.2},hs,hw⟩
 case f2=>
  refine ⟨trivial,?_,trivial,trivial,trivial⟩;intro x y z t LD a W hs hw;have hne:x.ad.isNone=false:=by
   obtain ⟨b,o,cap,hv,_⟩:=jZ (hw.rd_own In.hd) hpos;injection hv with hv1 _ _;rw [hv1];rfl
  refine k7 hs (c:=fun a hs=>?_);rw [hne] at hs;exact ⟨hs,hw⟩
 case kk=>
 intro xx a W hs hw;replace hs:Slots a 84 [(0,ptr p),(3,ptr b3),(23,.bool false)]:=hs.ot;have hw:Has 0 w0 W (bV (.slice none 0 0) []::bP (.slice xx.ad B.length xx.cap) B::cQ p q ⟨0,0⟩ zeroSnap (.slice none 0 0) 0::aB nameS q none::aA b3 (fG ⟨0,0,conf,data⟩) 36::R):=hw.nilOwn 137 4;have hw:Has 0 w0 W (cQ p q ⟨0,0⟩ zeroSnap (.slice none 0 0) 0::bV (.slice none 0 0) []::aB nameS q none::aA b3 (fG ⟨0,0,conf,data⟩) 36::R):=hw.sl;refine sv hs hw fun a hs=>?_;refine cle hs (tQ (log:=[]) (by decide) (fun h=>h.rd_own In.hd) hw) fun s a W _ hs hw=>?_;refine sn hs hw fun b5 a W hs hw=>?_;refine sx hs hw fun a W hs hw=>?_;rw [show decide (IntKind.i64.wrap (IntKind.i64.wrap ((⟨0,0,conf,data⟩:eC).ix - zeroSnap.ix) - 1)<0)=true from rfl] at hs;refine sx hs hw fun a W hs hw=>?_;rw [show ((⟨0,0,conf,data⟩:eC).term == zeroSnap.term)=true from rfl] at hs;refine sx hs hw fun a W hs hw=>?_;have hw:Has 0 w0 W (cQ p q ⟨0,0⟩ zeroSnap (.slice none 0 0) 0::aB nameS q none::bV (.slice s.1 0 s.2) []::aA b5 (dH ⟨0,0⟩ ⟨0,0,conf,data⟩ (.slice s.1 0 s.2)) 158::aA b3 (fG ⟨0,0,conf,data⟩) 36::R):=hw.sl;refine cl hs (aHP (h2:=⟨0,0⟩) (s2:=⟨0,0,conf,data⟩) (log:=[]) (by decide) hsm (by decide) (fun e he=>by cases he) (d':=d') (by rw [←hB];exact hd) (fun h=>h.rd_own In.hd) hw) fun a W hs hw=>?_;refine sx hs hw fun a W hs hw=>?_;refine rt1 hs rfl rfl ⟨rfl,?_⟩;rw [←hB] at hw;have hw:Has 0 w0 W (cQ p q ⟨0,0⟩ ⟨0,0,conf,data⟩ (.slice s.1 0 s.2) (B ++ cW ⟨0,0⟩ ++ ([]:List cD).flatMap cM).length::aB nameS q d'::bV (.slice s.1 0 s.2) []::aA b5 (dH ⟨0,0⟩ ⟨0,0,conf,data⟩ (.slice s.1 0 s.2)) 158::aA b3 (fG ⟨0,0,conf,data⟩) 36::R):=hw;exact qW (k:=⟨⟨0,0⟩,⟨0,0,conf,data⟩,[],(B ++ cW ⟨0,0⟩ ++ ([]:List cD).flatMap cM).length⟩) (hw.sl) ⟨by show (0:Nat)≤200;omega,by show 0<(B ++ _ ++ _).length;rw [List.length_append,List.length_append];omega,Int.le_refl 0,by show (0:Int)≤1099511627776;omega⟩
end
section
variable {H H':Fh} {p pl:Nat} {pv pt mv:Value} {r:RaftD} {w0 W:World} {R L:List Res} {l:List bS} {v:Value}
theorem aC6 (kind:Int) (s:ByteArray) (hsz:s.size≤1000000) (hw:Has 0 w0 W (aF H p r::R)):
  Calls Tryz.prog 192 ⟨[ptr p,.int .i64 kind,.string s]⟩ W fun e W'=>e= .returned (.int .i64 (r.put kind s).2)∧Has 0 w0 W' (aF H p (r.put kind s).1::R):=by
 obtain ⟨pl,pv,pt,mv,hw⟩:=dG hw;obtain ⟨hl,_⟩:=iU (hw.swap2:Has 0 w0 W (aH pl r.l::aK p r pl pv pt mv::VoR pv r.v::ToR pt r.t::aD H mv r.out.msgs::R));have hla:=oO hl;have ⟨hl0,hl1,hl2,_,_⟩:=hl;have hi0:0≤w64 (r.l.last+1):=by rw [show w64 (r.l.last+1)=r.l.last+1 from IntWalk.i64_in _ (by omega)];omega
 obtain ⟨e,he⟩:∃e:cD,e=⟨w64 (r.l.last+1),r.h.term,kind,s⟩:=⟨_,rfl⟩
 have hput:r.put kind s=({r with l:=(r.l.put [e]).1}.changed (r.l.put [e]).2.1,w64 (r.l.last+1)):=by rw [he];rfl
 rw [hput];have hes:∀e'∈[e],0≤e'.ix∧e'.data.size≤1000000:=by
  intro e' h;obtain rfl:=List.mem_singleton.1 h;rw [he];exact ⟨hi0,hsz⟩
 refine enter Tryz.func192 Tryz.ntmps192 rfl rfl fun a hs=>?_;refine sx hs hw fun a W hs hw=>?_;refine bG [14,15,18] [.f 0 2,.f 0 1,.f 0 1,.f 0 1,.f 0 1,.f 0 0,.f 0 0,.f 0 0,.f 0 0,.f 0 0,.f 0 0,.f 0 0,.f 0 0,.f 0 0,.m 0,.m 1,.f 2 2,.f 2 2,.m 2] [.c0 _,.c0 _,.c0 _,.c0 _,.c0 _,.c0 _,.c0 _,.c0 _,.c0 _,.c0 _,.c0 _,.c0 _,.c0 _,.c0 _,.c1 (fun x=> .slice (some ⟨x.n,0,none⟩) 1 1),.c2 (fun x y=> .tuple ⟨[.int .i64 (r.l.put [e]).2.1,.bool (r.l.put [e]).2.2]⟩),.c2 _,.c2 _,.c3 (fun x y z=> .bool (r.l.put [e]).2.2)] (aK p r pl pv pt mv::aH pl (r.l)::VoR pv r.v::ToR pt r.t::aD H mv r.out.msgs::R) (fun x=>aA x.n (bD ⟨w64 (r.l.last+1),r.h.term,kind,s⟩) 137::aK p r pl pv pt mv::aH pl (r.l)::VoR pv r.v::ToR pt r.t::aD H mv r.out.msgs::R) (fun x y=>aA x.n (bD e) 137::aK p r pl pv pt mv::aH pl ((r.l.put [e]).1)::VoR pv r.v::ToR pt r.t::aD H mv r.out.msgs::R) (fun x y z=>aA x.n (bD e) 137::aF H p ({r with l:=(r.l.put [e]).1}.changed (r.l.put [e]).2.1)::R) (fun x y z t=>[]) hs hw ?kk ⟨drs,drs,drs,drs,drs,drs,drs,drs,drs,drs,drs,drs,drs,drs,drn,?m1,drs,drs,?m2,trivial⟩
 case m1=>
  intro x y z t LD a W hs hw;rw [←he] at hw;have hw:Has 0 w0 W (aH pl r.l::aA x.n (bD e) 137::aK p r pl pv pt mv::VoR pv r.v::ToR pt r.t::aD H mv r.out.msgs::R):=hw.pm;refine cl hs (qU [e] (.slice (some ⟨x.n,0,none⟩) 1 1) (by simp) hes (fun h=>h.rd_lit (cs:=bD e) (n:=1) (size:=4) In.hd (by rfl) (by omega)) hw) fun a W hs hw=>?_;exact ⟨{},hs,hw.pm⟩
 case m2=>
  intro x y z t LD a W hs hw;have hw:Has 0 w0 W (aF H p {r with l:=(r.l.put [e]).1}::aA x.n (bD e) 137::R):=cG (r:={r with l:=(r.l.put [e]).1}) (hw.pm);refine cl hs (rB _ _ hw) fun a W hs hw=>?_;exact ⟨{},hs,hw.swap2⟩
 case kk=>
  intro x y z a W hs hw;refine sv hs hw fun a hs=>?_;exact rt1 hs rfl rfl ⟨rfl,hw.d1⟩
end
section
variable {H H':Fh} {p pl:Nat} {pv pt mv:Value} {r:RaftD} {w0 W:World} {R L:List Res} {l:List bS} {v:Value}
theorem fX:fW H (.slice none 0 0) []:=RdH.nil H 4 0 (by omega)
abbrev jJ:List Value:=aI cR (.slice none 0 0)
theorem tZ (to_:Int) (hl:r.out.msgs.length≤1000) (hw:Has 0 w0 W (aF H p r::Fz H::R)):
  Calls Tryz.prog 206 ⟨[ptr p,.int .i64 to_]⟩ W fun e W'=>e= .returned (.tuple ⟨[]⟩)∧∃H',H.le H'∧Has 0 w0 W' (aF H' p (r.send to_)::Fz H'::R):=by
 obtain ⟨pl,pv,pt,mv,hw⟩:=dG hw;obtain ⟨hlw,_⟩:=iU (hw.swap2:Has 0 w0 W (aH pl r.l::aK p r pl pv pt mv::VoR pv r.v::ToR pt r.t::aD H mv r.out.msgs::Fz H::R));refine enter Tryz.func206 Tryz.ntmps206 rfl rfl fun a hs=>?_;refine sv hs hw fun a hs=>?_;have hw:Has 0 w0 W (ToR pt r.t::aK p r pl pv pt mv::aH pl r.l::VoR pv r.v::aD H mv r.out.msgs::Fz H::R):=hw.pm;refine cl hs (yU hw) fun a W hs hw=>?_;have hw:Has 0 w0 W (aK p r pl pv pt mv::aH pl r.l::VoR pv r.v::ToR pt (r.t)::aD H mv r.out.msgs::Fz H::R):=hw.pm;refine sx hs hw fun a W hs hw=>?_;cases c1:decide (bM r.t to_<r.l.first) with
 |true=>
  rw [c1] at hs;have he:r.send to_=r.say {cR with kind:=5,to_:=to_,snap:=r.l.s}:=by unfold RaftD.send;rw [if_pos (of_decide_eq_true c1)]
  rw [he];refine sx hs hw fun a W hs hw=>?_;have hw:Has 0 w0 W (aF H p r::Fz H::R):=cG hw;refine cl hs (fS {cR with kind:=5,to_:=to_,snap:=r.l.s} (.slice none 0 0) fX hlw.2.2.2.1 hl hw) fun a W hs hw=>?_;refine sc hs ?_;exact rt0 hs rfl ⟨rfl,H,Fh.le.refl H,hw⟩
 |false=>
 rw [c1] at hs;refine sx hs hw fun a W hs hw=>?_;refine fM (G:=0) (w:=w0) (σ:=Un) (V:=fun u=>[.int .i64 to_,.int .i64 (bM r.t to_),.int .i64 (w64 (bM r.t to_ - 1)),.int .i64 (r.l.term (w64 (bM r.t to_ - 1))).1,ptr p,ptr p,.pointer (some ⟨p,0+3,none⟩),ptr pl,.int .i64 (bM r.t to_),.slice (u 9).ad (r.l.get (bM r.t to_) 8).length (u 9).cap,ptr p,ptr p,.pointer (some ⟨p,0+4,none⟩),.int .i64 r.commit,.agg ⟨aI ⟨3,0,to_,0,w64 (bM r.t to_ - 1),(r.l.term (w64 (bM r.t to_ - 1))).1,r.commit,false,r.l.get (bM r.t to_) 8,zeroSnap⟩ (.slice (u 14).ad (r.l.get (bM r.t to_) 8).length (u 14).cap)⟩,ptr (u 15).n,.bool true])
  (Rs:=fun u D=>(if D 15 then aA (u 15).n (if D 16 then aI ⟨3,0,to_,0,w64 (bM r.t to_ - 1),(r.l.term (w64 (bM r.t to_ - 1))).1,r.commit,false,r.l.get (bM r.t to_) 8,zeroSnap⟩ (.slice (u 9).ad (r.l.get (bM r.t to_) 8).length (u 9).cap) else jJ) 38 else bI)::(if D 9 then bV (.slice (u 9).ad (r.l.get (bM r.t to_) 8).length (u 9).cap) (r.l.get (bM r.t to_) 8) else bI)::bO (D 14=true→u 14=u 9)::aK p r pl pv pt mv::aH pl r.l::VoR pv r.v::ToR pt (r.t)::aD H mv r.out.msgs::Fz H::R) (fun _=>{}) hs ?h0 (hVu:=?vu) (ho:=⟨?c0,?c1,?c2,?c3,?c4,?c5,?c6,?c7,?c8,?c9,?c10,?c11,?c12,?c13,?c14,?c15,?c16,trivial⟩) (k:=?kk)
 case h0=>exact ((hw.fact (show false=true→({}:Un)= {} from fun _=>rfl)).free).free
 case vu=>
  intro u u' j h;rcases j with _|_|_|_|_|_|_|_|_|_|_|_|_|_|_|_|_|j
  all_goals first|rfl|simp [h]
 case c9=>
  intro u LD D a W hcl hi hp hs hw;have h14:=Go.Sx.not_done hcl hi 14 (by kernel_rfl);have h16:=Go.Sx.not_done hcl hi 16 (by kernel_rfl);simp only [hi,h16,Bool.false_eq_true,if_false] at hw;refine sg hs hw (fun x a W hs hw=>?_) (g:=nL);refine Or.inr ⟨{ad:=x.1,cap:=x.2},hs,?_⟩;show Has 0 w0 _ ((if D 15=true then aA (u 15).n (if D 16=true then _ else jJ) 38 else bI)::bV (.slice x.1 (r.l.get (bM r.t to_) 8).length x.2) (r.l.get (bM r.t to_) 8)::bO (D 14=true→u 14= {ad:=x.1,cap:=x.2})::aK p r pl pv pt mv::aH pl r.l::VoR pv r.v::ToR pt (r.t)::aD H mv r.out.msgs::Fz H::R);rw [h16,h14];have hw:=hw.fact (show false=true→u 14= {ad:=x.1,cap:=x.2} from fun h=>by cases h);exact hw.sl
 case c0=>exact dru
 case c1=>exact dru
 case c2=>exact dru
 case c3=>exact dru
 case c4=>exact dru
 case c5=>exact dru
 case c6=>exact dru
 case c7=>exact dru
 case c8=>exact dru
 case c10=>exact dru
 case c11=>exact dru
 case c12=>exact dru
 case c13=>exact dru
 case c14=>
  intro u LD D a W hcl hi hp hs hw;have h9:=Go.Sx.done hp 9 (by kernel_rfl);refine sv hs hw fun a hs=>?_;refine Or.inr ⟨u 9,hs,?_⟩;show Has 0 w0 _ ((if D 15=true then aA (u 15).n (if D 16=true then aI ⟨3,0,to_,0,w64 (bM r.t to_ - 1),(r.l.term (w64 (bM r.t to_ - 1))).1,r.commit,false,r.l.get (bM r.t to_) 8,zeroSnap⟩ (.slice (u 9).ad (r.l.get (bM r.t to_) 8).length (u 9).cap) else jJ) 38 else bI)::(if D 9=true then bV (.slice (u 9).ad (r.l.get (bM r.t to_) 8).length (u 9).cap) (r.l.get (bM r.t to_) 8) else bI)::bO (true=true→u 9=u 9)::aK p r pl pv pt mv::aH pl r.l::VoR pv r.v::ToR pt (r.t)::aD H mv r.out.msgs::Fz H::R);have hw:=hw.fact (show true=true→u 9=u 9 from fun _=>rfl);exact hw.sl
 case c15=>
  intro u LD D a W hcl hi hp hs hw;have h16:=Go.Sx.not_done hcl hi 16 (by kernel_rfl);simp only [hi,Bool.false_eq_true,if_false] at hw;refine sn hs hw fun b a W hs hw=>?_;refine Or.inr ⟨{n:=b},hs,?_⟩;show Has 0 w0 _ (aA b (if (Nat.beq 16 15 || D 16)=true then _ else _) _::_);rw [h16];exact hw.fill Upd.hd
 case c16=>
  intro u LD D a W hcl hi hp hs hw;have h15:=Go.Sx.done hp 15 (by kernel_rfl);have h14:=Go.Sx.done hp 14 (by kernel_rfl);simp only [h15,hi,Bool.false_eq_true,if_false,if_true] at hw;have h9:=hw.told (In.tl (In.tl In.hd)) h14;refine dY hs (hw:=hw) (vs:=aI ⟨3,0,to_,0,w64 (bM r.t to_ - 1),(r.l.term (w64 (bM r.t to_ - 1))).1,r.commit,false,r.l.get (bM r.t to_) 8,zeroSnap⟩ (.slice (u 14).ad (r.l.get (bM r.t to_) 8).length (u 14).cap)) (k:=fun W hs hw=>?_);refine Or.inl ⟨hs,?_⟩;have e:(aI ⟨3,0,to_,0,w64 (bM r.t to_ - 1),(r.l.term (w64 (bM r.t to_ - 1))).1,r.commit,false,r.l.get (bM r.t to_) 8,zeroSnap⟩ (.slice (u 14).ad (r.l.get (bM r.t to_) 8).length (u 14).cap))=aI ⟨3,0,to_,0,w64 (bM r.t to_ - 1),(r.l.term (w64 (bM r.t to_ - 1))).1,r.commit,false,r.l.get (bM r.t to_) 8,zeroSnap⟩ (.slice (u 9).ad (r.l.get (bM r.t to_) 8).length (u 9).cap):=by rw [h9]
  have hw:Has 0 w0 W (aA (u 15).n (aI ⟨3,0,to_,0,w64 (bM r.t to_ - 1),(r.l.term (w64 (bM r.t to_ - 1))).1,r.commit,false,r.l.get (bM r.t to_) 8,zeroSnap⟩ (.slice (u 14).ad (r.l.get (bM r.t to_) 8).length (u 14).cap)) 38::(if D 9=true then bV (.slice (u 9).ad (r.l.get (bM r.t to_) 8).length (u 9).cap) (r.l.get (bM r.t to_) 8) else bI)::bO (D 14=true→u 14=u 9)::aK p r pl pv pt mv::aH pl r.l::VoR pv r.v::ToR pt (r.t)::aD H mv r.out.msgs::Fz H::R):=hw;rw [e] at hw;show Has 0 w0 _ ((if D 15=true then _ else _)::_);rw [h15];exact hw
 case kk=>
 intro u a W hs hw;have hw:Has 0 w0 W (aA (u 15).n (aI ⟨3,0,to_,0,w64 (bM r.t to_ - 1),(r.l.term (w64 (bM r.t to_ - 1))).1,r.commit,false,r.l.get (bM r.t to_) 8,zeroSnap⟩ (.slice (u 9).ad (r.l.get (bM r.t to_) 8).length (u 9).cap)) 38::bV (.slice (u 9).ad (r.l.get (bM r.t to_) 8).length (u 9).cap) (r.l.get (bM r.t to_) 8)::bO (true=true→u 14=u 9)::aK p r pl pv pt mv::aH pl r.l::VoR pv r.v::ToR pt (r.t)::aD H mv r.out.msgs::Fz H::R):=hw;replace hs:Slots a 70 [(0,ptr p),(1,.int .i64 to_),(4,.int .i64 (bM r.t to_)),(7,ptr (u 15).n)]:=hs.ot;obtain ⟨b,hb⟩:∃b,b=(u 15).n:=⟨_,rfl⟩
 obtain ⟨xx,hx⟩:∃xx:Un,xx=u 9:=⟨_,rfl⟩
 rw [←hb] at hs hw;rw [←hx] at hw;have hw:Has 0 w0 W (bV (.slice xx.ad (r.l.get (bM r.t to_) 8).length xx.cap) (r.l.get (bM r.t to_) 8)::Fz H::aD H mv r.out.msgs::aA b (aI ⟨3,0,to_,0,w64 (bM r.t to_ - 1),(r.l.term (w64 (bM r.t to_ - 1))).1,r.commit,false,r.l.get (bM r.t to_) 8,zeroSnap⟩ (.slice (xx).ad (r.l.get (bM r.t to_) 8).length (xx).cap)) 38::aK p r pl pv pt mv::aH pl r.l::VoR pv r.v::ToR pt r.t::R):=hw.sl;obtain ⟨H',hle,hw,hes⟩:=hw.freeze_own;have hw:=yP hw.swap2 hle;have he:r.send to_= {r with t:=nC r.t to_ (w64 (w64 (bM r.t to_ - 1)+((r.l.get (bM r.t to_) 8).length:Int)))}.say ⟨3,0,to_,0,w64 (bM r.t to_ - 1),(r.l.term (w64 (bM r.t to_ - 1))).1,r.commit,false,r.l.get (bM r.t to_) 8,zeroSnap⟩:=by unfold RaftD.send;rw [if_neg (of_decide_eq_false c1)];rfl
 rw [he];generalize r.l.get (bM r.t to_) 8=es at *;have hw:Has 0 w0 W (aA b (aI ⟨3,0,to_,0,w64 (bM r.t to_ - 1),(r.l.term (w64 (bM r.t to_ - 1))).1,r.commit,false,es,zeroSnap⟩ (.slice xx.ad es.length xx.cap)) 38::aK p r pl pv pt mv::aH pl r.l::VoR pv r.v::ToR pt (r.t)::aD H' mv r.out.msgs::Fz H'::R):=hw.pm;refine sc hs ?_;refine bG [11] [.f 0 0,.f 0 0,.f 0 0,.f 0 0,.f 0 0,.f 0 0,.f 0 0,.f 0 0,.f 0 0,.f 0 0,.f 0 0,.m 0] [.c0 _,.c0 _,.c0 _,.c0 _,.c0 _,.c0 _,.c0 _,.c0 _,.c0 _,.c0 _,.c0 _,.c1 (fun x=> .tuple ⟨[]⟩)] (aA b (aI ⟨3,0,to_,0,w64 (bM r.t to_ - 1),(r.l.term (w64 (bM r.t to_ - 1))).1,r.commit,false,es,zeroSnap⟩ (.slice xx.ad es.length xx.cap)) 38::aK p r pl pv pt mv::aH pl r.l::VoR pv r.v::ToR pt (r.t)::aD H' mv r.out.msgs::Fz H'::R) (fun x=>aA b (aI ⟨3,0,to_,0,w64 (bM r.t to_ - 1),(r.l.term (w64 (bM r.t to_ - 1))).1,r.commit,false,es,zeroSnap⟩ (.slice xx.ad es.length xx.cap)) 38::aK p r pl pv pt mv::aH pl r.l::VoR pv r.v::ToR pt (nC r.t to_ (w64 (w64 (bM r.t to_ - 1)+(es.length:Int))))::aD H' mv r.out.msgs::Fz H'::R) (fun x y=>[]) (fun x y z=>[]) (fun x y z t=>[]) hs hw ?kk ⟨drs,drs,drs,drs,drs,drs,drs,drs,drs,drs,drs,?m0,trivial⟩
 case m0=>
  intro x1 y z t LD a W hs hw;have hw:Has 0 w0 W (ToR pt r.t::aA b (aI ⟨3,0,to_,0,w64 (bM r.t to_ - 1),(r.l.term (w64 (bM r.t to_ - 1))).1,r.commit,false,es,zeroSnap⟩ (.slice xx.ad es.length xx.cap)) 38::aK p r pl pv pt mv::aH pl r.l::VoR pv r.v::aD H' mv r.out.msgs::Fz H'::R):=hw.pm;refine cl hs (aHp hw) fun a W hs hw=>?_;exact ⟨{},hs,hw.pm⟩
 case kk=>
  intro _ a W hs hw;refine sv hs hw fun a hs=>?_;have hw:Has 0 w0 W (aF H' p {r with t:=nC r.t to_ (w64 (w64 (bM r.t to_ - 1)+(es.length:Int)))}::Fz H'::R):=cG (r:={r with t:=nC r.t to_ (w64 (w64 (bM r.t to_ - 1)+(es.length:Int)))}) (hw.d1);refine cl hs (fS (r:={r with t:=nC r.t to_ (w64 (w64 (bM r.t to_ - 1)+(es.length:Int)))}) ⟨3,0,to_,0,w64 (bM r.t to_ - 1),(r.l.term (w64 (bM r.t to_ - 1))).1,r.commit,false,es,zeroSnap⟩ (.slice xx.ad es.length xx.cap) hes (by show (0:Nat)≤1000000;omega) hl hw) fun a W hs hw=>?_;refine sc hs ?_;exact cP hs rfl ⟨rfl,H',hle,hw⟩
end
section
variable {H H':Fh} {p pl:Nat} {pv pt mv:Value} {r:RaftD} {w0 W:World} {R L:List Res} {l:List bS} {v:Value}
theorem rF (r:RaftD) (i:Int):(r.changed i).out.msgs=r.out.msgs:=by unfold RaftD.changed;split <;> rfl
theorem aIA (r:RaftD) (x:Int):(r.send x).out.msgs.length=r.out.msgs.length+1:=by
 unfold RaftD.send;split <;> simp [RaftD.say]
theorem aC7 (r:RaftD):r.others.length≤7:=Nat.le_trans (List.length_filter_le _ _) (oQ r.l r.l.last)
theorem aIB (l:List Int):∀r:RaftD,(l.foldl RaftD.send r).out.msgs.length=r.out.msgs.length+l.length:=by
 induction l with
 |nil=>intro r;rfl
 |cons x l ih=>intro r;rw [List.foldl_cons,ih,aIA];simp;omega
theorem aC8 {α β:Type} {f:β→α→β} {l:List α} {i:Nat} {o:α} {b:β} (h:l[i]? =some o):(l.take (i+1)).foldl f b=f ((l.take i).foldl f b) o:=by
 rw [gB h,List.foldl_append];rfl
theorem uA (hl:r.out.msgs.length≤900) (hw:Has 0 w0 W (aF H p r::Fz H::R)):
  Calls Tryz.prog 130 ⟨[ptr p]⟩ W fun e W'=>e= .returned (.tuple ⟨[]⟩)∧∃H',H.le H'∧Has 0 w0 W' (aF H' p r.all::Fz H'::R):=by
 have he:r.all=match r.role == 2 with|false=>r|true=>r.others.foldl RaftD.send r:=rfl
 rw [he];have hw0:=hw;obtain ⟨pl,pv,pt,mv,hw⟩:=dG hw;have h7:=aC7 r;refine enter Tryz.func130 Tryz.ntmps130 rfl rfl fun a hs=>?_;refine sv hs hw fun a hs=>?_;rw [show (r.role !=2)=!(r.role == 2) from rfl] at hs;replace hw:=hw0;cases c1:r.role == 2 with
 |false=>
  rw [c1] at hs;refine sc hs ?_;exact rt0 hs rfl ⟨rfl,H,Fh.le.refl H,hw⟩
 |true=>
  rw [c1] at hs;refine sv hs hw fun a hs=>?_;refine cle hs (aC3 hw) fun s a W _ hs hw=>?_;refine sv hs hw fun a hs=>?_;have hw:Has 0 w0 W (aF H p r::Fz H::aN (.slice s.1 r.others.length s.2) r.others::R):=hw.pm;have hlen:∀i,((r.others.take i).foldl RaftD.send r).out.msgs.length≤1000:=fun i=>by rw [aIB,List.length_take];omega
  generalize r.others=c at *;refine bY (σ:=Nat×Fh) (fun q=>[(0,ptr p),(10,.slice s.1 c.length s.2),(11,.int .i64 (c.length:Int)),(12,.int .i64 (q.1:Int))]) (fun q=>aF q.2 p ((c.take q.1).foldl RaftD.send r)::Fz q.2::aN (.slice s.1 c.length s.2) c::R) (fun q=>q.1≤c.length∧H.le q.2) (fun q=>c.length - q.1) (0,H) ⟨Nat.zero_le _,Fh.le.refl H⟩ hs ⟨rfl,rfl,rfl,rfl,trivial⟩ hw ?_;clear hs hw;rintro ⟨i,H2⟩ a W ⟨hi,hle⟩ hs hw;simp only at hi hle hs hw;refine sv hs hw fun a hs=>?_;refine cI hs (kt:=fun hc=>?_) (kf:=fun hc=>?_)
  ·have hi':i<c.length:=by simpa using hc
   obtain ⟨o,ho,hd⟩:=dR hi';refine sc hs ?_;refine hQ hs (hw.rd_own (In.tl (In.tl In.hd))) ho rfl fun a b f hs=>?_;refine sv hs hw fun a hs=>?_;refine aG hs (hc:=tZ o (hlen i) hw) (k:=?_);rintro e' W' ⟨rfl,H3,hle3,hw⟩;refine ⟨_,rfl,fun a hs=>?_⟩;refine sv hs hw fun a hs=>?_;rw [←aC8 (f:=RaftD.send) (b:=r) ho] at hw;exact bQ (i+1,H3) hs hw ⟨hi',hle.trans hle3⟩ (by show c.length - (i+1)<c.length - i;omega) ⟨rfl,rfl,rfl,bR (i1 (by omega)),trivial⟩
  ·have:c.take i=c:=List.take_of_length_le (by simp at hc;omega);rw [this] at hw;refine sc hs ?_;exact cP hs rfl ⟨rfl,H2,hle,hw.sl⟩
theorem uB (hw:Has 0 w0 W (aF H p r::R)):
  Calls Tryz.prog 193 ⟨[ptr p]⟩ W fun e W'=>e= .returned (.tuple ⟨[]⟩)∧Has 0 w0 W' (aF H p r.move::R):=by
 obtain ⟨pl,pv,pt,mv,hw⟩:=dG hw;have h7:=oQ r.l r.l.last;refine enter Tryz.func193 Tryz.ntmps193 rfl rfl fun a hs=>?_;refine sv hs hw fun a hs=>?_;refine aG hs (hc:=(qR (l:=r.l)).ok hw.rebase) (k:=?_);rintro e' W' ⟨xx,rfl,hw'⟩;refine ⟨_,rfl,fun a hs=>?_⟩;have hw:=hw.trans hw'
 have hm:r.move=(if lH r.t r.l.conf.1 r.id r.l.last≤r.commit∨r.l.fits (lH r.t r.l.conf.1 r.id r.l.last) r.h.term=false then r
  else match !has r.l.conf.1 r.id && decide (r.l.conf.2≤lH r.t r.l.conf.1 r.id r.l.last) with
   |true=>{r with commit:=lH r.t r.l.conf.1 r.id r.l.last,role:=0,leader:=0}
   |false=>{r with commit:=lH r.t r.l.conf.1 r.id r.l.last}):=rfl
 rw [hm];rw [show r.l.conf=r.l.confAt r.l.last from rfl] at hs hw⊢;generalize (r.l.confAt r.l.last).1=c at *;generalize (r.l.confAt r.l.last).2=ci at *;replace hw:Has 0 w0 W' (aN (.slice xx.1 c.length xx.2) c::aK p r pl pv pt mv::aH pl r.l::VoR pv r.v::ToR pt r.t::aD H mv r.out.msgs::R):=hw;refine sv hs hw fun a hs=>?_;refine bG [13,14] [.f 0 1,.f 0 1,.f 0 1,.f 0 1,.f 0 1,.f 0 1,.f 0 1,.f 0 1,.f 0 1,.f 0 0,.f 0 0,.f 0 0,.f 0 0,.m 0,.m 1,.f 2 2] [.c0 _,.c0 _,.c0 _,.c0 _,.c0 _,.c0 _,.c0 _,.c0 _,.c0 _,.c0 _,.c0 _,.c0 _,.c0 _,.c1 (fun x=> .int .i64 r.l.last),.c2 (fun x y=> .int .i64 (lH r.t c r.id r.l.last)),.c2 _] (aN (.slice xx.1 c.length xx.2) c::aK p r pl pv pt mv::aH pl r.l::VoR pv r.v::ToR pt r.t::aD H mv r.out.msgs::R) (fun x=>aN (.slice xx.1 c.length xx.2) c::aK p r pl pv pt mv::aH pl r.l::VoR pv r.v::ToR pt r.t::aD H mv r.out.msgs::R) (fun x y=>aN (.slice xx.1 c.length xx.2) c::aK p r pl pv pt mv::aH pl r.l::VoR pv r.v::ToR pt r.t::aD H mv r.out.msgs::R) (fun x y z=>[]) (fun x y z t=>[]) hs hw ?kk ⟨drs,drs,drs,drs,drs,drs,drs,drs,drs,drs,drs,drs,drs,drm,?m1,drs,trivial⟩
 case m1=>
  intro x y z t LD a W hs hw;have hw:Has 0 w0 W (ToR pt r.t::aN (.slice xx.1 c.length xx.2) c::aK p r pl pv pt mv::aH pl r.l::VoR pv r.v::aD H mv r.out.msgs::R):=hw.pm;refine cl hs (aHs hw) fun a W hs hw=>?_;exact ⟨{},hs,hw.pm⟩
 case kk=>
 intro _ _ a W hs hw;generalize lH r.t c r.id r.l.last=N at *;replace hs:Slots a 70 [(0,ptr p),(2,.slice xx.1 c.length xx.2),(3,.int .i64 ci),(4,.int .i64 N)]:=hs.ot;refine sc hs ?_;have fin:∀{W r'},Has 0 w0 W (aN (.slice xx.1 c.length xx.2) c::aK p r' pl pv pt mv::aH pl r'.l::VoR pv r'.v::ToR pt r'.t::aD H mv r'.out.msgs::R)→Has 0 w0 W (aF H p r'::R):=fun h=>cG (h.d1);cases c1:decide (N≤r.commit) with
 |true=>
  refine bG [17] [.f 0 0,.f 0 0,.f 0 0,.f 0 0,.f 0 0,.f 0 0,.f 0 0,.f 0 0,.f 0 0,.f 0 0,.f 0 0,.f 0 0,.f 0 0,.f 0 0,.f 0 0,.f 0 0,.f 0 0,.m 0,.f 1 1,.f 1 1] [.c0 _,.c0 _,.c0 _,.c0 _,.c0 _,.c0 (.bool true),.c0 _,.c0 _,.c0 _,.c0 _,.c0 _,.c0 _,.c0 _,.c0 _,.c0 _,.c0 _,.c0 _,.c1 (fun x=>undef),.c1 _,.c1 _] (aN (.slice xx.1 c.length xx.2) c::aK p r pl pv pt mv::aH pl r.l::VoR pv r.v::ToR pt r.t::aD H mv r.out.msgs::R) (fun x=>aN (.slice xx.1 c.length xx.2) c::aK p r pl pv pt mv::aH pl r.l::VoR pv r.v::ToR pt r.t::aD H mv r.out.msgs::R) (fun x y=>[]) (fun x y z=>[]) (fun x y z t=>[]) hs hw ?kk ⟨drs,drs,drs,drs,drs,?f5,drs,drs,drs,drs,drs,drs,drs,drs,drs,drs,drs,drm,drs,drs,trivial⟩
  case f5=>
   refine ⟨?_,trivial,trivial,trivial,trivial⟩;intro x y z t LD a W hs hw;refine sv hs hw fun a hs=>?_;rw [c1] at hs;exact ⟨hs,hw⟩
  case kk=>
   intro _ a W hs hw;rw [if_pos (.inl (of_decide_eq_true c1))];refine sc hs ?_;exact rt0 hs rfl ⟨rfl,fin hw⟩
 |false=>
  refine bG [17] [.f 0 0,.f 0 0,.f 0 0,.f 0 0,.f 0 0,.f 0 0,.f 0 0,.f 0 0,.f 0 0,.f 0 0,.f 0 0,.f 0 0,.f 0 0,.f 0 0,.f 0 0,.f 0 0,.f 0 0,.m 0,.f 1 1,.f 1 1] [.c0 _,.c0 _,.c0 _,.c0 _,.c0 _,.c0 (.bool false),.c0 _,.c0 _,.c0 _,.c0 _,.c0 _,.c0 _,.c0 _,.c0 _,.c0 _,.c0 _,.c0 _,.c1 (fun x=> .bool (r.l.fits N r.h.term)),.c1 _,.c1 _] (aN (.slice xx.1 c.length xx.2) c::aK p r pl pv pt mv::aH pl r.l::VoR pv r.v::ToR pt r.t::aD H mv r.out.msgs::R) (fun x=>aN (.slice xx.1 c.length xx.2) c::aK p r pl pv pt mv::aH pl r.l::VoR pv r.v::ToR pt r.t::aD H mv r.out.msgs::R) (fun x y=>[]) (fun x y z=>[]) (fun x y z t=>[]) hs hw ?kk ⟨drs,drs,drs,drs,drs,?f5,drs,drs,drs,drs,drs,drs,drs,drs,drs,drs,drs,drm,drs,drs,trivial⟩
  case f5=>
   refine ⟨?_,trivial,trivial,trivial,trivial⟩;intro x y z t LD a W hs hw;refine sv hs hw fun a hs=>?_;rw [c1] at hs;exact ⟨hs,hw⟩
  case kk=>
  intro _ a W hs hw;replace hs:Slots a 70 [(0,ptr p),(2,.slice xx.1 c.length xx.2),(3,.int .i64 ci),(4,.int .i64 N),(47,.bool (!r.l.fits N r.h.term))]:=hs.ot;cases c2:r.l.fits N r.h.term with
  |false=>
   rw [c2] at hs;rw [if_pos (.inr rfl)];refine sc hs ?_;exact rt0 hs rfl ⟨rfl,fin hw⟩
  |true=>
   rw [c2] at hs;rw [if_neg (by have:=of_decide_eq_false c1;simp;omega)];refine sx hs hw fun a W hs hw=>?_;cases c3:has c r.id with
   |true=>
    rw [c3] at hs;refine sv hs hw fun a hs=>?_;exact cP hs rfl ⟨rfl,fin (r':={r with commit:=N}) hw⟩
   |false=>
    rw [c3] at hs;refine sv hs hw fun a hs=>?_;cases c4:decide (ci≤N) with
    |false=>
     rw [c4] at hs;refine sc hs ?_;exact cP hs rfl ⟨rfl,fin (r':={r with commit:=N}) hw⟩
    |true=>
     rw [c4] at hs;refine sx hs hw fun a W hs hw=>?_;exact cP hs rfl ⟨rfl,fin (r':={r with commit:=N,role:=0,leader:=0}) hw⟩
theorem aIC (m:bS) (v:Value) (hv:∃ad cap,v= .slice ad m.es.length cap) (hw:Has 0 w0 W (aF H p r::R)):
  Calls Tryz.prog 214 ⟨[ptr p,.agg ⟨aI m v⟩]⟩ W fun e W'=>e= .returned (.bool (!(r.role == 2)))∧Has 0 w0 W' (aF H p (match r.role == 2 with|true=>r|false=>{r with role:=0,leader:=m.from_,heard:=true})::R):=by
 obtain ⟨vad,vcap,rfl⟩:=hv;obtain ⟨pl,pv,pt,mv,hw⟩:=dG hw;refine enter Tryz.func214 Tryz.ntmps214 rfl rfl fun a hs=>?_;refine sc hs ?_;refine sn hs hw fun b a W hs hw=>?_;refine sv hs hw fun a hs=>?_;cases c1:r.role == 2 with
 |true=>
  rw [c1] at hs;refine sv hs hw fun a hs=>?_;exact rt1 hs rfl rfl ⟨rfl,cG (hw.d1)⟩
 |false=>
  rw [c1] at hs;refine sc hs ?_;replace hw:Has 0 w0 W (aA b (aI m (.slice vad m.es.length vcap)) 38::gZ p r.id r.h.term r.h.vote pl r.commit (r.role) (r.leader) (r.heard) pv pt mv r.out.hard r.out.from_ r.out.snap::aH pl r.l::VoR pv r.v::ToR pt r.t::aD H mv r.out.msgs::R):=hw;refine bG [7,10,13] [.f 0 0,.f 0 1,.f 0 2,.f 0 1,.f 0 1,.f 0 0,.f 0 0,.m 0,.f 1 1,.f 1 1,.m 1,.f 2 2,.f 2 2,.m 2] [.c0 _,.c0 _,.c0 _,.c0 _,.c0 _,.c0 _,.c0 _,.c1 (fun x=>undef),.c1 _,.c1 _,.c2 (fun x y=>undef),.c2 _,.c2 _,.c3 (fun x y z=>undef)] (aA b (aI m (.slice vad m.es.length vcap)) 38::gZ p r.id r.h.term r.h.vote pl r.commit (r.role) (r.leader) (r.heard) pv pt mv r.out.hard r.out.from_ r.out.snap::aH pl r.l::VoR pv r.v::ToR pt r.t::aD H mv r.out.msgs::R) (fun x=>aA b (aI m (.slice vad m.es.length vcap)) 38::gZ p r.id r.h.term r.h.vote pl r.commit (0) (r.leader) (r.heard) pv pt mv r.out.hard r.out.from_ r.out.snap::aH pl r.l::VoR pv r.v::ToR pt r.t::aD H mv r.out.msgs::R) (fun x y=>aA b (aI m (.slice vad m.es.length vcap)) 38::gZ p r.id r.h.term r.h.vote pl r.commit (0) (m.from_) (r.heard) pv pt mv r.out.hard r.out.from_ r.out.snap::aH pl r.l::VoR pv r.v::ToR pt r.t::aD H mv r.out.msgs::R) (fun x y z=>aA b (aI m (.slice vad m.es.length vcap)) 38::gZ p r.id r.h.term r.h.vote pl r.commit (0) (m.from_) (true) pv pt mv r.out.hard r.out.from_ r.out.snap::aH pl r.l::VoR pv r.v::ToR pt r.t::aD H mv r.out.msgs::R) (fun x y z t=>[]) hs hw ?kk ⟨drs,drs,drs,drs,drs,drs,drs,drm,drs,drs,drm,drs,drs,drm,trivial⟩
  case kk=>
   intro _ _ _ a W hs hw;refine sv hs hw fun a hs=>?_;exact rt1 hs rfl rfl ⟨rfl,cG (r:={r with role:=0,leader:=m.from_,heard:=true}) (hw.d1)⟩
end
end Go.Proofs.YtgpbngfehfbndaaGreatDoor.Sw
