/-
  Texts of the proof, one behind the other (part 29).
-/
import Derived.Test.YtgpbngfehfbndaaGreatDoorM27
import Derived.Test.YtgpbngfehfbndaaGreatDoorChecked
import Derived.Test.YtgpbngfehfbndaaGreatDoorProg
set_option maxHeartbeats 16000000
set_option linter.unusedVariables false
set_option maxRecDepth 10000
namespace Go.Proofs.YtgpbngfehfbndaaGreatDoor.Sw
open Go.RowKit Go.Sx
section
variable {H H':Fh} {p pl:Nat} {pv pt mv:Value} {r:RaftD} {w0 W:World} {R L:List Res} {l:List bS} {v:Value}
theorem aID (m:bS) (v:Value) (hv:∃ad cap,v= .slice ad m.es.length cap) (hl:r.out.msgs.length≤1000) (hw:Has 0 w0 W (aF H p r::R)):
  Calls Tryz.prog 141 ⟨[ptr p,.agg ⟨aI m v⟩]⟩ W fun e W'=>e= .returned (.tuple ⟨[]⟩)∧Has 0 w0 W' (aF H p (r.asked m)::R):=by
 obtain ⟨vad,vcap,rfl⟩:=hv;have he2:r.asked m=match (r.h.vote == 0 || r.h.vote == m.from_) && r.l.newer m.ix m.lterm with
  |true=>{r.hardD ⟨r.h.term,m.from_⟩ with heard:=true}.say {cR with kind:=2,to_:=m.from_,yes:=true}
  |false=>r.say {cR with kind:=2,to_:=m.from_}:=rfl
 obtain ⟨pl,pv,pt,mv,hw⟩:=dG hw;refine enter Tryz.func141 Tryz.ntmps141 rfl rfl fun a hs=>?_;refine sc hs ?_;refine sn hs hw fun b a W hs hw=>?_;refine sc hs ?_;cases cA:(r.h.vote == 0) with
 |true=>
  have he1:∀g:Bool,g=true→g=r.l.newer m.ix m.lterm→r.asked m= {r.hardD ⟨r.h.term,m.from_⟩ with heard:=true}.say {cR with kind:=2,to_:=m.from_,yes:=true}:=fun g h1 h2=>by rw [he2,cA,←h2,h1];rfl
  have he0:∀g:Bool,g=false→g=r.l.newer m.ix m.lterm→r.asked m=r.say {cR with kind:=2,to_:=m.from_}:=fun g h1 h2=>by rw [he2,cA,←h2,h1];rfl
  refine bG [25] [.f 0 0,.f 0 0,.f 0 0,.f 0 0,.f 0 0,.f 0 0,.f 0 0,.f 0 0,.f 0 0,.f 0 0,.f 0 0,.f 0 0,.f 0 0,.f 0 0,.f 0 0,.f 0 0,.f 0 0,.f 0 0,.f 0 0,.f 0 0,.f 0 0,.f 0 0,.f 0 0,.f 0 0,.f 0 0,.m 0,.f 1 1,.f 1 1] [.c0 _,.c0 _,.c0 _,.c0 _,.c0 _,.c0 (.bool true),.c0 _,.c0 _,.c0 _,.c0 _,.c0 _,.c0 _,.c0 _,.c0 _,.c0 _,.c0 _,.c0 _,.c0 _,.c0 _,.c0 _,.c0 _,.c0 _,.c0 _,.c0 _,.c0 _,.c1 (fun x=> .bool (r.l.newer m.ix m.lterm)),.c1 _,.c1 _] (aA b (aI m (.slice vad m.es.length vcap)) 38::aK p r pl pv pt mv::aH pl r.l::VoR pv r.v::ToR pt r.t::aD H mv r.out.msgs::R) (fun x=>aA b (aI m (.slice vad m.es.length vcap)) 38::aK p r pl pv pt mv::aH pl r.l::VoR pv r.v::ToR pt r.t::aD H mv r.out.msgs::R) (fun x y=>[]) (fun x y z=>[]) (fun x y z t=>[]) hs hw ?kk ⟨drs,drs,drs,drs,drs,?f5,drs,drs,drs,drs,drs,drs,drs,drs,drs,drs,drs,drs,drs,drs,drs,drs,drs,drs,drs,drm,drs,drs,trivial⟩
  case f5=>
   refine ⟨?_,trivial,trivial,trivial,trivial⟩;intro x y z t LD a W hs hw;refine sv hs hw fun a hs=>?_;rw [cA] at hs;exact ⟨hs,hw⟩
  case kk=>
   intro _ a W hs hw;clear he2;replace hs:Slots a 52 [(0,ptr p),(3,ptr b),(4,.bool (r.l.newer m.ix m.lterm))]:=hs.ot;cases c2:r.l.newer m.ix m.lterm with
   |true=>
    rw [c2] at hs;refine sv hs hw fun a hs=>?_;refine bG [9] [.f 0 0,.f 0 0,.f 0 0,.f 0 0,.f 0 0,.f 0 0,.f 0 0,.f 0 0,.f 0 0,.m 0] [.c0 _,.c0 _,.c0 _,.c0 _,.c0 _,.c0 _,.c0 _,.c0 _,.c0 _,.c1 (fun x=> .tuple ⟨[]⟩)] (aA b (aI m (.slice vad m.es.length vcap)) 38::aK p r pl pv pt mv::aH pl r.l::VoR pv r.v::ToR pt r.t::aD H mv r.out.msgs::R) (fun x=>aA b (aI m (.slice vad m.es.length vcap)) 38::aF H p (r.hardD ⟨r.h.term,m.from_⟩)::R) (fun x y=>[]) (fun x y z=>[]) (fun x y z t=>[]) hs hw ?kk ⟨drs,drs,drs,drs,drs,drs,drs,drs,drs,?m0,trivial⟩
    case m0=>
     intro x y z t LD a W hs hw;have hw:Has 0 w0 W (aF H p r::aA b (aI m (.slice vad m.es.length vcap)) 38::R):=cG (hw.pm);refine cl hs (tV ⟨r.h.term,m.from_⟩ hw) fun a W hs hw=>?_;exact ⟨{},hs,hw.swap2⟩
    case kk=>
     intro _ a W hs hw;obtain ⟨r2,hr2⟩:∃r2:RaftD,r2=r.hardD ⟨r.h.term,m.from_⟩:=⟨_,rfl⟩
     rw [←hr2] at hw;have he:r.asked m= {r2 with heard:=true}.say {cR with kind:=2,to_:=m.from_,yes:=true}:=by rw [hr2,he1 _ c2 rfl]
     have hm2:r2.out.msgs.length≤1000:=by rw [hr2];exact hl
     rw [he];obtain ⟨pl2,pv2,pt2,mv2,hw⟩:=dG hw.swap2;refine sx hs hw fun a W hs hw=>?_;have hw:Has 0 w0 W (aF H p {r2 with heard:=true}::aA b (aI m (.slice vad m.es.length vcap)) 38::R):=cG (r:={r2 with heard:=true}) hw;refine cl hs (fS (r:={r2 with heard:=true}) {cR with kind:=2,to_:=m.from_,yes:=true} (.slice none 0 0) fX (by show (0:Nat)≤1000000;omega) hm2 hw) fun a W hs hw=>?_;refine sc hs ?_;exact cP hs rfl ⟨rfl,hw.sl⟩
   |false=>
    rw [c2] at hs;have he:r.asked m=r.say {cR with kind:=2,to_:=m.from_}:=he0 _ c2 rfl;rw [he];refine sx hs hw fun a W hs hw=>?_;have hw:Has 0 w0 W (aF H p r::aA b (aI m (.slice vad m.es.length vcap)) 38::R):=cG (hw.pm);refine cl hs (fS {cR with kind:=2,to_:=m.from_} (.slice none 0 0) fX (by show (0:Nat)≤1000000;omega) hl hw) fun a W hs hw=>?_;refine sc hs ?_;exact cP hs rfl ⟨rfl,hw.sl⟩
 |false=>
  cases cB:(r.h.vote == m.from_) with
  |true=>
   have he1:∀g:Bool,g=true→g=r.l.newer m.ix m.lterm→r.asked m= {r.hardD ⟨r.h.term,m.from_⟩ with heard:=true}.say {cR with kind:=2,to_:=m.from_,yes:=true}:=fun g h1 h2=>by rw [he2,cA,cB,←h2,h1];rfl
   have he0:∀g:Bool,g=false→g=r.l.newer m.ix m.lterm→r.asked m=r.say {cR with kind:=2,to_:=m.from_}:=fun g h1 h2=>by rw [he2,cA,cB,←h2,h1];rfl
   refine bG [25] [.f 0 0,.f 0 0,.f 0 0,.f 0 0,.f 0 0,.f 0 0,.f 0 0,.f 0 0,.f 0 0,.f 0 0,.f 0 0,.f 0 0,.f 0 0,.f 0 0,.f 0 0,.f 0 0,.f 0 0,.f 0 0,.f 0 0,.f 0 0,.f 0 0,.f 0 0,.f 0 0,.f 0 0,.f 0 0,.m 0,.f 1 1,.f 1 1] [.c0 _,.c0 _,.c0 _,.c0 _,.c0 _,.c0 (.bool false),.c0 _,.c0 _,.c0 _,.c0 _,.c0 _,.c0 _,.c0 _,.c0 _,.c0 (.bool true),.c0 _,.c0 _,.c0 _,.c0 _,.c0 _,.c0 _,.c0 _,.c0 _,.c0 _,.c0 _,.c1 (fun x=> .bool (r.l.newer m.ix m.lterm)),.c1 _,.c1 _] (aA b (aI m (.slice vad m.es.length vcap)) 38::aK p r pl pv pt mv::aH pl r.l::VoR pv r.v::ToR pt r.t::aD H mv r.out.msgs::R) (fun x=>aA b (aI m (.slice vad m.es.length vcap)) 38::aK p r pl pv pt mv::aH pl r.l::VoR pv r.v::ToR pt r.t::aD H mv r.out.msgs::R) (fun x y=>[]) (fun x y z=>[]) (fun x y z t=>[]) hs hw ?kk ⟨drs,drs,drs,drs,drs,?f5,drs,drs,drs,drs,drs,drs,drs,drs,?f14,drs,drs,drs,drs,drs,drs,drs,drs,drs,drs,drm,drs,drs,trivial⟩
   case f5=>
    refine ⟨?_,trivial,trivial,trivial,trivial⟩;intro x y z t LD a W hs hw;refine sv hs hw fun a hs=>?_;rw [cA] at hs;exact ⟨hs,hw⟩
   case f14=>
    refine ⟨?_,trivial,trivial,trivial,trivial⟩;intro x y z t LD a W hs hw;refine sv hs hw fun a hs=>?_;rw [cB] at hs;exact ⟨hs,hw⟩
   case kk=>
    intro _ a W hs hw;clear he2;replace hs:Slots a 52 [(0,ptr p),(3,ptr b),(4,.bool (r.l.newer m.ix m.lterm))]:=hs.ot;cases c2:r.l.newer m.ix m.lterm with
    |true=>
     rw [c2] at hs;refine sv hs hw fun a hs=>?_;refine bG [9] [.f 0 0,.f 0 0,.f 0 0,.f 0 0,.f 0 0,.f 0 0,.f 0 0,.f 0 0,.f 0 0,.m 0] [.c0 _,.c0 _,.c0 _,.c0 _,.c0 _,.c0 _,.c0 _,.c0 _,.c0 _,.c1 (fun x=> .tuple ⟨[]⟩)] (aA b (aI m (.slice vad m.es.length vcap)) 38::aK p r pl pv pt mv::aH pl r.l::VoR pv r.v::ToR pt r.t::aD H mv r.out.msgs::R) (fun x=>aA b (aI m (.slice vad m.es.length vcap)) 38::aF H p (r.hardD ⟨r.h.term,m.from_⟩)::R) (fun x y=>[]) (fun x y z=>[]) (fun x y z t=>[]) hs hw ?kk ⟨drs,drs,drs,drs,drs,drs,drs,drs,drs,?m0,trivial⟩
     case m0=>
      intro x y z t LD a W hs hw;have hw:Has 0 w0 W (aF H p r::aA b (aI m (.slice vad m.es.length vcap)) 38::R):=cG (hw.pm);refine cl hs (tV ⟨r.h.term,m.from_⟩ hw) fun a W hs hw=>?_;exact ⟨{},hs,hw.swap2⟩
     case kk=>
      intro _ a W hs hw;obtain ⟨r2,hr2⟩:∃r2:RaftD,r2=r.hardD ⟨r.h.term,m.from_⟩:=⟨_,rfl⟩
      rw [←hr2] at hw;have he:r.asked m= {r2 with heard:=true}.say {cR with kind:=2,to_:=m.from_,yes:=true}:=by rw [hr2,he1 _ c2 rfl]
      have hm2:r2.out.msgs.length≤1000:=by rw [hr2];exact hl
      rw [he];obtain ⟨pl2,pv2,pt2,mv2,hw⟩:=dG hw.swap2;refine sx hs hw fun a W hs hw=>?_;have hw:Has 0 w0 W (aF H p {r2 with heard:=true}::aA b (aI m (.slice vad m.es.length vcap)) 38::R):=cG (r:={r2 with heard:=true}) hw;refine cl hs (fS (r:={r2 with heard:=true}) {cR with kind:=2,to_:=m.from_,yes:=true} (.slice none 0 0) fX (by show (0:Nat)≤1000000;omega) hm2 hw) fun a W hs hw=>?_;refine sc hs ?_;exact cP hs rfl ⟨rfl,hw.sl⟩
    |false=>
     rw [c2] at hs;have he:r.asked m=r.say {cR with kind:=2,to_:=m.from_}:=he0 _ c2 rfl;rw [he];refine sx hs hw fun a W hs hw=>?_;have hw:Has 0 w0 W (aF H p r::aA b (aI m (.slice vad m.es.length vcap)) 38::R):=cG (hw.pm);refine cl hs (fS {cR with kind:=2,to_:=m.from_} (.slice none 0 0) fX (by show (0:Nat)≤1000000;omega) hl hw) fun a W hs hw=>?_;refine sc hs ?_;exact cP hs rfl ⟨rfl,hw.sl⟩
  |false=>
   refine bG [25] [.f 0 0,.f 0 0,.f 0 0,.f 0 0,.f 0 0,.f 0 0,.f 0 0,.f 0 0,.f 0 0,.f 0 0,.f 0 0,.f 0 0,.f 0 0,.f 0 0,.f 0 0,.f 0 0,.f 0 0,.f 0 0,.f 0 0,.f 0 0,.f 0 0,.f 0 0,.f 0 0,.f 0 0,.f 0 0,.m 0,.f 1 1,.f 1 1] [.c0 _,.c0 _,.c0 _,.c0 _,.c0 _,.c0 (.bool false),.c0 _,.c0 _,.c0 _,.c0 _,.c0 _,.c0 _,.c0 _,.c0 _,.c0 (.bool false),.c0 _,.c0 _,.c0 _,.c0 _,.c0 _,.c0 _,.c0 _,.c0 _,.c0 _,.c0 _,.c1 (fun x=>undef),.c1 _,.c1 _] (aA b (aI m (.slice vad m.es.length vcap)) 38::aK p r pl pv pt mv::aH pl r.l::VoR pv r.v::ToR pt r.t::aD H mv r.out.msgs::R) (fun x=>aA b (aI m (.slice vad m.es.length vcap)) 38::aK p r pl pv pt mv::aH pl r.l::VoR pv r.v::ToR pt r.t::aD H mv r.out.msgs::R) (fun x y=>[]) (fun x y z=>[]) (fun x y z t=>[]) hs hw ?kk ⟨drs,drs,drs,drs,drs,?f5,drs,drs,drs,drs,drs,drs,drs,drs,?f14,drs,drs,drs,drs,drs,drs,drs,drs,drs,drs,drm,drs,drs,trivial⟩
   case f5=>
    refine ⟨?_,trivial,trivial,trivial,trivial⟩;intro x y z t LD a W hs hw;refine sv hs hw fun a hs=>?_;rw [cA] at hs;exact ⟨hs,hw⟩
   case f14=>
    refine ⟨?_,trivial,trivial,trivial,trivial⟩;intro x y z t LD a W hs hw;refine sv hs hw fun a hs=>?_;rw [cB] at hs;exact ⟨hs,hw⟩
   case kk=>
    intro _ a W hs hw;replace hs:Slots a 52 [(0,ptr p),(3,ptr b),(4,.bool false)]:=hs.ot;have he:r.asked m=r.say {cR with kind:=2,to_:=m.from_}:=by rw [he2,cA,cB];rfl
    rw [he];refine sx hs hw fun a W hs hw=>?_;have hw:Has 0 w0 W (aF H p r::aA b (aI m (.slice vad m.es.length vcap)) 38::R):=cG (hw.pm);refine cl hs (fS {cR with kind:=2,to_:=m.from_} (.slice none 0 0) fX (by show (0:Nat)≤1000000;omega) hl hw) fun a W hs hw=>?_;refine sc hs ?_;exact cP hs rfl ⟨rfl,hw.sl⟩
end
section
variable {H H':Fh} {p pl:Nat} {pv pt mv:Value} {r:RaftD} {w0 W:World} {R L:List Res} {l:List bS} {v:Value}
theorem aIE (m:bS) (v:Value) (hv:∃ad cap,v= .slice ad m.es.length cap) (hl:r.out.msgs.length≤900) (hy:∀o,r.v=some o→o.yes.length≤1000∧o.no.length≤1000) (hw:Has 0 w0 W (aF H p r::Fz H::R)):
  Calls Tryz.prog 142 ⟨[ptr p,.agg ⟨aI m v⟩]⟩ W fun e W'=>e= .returned (.tuple ⟨[]⟩)∧∃H',H.le H'∧Has 0 w0 W' (aF H' p (r.voted m)::Fz H'::R):=by
 obtain ⟨vad,vcap,rfl⟩:=hv;obtain ⟨vo,hvo⟩:∃vo,vo=(match m.yes with|true=>tF r.v m.from_|false=>tG r.v m.from_):=⟨_,rfl⟩
 have he:r.voted m=match r.role == 1 with
  |false=>r
  |true=>match lG vo,qF vo with
   |true,_=>{r with v:=vo}.lead
   |false,true=>{r with v:=vo,role:=0}
   |false,false=>{r with v:=vo}:=by rw [hvo];rfl
 rw [he];obtain ⟨pl,pv,pt,mv,hw⟩:=dG hw;refine enter Tryz.func142 Tryz.ntmps142 rfl rfl fun a hs=>?_;refine sc hs ?_;refine sn hs hw fun b a W hs hw=>?_;refine sv hs hw fun a hs=>?_;rw [show (r.role !=1)=!(r.role == 1) from rfl] at hs;cases c1:r.role == 1 with
 |false=>
  rw [c1] at hs;refine sc hs ?_;have hw:Has 0 w0 W (aF H p r::aA b (aI m (.slice vad m.es.length vcap)) 38::Fz H::R):=cG (hw.pm);exact rt0 hs rfl ⟨rfl,H,Fh.le.refl H,hw.sl⟩
 |true=>
 rw [c1] at hs;refine sv hs hw fun a hs=>?_;have mid:∀{W},Has 0 w0 W (aA b (aI m (.slice vad m.es.length vcap)) 38::aK p r pl pv pt mv::aH pl r.l::VoR pv (vo)::ToR pt r.t::aD H mv r.out.msgs::Fz H::R)→Has 0 w0 W (aF H p {r with v:=vo}::Fz H::R):=fun h=>cG (r:={r with v:=vo}) (h.d1);cases c2:m.yes with
 |true=>
  rw [c2] at hs hvo;replace hvo:vo=tF r.v m.from_:=hvo;refine sc hs ?_;refine bG [6] [.f 0 0,.f 0 0,.f 0 0,.f 0 0,.f 0 0,.f 0 0,.m 0] [.c0 _,.c0 _,.c0 _,.c0 _,.c0 _,.c0 _,.c1 (fun x=>x.v)] (aA b (aI m (.slice vad m.es.length vcap)) 38::aK p r pl pv pt mv::aH pl r.l::VoR pv (r.v)::ToR pt r.t::aD H mv r.out.msgs::Fz H::R) (fun x=>aA b (aI m (.slice vad m.es.length vcap)) 38::aK p r pl pv pt mv::aH pl r.l::VoR pv (vo)::ToR pt r.t::aD H mv r.out.msgs::Fz H::R) (fun x y=>[]) (fun x y z=>[]) (fun x y z t=>[]) hs hw ?kk ⟨drs,drs,drs,drs,drs,drs,?m0,trivial⟩
  case m0=>
   intro x y z t LD a W hs hw;have hw:Has 0 w0 W (VoR pv r.v::aA b (aI m (.slice vad m.es.length vcap)) 38::aK p r pl pv pt mv::aH pl r.l::ToR pt r.t::aD H mv r.out.msgs::Fz H::R):=hw.pm;refine cle hs (aHt (X:=m.from_) (fun o h=>(hy o h).1) hw) fun bb a W _ hs hw=>?_;rw [←hvo] at hw;exact ⟨{v:= .bool bb},hs,hw.pm⟩
  case kk=>
   intro _ a W hs hw;replace hs:Slots a 42 [(0,ptr p)]:=hs.ot;refine sv hs hw fun a hs=>?_;have hw:Has 0 w0 W (VoR pv vo::aA b (aI m (.slice vad m.es.length vcap)) 38::aK p r pl pv pt mv::aH pl r.l::ToR pt r.t::aD H mv r.out.msgs::Fz H::R):=hw.pm;refine cl hs (yV hw) fun a W hs hw=>?_;have hw:Has 0 w0 W (aA b (aI m (.slice vad m.es.length vcap)) 38::aK p r pl pv pt mv::aH pl r.l::VoR pv (vo)::ToR pt r.t::aD H mv r.out.msgs::Fz H::R):=hw.pm;refine sv hs hw fun a hs=>?_;cases c3:lG vo with
   |true=>
    rw [c3] at hs;refine sv hs hw fun a hs=>?_;have hw:=mid hw;refine aG hs (hc:=yW (r:={r with v:=vo}) hl hw) (k:=?_);rintro e' W' ⟨rfl,H3,hle3,hw⟩;refine ⟨_,rfl,fun a hs=>?_⟩;refine sc hs ?_;exact cP hs rfl ⟨rfl,H3,hle3,hw⟩
   |false=>
    rw [c3] at hs;refine sv hs hw fun a hs=>?_;have hw:Has 0 w0 W (VoR pv vo::aA b (aI m (.slice vad m.es.length vcap)) 38::aK p r pl pv pt mv::aH pl r.l::ToR pt r.t::aD H mv r.out.msgs::Fz H::R):=hw.pm;refine cl hs (aC4 hw) fun a W hs hw=>?_;have hw:Has 0 w0 W (aA b (aI m (.slice vad m.es.length vcap)) 38::aK p r pl pv pt mv::aH pl r.l::VoR pv (vo)::ToR pt r.t::aD H mv r.out.msgs::Fz H::R):=hw.pm;refine sv hs hw fun a hs=>?_;cases c4:qF vo with
    |true=>
     rw [c4] at hs;refine sx hs hw fun a W hs hw=>?_;exact cP hs rfl ⟨rfl,H,Fh.le.refl H,cG (r:={r with v:=vo,role:=0}) (hw.d1)⟩
    |false=>
     rw [c4] at hs;refine sc hs ?_;exact cP hs rfl ⟨rfl,H,Fh.le.refl H,mid hw⟩
 |false=>
  rw [c2] at hs hvo;replace hvo:vo=tG r.v m.from_:=hvo;refine sc hs ?_;refine bG [6] [.f 0 0,.f 0 0,.f 0 0,.f 0 0,.f 0 0,.f 0 0,.m 0] [.c0 _,.c0 _,.c0 _,.c0 _,.c0 _,.c0 _,.c1 (fun x=>x.v)] (aA b (aI m (.slice vad m.es.length vcap)) 38::aK p r pl pv pt mv::aH pl r.l::VoR pv (r.v)::ToR pt r.t::aD H mv r.out.msgs::Fz H::R) (fun x=>aA b (aI m (.slice vad m.es.length vcap)) 38::aK p r pl pv pt mv::aH pl r.l::VoR pv (vo)::ToR pt r.t::aD H mv r.out.msgs::Fz H::R) (fun x y=>[]) (fun x y z=>[]) (fun x y z t=>[]) hs hw ?kk ⟨drs,drs,drs,drs,drs,drs,?m0,trivial⟩
  case m0=>
   intro x y z t LD a W hs hw;have hw:Has 0 w0 W (VoR pv r.v::aA b (aI m (.slice vad m.es.length vcap)) 38::aK p r pl pv pt mv::aH pl r.l::ToR pt r.t::aD H mv r.out.msgs::Fz H::R):=hw.pm;refine cle hs (aHu (X:=m.from_) (fun o h=>(hy o h).2) hw) fun bb a W _ hs hw=>?_;rw [←hvo] at hw;exact ⟨{v:= .bool bb},hs,hw.pm⟩
  case kk=>
   intro _ a W hs hw;replace hs:Slots a 42 [(0,ptr p)]:=hs.ot;refine sv hs hw fun a hs=>?_;have hw:Has 0 w0 W (VoR pv vo::aA b (aI m (.slice vad m.es.length vcap)) 38::aK p r pl pv pt mv::aH pl r.l::ToR pt r.t::aD H mv r.out.msgs::Fz H::R):=hw.pm;refine cl hs (yV hw) fun a W hs hw=>?_;have hw:Has 0 w0 W (aA b (aI m (.slice vad m.es.length vcap)) 38::aK p r pl pv pt mv::aH pl r.l::VoR pv (vo)::ToR pt r.t::aD H mv r.out.msgs::Fz H::R):=hw.pm;refine sv hs hw fun a hs=>?_;cases c3:lG vo with
   |true=>
    rw [c3] at hs;refine sv hs hw fun a hs=>?_;have hw:=mid hw;refine aG hs (hc:=yW (r:={r with v:=vo}) hl hw) (k:=?_);rintro e' W' ⟨rfl,H3,hle3,hw⟩;refine ⟨_,rfl,fun a hs=>?_⟩;refine sc hs ?_;exact cP hs rfl ⟨rfl,H3,hle3,hw⟩
   |false=>
    rw [c3] at hs;refine sv hs hw fun a hs=>?_;have hw:Has 0 w0 W (VoR pv vo::aA b (aI m (.slice vad m.es.length vcap)) 38::aK p r pl pv pt mv::aH pl r.l::ToR pt r.t::aD H mv r.out.msgs::Fz H::R):=hw.pm;refine cl hs (aC4 hw) fun a W hs hw=>?_;have hw:Has 0 w0 W (aA b (aI m (.slice vad m.es.length vcap)) 38::aK p r pl pv pt mv::aH pl r.l::VoR pv (vo)::ToR pt r.t::aD H mv r.out.msgs::Fz H::R):=hw.pm;refine sv hs hw fun a hs=>?_;cases c4:qF vo with
    |true=>
     rw [c4] at hs;refine sx hs hw fun a W hs hw=>?_;exact cP hs rfl ⟨rfl,H,Fh.le.refl H,cG (r:={r with v:=vo,role:=0}) (hw.d1)⟩
    |false=>
     rw [c4] at hs;refine sc hs ?_;exact cP hs rfl ⟨rfl,H,Fh.le.refl H,mid hw⟩
end
end Go.Proofs.YtgpbngfehfbndaaGreatDoor.Sw
