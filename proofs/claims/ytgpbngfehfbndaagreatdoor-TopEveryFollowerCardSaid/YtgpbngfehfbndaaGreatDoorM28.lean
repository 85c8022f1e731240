/-
  Texts of the proof, one behind the other (part 28).
-/
import Derived.Test.YtgpbngfehfbndaaGreatDoorM27
import Derived.Test.YtgpbngfehfbndaaGreatDoorChecked
import Derived.Test.YtgpbngfehfbndaaGreatDoorProg
set_option maxHeartbeats 16000000
set_option linter.unusedVariables false
set_option maxRecDepth 10000
namespace Go.Proofs.YtgpbngfehfbndaaGreatDoor.Sw
open Go.RowKit Go.Sx
section
variable {H H':Fh} {p pl:Nat} {pv pt mv:Value} {r:RaftD} {w0 W:World} {R L:List Res} {l:List bS} {v:Value}
theorem aIF (m:bS) (v:Value) (hv:∃ad cap,v= .slice ad m.es.length cap) (hl:r.out.msgs.length≤900) (hw:Has 0 w0 W (aF H p r::Fz H::R)):
  Calls Tryz.prog 144 ⟨[ptr p,.agg ⟨aI m v⟩]⟩ W fun e W'=>e= .returned (.tuple ⟨[]⟩)∧∃H',H.le H'∧Has 0 w0 W' (aF H' p (r.ack m)::Fz H'::R):=by
 obtain ⟨vad,vcap,rfl⟩:=hv;obtain ⟨pl,pv,pt,mv,hw⟩:=dG hw;refine enter Tryz.func144 Tryz.ntmps144 rfl rfl fun a hs=>?_;refine sc hs ?_;refine sn hs hw fun b a W hs hw=>?_;refine sc hs ?_;have fin:∀{W},Has 0 w0 W (aA b (aI m (.slice vad m.es.length vcap)) 38::aK p r pl pv pt mv::aH pl r.l::VoR pv r.v::ToR pt (r.t)::aD H mv r.out.msgs::Fz H::R)→Has 0 w0 W (aF H p r::Fz H::R):=fun h=>cG (h.d1);cases c1:(r.role == 2) with
 |false=>
  have he:r.ack m=r:=by unfold RaftD.ack;rw [if_pos (.inl (by simpa using c1))]
  rw [he];refine bG [12] [.f 0 0,.f 0 0,.f 0 0,.f 0 0,.f 0 0,.f 0 0,.f 0 1,.f 0 1,.f 0 0,.f 0 0,.f 0 0,.f 0 0,.m 0,.f 1 1,.f 1 1] [.c0 _,.c0 _,.c0 _,.c0 _,.c0 (.bool true),.c0 _,.c0 _,.c0 _,.c0 _,.c0 _,.c0 _,.c0 _,.c1 (fun x=>undef),.c1 _,.c1 _] (aA b (aI m (.slice vad m.es.length vcap)) 38::aK p r pl pv pt mv::aH pl r.l::VoR pv r.v::ToR pt (r.t)::aD H mv r.out.msgs::Fz H::R) (fun x=>aA b (aI m (.slice vad m.es.length vcap)) 38::aK p r pl pv pt mv::aH pl r.l::VoR pv r.v::ToR pt (r.t)::aD H mv r.out.msgs::Fz H::R) (fun x y=>[]) (fun x y z=>[]) (fun x y z t=>[]) hs hw ?kk ⟨drs,drs,drs,drs,?f4,drs,drs,drs,drs,drs,drs,drs,drm,drs,drs,trivial⟩
  case f4=>
   refine ⟨?_,trivial,trivial,trivial,trivial⟩;intro x y z t LD a W hs hw;refine sv hs hw fun a hs=>?_;rw [show (r.role !=2)=!(r.role == 2) from rfl,c1] at hs;exact ⟨hs,hw⟩
  case kk=>
   intro _ a W hs hw;refine sc hs ?_;exact rt0 hs rfl ⟨rfl,H,Fh.le.refl H,fin hw⟩
 |true=>
  refine bG [12] [.f 0 0,.f 0 0,.f 0 0,.f 0 0,.f 0 0,.f 0 0,.f 0 1,.f 0 1,.f 0 0,.f 0 0,.f 0 0,.f 0 0,.m 0,.f 1 1,.f 1 1] [.c0 _,.c0 _,.c0 _,.c0 _,.c0 (.bool false),.c0 _,.c0 _,.c0 _,.c0 _,.c0 _,.c0 _,.c0 _,.c1 (fun x=> .int .i64 r.l.last),.c1 _,.c1 _] (aA b (aI m (.slice vad m.es.length vcap)) 38::aK p r pl pv pt mv::aH pl r.l::VoR pv r.v::ToR pt (r.t)::aD H mv r.out.msgs::Fz H::R) (fun x=>aA b (aI m (.slice vad m.es.length vcap)) 38::aK p r pl pv pt mv::aH pl r.l::VoR pv r.v::ToR pt (r.t)::aD H mv r.out.msgs::Fz H::R) (fun x y=>[]) (fun x y z=>[]) (fun x y z t=>[]) hs hw ?kk ⟨drs,drs,drs,drs,?f4,drs,drs,drs,drs,drs,drs,drs,drm,drs,drs,trivial⟩
  case f4=>
   refine ⟨?_,trivial,trivial,trivial,trivial⟩;intro x y z t LD a W hs hw;refine sv hs hw fun a hs=>?_;rw [show (r.role !=2)=!(r.role == 2) from rfl,c1] at hs;exact ⟨hs,hw⟩
  case kk=>
  intro _ a W hs hw;replace hs:Slots a 70 [(0,ptr p),(3,ptr b),(18,.bool (decide (m.ix > r.l.last)))]:=hs.ot;have hr2:r.role=2:=by simpa using c1
  cases c2:decide (m.ix > r.l.last) with
  |true=>
   rw [c2] at hs;have he:r.ack m=r:=by unfold RaftD.ack;rw [if_pos (.inr (of_decide_eq_true c2))]
   rw [he];refine sc hs ?_;exact rt0 hs rfl ⟨rfl,H,Fh.le.refl H,fin hw⟩
  |false=>
  rw [c2] at hs;have he:r.ack m=match m.yes with
   |false=>match (gX r.t m.from_ m.ix).2 with
    |true=>{r with t:=(gX r.t m.from_ m.ix).1}.send m.from_
    |false=>{r with t:=(gX r.t m.from_ m.ix).1}
   |true=>
    let q:=match (gL r.t m.from_ m.ix).2 with|true=>{r with t:=(gL r.t m.from_ m.ix).1}.move|false=>{r with t:=(gL r.t m.from_ m.ix).1}
    match (q.role == 2) && decide (bM q.t m.from_≤q.l.last) with
    |true=>q.send m.from_
    |false=>q:=by
   unfold RaftD.ack;rw [if_neg (by have:=of_decide_eq_false c2;simp [hr2];omega)];rfl
  refine sv hs hw fun a hs=>?_;cases c3:m.yes with
  |false=>
   rw [c3] at hs;rw [he,c3];refine sc hs ?_;refine bG [8] [.f 0 0,.f 0 0,.f 0 0,.f 0 0,.f 0 0,.f 0 0,.f 0 0,.f 0 0,.m 0] [.c0 _,.c0 _,.c0 _,.c0 _,.c0 _,.c0 _,.c0 _,.c0 _,.c1 (fun x=> .bool (gX r.t m.from_ m.ix).2)] (aA b (aI m (.slice vad m.es.length vcap)) 38::aK p r pl pv pt mv::aH pl r.l::VoR pv r.v::ToR pt (r.t)::aD H mv r.out.msgs::Fz H::R) (fun x=>aA b (aI m (.slice vad m.es.length vcap)) 38::aK p r pl pv pt mv::aH pl r.l::VoR pv r.v::ToR pt ((gX r.t m.from_ m.ix).1)::aD H mv r.out.msgs::Fz H::R) (fun x y=>[]) (fun x y z=>[]) (fun x y z t=>[]) hs hw ?kk ⟨drs,drs,drs,drs,drs,drs,drs,drs,?m0,trivial⟩
   case m0=>
    intro x y z t LD a W hs hw;have hw:Has 0 w0 W (ToR pt r.t::aA b (aI m (.slice vad m.es.length vcap)) 38::aK p r pl pv pt mv::aH pl r.l::VoR pv r.v::aD H mv r.out.msgs::Fz H::R):=hw.pm;refine cl hs (aHr hw) fun a W hs hw=>?_;exact ⟨{},hs,hw.pm⟩
   case kk=>
   intro _ a W hs hw;replace hs:Slots a 70 [(0,ptr p),(3,ptr b),(30,.bool (gX r.t m.from_ m.ix).2)]:=hs.ot;have hq:Has 0 w0 W (aF H p {r with t:=(gX r.t m.from_ m.ix).1}::Fz H::aA b (aI m (.slice vad m.es.length vcap)) 38::R):=cG (r:={r with t:=(gX r.t m.from_ m.ix).1}) (hw.pm);cases c4:(gX r.t m.from_ m.ix).2 with
   |true=>
    rw [c4] at hs;refine sv hs hw fun a hs=>?_;refine aG hs (hc:=tZ (r:={r with t:=(gX r.t m.from_ m.ix).1}) m.from_ (by show r.out.msgs.length≤1000;omega) hq) (k:=?_);rintro e' W' ⟨rfl,H3,hle3,hw⟩;refine ⟨_,rfl,fun a hs=>?_⟩;refine sc hs ?_;exact rt0 hs rfl ⟨rfl,H3,hle3,hw.sl⟩
   |false=>
    rw [c4] at hs;refine sc hs ?_;exact rt0 hs rfl ⟨rfl,H,Fh.le.refl H,hq.sl⟩
  |true=>
   rw [c3] at hs;refine sc hs ?_;refine bG [8] [.f 0 0,.f 0 0,.f 0 0,.f 0 0,.f 0 0,.f 0 0,.f 0 0,.f 0 0,.m 0] [.c0 _,.c0 _,.c0 _,.c0 _,.c0 _,.c0 _,.c0 _,.c0 _,.c1 (fun x=> .bool (gL r.t m.from_ m.ix).2)] (aA b (aI m (.slice vad m.es.length vcap)) 38::aK p r pl pv pt mv::aH pl r.l::VoR pv r.v::ToR pt (r.t)::aD H mv r.out.msgs::Fz H::R) (fun x=>aA b (aI m (.slice vad m.es.length vcap)) 38::aK p r pl pv pt mv::aH pl r.l::VoR pv r.v::ToR pt ((gL r.t m.from_ m.ix).1)::aD H mv r.out.msgs::Fz H::R) (fun x y=>[]) (fun x y z=>[]) (fun x y z t=>[]) hs hw ?kk ⟨drs,drs,drs,drs,drs,drs,drs,drs,?m0,trivial⟩
   case m0=>
    intro x y z t LD a W hs hw;have hw:Has 0 w0 W (ToR pt r.t::aA b (aI m (.slice vad m.es.length vcap)) 38::aK p r pl pv pt mv::aH pl r.l::VoR pv r.v::aD H mv r.out.msgs::Fz H::R):=hw.pm;refine cl hs (aHq hw) fun a W hs hw=>?_;exact ⟨{},hs,hw.pm⟩
   case kk=>
   intro _ a W hs hw;replace hs:Slots a 70 [(0,ptr p),(3,ptr b),(43,.bool (gL r.t m.from_ m.ix).2)]:=hs.ot;have hqw:Has 0 w0 W (aF H p {r with t:=(gL r.t m.from_ m.ix).1}::Fz H::aA b (aI m (.slice vad m.es.length vcap)) 38::R):=cG (r:={r with t:=(gL r.t m.from_ m.ix).1}) (hw.pm);cases c4:(gL r.t m.from_ m.ix).2 with
   |true=>
    rw [c4] at hs;replace hw:=hqw;refine sv hs hw fun a hs=>?_;refine cl hs (uB (r:={r with t:=(gL r.t m.from_ m.ix).1}) hw) fun a W hs hqw=>?_;obtain ⟨q,hq⟩:∃q,q=RaftD.move {r with t:=(gL r.t m.from_ m.ix).1}:=⟨_,rfl⟩
    refine sc hs ?_;have hmq:q.out.msgs.length≤900:=by rw [hq];rw [uC];exact hl
    have heq:r.ack m=match (q.role == 2) && decide (bM q.t m.from_≤q.l.last) with
     |true=>q.send m.from_
     |false=>q:=by
     rw [hq,he,c3];simp only [c4]
    rw [heq];rw [←hq] at hqw;clear hw;obtain ⟨pl2,pv2,pt2,mv2,hw⟩:=dG hqw;replace hs:Slots a 70 [(0,ptr p),(3,ptr b)]:=hs.ot;cases c5:(q.role == 2) with
    |false=>
     refine bG [12,17] [.f 0 0,.f 0 0,.f 0 0,.f 0 0,.f 0 0,.f 0 0,.f 0 0,.f 0 0,.f 0 0,.f 0 0,.f 0 0,.f 0 0,.m 0,.f 0 1,.f 0 1,.f 0 1,.f 0 1,.m 1,.f 2 2,.f 2 2] [.c0 _,.c0 _,.c0 _,.c0 _,.c0 (.bool false),.c0 _,.c0 _,.c0 _,.c0 _,.c0 _,.c0 _,.c0 _,.c1 (fun x=>undef),.c0 _,.c0 _,.c0 _,.c0 _,.c2 (fun x y=>undef),.c2 _,.c2 _] (aK p q pl2 pv2 pt2 mv2::aH pl2 q.l::VoR pv2 q.v::ToR pt2 q.t::aD H mv2 q.out.msgs::Fz H::aA b (aI m (.slice vad m.es.length vcap)) 38::R) (fun x=>aK p q pl2 pv2 pt2 mv2::aH pl2 q.l::VoR pv2 q.v::ToR pt2 q.t::aD H mv2 q.out.msgs::Fz H::aA b (aI m (.slice vad m.es.length vcap)) 38::R) (fun x y=>aK p q pl2 pv2 pt2 mv2::aH pl2 q.l::VoR pv2 q.v::ToR pt2 q.t::aD H mv2 q.out.msgs::Fz H::aA b (aI m (.slice vad m.es.length vcap)) 38::R) (fun x y z=>[]) (fun x y z t=>[]) hs hw ?kk ⟨drs,drs,drs,drs,?f4,drs,drs,drs,drs,drs,drs,drs,drm,drs,drs,drs,drs,drm,drs,drs,trivial⟩
     case f4=>
      refine ⟨?_,trivial,trivial,trivial,trivial⟩;intro x y z t LD a W hs hw;refine sv hs hw fun a hs=>?_;rw [c5] at hs;exact ⟨hs,hw⟩
     case kk=>
      intro _ _ a W hs hw;have hw:Has 0 w0 W (aF H p q::Fz H::aA b (aI m (.slice vad m.es.length vcap)) 38::R):=cG hw;refine sc hs ?_;exact cP hs rfl ⟨rfl,H,Fh.le.refl H,hw.sl⟩
    |true=>
     refine bG [12,17] [.f 0 0,.f 0 0,.f 0 0,.f 0 0,.f 0 0,.f 0 0,.f 0 0,.f 0 0,.f 0 0,.f 0 0,.f 0 0,.f 0 0,.m 0,.f 0 1,.f 0 1,.f 0 1,.f 0 1,.m 1,.f 2 2,.f 2 2] [.c0 _,.c0 _,.c0 _,.c0 _,.c0 (.bool true),.c0 _,.c0 _,.c0 _,.c0 _,.c0 _,.c0 _,.c0 _,.c1 (fun x=> .int .i64 (bM q.t m.from_)),.c0 _,.c0 _,.c0 _,.c0 _,.c2 (fun x y=> .int .i64 q.l.last),.c2 _,.c2 _] (aK p q pl2 pv2 pt2 mv2::aH pl2 q.l::VoR pv2 q.v::ToR pt2 q.t::aD H mv2 q.out.msgs::Fz H::aA b (aI m (.slice vad m.es.length vcap)) 38::R) (fun x=>aK p q pl2 pv2 pt2 mv2::aH pl2 q.l::VoR pv2 q.v::ToR pt2 q.t::aD H mv2 q.out.msgs::Fz H::aA b (aI m (.slice vad m.es.length vcap)) 38::R) (fun x y=>aK p q pl2 pv2 pt2 mv2::aH pl2 q.l::VoR pv2 q.v::ToR pt2 q.t::aD H mv2 q.out.msgs::Fz H::aA b (aI m (.slice vad m.es.length vcap)) 38::R) (fun x y z=>[]) (fun x y z t=>[]) hs hw ?kk ⟨drs,drs,drs,drs,?f4,drs,drs,drs,drs,drs,drs,drs,?m0,drs,drs,drs,drs,drm,drs,drs,trivial⟩
     case f4=>
      refine ⟨?_,trivial,trivial,trivial,trivial⟩;intro x y z t LD a W hs hw;refine sv hs hw fun a hs=>?_;rw [c5] at hs;exact ⟨hs,hw⟩
     case m0=>
      intro x y z t LD a W hs hw;refine sc hs ?_;have hw:Has 0 w0 W (ToR pt2 q.t::aK p q pl2 pv2 pt2 mv2::aH pl2 q.l::VoR pv2 q.v::aD H mv2 q.out.msgs::Fz H::aA b (aI m (.slice vad m.es.length vcap)) 38::R):=hw.pm;refine cl hs (yU hw) fun a W hs hw=>?_;exact ⟨{},hs,hw.pm⟩
     case kk=>
     intro _ _ a W hs hw;have hw:Has 0 w0 W (aF H p q::Fz H::aA b (aI m (.slice vad m.es.length vcap)) 38::R):=cG hw;replace hs:Slots a 70 [(0,ptr p),(3,ptr b),(65,.bool (decide (bM q.t m.from_≤q.l.last)))]:=hs.ot;cases c6:decide (bM q.t m.from_≤q.l.last) with
     |true=>
      rw [c6] at hs;refine sv hs hw fun a hs=>?_;refine aG hs (hc:=tZ m.from_ (by omega) hw) (k:=?_);rintro e' W' ⟨rfl,H3,hle3,hw⟩;refine ⟨_,rfl,fun a hs=>?_⟩;refine sc hs ?_;exact cP hs rfl ⟨rfl,H3,hle3,hw.sl⟩
     |false=>
      rw [c6] at hs;refine sc hs ?_;exact cP hs rfl ⟨rfl,H,Fh.le.refl H,hw.sl⟩
   |false=>
    rw [c4] at hs;obtain ⟨q,hq⟩:∃q,q=({r with t:=(gL r.t m.from_ m.ix).1}:RaftD):=⟨_,rfl⟩
    refine sc hs ?_;have hmq:q.out.msgs.length≤900:=by rw [hq];exact hl
    have heq:r.ack m=match (q.role == 2) && decide (bM q.t m.from_≤q.l.last) with
     |true=>q.send m.from_
     |false=>q:=by
     rw [hq,he,c3];simp only [c4]
    rw [heq];rw [←hq] at hqw;clear hw;obtain ⟨pl2,pv2,pt2,mv2,hw⟩:=dG hqw;replace hs:Slots a 70 [(0,ptr p),(3,ptr b)]:=hs.ot;cases c5:(q.role == 2) with
    |false=>
     refine bG [12,17] [.f 0 0,.f 0 0,.f 0 0,.f 0 0,.f 0 0,.f 0 0,.f 0 0,.f 0 0,.f 0 0,.f 0 0,.f 0 0,.f 0 0,.m 0,.f 0 1,.f 0 1,.f 0 1,.f 0 1,.m 1,.f 2 2,.f 2 2] [.c0 _,.c0 _,.c0 _,.c0 _,.c0 (.bool false),.c0 _,.c0 _,.c0 _,.c0 _,.c0 _,.c0 _,.c0 _,.c1 (fun x=>undef),.c0 _,.c0 _,.c0 _,.c0 _,.c2 (fun x y=>undef),.c2 _,.c2 _] (aK p q pl2 pv2 pt2 mv2::aH pl2 q.l::VoR pv2 q.v::ToR pt2 q.t::aD H mv2 q.out.msgs::Fz H::aA b (aI m (.slice vad m.es.length vcap)) 38::R) (fun x=>aK p q pl2 pv2 pt2 mv2::aH pl2 q.l::VoR pv2 q.v::ToR pt2 q.t::aD H mv2 q.out.msgs::Fz H::aA b (aI m (.slice vad m.es.length vcap)) 38::R) (fun x y=>aK p q pl2 pv2 pt2 mv2::aH pl2 q.l::VoR pv2 q.v::ToR pt2 q.t::aD H mv2 q.out.msgs::Fz H::aA b (aI m (.slice vad m.es.length vcap)) 38::R) (fun x y z=>[]) (fun x y z t=>[]) hs hw ?kk ⟨drs,drs,drs,drs,?f4,drs,drs,drs,drs,drs,drs,drs,drm,drs,drs,drs,drs,drm,drs,drs,trivial⟩
     case f4=>
      refine ⟨?_,trivial,trivial,trivial,trivial⟩;intro x y z t LD a W hs hw;refine sv hs hw fun a hs=>?_;rw [c5] at hs;exact ⟨hs,hw⟩
     case kk=>
      intro _ _ a W hs hw;have hw:Has 0 w0 W (aF H p q::Fz H::aA b (aI m (.slice vad m.es.length vcap)) 38::R):=cG hw;refine sc hs ?_;exact cP hs rfl ⟨rfl,H,Fh.le.refl H,hw.sl⟩
    |true=>
     refine bG [12,17] [.f 0 0,.f 0 0,.f 0 0,.f 0 0,.f 0 0,.f 0 0,.f 0 0,.f 0 0,.f 0 0,.f 0 0,.f 0 0,.f 0 0,.m 0,.f 0 1,.f 0 1,.f 0 1,.f 0 1,.m 1,.f 2 2,.f 2 2] [.c0 _,.c0 _,.c0 _,.c0 _,.c0 (.bool true),.c0 _,.c0 _,.c0 _,.c0 _,.c0 _,.c0 _,.c0 _,.c1 (fun x=> .int .i64 (bM q.t m.from_)),.c0 _,.c0 _,.c0 _,.c0 _,.c2 (fun x y=> .int .i64 q.l.last),.c2 _,.c2 _] (aK p q pl2 pv2 pt2 mv2::aH pl2 q.l::VoR pv2 q.v::ToR pt2 q.t::aD H mv2 q.out.msgs::Fz H::aA b (aI m (.slice vad m.es.length vcap)) 38::R) (fun x=>aK p q pl2 pv2 pt2 mv2::aH pl2 q.l::VoR pv2 q.v::ToR pt2 q.t::aD H mv2 q.out.msgs::Fz H::aA b (aI m (.slice vad m.es.length vcap)) 38::R) (fun x y=>aK p q pl2 pv2 pt2 mv2::aH pl2 q.l::VoR pv2 q.v::ToR pt2 q.t::aD H mv2 q.out.msgs::Fz H::aA b (aI m (.slice vad m.es.length vcap)) 38::R) (fun x y z=>[]) (fun x y z t=>[]) hs hw ?kk ⟨drs,drs,drs,drs,?f4,drs,drs,drs,drs,drs,drs,drs,?m0,drs,drs,drs,drs,drm,drs,drs,trivial⟩
     case f4=>
      refine ⟨?_,trivial,trivial,trivial,trivial⟩;intro x y z t LD a W hs hw;refine sv hs hw fun a hs=>?_;rw [c5] at hs;exact ⟨hs,hw⟩
     case m0=>
      intro x y z t LD a W hs hw;refine sc hs ?_;have hw:Has 0 w0 W (ToR pt2 q.t::aK p q pl2 pv2 pt2 mv2::aH pl2 q.l::VoR pv2 q.v::aD H mv2 q.out.msgs::Fz H::aA b (aI m (.slice vad m.es.length vcap)) 38::R):=hw.pm;refine cl hs (yU hw) fun a W hs hw=>?_;exact ⟨{},hs,hw.pm⟩
     case kk=>
     intro _ _ a W hs hw;have hw:Has 0 w0 W (aF H p q::Fz H::aA b (aI m (.slice vad m.es.length vcap)) 38::R):=cG hw;replace hs:Slots a 70 [(0,ptr p),(3,ptr b),(65,.bool (decide (bM q.t m.from_≤q.l.last)))]:=hs.ot;cases c6:decide (bM q.t m.from_≤q.l.last) with
     |true=>
      rw [c6] at hs;refine sv hs hw fun a hs=>?_;refine aG hs (hc:=tZ m.from_ (by omega) hw) (k:=?_);rintro e' W' ⟨rfl,H3,hle3,hw⟩;refine ⟨_,rfl,fun a hs=>?_⟩;refine sc hs ?_;exact cP hs rfl ⟨rfl,H3,hle3,hw.sl⟩
     |false=>
      rw [c6] at hs;refine sc hs ?_;exact cP hs rfl ⟨rfl,H,Fh.le.refl H,hw.sl⟩
end
end Go.Proofs.YtgpbngfehfbndaaGreatDoor.Sw
