/-
  Texts of the proof, one behind the other (part 8).
-/
import Derived.Test.YtgpbngfehfbndaaGreatDoorM5
import Derived.Test.YtgpbngfehfbndaaGreatDoorM6
import Derived.Test.YtgpbngfehfbndaaGreatDoorM7
set_option maxHeartbeats 16000000
set_option linter.unusedVariables false
set_option maxRecDepth 10000
namespace Go.Proofs.YtgpbngfehfbndaaGreatDoor.Sw
open Go.RowKit Go.Sx
section
variable {H H':Fh} {p pl:Nat} {pv pt mv:Value} {r:RaftD} {w0 W:World} {R L:List Res} {l:List bP} {v:Value}
theorem aHU (m:bP) (v:Value) (hm:fO H v m.es) (hn:m.es.length≤200) (hes:∀e∈m.es,0≤e.ix∧e.data.size≤1000000) (hl:r.out.msgs.length≤900) (hw:Has 0 w0 W (aG H p r::Fz H::R)):
  Calls Tryz.prog 143 ⟨[ptr p,.agg ⟨aH m v⟩]⟩ W fun e W'=>e= .returned (.tuple ⟨[]⟩)∧Has 0 w0 W' (aG H p (r.append m)::Fz H::R):=by
 obtain ⟨vad,vcap,rfl⟩:=hm.slice
 obtain ⟨q,hq⟩:∃q,q=({r with role:=0,leader:=m.from_,heard:=true}:RaftD):=⟨_,rfl⟩
 have hql:q.out.msgs.length≤900:=by rw [hq];exact hl
 have he:r.append m=match r.role == 2 with
  |true=>r
  |false=>match !q.l.fits m.ix m.lterm && decide (m.ix≥q.commit) with
   |true=>q.say {cP with kind:=4,to_:=m.from_,ix:=max (min q.l.last (w64 (m.ix - 1))) 0}
   |false=>
    match (q.l.put (m.es.dropWhile fun e=>decide (e.ix≤q.commit))).2.2 with
    |false=>({q with l:=(q.l.put (m.es.dropWhile fun e=>decide (e.ix≤q.commit))).1}.changed (q.l.put (m.es.dropWhile fun e=>decide (e.ix≤q.commit))).2.1).say {cP with kind:=4,to_:=m.from_,ix:=({q with l:=(q.l.put (m.es.dropWhile fun e=>decide (e.ix≤q.commit))).1}.changed (q.l.put (m.es.dropWhile fun e=>decide (e.ix≤q.commit))).2.1).l.last}
    |true=>{({q with l:=(q.l.put (m.es.dropWhile fun e=>decide (e.ix≤q.commit))).1}.changed (q.l.put (m.es.dropWhile fun e=>decide (e.ix≤q.commit))).2.1) with commit:=max ({q with l:=(q.l.put (m.es.dropWhile fun e=>decide (e.ix≤q.commit))).1}.changed (q.l.put (m.es.dropWhile fun e=>decide (e.ix≤q.commit))).2.1).commit (min m.commit (w64 (m.ix+(m.es.length:Int))))}.say {cP with kind:=4,to_:=m.from_,yes:=true,ix:=w64 (m.ix+(m.es.length:Int))}:=by rw [hq];rfl
 refine enter Tryz.func143 Tryz.ntmps143 rfl rfl fun a hs=>?_
 refine sc hs ?_
 refine sn hs hw fun b a W hs hw=>?_
 refine sv hs hw fun a hs=>?_
 refine cl hs (aHQ m (.slice vad m.es.length vcap) ⟨_,_,rfl⟩ hw.swap2) fun a W hs hw=>?_
 cases c1:(r.role == 2) with
 |true=>
  rw [c1] at hs he hw
  rw [he]
  refine sv hs hw fun a hs=>?_
  exact rt0 hs rfl ⟨rfl,hw.sl⟩
 |false=>
 rw [c1] at hs he hw
 replace hw:Has 0 w0 W (aG H p {r with role:=0,leader:=m.from_,heard:=true}::aA b (aH m (.slice vad m.es.length vcap)) 38::Fz H::R):=hw
 rw [←hq] at hw
 refine sv hs hw fun a hs=>?_
 obtain ⟨pl,pv,pt,mv,hw⟩:=dG hw
 replace hw:Has 0 w0 W (aA b (aH m (.slice vad m.es.length vcap)) 38::aK p q pl pv pt mv::aI pl q.l::VoR pv q.v::ToR pt q.t::aC H mv q.out.msgs::Fz H::R):=hw.pm
 have fin:∀{W},Has 0 w0 W (aA b (aH m (.slice vad m.es.length vcap)) 38::aK p q pl pv pt mv::aI pl q.l::VoR pv q.v::ToR pt q.t::aC H mv q.out.msgs::Fz H::R)→Has 0 w0 W (aG H p q::aA b (aH m (.slice vad m.es.length vcap)) 38::Fz H::R):=fun h=>cF (h.pm)
 rw [he]
 clear he hq
 cases c2:q.l.fits m.ix m.lterm with
 |false=>
  refine bF [8] [.f 0 0,.f 0 0,.f 0 0,.f 0 0,.f 0 0,.f 0 0,.f 0 0,.f 0 0,.m 0,.f 1 1,.f 1 1,.f 1 1,.f 1 1,.f 1 1,.f 1 1,.f 1 1,.f 1 1,.f 1 1,.f 1 1] [.c0 _,.c0 _,.c0 _,.c0 _,.c0 _,.c0 _,.c0 _,.c0 _,.c1 (fun x=> .bool false),.c1 _,.c1 _,.c1 _,.c1 _,.c1 _,.c1 _,.c1 _,.c1 _,.c1 _,.c1 _] (aA b (aH m (.slice vad m.es.length vcap)) 38::aK p q pl pv pt mv::aI pl q.l::VoR pv q.v::ToR pt q.t::aC H mv q.out.msgs::Fz H::R) (fun x=>aA b (aH m (.slice vad m.es.length vcap)) 38::aK p q pl pv pt mv::aI pl q.l::VoR pv q.v::ToR pt q.t::aC H mv q.out.msgs::Fz H::R) (fun x y=>[]) (fun x y z=>[]) (fun x y z t=>[]) hs hw ?kk ⟨drs,drs,drs,drs,drs,drs,drs,drs,?m0,drs,drs,drs,drs,drs,drs,drs,drs,drs,drs,trivial⟩
  case m0=>
   intro x y z t LD a W hs hw
   refine sx hs hw fun a W hs hw=>?_
   rw [c2] at hs
   exact ⟨{},hs,hw⟩
  case kk=>
  intro _ a W hs hw
  replace hs:Slots a 107 [(0,ptr p),(3,ptr b),(28,.bool (decide (m.ix≥q.commit)))]:=hs.of ⟨rfl,rfl,rfl,trivial⟩
  cases c3:decide (m.ix≥q.commit) with
  |true=>
   rw [c3] at hs
   refine sc hs ?_
   refine bF [7,14] [.f 0 1,.f 0 1,.f 0 1,.f 0 0,.f 0 0,.f 0 0,.f 0 0,.m 0,.f 0 1,.f 0 1,.f 0 1,.f 1 1,.f 1 1,.f 1 1,.m 1] [.c0 _,.c0 _,.c0 _,.c0 _,.c0 _,.c0 _,.c0 _,.c1 (fun x=> .int .i64 q.l.last),.c0 _,.c0 _,.c0 _,.c1 _,.c1 _,.c1 _,.c2 (fun x y=> .tuple ⟨[]⟩)] (aA b (aH m (.slice vad m.es.length vcap)) 38::aK p q pl pv pt mv::aI pl q.l::VoR pv q.v::ToR pt q.t::aC H mv q.out.msgs::Fz H::R) (fun x=>aA b (aH m (.slice vad m.es.length vcap)) 38::aK p q pl pv pt mv::aI pl q.l::VoR pv q.v::ToR pt q.t::aC H mv q.out.msgs::Fz H::R) (fun x y=>aG H p (q.say {cP with kind:=4,to_:=m.from_,ix:=max (min q.l.last (w64 (m.ix - 1))) 0})::aA b (aH m (.slice vad m.es.length vcap)) 38::Fz H::R) (fun x y z=>[]) (fun x y z t=>[]) hs hw ?kk ⟨drs,drs,drs,drs,drs,drs,drs,drm,drs,drs,drs,drs,drs,drs,?m1,trivial⟩
   case m1=>
    intro x y z t LD a W hs hw
    refine cl hs (fH {cP with kind:=4,to_:=m.from_,ix:=max (min q.l.last (w64 (m.ix - 1))) 0} (.slice none 0 0) fP (by show (0:Nat)≤1000000;omega) (by omega) (fin hw)) fun a W hs hw=>?_
    exact ⟨{},hs,hw⟩
   case kk=>
    intro _ _ a W hs hw
    refine sc hs ?_
    exact rt0 hs rfl ⟨rfl,hw.sl⟩
  |false=>
   rw [c3] at hs
   refine sc hs ?_
   replace hs:Slots a 107 [(0,ptr p),(3,ptr b)]:=hs.of ⟨rfl,rfl,trivial⟩
   refine sv hs hw fun a hs=>?_
   refine bX (σ:=Nat×Option Addr×Nat) (fun s=>[(0,ptr p),(3,ptr b),(4,.int .i64 (w64 (m.ix+(m.es.length:Int)))),(5,.slice s.2.1 (m.es.length - s.1) s.2.2)]) (fun _=>aA b (aH m (.slice vad m.es.length vcap)) 38::aK p q pl pv pt mv::aI pl q.l::VoR pv q.v::ToR pt q.t::aC H mv q.out.msgs::Fz H::R) (fun s=>s.1≤m.es.length∧RdH H 4 (.slice s.2.1 (m.es.length - s.1) s.2.2) (m.es.length - s.1) ((m.es.drop s.1).flatMap bE)∧(m.es.dropWhile fun e=>decide (e.ix≤q.commit))=(m.es.drop s.1).dropWhile fun e=>decide (e.ix≤q.commit)) (fun s=>m.es.length - s.1) (0,vad,vcap) ⟨Nat.zero_le _,hm,rfl⟩ hs ⟨rfl,rfl,rfl,rfl,trivial⟩ hw ?_
   clear hs hw
   rintro ⟨j,ad,cap⟩ a W ⟨hj,hrd,hdw⟩ hs hw
   simp only at hj hrd hdw hs hw
   have hn':(m.es.drop j).length≤200:=by rw [List.length_drop];omega
   have hes':∀e∈m.es.drop j,0≤e.ix∧e.data.size≤1000000:=fun e h=>hes e (List.mem_of_mem_drop h)
   have hlenj:m.es.length - j=(m.es.drop j).length:=by rw [List.length_drop]
   by_cases hj':j=m.es.length
   ·have hz:m.es.length - j=0:=by omega
    have hg0:decide (((m.es.length - j:Nat):Int) > 0)=false:=by rw [hz];rfl
    rw [show (m.es.dropWhile fun e=>decide (e.ix≤q.commit))=m.es.drop j by rw [hdw,List.drop_of_length_le (by omega)];rfl]
    refine sc hs ?_
    refine bF [] [.f 0 0,.f 0 0,.f 0 0,.f 0 0,.f 0 0,.f 0 0,.f 0 0,.f 0 0,.f 0 0,.f 0 0,.f 0 0,.f 0 0,.f 0 0,.f 0 0] [.c0 _,.c0 _,.c0 (.bool false),.c0 _,.c0 _,.c0 _,.c0 _,.c0 _,.c0 _,.c0 _,.c0 _,.c0 _,.c0 _,.c0 _] (aA b (aH m (.slice vad m.es.length vcap)) 38::aK p q pl pv pt mv::aI pl q.l::VoR pv q.v::ToR pt q.t::aC H mv q.out.msgs::Fz H::R) (fun x=>[]) (fun x y=>[]) (fun x y z=>[]) (fun x y z t=>[]) hs hw ?kk ⟨drs,drs,?f2,drs,drs,drs,drs,drs,drs,drs,drs,drs,drs,drs,trivial⟩
    case f2=>
     refine ⟨?_,trivial,trivial,trivial,trivial⟩
     intro x y z t LD a W hs hw
     refine sv hs hw fun a hs=>?_
     rw [hg0] at hs
     exact ⟨hs,hw⟩
    case kk=>
    intro a W hs hw
    replace hs:Slots a 107 [(0,ptr p),(3,ptr b),(4,.int .i64 (w64 (m.ix+(m.es.length:Int)))),(5,.slice ad (m.es.length - j) cap),(65,.bool false)]:=hs.of ⟨rfl,rfl,rfl,rfl,rfl,trivial⟩
    generalize m.es.drop j=es at *
    rw [hlenj] at hs hrd
    refine sv hs hw fun a hs=>?_
    have hw:Has 0 w0 W (aI pl q.l::aA b (aH m (.slice vad m.es.length vcap)) 38::aK p q pl pv pt mv::VoR pv q.v::ToR pt q.t::aC H mv q.out.msgs::Fz H::R):=hw.pm
    refine cl hs (pZ es (.slice ad es.length cap) hn' hes' (fun h=>h.rdH (by repeat (first|exact In.hd|apply In.tl)) hrd) hw) fun a W hs hw=>?_
    have hw:Has 0 w0 W (aG H p {q with l:=(q.l.put es).1}::aA b (aH m (.slice vad m.es.length vcap)) 38::Fz H::R):=cF (r:={q with l:=(q.l.put es).1}) (hw.pm)
    refine sv hs hw fun a hs=>?_
    refine cl hs (qE _ _ hw) fun a W hs hw=>?_
    have hgl:(RaftD.changed {q with l:=(q.l.put es).1} (q.l.put es).2.1).out.msgs.length≤900:=by rw [qJ];exact hql
    generalize RaftD.changed {q with l:=(q.l.put es).1} (q.l.put es).2.1=g at *
    obtain ⟨pl2,pv2,pt2,mv2,hw⟩:=dG hw
    replace hw:Has 0 w0 W (aK p g pl2 pv2 pt2 mv2::aI pl2 g.l::VoR pv2 g.v::ToR pt2 g.t::aC H mv2 g.out.msgs::aA b (aH m (.slice vad m.es.length vcap)) 38::Fz H::R):=hw
    cases c4:(q.l.put es).2.2 with
    |false=>
     rw [c4] at hs
     refine sv hs hw fun a hs=>?_
     refine bF [7,9] [.f 0 1,.f 0 1,.f 0 1,.f 0 0,.f 0 0,.f 0 0,.f 0 0,.m 0,.f 1 1,.m 1] [.c0 _,.c0 _,.c0 _,.c0 _,.c0 _,.c0 _,.c0 _,.c1 (fun x=> .int .i64 g.l.last),.c1 _,.c2 (fun x y=> .tuple ⟨[]⟩)] (aK p g pl2 pv2 pt2 mv2::aI pl2 g.l::VoR pv2 g.v::ToR pt2 g.t::aC H mv2 g.out.msgs::aA b (aH m (.slice vad m.es.length vcap)) 38::Fz H::R) (fun x=>aK p g pl2 pv2 pt2 mv2::aI pl2 g.l::VoR pv2 g.v::ToR pt2 g.t::aC H mv2 g.out.msgs::aA b (aH m (.slice vad m.es.length vcap)) 38::Fz H::R) (fun x y=>aG H p (g.say {cP with kind:=4,to_:=m.from_,ix:=g.l.last})::aA b (aH m (.slice vad m.es.length vcap)) 38::Fz H::R) (fun x y z=>[]) (fun x y z t=>[]) hs hw ?kk ⟨drs,drs,drs,drs,drs,drs,drs,drm,drs,?m1,trivial⟩
     case m1=>
      intro x y z t LD a W hs hw
      have hw:Has 0 w0 W (aG H p g::aA b (aH m (.slice vad m.es.length vcap)) 38::Fz H::R):=cF hw
      refine cl hs (fH {cP with kind:=4,to_:=m.from_,ix:=g.l.last} (.slice none 0 0) fP (by show (0:Nat)≤1000000;omega) (by omega) hw) fun a W hs hw=>?_
      exact ⟨{},hs,hw⟩
     case kk=>
      intro _ _ a W hs hw
      refine sc hs ?_
      exact rt0 hs rfl ⟨rfl,hw.sl⟩
    |true=>
     rw [c4] at hs
     refine sv hs hw fun a hs=>?_
     refine bF [12] [.f 0 0,.f 0 0,.f 0 0,.f 0 0,.f 0 0,.f 0 0,.f 0 0,.f 0 0,.f 0 0,.f 0 0,.f 0 0,.f 0 0,.m 0] [.c0 _,.c0 _,.c0 _,.c0 _,.c0 _,.c0 _,.c0 _,.c0 _,.c0 _,.c0 _,.c0 _,.c0 _,.c1 (fun x=>undef)] (aK p g pl2 pv2 pt2 mv2::aI pl2 g.l::VoR pv2 g.v::ToR pt2 g.t::aC H mv2 g.out.msgs::aA b (aH m (.slice vad m.es.length vcap)) 38::Fz H::R) (fun x=>gQ p g.id g.h.term g.h.vote pl2 (max g.commit (min m.commit (w64 (m.ix+(m.es.length:Int))))) g.role g.leader g.heard pv2 pt2 mv2 g.out.hard g.out.from_ g.out.snap::aI pl2 g.l::VoR pv2 g.v::ToR pt2 g.t::aC H mv2 g.out.msgs::aA b (aH m (.slice vad m.es.length vcap)) 38::Fz H::R) (fun x y=>[]) (fun x y z=>[]) (fun x y z t=>[]) hs hw ?kk ⟨drs,drs,drs,drs,drs,drs,drs,drs,drs,drs,drs,drs,drm,trivial⟩
     case kk=>
      intro _ a W hs hw
      refine sv hs hw fun a hs=>?_
      have hw:Has 0 w0 W (aG H p {g with commit:=max g.commit (min m.commit (w64 (m.ix+(m.es.length:Int))))}::aA b (aH m (.slice vad m.es.length vcap)) 38::Fz H::R):=cF (r:={g with commit:=max g.commit (min m.commit (w64 (m.ix+(m.es.length:Int))))}) hw
      refine cl hs (fH (r:={g with commit:=max g.commit (min m.commit (w64 (m.ix+(m.es.length:Int))))}) {cP with kind:=4,to_:=m.from_,yes:=true,ix:=w64 (m.ix+(m.es.length:Int))} (.slice none 0 0) fP (by show (0:Nat)≤1000000;omega) (by show g.out.msgs.length≤1000;omega) hw) fun a W hs hw=>?_
      refine sc hs ?_
      exact cO hs rfl ⟨rfl,hw.sl⟩
   ·have hlt:j<m.es.length:=by omega
    obtain ⟨e',he',hd⟩:=dS hlt
    obtain ⟨b',o',cap',hv,hcap'⟩:=j8 (hw.rdH (by repeat (first|exact In.hd|apply In.tl)) hrd) (by omega)
    injection hv with hv1 _ hv2
    subst hv1 hv2
    have hcell:∀{W},Has 0 w0 W (aA b (aH m (.slice vad m.es.length vcap)) 38::aK p q pl pv pt mv::aI pl q.l::VoR pv q.v::ToR pt q.t::aC H mv q.out.msgs::Fz H::R)→_:=fun {W} h=>lS (h.rdH (by repeat (first|exact In.hd|apply In.tl)) hrd) (by omega)
    have hfh:=pY hd
    have hk0:(0:Int)≤0:=by omega
    have hk1:(0:Int)<((m.es.length - j:Nat):Int):=by omega
    have hg0:decide (((m.es.length - j:Nat):Int) > 0)=true:=decide_eq_true hk1
    refine sc hs ?_
    refine bF [] [.f 0 0,.f 0 0,.f 0 0,.f 0 0,.f 0 0,.f 0 0,.f 0 0,.f 0 0,.f 0 0,.f 0 0,.f 0 0,.f 0 0,.f 0 0,.f 0 0] [.c0 _,.c0 _,.c0 (.bool true),.c0 _,.c0 _,.c0 _,.c0 _,.c0 (.int .i64 e'.ix),.c0 _,.c0 _,.c0 _,.c0 _,.c0 _,.c0 _] (aA b (aH m (.slice vad m.es.length vcap)) 38::aK p q pl pv pt mv::aI pl q.l::VoR pv q.v::ToR pt q.t::aC H mv q.out.msgs::Fz H::R) (fun x=>[]) (fun x y=>[]) (fun x y z=>[]) (fun x y z t=>[]) hs hw ?kk ⟨drs,drs,?f2,drs,drs,drs,drs,?f7,drs,drs,drs,drs,drs,drs,trivial⟩
    case f2=>
     refine ⟨?_,trivial,trivial,trivial,trivial⟩
     intro x y z t LD a W hs hw
     refine sv hs hw fun a hs=>?_
     rw [hg0] at hs
     exact ⟨hs,hw⟩
    case f7=>
     refine ⟨?_,trivial,trivial,trivial,trivial⟩
     intro x y z t LD a W hs hw
     refine sc hs ?_
     refine eP hs (hc:=hcell hw 0 _ hfh.1) (c:=fun a hs=>?_)
     exact ⟨hs,hw⟩
    case kk=>
    intro a W hs hw
    replace hs:Slots a 107 [(0,ptr p),(3,ptr b),(4,.int .i64 (w64 (m.ix+(m.es.length:Int)))),(5,.slice (some ⟨b',o',none⟩) (m.es.length - j) cap),(65,.bool (decide (e'.ix≤q.commit)))]:=hs.of ⟨rfl,rfl,rfl,rfl,rfl,trivial⟩
    cases c5:decide (e'.ix≤q.commit) with
    |true=>
     rw [c5] at hs
     refine sv hs hw fun a hs=>?_
     refine aAD (i:=1) hs hrd (by omega) (by omega) (c:=fun a v' hr' hs=>?_)
     obtain ⟨ad2,cap2,rfl⟩:=hr'.slice
     refine sv hs hw fun a hs=>?_
     have hl2:m.es.length - (j+1)=m.es.length - j - (1:Int).toNat:=by show m.es.length - (j+1)=m.es.length - j - 1;omega
     have hfl:(m.es.drop (j+1)).flatMap bE=((m.es.drop j).flatMap bE).drop ((1:Int).toNat*4):=by rw [hd,List.flatMap_cons];rfl
     exact bR (j+1,ad2,cap2) hs hw ⟨hlt,by rw [hl2,hfl];exact hr',by rw [hdw,hd,List.dropWhile_cons,if_pos c5]⟩ (by show m.es.length - (j+1)<m.es.length - j;omega) ⟨rfl,rfl,rfl,by rw [hl2];rfl,trivial⟩
    |false=>
     rw [c5] at hs
     rw [show (m.es.dropWhile fun e=>decide (e.ix≤q.commit))=m.es.drop j by rw [hdw,hd,List.dropWhile_cons,if_neg (by rw [c5];simp)]]
     clear hcell hfh hd
     generalize (some (⟨b',o',none⟩:Addr))=ad at *
     generalize m.es.drop j=es at *
     rw [hlenj] at hs hrd
     refine sv hs hw fun a hs=>?_
     have hw:Has 0 w0 W (aI pl q.l::aA b (aH m (.slice vad m.es.length vcap)) 38::aK p q pl pv pt mv::VoR pv q.v::ToR pt q.t::aC H mv q.out.msgs::Fz H::R):=hw.pm
     refine cl hs (pZ es (.slice ad es.length cap) hn' hes' (fun h=>h.rdH (by repeat (first|exact In.hd|apply In.tl)) hrd) hw) fun a W hs hw=>?_
     have hw:Has 0 w0 W (aG H p {q with l:=(q.l.put es).1}::aA b (aH m (.slice vad m.es.length vcap)) 38::Fz H::R):=cF (r:={q with l:=(q.l.put es).1}) (hw.pm)
     refine sv hs hw fun a hs=>?_
     refine cl hs (qE _ _ hw) fun a W hs hw=>?_
     have hgl:(RaftD.changed {q with l:=(q.l.put es).1} (q.l.put es).2.1).out.msgs.length≤900:=by rw [qJ];exact hql
     generalize RaftD.changed {q with l:=(q.l.put es).1} (q.l.put es).2.1=g at *
     obtain ⟨pl2,pv2,pt2,mv2,hw⟩:=dG hw
     replace hw:Has 0 w0 W (aK p g pl2 pv2 pt2 mv2::aI pl2 g.l::VoR pv2 g.v::ToR pt2 g.t::aC H mv2 g.out.msgs::aA b (aH m (.slice vad m.es.length vcap)) 38::Fz H::R):=hw
     cases c4:(q.l.put es).2.2 with
     |false=>
      rw [c4] at hs
      refine sv hs hw fun a hs=>?_
      refine bF [7,9] [.f 0 1,.f 0 1,.f 0 1,.f 0 0,.f 0 0,.f 0 0,.f 0 0,.m 0,.f 1 1,.m 1] [.c0 _,.c0 _,.c0 _,.c0 _,.c0 _,.c0 _,.c0 _,.c1 (fun x=> .int .i64 g.l.last),.c1 _,.c2 (fun x y=> .tuple ⟨[]⟩)] (aK p g pl2 pv2 pt2 mv2::aI pl2 g.l::VoR pv2 g.v::ToR pt2 g.t::aC H mv2 g.out.msgs::aA b (aH m (.slice vad m.es.length vcap)) 38::Fz H::R) (fun x=>aK p g pl2 pv2 pt2 mv2::aI pl2 g.l::VoR pv2 g.v::ToR pt2 g.t::aC H mv2 g.out.msgs::aA b (aH m (.slice vad m.es.length vcap)) 38::Fz H::R) (fun x y=>aG H p (g.say {cP with kind:=4,to_:=m.from_,ix:=g.l.last})::aA b (aH m (.slice vad m.es.length vcap)) 38::Fz H::R) (fun x y z=>[]) (fun x y z t=>[]) hs hw ?kk ⟨drs,drs,drs,drs,drs,drs,drs,drm,drs,?m1,trivial⟩
      case m1=>
       intro x y z t LD a W hs hw
       have hw:Has 0 w0 W (aG H p g::aA b (aH m (.slice vad m.es.length vcap)) 38::Fz H::R):=cF hw
       refine cl hs (fH {cP with kind:=4,to_:=m.from_,ix:=g.l.last} (.slice none 0 0) fP (by show (0:Nat)≤1000000;omega) (by omega) hw) fun a W hs hw=>?_
       exact ⟨{},hs,hw⟩
      case kk=>
       intro _ _ a W hs hw
       refine sc hs ?_
       exact rt0 hs rfl ⟨rfl,hw.sl⟩
     |true=>
      rw [c4] at hs
      refine sv hs hw fun a hs=>?_
      refine bF [12] [.f 0 0,.f 0 0,.f 0 0,.f 0 0,.f 0 0,.f 0 0,.f 0 0,.f 0 0,.f 0 0,.f 0 0,.f 0 0,.f 0 0,.m 0] [.c0 _,.c0 _,.c0 _,.c0 _,.c0 _,.c0 _,.c0 _,.c0 _,.c0 _,.c0 _,.c0 _,.c0 _,.c1 (fun x=>undef)] (aK p g pl2 pv2 pt2 mv2::aI pl2 g.l::VoR pv2 g.v::ToR pt2 g.t::aC H mv2 g.out.msgs::aA b (aH m (.slice vad m.es.length vcap)) 38::Fz H::R) (fun x=>gQ p g.id g.h.term g.h.vote pl2 (max g.commit (min m.commit (w64 (m.ix+(m.es.length:Int))))) g.role g.leader g.heard pv2 pt2 mv2 g.out.hard g.out.from_ g.out.snap::aI pl2 g.l::VoR pv2 g.v::ToR pt2 g.t::aC H mv2 g.out.msgs::aA b (aH m (.slice vad m.es.length vcap)) 38::Fz H::R) (fun x y=>[]) (fun x y z=>[]) (fun x y z t=>[]) hs hw ?kk ⟨drs,drs,drs,drs,drs,drs,drs,drs,drs,drs,drs,drs,drm,trivial⟩
      case kk=>
       intro _ a W hs hw
       refine sv hs hw fun a hs=>?_
       have hw:Has 0 w0 W (aG H p {g with commit:=max g.commit (min m.commit (w64 (m.ix+(m.es.length:Int))))}::aA b (aH m (.slice vad m.es.length vcap)) 38::Fz H::R):=cF (r:={g with commit:=max g.commit (min m.commit (w64 (m.ix+(m.es.length:Int))))}) hw
       refine cl hs (fH (r:={g with commit:=max g.commit (min m.commit (w64 (m.ix+(m.es.length:Int))))}) {cP with kind:=4,to_:=m.from_,yes:=true,ix:=w64 (m.ix+(m.es.length:Int))} (.slice none 0 0) fP (by show (0:Nat)≤1000000;omega) (by show g.out.msgs.length≤1000;omega) hw) fun a W hs hw=>?_
       refine sc hs ?_
       exact cO hs rfl ⟨rfl,hw.sl⟩
 |true=>
  refine bF [8] [.f 0 0,.f 0 0,.f 0 0,.f 0 0,.f 0 0,.f 0 0,.f 0 0,.f 0 0,.m 0,.f 1 1,.f 1 1,.f 1 1,.f 1 1,.f 1 1,.f 1 1,.f 1 1,.f 1 1,.f 1 1,.f 1 1] [.c0 _,.c0 _,.c0 _,.c0 _,.c0 _,.c0 _,.c0 _,.c0 _,.c1 (fun x=> .bool true),.c1 _,.c1 _,.c1 _,.c1 _,.c1 _,.c1 _,.c1 _,.c1 _,.c1 _,.c1 _] (aA b (aH m (.slice vad m.es.length vcap)) 38::aK p q pl pv pt mv::aI pl q.l::VoR pv q.v::ToR pt q.t::aC H mv q.out.msgs::Fz H::R) (fun x=>aA b (aH m (.slice vad m.es.length vcap)) 38::aK p q pl pv pt mv::aI pl q.l::VoR pv q.v::ToR pt q.t::aC H mv q.out.msgs::Fz H::R) (fun x y=>[]) (fun x y z=>[]) (fun x y z t=>[]) hs hw ?kk ⟨drs,drs,drs,drs,drs,drs,drs,drs,?m0,drs,drs,drs,drs,drs,drs,drs,drs,drs,drs,trivial⟩
  case m0=>
   intro x y z t LD a W hs hw
   refine sx hs hw fun a W hs hw=>?_
   rw [c2] at hs
   exact ⟨{},hs,hw⟩
  case kk=>
  intro _ a W hs hw
  replace hs:Slots a 107 [(0,ptr p),(3,ptr b),(28,.bool false)]:=hs.of ⟨rfl,rfl,rfl,trivial⟩
  refine sv hs hw fun a hs=>?_
  refine bX (σ:=Nat×Option Addr×Nat) (fun s=>[(0,ptr p),(3,ptr b),(4,.int .i64 (w64 (m.ix+(m.es.length:Int)))),(5,.slice s.2.1 (m.es.length - s.1) s.2.2)]) (fun _=>aA b (aH m (.slice vad m.es.length vcap)) 38::aK p q pl pv pt mv::aI pl q.l::VoR pv q.v::ToR pt q.t::aC H mv q.out.msgs::Fz H::R) (fun s=>s.1≤m.es.length∧RdH H 4 (.slice s.2.1 (m.es.length - s.1) s.2.2) (m.es.length - s.1) ((m.es.drop s.1).flatMap bE)∧(m.es.dropWhile fun e=>decide (e.ix≤q.commit))=(m.es.drop s.1).dropWhile fun e=>decide (e.ix≤q.commit)) (fun s=>m.es.length - s.1) (0,vad,vcap) ⟨Nat.zero_le _,hm,rfl⟩ hs ⟨rfl,rfl,rfl,rfl,trivial⟩ hw ?_
  clear hs hw
  rintro ⟨j,ad,cap⟩ a W ⟨hj,hrd,hdw⟩ hs hw
  simp only at hj hrd hdw hs hw
  have hn':(m.es.drop j).length≤200:=by rw [List.length_drop];omega
  have hes':∀e∈m.es.drop j,0≤e.ix∧e.data.size≤1000000:=fun e h=>hes e (List.mem_of_mem_drop h)
  have hlenj:m.es.length - j=(m.es.drop j).length:=by rw [List.length_drop]
  by_cases hj':j=m.es.length
  ·have hz:m.es.length - j=0:=by omega
   have hg0:decide (((m.es.length - j:Nat):Int) > 0)=false:=by rw [hz];rfl
   rw [show (m.es.dropWhile fun e=>decide (e.ix≤q.commit))=m.es.drop j by rw [hdw,List.drop_of_length_le (by omega)];rfl]
   refine sc hs ?_
   refine bF [] [.f 0 0,.f 0 0,.f 0 0,.f 0 0,.f 0 0,.f 0 0,.f 0 0,.f 0 0,.f 0 0,.f 0 0,.f 0 0,.f 0 0,.f 0 0,.f 0 0] [.c0 _,.c0 _,.c0 (.bool false),.c0 _,.c0 _,.c0 _,.c0 _,.c0 _,.c0 _,.c0 _,.c0 _,.c0 _,.c0 _,.c0 _] (aA b (aH m (.slice vad m.es.length vcap)) 38::aK p q pl pv pt mv::aI pl q.l::VoR pv q.v::ToR pt q.t::aC H mv q.out.msgs::Fz H::R) (fun x=>[]) (fun x y=>[]) (fun x y z=>[]) (fun x y z t=>[]) hs hw ?kk ⟨drs,drs,?f2,drs,drs,drs,drs,drs,drs,drs,drs,drs,drs,drs,trivial⟩
   case f2=>
    refine ⟨?_,trivial,trivial,trivial,trivial⟩
    intro x y z t LD a W hs hw
    refine sv hs hw fun a hs=>?_
    rw [hg0] at hs
    exact ⟨hs,hw⟩
   case kk=>
   intro a W hs hw
   replace hs:Slots a 107 [(0,ptr p),(3,ptr b),(4,.int .i64 (w64 (m.ix+(m.es.length:Int)))),(5,.slice ad (m.es.length - j) cap),(65,.bool false)]:=hs.of ⟨rfl,rfl,rfl,rfl,rfl,trivial⟩
   generalize m.es.drop j=es at *
   rw [hlenj] at hs hrd
   refine sv hs hw fun a hs=>?_
   have hw:Has 0 w0 W (aI pl q.l::aA b (aH m (.slice vad m.es.length vcap)) 38::aK p q pl pv pt mv::VoR pv q.v::ToR pt q.t::aC H mv q.out.msgs::Fz H::R):=hw.pm
   refine cl hs (pZ es (.slice ad es.length cap) hn' hes' (fun h=>h.rdH (by repeat (first|exact In.hd|apply In.tl)) hrd) hw) fun a W hs hw=>?_
   have hw:Has 0 w0 W (aG H p {q with l:=(q.l.put es).1}::aA b (aH m (.slice vad m.es.length vcap)) 38::Fz H::R):=cF (r:={q with l:=(q.l.put es).1}) (hw.pm)
   refine sv hs hw fun a hs=>?_
   refine cl hs (qE _ _ hw) fun a W hs hw=>?_
   have hgl:(RaftD.changed {q with l:=(q.l.put es).1} (q.l.put es).2.1).out.msgs.length≤900:=by rw [qJ];exact hql
   generalize RaftD.changed {q with l:=(q.l.put es).1} (q.l.put es).2.1=g at *
   obtain ⟨pl2,pv2,pt2,mv2,hw⟩:=dG hw
   replace hw:Has 0 w0 W (aK p g pl2 pv2 pt2 mv2::aI pl2 g.l::VoR pv2 g.v::ToR pt2 g.t::aC H mv2 g.out.msgs::aA b (aH m (.slice vad m.es.length vcap)) 38::Fz H::R):=hw
   cases c4:(q.l.put es).2.2 with
   |false=>
    rw [c4] at hs
    refine sv hs hw fun a hs=>?_
    refine bF [7,9] [.f 0 1,.f 0 1,.f 0 1,.f 0 0,.f 0 0,.f 0 0,.f 0 0,.m 0,.f 1 1,.m 1] [.c0 _,.c0 _,.c0 _,.c0 _,.c0 _,.c0 _,.c0 _,.c1 (fun x=> .int .i64 g.l.last),.c1 _,.c2 (fun x y=> .tuple ⟨[]⟩)] (aK p g pl2 pv2 pt2 mv2::aI pl2 g.l::VoR pv2 g.v::ToR pt2 g.t::aC H mv2 g.out.msgs::aA b (aH m (.slice vad m.es.length vcap)) 38::Fz H::R) (fun x=>aK p g pl2 pv2 pt2 mv2::aI pl2 g.l::VoR pv2 g.v::ToR pt2 g.t::aC H mv2 g.out.msgs::aA b (aH m (.slice vad m.es.length vcap)) 38::Fz H::R) (fun x y=>aG H p (g.say {cP with kind:=4,to_:=m.from_,ix:=g.l.last})::aA b (aH m (.slice vad m.es.length vcap)) 38::Fz H::R) (fun x y z=>[]) (fun x y z t=>[]) hs hw ?kk ⟨drs,drs,drs,drs,drs,drs,drs,drm,drs,?m1,trivial⟩
    case m1=>
     intro x y z t LD a W hs hw
     have hw:Has 0 w0 W (aG H p g::aA b (aH m (.slice vad m.es.length vcap)) 38::Fz H::R):=cF hw
     refine cl hs (fH {cP with kind:=4,to_:=m.from_,ix:=g.l.last} (.slice none 0 0) fP (by show (0:Nat)≤1000000;omega) (by omega) hw) fun a W hs hw=>?_
     exact ⟨{},hs,hw⟩
    case kk=>
     intro _ _ a W hs hw
     refine sc hs ?_
     exact rt0 hs rfl ⟨rfl,hw.sl⟩
   |true=>
    rw [c4] at hs
    refine sv hs hw fun a hs=>?_
    refine bF [12] [.f 0 0,.f 0 0,.f 0 0,.f 0 0,.f 0 0,.f 0 0,.f 0 0,.f 0 0,.f 0 0,.f 0 0,.f 0 0,.f 0 0,.m 0] [.c0 _,.c0 _,.c0 _,.c0 _,.c0 _,.c0 _,.c0 _,.c0 _,.c0 _,.c0 _,.c0 _,.c0 _,.c1 (fun x=>undef)] (aK p g pl2 pv2 pt2 mv2::aI pl2 g.l::VoR pv2 g.v::ToR pt2 g.t::aC H mv2 g.out.msgs::aA b (aH m (.slice vad m.es.length vcap)) 38::Fz H::R) (fun x=>gQ p g.id g.h.term g.h.vote pl2 (max g.commit (min m.commit (w64 (m.ix+(m.es.length:Int))))) g.role g.leader g.heard pv2 pt2 mv2 g.out.hard g.out.from_ g.out.snap::aI pl2 g.l::VoR pv2 g.v::ToR pt2 g.t::aC H mv2 g.out.msgs::aA b (aH m (.slice vad m.es.length vcap)) 38::Fz H::R) (fun x y=>[]) (fun x y z=>[]) (fun x y z t=>[]) hs hw ?kk ⟨drs,drs,drs,drs,drs,drs,drs,drs,drs,drs,drs,drs,drm,trivial⟩
    case kk=>
     intro _ a W hs hw
     refine sv hs hw fun a hs=>?_
     have hw:Has 0 w0 W (aG H p {g with commit:=max g.commit (min m.commit (w64 (m.ix+(m.es.length:Int))))}::aA b (aH m (.slice vad m.es.length vcap)) 38::Fz H::R):=cF (r:={g with commit:=max g.commit (min m.commit (w64 (m.ix+(m.es.length:Int))))}) hw
     refine cl hs (fH (r:={g with commit:=max g.commit (min m.commit (w64 (m.ix+(m.es.length:Int))))}) {cP with kind:=4,to_:=m.from_,yes:=true,ix:=w64 (m.ix+(m.es.length:Int))} (.slice none 0 0) fP (by show (0:Nat)≤1000000;omega) (by show g.out.msgs.length≤1000;omega) hw) fun a W hs hw=>?_
     refine sc hs ?_
     exact cO hs rfl ⟨rfl,hw.sl⟩
  ·have hlt:j<m.es.length:=by omega
   obtain ⟨e',he',hd⟩:=dS hlt
   obtain ⟨b',o',cap',hv,hcap'⟩:=j8 (hw.rdH (by repeat (first|exact In.hd|apply In.tl)) hrd) (by omega)
   injection hv with hv1 _ hv2
   subst hv1 hv2
   have hcell:∀{W},Has 0 w0 W (aA b (aH m (.slice vad m.es.length vcap)) 38::aK p q pl pv pt mv::aI pl q.l::VoR pv q.v::ToR pt q.t::aC H mv q.out.msgs::Fz H::R)→_:=fun {W} h=>lS (h.rdH (by repeat (first|exact In.hd|apply In.tl)) hrd) (by omega)
   have hfh:=pY hd
   have hk0:(0:Int)≤0:=by omega
   have hk1:(0:Int)<((m.es.length - j:Nat):Int):=by omega
   have hg0:decide (((m.es.length - j:Nat):Int) > 0)=true:=decide_eq_true hk1
   refine sc hs ?_
   refine bF [] [.f 0 0,.f 0 0,.f 0 0,.f 0 0,.f 0 0,.f 0 0,.f 0 0,.f 0 0,.f 0 0,.f 0 0,.f 0 0,.f 0 0,.f 0 0,.f 0 0] [.c0 _,.c0 _,.c0 (.bool true),.c0 _,.c0 _,.c0 _,.c0 _,.c0 (.int .i64 e'.ix),.c0 _,.c0 _,.c0 _,.c0 _,.c0 _,.c0 _] (aA b (aH m (.slice vad m.es.length vcap)) 38::aK p q pl pv pt mv::aI pl q.l::VoR pv q.v::ToR pt q.t::aC H mv q.out.msgs::Fz H::R) (fun x=>[]) (fun x y=>[]) (fun x y z=>[]) (fun x y z t=>[]) hs hw ?kk ⟨drs,drs,?f2,drs,drs,drs,drs,?f7,drs,drs,drs,drs,drs,drs,trivial⟩
   case f2=>
    refine ⟨?_,trivial,trivial,trivial,trivial⟩
    intro x y z t LD a W hs hw
    refine sv hs hw fun a hs=>?_
    rw [hg0] at hs
    exact ⟨hs,hw⟩
   case f7=>
    refine ⟨?_,trivial,trivial,trivial,trivial⟩
    intro x y z t LD a W hs hw
    refine sc hs ?_
    refine eP hs (hc:=hcell hw 0 _ hfh.1) (c:=fun a hs=>?_)
    exact ⟨hs,hw⟩
   case kk=>
   intro a W hs hw
   replace hs:Slots a 107 [(0,ptr p),(3,ptr b),(4,.int .i64 (w64 (m.ix+(m.es.length:Int)))),(5,.slice (some ⟨b',o',none⟩) (m.es.length - j) cap),(65,.bool (decide (e'.ix≤q.commit)))]:=hs.of ⟨rfl,rfl,rfl,rfl,rfl,trivial⟩
   cases c5:decide (e'.ix≤q.commit) with
   |true=>
    rw [c5] at hs
    refine sv hs hw fun a hs=>?_
    refine aAD (i:=1) hs hrd (by omega) (by omega) (c:=fun a v' hr' hs=>?_)
    obtain ⟨ad2,cap2,rfl⟩:=hr'.slice
    refine sv hs hw fun a hs=>?_
    have hl2:m.es.length - (j+1)=m.es.length - j - (1:Int).toNat:=by show m.es.length - (j+1)=m.es.length - j - 1;omega
    have hfl:(m.es.drop (j+1)).flatMap bE=((m.es.drop j).flatMap bE).drop ((1:Int).toNat*4):=by rw [hd,List.flatMap_cons];rfl
    exact bR (j+1,ad2,cap2) hs hw ⟨hlt,by rw [hl2,hfl];exact hr',by rw [hdw,hd,List.dropWhile_cons,if_pos c5]⟩ (by show m.es.length - (j+1)<m.es.length - j;omega) ⟨rfl,rfl,rfl,by rw [hl2];rfl,trivial⟩
   |false=>
    rw [c5] at hs
    rw [show (m.es.dropWhile fun e=>decide (e.ix≤q.commit))=m.es.drop j by rw [hdw,hd,List.dropWhile_cons,if_neg (by rw [c5];simp)]]
    clear hcell hfh hd
    generalize (some (⟨b',o',none⟩:Addr))=ad at *
    generalize m.es.drop j=es at *
    rw [hlenj] at hs hrd
    refine sv hs hw fun a hs=>?_
    have hw:Has 0 w0 W (aI pl q.l::aA b (aH m (.slice vad m.es.length vcap)) 38::aK p q pl pv pt mv::VoR pv q.v::ToR pt q.t::aC H mv q.out.msgs::Fz H::R):=hw.pm
    refine cl hs (pZ es (.slice ad es.length cap) hn' hes' (fun h=>h.rdH (by repeat (first|exact In.hd|apply In.tl)) hrd) hw) fun a W hs hw=>?_
    have hw:Has 0 w0 W (aG H p {q with l:=(q.l.put es).1}::aA b (aH m (.slice vad m.es.length vcap)) 38::Fz H::R):=cF (r:={q with l:=(q.l.put es).1}) (hw.pm)
    refine sv hs hw fun a hs=>?_
    refine cl hs (qE _ _ hw) fun a W hs hw=>?_
    have hgl:(RaftD.changed {q with l:=(q.l.put es).1} (q.l.put es).2.1).out.msgs.length≤900:=by rw [qJ];exact hql
    generalize RaftD.changed {q with l:=(q.l.put es).1} (q.l.put es).2.1=g at *
    obtain ⟨pl2,pv2,pt2,mv2,hw⟩:=dG hw
    replace hw:Has 0 w0 W (aK p g pl2 pv2 pt2 mv2::aI pl2 g.l::VoR pv2 g.v::ToR pt2 g.t::aC H mv2 g.out.msgs::aA b (aH m (.slice vad m.es.length vcap)) 38::Fz H::R):=hw
    cases c4:(q.l.put es).2.2 with
    |false=>
     rw [c4] at hs
     refine sv hs hw fun a hs=>?_
     refine bF [7,9] [.f 0 1,.f 0 1,.f 0 1,.f 0 0,.f 0 0,.f 0 0,.f 0 0,.m 0,.f 1 1,.m 1] [.c0 _,.c0 _,.c0 _,.c0 _,.c0 _,.c0 _,.c0 _,.c1 (fun x=> .int .i64 g.l.last),.c1 _,.c2 (fun x y=> .tuple ⟨[]⟩)] (aK p g pl2 pv2 pt2 mv2::aI pl2 g.l::VoR pv2 g.v::ToR pt2 g.t::aC H mv2 g.out.msgs::aA b (aH m (.slice vad m.es.length vcap)) 38::Fz H::R) (fun x=>aK p g pl2 pv2 pt2 mv2::aI pl2 g.l::VoR pv2 g.v::ToR pt2 g.t::aC H mv2 g.out.msgs::aA b (aH m (.slice vad m.es.length vcap)) 38::Fz H::R) (fun x y=>aG H p (g.say {cP with kind:=4,to_:=m.from_,ix:=g.l.last})::aA b (aH m (.slice vad m.es.length vcap)) 38::Fz H::R) (fun x y z=>[]) (fun x y z t=>[]) hs hw ?kk ⟨drs,drs,drs,drs,drs,drs,drs,drm,drs,?m1,trivial⟩
     case m1=>
      intro x y z t LD a W hs hw
      have hw:Has 0 w0 W (aG H p g::aA b (aH m (.slice vad m.es.length vcap)) 38::Fz H::R):=cF hw
      refine cl hs (fH {cP with kind:=4,to_:=m.from_,ix:=g.l.last} (.slice none 0 0) fP (by show (0:Nat)≤1000000;omega) (by omega) hw) fun a W hs hw=>?_
      exact ⟨{},hs,hw⟩
     case kk=>
      intro _ _ a W hs hw
      refine sc hs ?_
      exact rt0 hs rfl ⟨rfl,hw.sl⟩
    |true=>
     rw [c4] at hs
     refine sv hs hw fun a hs=>?_
     refine bF [12] [.f 0 0,.f 0 0,.f 0 0,.f 0 0,.f 0 0,.f 0 0,.f 0 0,.f 0 0,.f 0 0,.f 0 0,.f 0 0,.f 0 0,.m 0] [.c0 _,.c0 _,.c0 _,.c0 _,.c0 _,.c0 _,.c0 _,.c0 _,.c0 _,.c0 _,.c0 _,.c0 _,.c1 (fun x=>undef)] (aK p g pl2 pv2 pt2 mv2::aI pl2 g.l::VoR pv2 g.v::ToR pt2 g.t::aC H mv2 g.out.msgs::aA b (aH m (.slice vad m.es.length vcap)) 38::Fz H::R) (fun x=>gQ p g.id g.h.term g.h.vote pl2 (max g.commit (min m.commit (w64 (m.ix+(m.es.length:Int))))) g.role g.leader g.heard pv2 pt2 mv2 g.out.hard g.out.from_ g.out.snap::aI pl2 g.l::VoR pv2 g.v::ToR pt2 g.t::aC H mv2 g.out.msgs::aA b (aH m (.slice vad m.es.length vcap)) 38::Fz H::R) (fun x y=>[]) (fun x y z=>[]) (fun x y z t=>[]) hs hw ?kk ⟨drs,drs,drs,drs,drs,drs,drs,drs,drs,drs,drs,drs,drm,trivial⟩
     case kk=>
      intro _ a W hs hw
      refine sv hs hw fun a hs=>?_
      have hw:Has 0 w0 W (aG H p {g with commit:=max g.commit (min m.commit (w64 (m.ix+(m.es.length:Int))))}::aA b (aH m (.slice vad m.es.length vcap)) 38::Fz H::R):=cF (r:={g with commit:=max g.commit (min m.commit (w64 (m.ix+(m.es.length:Int))))}) hw
      refine cl hs (fH (r:={g with commit:=max g.commit (min m.commit (w64 (m.ix+(m.es.length:Int))))}) {cP with kind:=4,to_:=m.from_,yes:=true,ix:=w64 (m.ix+(m.es.length:Int))} (.slice none 0 0) fP (by show (0:Nat)≤1000000;omega) (by show g.out.msgs.length≤1000;omega) hw) fun a W hs hw=>?_
      refine sc hs ?_
      exact cO hs rfl ⟨rfl,hw.sl⟩
end
section
variable {H H':Fh} {p pl:Nat} {pv pt mv:Value} {r:RaftD} {w0 W:World} {R L:List Res} {v:Value}
abbrev aW (o:fV) (v:Value):List Value:=[v,.bool o.hard,.int .i64 o.from_,.bool o.snap]
theorem aBo (h:Has 0 w0 W (aG H p r::Fz H::R)):Has 0 w0 W (aC H (.slice none 0 0) []::aG H p r::Fz H::R):=kX (l:=[]) (h.nilOwn 38 13) rfl
theorem aBp {m:bP}:∀{l:List bZ} {i t:Int},jZ m i t l=true→∀e∈l,eN e=true
 | [],_,_,_=>fun e he=>by cases he
 |x::l,i,t,h=>by
  have h:(!(x.ix !=w64 (i+1)) && !decide (x.term<t) && !decide (x.term > m.term) && eN x && jZ m x.ix x.term l)=true:=h
  simp only [Bool.and_eq_true] at h
  intro e he
  rcases List.mem_cons.1 he with rfl|he
  ·exact h.1.2
  ·exact aBp h.2 e he
theorem aBq {m:bP} (h:iH m=true):m.es.length≤8∧∀e∈m.es,eN e=true:=by
 unfold iH nN at h
 simp only [Bool.and_eq_true,decide_eq_true_eq] at h
 exact ⟨by omega,aBp h.1.1.2.1.1⟩
theorem aHV {e:bZ} (h:eN e=true):0≤e.ix∧e.data.size≤1000000:=by
 unfold eN in1 at h
 simp at h
 omega
theorem aHW (m:bP) (v:Value) (hm:fO H v m.es) (hc:m.snap.conf.size≤1000000) (h5:m.kind≠5) (hl:r.out.msgs.length≤800) (hy:∀o,r.v=some o→o.yes.length≤1000∧o.no.length≤1000) (hw:Has 0 w0 W (aG H p r::Fz H::R)):
  Calls Tryz.prog 81 ⟨[ptr p,.agg ⟨aH m v⟩]⟩ W fun e W'=>∃(H':Fh) (x:Option Addr×Nat),e= .returned (.agg ⟨aW (r.step m).2 (.slice x.1 (r.step m).2.msgs.length x.2)⟩)∧H.le H'∧Has 0 w0 W' (aC H' (.slice x.1 (r.step m).2.msgs.length x.2) (r.step m).2.msgs::aG H' p (r.step m).1::Fz H'::R):=by
 obtain ⟨vad,vcap,rfl⟩:=hm.slice
 have hes:=hm.len
 refine enter Tryz.func81 Tryz.ntmps81 rfl rfl fun a hs=>?_
 refine sc hs ?_
 refine sn hs hw fun b3 a W hs hw=>?_
 refine sn hs hw fun b4 a W hs hw=>?_
 have hw:Has 0 w0 W (aG H p r::Fz H::aA b3 (aH m (.slice vad m.es.length vcap)) 38::aA b4 (aW bV (.slice none 0 0)) 103::R):=hw.pm
 have fin0:∀{W},Has 0 w0 W (aG H p r::Fz H::aA b3 (aH m (.slice vad m.es.length vcap)) 38::aA b4 (aW bV (.slice none 0 0)) 103::R)→Has 0 w0 W (aC H (.slice none 0 0) []::aG H p r::Fz H::R):=fun h=>aBo (h.sub (List.Sublist.cons_cons _ (List.Sublist.cons_cons _ (List.Sublist.cons _ (List.Sublist.cons _ (List.Sublist.refl _))))))
 have hws:=hw
 obtain ⟨pl,pv,pt,mv,hw⟩:=dG hw
 have back:∀{W},Has 0 w0 W (aK p r pl pv pt mv::aI pl r.l::VoR pv r.v::ToR pt r.t::aC H mv r.out.msgs::Fz H::aA b3 (aH m (.slice vad m.es.length vcap)) 38::aA b4 (aW bV (.slice none 0 0)) 103::R)→Has 0 w0 W (aG H p r::Fz H::aA b3 (aH m (.slice vad m.es.length vcap)) 38::aA b4 (aW bV (.slice none 0 0)) 103::R):=fun h=>cF h
 refine sc hs ?_
 have may:∀{W},Has 0 w0 W (aK p r pl pv pt mv::aI pl r.l::VoR pv r.v::ToR pt r.t::aC H mv r.out.msgs::Fz H::aA b3 (aH m (.slice vad m.es.length vcap)) 38::aA b4 (aW bV (.slice none 0 0)) 103::R)→Calls Tryz.prog 129 ⟨[.agg ⟨aH m (.slice vad m.es.length vcap)⟩]⟩ W fun e W'=>e= .returned (.bool (iH m))∧Has 0 w0 W' (aK p r pl pv pt mv::aI pl r.l::VoR pv r.v::ToR pt r.t::aC H mv r.out.msgs::Fz H::aA b3 (aH m (.slice vad m.es.length vcap)) 38::aA b4 (aW bV (.slice none 0 0)) 103::R):=fun h=>aB2 m _ hm hc (by repeat (first|exact In.hd|apply In.tl)) h
 cases c1:iH m with
 |false=>
  have he:r.step m=(r,bV):=by unfold RaftD.step;rw [if_pos (.inl c1)]
  rw [c1] at may
  refine bF [4] [.f 0 0,.f 0 0,.f 0 0,.f 0 0,.m 0,.f 1 1,.f 1 1,.f 1 1,.f 1 1,.f 1 1,.f 1 1,.f 1 1,.f 1 1,.f 1 1,.f 1 1,.f 1 1,.f 1 1,.f 1 1,.f 1 1,.f 1 1,.f 1 1,.f 1 1,.f 1 1,.f 1 1,.f 1 1] [.c0 _,.c0 _,.c0 _,.c0 _,.c1 (fun x=> .bool false),.c1 _,.c1 _,.c1 _,.c1 _,.c1 _,.c1 _,.c1 _,.c1 _,.c1 _,.c1 _,.c1 _,.c1 _,.c1 _,.c1 _,.c1 _,.c1 _,.c1 _,.c1 _,.c1 _,.c1 _] (aK p r pl pv pt mv::aI pl r.l::VoR pv r.v::ToR pt r.t::aC H mv r.out.msgs::Fz H::aA b3 (aH m (.slice vad m.es.length vcap)) 38::aA b4 (aW bV (.slice none 0 0)) 103::R) (fun x=>aK p r pl pv pt mv::aI pl r.l::VoR pv r.v::ToR pt r.t::aC H mv r.out.msgs::Fz H::aA b3 (aH m (.slice vad m.es.length vcap)) 38::aA b4 (aW bV (.slice none 0 0)) 103::R) (fun x y=>[]) (fun x y z=>[]) (fun x y z t=>[]) hs hw ?kk ⟨drs,drs,drs,drs,?m0,drs,drs,drs,drs,drs,drs,drs,drs,drs,drs,drs,drs,drs,drs,drs,drs,drs,drs,drs,drs,trivial⟩
  case m0=>
   intro x y z t LD a W hs hw
   refine sc hs ?_
   refine cl hs (may hw) fun a W hs hw=>?_
   exact ⟨{},hs,hw⟩
  case kk=>
   intro _ a W hs hw
   refine sx hs hw fun a W hs hw=>?_
   refine rc1 hs rfl rfl hw (by repeat (first|exact In.hd|apply In.tl)) rfl ⟨H,(none,0),?_⟩
   rw [he]
   exact ⟨rfl,Fh.le.refl H,fin0 (back hw)⟩
 |true=>
 rw [c1] at may
 cases c2:(m.to_ !=r.id) with
 |true=>
  have he:r.step m=(r,bV):=by unfold RaftD.step;rw [if_pos (.inr (.inl (by simpa using c2)))]
  refine bF [4] [.f 0 0,.f 0 0,.f 0 0,.f 0 0,.m 0,.f 1 1,.f 1 1,.f 1 1,.f 1 1,.f 1 1,.f 1 1,.f 1 1,.f 1 1,.f 1 1,.f 1 1,.f 1 1,.f 1 1,.f 1 1,.f 1 1,.f 1 1,.f 1 1,.f 1 1,.f 1 1,.f 1 1,.f 1 1] [.c0 _,.c0 _,.c0 _,.c0 _,.c1 (fun x=> .bool true),.c1 _,.c1 _,.c1 _,.c1 _,.c1 _,.c1 _,.c1 _,.c1 _,.c1 _,.c1 (fun x=> .bool true),.c1 _,.c1 _,.c1 _,.c1 _,.c1 _,.c1 _,.c1 _,.c1 _,.c1 _,.c1 _] (aK p r pl pv pt mv::aI pl r.l::VoR pv r.v::ToR pt r.t::aC H mv r.out.msgs::Fz H::aA b3 (aH m (.slice vad m.es.length vcap)) 38::aA b4 (aW bV (.slice none 0 0)) 103::R) (fun x=>aK p r pl pv pt mv::aI pl r.l::VoR pv r.v::ToR pt r.t::aC H mv r.out.msgs::Fz H::aA b3 (aH m (.slice vad m.es.length vcap)) 38::aA b4 (aW bV (.slice none 0 0)) 103::R) (fun x y=>[]) (fun x y z=>[]) (fun x y z t=>[]) hs hw ?kk ⟨drs,drs,drs,drs,?m0,drs,drs,drs,drs,drs,drs,drs,drs,drs,?f14,drs,drs,drs,drs,drs,drs,drs,drs,drs,drs,trivial⟩
  case f14=>
   refine ⟨trivial,?_,trivial,trivial,trivial⟩
   intro x y z t LD a W hs hw
   refine sv hs hw fun a hs=>?_
   rw [c2] at hs
   exact ⟨hs,hw⟩
  case m0=>
   intro x y z t LD a W hs hw
   refine sc hs ?_
   refine cl hs (may hw) fun a W hs hw=>?_
   exact ⟨{},hs,hw⟩
  case kk=>
   intro _ a W hs hw
   refine sx hs hw fun a W hs hw=>?_
   refine rc1 hs rfl rfl hw (by repeat (first|exact In.hd|apply In.tl)) rfl ⟨H,(none,0),?_⟩
   rw [he]
   exact ⟨rfl,Fh.le.refl H,fin0 (back hw)⟩
 |false=>
 cases c3:(m.from_ == r.id) with
 |true=>
  have he:r.step m=(r,bV):=by unfold RaftD.step;rw [if_pos (.inr (.inr (by simpa using c3)))]
  refine bF [4] [.f 0 0,.f 0 0,.f 0 0,.f 0 0,.m 0,.f 1 1,.f 1 1,.f 1 1,.f 1 1,.f 1 1,.f 1 1,.f 1 1,.f 1 1,.f 1 1,.f 1 1,.f 1 1,.f 1 1,.f 1 1,.f 1 1,.f 1 1,.f 1 1,.f 1 1,.f 1 1,.f 1 1,.f 1 1] [.c0 _,.c0 _,.c0 _,.c0 _,.c1 (fun x=> .bool true),.c1 _,.c1 _,.c1 _,.c1 _,.c1 _,.c1 _,.c1 _,.c1 _,.c1 _,.c1 (fun x=> .bool false),.c1 _,.c1 _,.c1 _,.c1 _,.c1 _,.c1 _,.c1 _,.c1 _,.c1 (fun x=> .bool true),.c1 _] (aK p r pl pv pt mv::aI pl r.l::VoR pv r.v::ToR pt r.t::aC H mv r.out.msgs::Fz H::aA b3 (aH m (.slice vad m.es.length vcap)) 38::aA b4 (aW bV (.slice none 0 0)) 103::R) (fun x=>aK p r pl pv pt mv::aI pl r.l::VoR pv r.v::ToR pt r.t::aC H mv r.out.msgs::Fz H::aA b3 (aH m (.slice vad m.es.length vcap)) 38::aA b4 (aW bV (.slice none 0 0)) 103::R) (fun x y=>[]) (fun x y z=>[]) (fun x y z t=>[]) hs hw ?kk ⟨drs,drs,drs,drs,?m0,drs,drs,drs,drs,drs,drs,drs,drs,drs,?f14,drs,drs,drs,drs,drs,drs,drs,drs,?f23,drs,trivial⟩
  case f14=>
   refine ⟨trivial,?_,trivial,trivial,trivial⟩
   intro x y z t LD a W hs hw
   refine sv hs hw fun a hs=>?_
   rw [c2] at hs
   exact ⟨hs,hw⟩
  case f23=>
   refine ⟨trivial,?_,trivial,trivial,trivial⟩
   intro x y z t LD a W hs hw
   refine sv hs hw fun a hs=>?_
   rw [c3] at hs
   exact ⟨hs,hw⟩
  case m0=>
   intro x y z t LD a W hs hw
   refine sc hs ?_
   refine cl hs (may hw) fun a W hs hw=>?_
   exact ⟨{},hs,hw⟩
  case kk=>
   intro _ a W hs hw
   refine sx hs hw fun a W hs hw=>?_
   refine rc1 hs rfl rfl hw (by repeat (first|exact In.hd|apply In.tl)) rfl ⟨H,(none,0),?_⟩
   rw [he]
   exact ⟨rfl,Fh.le.refl H,fin0 (back hw)⟩
 |false=>
 have hnn:¬(iH m=false∨m.to_≠r.id∨m.from_=r.id):=by
  have h2:m.to_=r.id:=by simpa using c2
  have h3:¬m.from_=r.id:=by simpa using c3
  rw [c1];simp [h2];omega
 have he:r.step m=if m.term<r.h.term then
   (if m.kind=1 then r.say {cP with kind:=2,to_:=m.from_} else if m.kind=3∨m.kind=5 then r.say {cP with kind:=4,to_:=m.from_} else r).did
  else ((if m.kind=1 then (if r.h.term<m.term then r.yield m.term else r).asked m else if m.kind=2 then (if r.h.term<m.term then r.yield m.term else r).voted m else if m.kind=3 then (if r.h.term<m.term then r.yield m.term else r).append m else if m.kind=4 then (if r.h.term<m.term then r.yield m.term else r).ack m else (if r.h.term<m.term then r.yield m.term else r).snapD m)).did:=by
  unfold RaftD.step;rw [if_neg hnn]
 refine bF [4] [.f 0 0,.f 0 0,.f 0 0,.f 0 0,.m 0,.f 1 1,.f 1 1,.f 1 1,.f 1 1,.f 1 1,.f 1 1,.f 1 1,.f 1 1,.f 1 1,.f 1 1,.f 1 1,.f 1 1,.f 1 1,.f 1 1,.f 1 1,.f 1 1,.f 1 1,.f 1 1,.f 1 1,.f 1 1] [.c0 _,.c0 _,.c0 _,.c0 _,.c1 (fun x=> .bool true),.c1 _,.c1 _,.c1 _,.c1 _,.c1 _,.c1 _,.c1 _,.c1 _,.c1 _,.c1 (fun x=> .bool false),.c1 _,.c1 _,.c1 _,.c1 _,.c1 _,.c1 _,.c1 _,.c1 _,.c1 (fun x=> .bool false),.c1 _] (aK p r pl pv pt mv::aI pl r.l::VoR pv r.v::ToR pt r.t::aC H mv r.out.msgs::Fz H::aA b3 (aH m (.slice vad m.es.length vcap)) 38::aA b4 (aW bV (.slice none 0 0)) 103::R) (fun x=>aK p r pl pv pt mv::aI pl r.l::VoR pv r.v::ToR pt r.t::aC H mv r.out.msgs::Fz H::aA b3 (aH m (.slice vad m.es.length vcap)) 38::aA b4 (aW bV (.slice none 0 0)) 103::R) (fun x y=>[]) (fun x y z=>[]) (fun x y z t=>[]) hs hw ?kk ⟨drs,drs,drs,drs,?m0,drs,drs,drs,drs,drs,drs,drs,drs,drs,?f14,drs,drs,drs,drs,drs,drs,drs,drs,?f23,drs,trivial⟩
 case f14=>
  refine ⟨trivial,?_,trivial,trivial,trivial⟩
  intro x y z t LD a W hs hw
  refine sv hs hw fun a hs=>?_
  rw [c2] at hs
  exact ⟨hs,hw⟩
 case f23=>
  refine ⟨trivial,?_,trivial,trivial,trivial⟩
  intro x y z t LD a W hs hw
  refine sv hs hw fun a hs=>?_
  rw [c3] at hs
  exact ⟨hs,hw⟩
 case m0=>
  intro x y z t LD a W hs hw
  refine sc hs ?_
  refine cl hs (may hw) fun a W hs hw=>?_
  exact ⟨{},hs,hw⟩
 case kk=>
 intro _ a W hs hw
 replace hs:Slots a 101 [(0,ptr p),(3,ptr b3),(4,ptr b4),(29,.bool false)]:=hs.of ⟨rfl,rfl,rfl,rfl,trivial⟩
 clear may
 refine zH hs ?_
 refine sq ?_
 refine fC (M:=fun a W=>¬m.term<r.h.term∧Slots a 101 [(0,ptr p),(3,ptr b3),(4,ptr b4)]∧Has 0 w0 W (aG H p (if r.h.term<m.term then r.yield m.term else r)::Fz H::aA b3 (aH m (.slice vad m.es.length vcap)) 38::aA b4 (aW bV (.slice none 0 0)) 103::R)) ?_ ?_
 ·refine zG hs ?_
  refine rgp [_,_,_,_,_,_,_,_,_] hs hw fun a W hs hw=>?_
  cases d1:decide (m.term > r.h.term) with
  |true=>
   rw [d1] at hs
   refine sx hs hw fun a W hs hw=>?_
   refine cl hs (aHA m.term (back hw)) fun a W hs hw=>?_
   refine sc hs ?_
   have g:=of_decide_eq_true d1
   exact ⟨by omega,hs.of ⟨rfl,rfl,rfl,trivial⟩,by rw [if_pos g];exact hw⟩
  |false=>
  rw [d1] at hs
  have g:=of_decide_eq_false d1
  refine zG hs ?_
  refine rgp [_,_,_,_,_,_,_,_,_] hs hw fun a W hs hw=>?_
  cases d2:decide (m.term<r.h.term) with
  |false=>
   rw [d2] at hs
   refine sc hs ?_
   exact ⟨of_decide_eq_false d2,hs.of ⟨rfl,rfl,rfl,trivial⟩,by rw [if_neg g];exact back hw⟩
  |true=>
  rw [d2] at hs
  rw [if_pos (of_decide_eq_true d2)] at he
  replace hs:Slots a 101 [(0,ptr p),(3,ptr b3),(4,ptr b4),(44,.bool true)]:=hs.of ⟨rfl,rfl,rfl,rfl,trivial⟩
  replace hw:=back hw
  refine zH hs ?_
  refine sq ?_
  refine fC (M:=fun a W=>∃r2:RaftD,r.step m=r2.did∧Slots a 101 [(0,ptr p),(4,ptr b4)]∧Has 0 w0 W (aG H p r2::Fz H::aA b3 (aH m (.slice vad m.es.length vcap)) 38::aA b4 (aW bV (.slice none 0 0)) 103::R)) ?_ ?_
  ·refine sx hs hw fun a W hs hw=>?_
   cases e1:(m.kind == 1) with
   |true=>
    have g1:m.kind=1:=by simpa using e1
    rw [e1] at hs
    rw [if_pos g1] at he
    refine sx hs hw fun a W hs hw=>?_
    refine cl hs (fH {cP with kind:=2,to_:=m.from_} (.slice none 0 0) fP (by show (0:Nat)≤1000000;omega) (by omega) hw) fun a W hs hw=>?_
    refine sc hs ?_
    exact ⟨_,he,hs.of ⟨rfl,rfl,trivial⟩,hw⟩
   |false=>
   have g1:¬m.kind=1:=by simpa using e1
   rw [e1] at hs
   rw [if_neg g1] at he
   refine sv hs hw fun a hs=>?_
   cases e3:(m.kind == 3) with
   |true=>
    have g3:m.kind=3:=by simpa using e3
    rw [e3] at hs
    rw [if_pos (.inl g3)] at he
    refine sx hs hw fun a W hs hw=>?_
    refine cl hs (fH {cP with kind:=4,to_:=m.from_} (.slice none 0 0) fP (by show (0:Nat)≤1000000;omega) (by omega) hw) fun a W hs hw=>?_
    refine sc hs ?_
    exact ⟨_,he,hs.of ⟨rfl,rfl,trivial⟩,hw⟩
   |false=>
    have g3:¬m.kind=3:=by simpa using e3
    rw [e3] at hs
    rw [if_neg (by omega)] at he
    refine sv hs hw fun a hs=>?_
    rw [show (m.kind == 5)=false by simpa using h5] at hs
    refine sc hs ?_
    exact ⟨_,he,hs.of ⟨rfl,rfl,trivial⟩,hw⟩
  clear hs hw
  rintro a W ⟨r2,he,hs,hw⟩
  refine sv hs hw fun a hs=>?_
  refine cle hs (s4 hw) fun s a W _ hs hw=>?_
  refine sx hs hw fun a W hs hw=>?_
  refine rc1 hs rfl rfl hw (by repeat (first|exact In.hd|apply In.tl)) rfl ⟨H,s,?_⟩
  rw [he]
  exact ⟨rfl,Fh.le.refl H,hw.sl⟩
 clear hs hw hws back fin0
 rintro a W ⟨d2,hs,hw⟩
 rw [if_neg d2] at he
 obtain ⟨r1,hr1⟩:∃r1:RaftD,r1=(if r.h.term<m.term then r.yield m.term else r):=⟨_,rfl⟩
 rw [←hr1] at he hw
 have hl1:r1.out.msgs.length≤800:=by rw [hr1];split <;> exact hl
 have hy1:∀o,r1.v=some o→o.yes.length≤1000∧o.no.length≤1000:=by rw [hr1];split <;> exact hy
 clear hr1
 refine sq ?_
 refine fC (M:=fun a W=>∃(H2:Fh) (r2:RaftD),H.le H2∧r.step m=r2.did∧Slots a 101 [(0,ptr p),(4,ptr b4)]∧Has 0 w0 W (aG H2 p r2::Fz H2::aA b3 (aH m (.slice vad m.es.length vcap)) 38::aA b4 (aW bV (.slice none 0 0)) 103::R)) ?_ ?_
 ·refine sx hs hw fun a W hs hw=>?_
  cases e1:(m.kind == 1) with
  |true=>
   have g1:m.kind=1:=by simpa using e1
   rw [e1] at hs
   rw [if_pos g1] at he
   refine sx hs hw fun a W hs hw=>?_
   refine cl hs (aHR m _ ⟨_,_,rfl⟩ (by omega) hw) fun a W hs hw=>?_
   refine sc hs ?_
   exact ⟨H,_,Fh.le.refl H,he,hs.of ⟨rfl,rfl,trivial⟩,hw⟩
  |false=>
  have g1:¬m.kind=1:=by simpa using e1
  rw [e1] at hs
  rw [if_neg g1] at he
  refine sv hs hw fun a hs=>?_
  cases e2:(m.kind == 2) with
  |true=>
   have g2:m.kind=2:=by simpa using e2
   rw [e2] at hs
   rw [if_pos g2] at he
   refine sx hs hw fun a W hs hw=>?_
   refine aF hs (hc:=aHS m _ ⟨_,_,rfl⟩ (by omega) hy1 hw) (k:=?_)
   rintro e' W' ⟨rfl,H3,hle3,hw⟩
   refine ⟨_,rfl,fun a hs=>?_⟩
   refine sc hs ?_
   exact ⟨H3,_,hle3,he,hs.of ⟨rfl,rfl,trivial⟩,hw⟩
  |false=>
  have g2:¬m.kind=2:=by simpa using e2
  rw [e2] at hs
  rw [if_neg g2] at he
  refine sv hs hw fun a hs=>?_
  cases e3:(m.kind == 3) with
  |true=>
   have g3:m.kind=3:=by simpa using e3
   rw [e3] at hs
   rw [if_pos g3] at he
   have hme:=aBq c1
   refine sx hs hw fun a W hs hw=>?_
   refine cl hs (aHU m _ hm (by omega) (fun e he=>aHV (hme.2 e he)) (by omega) hw) fun a W hs hw=>?_
   refine sc hs ?_
   exact ⟨H,_,Fh.le.refl H,he,hs.of ⟨rfl,rfl,trivial⟩,hw⟩
  |false=>
  have g3:¬m.kind=3:=by simpa using e3
  rw [e3] at hs
  rw [if_neg g3] at he
  refine sv hs hw fun a hs=>?_
  cases e4:(m.kind == 4) with
  |true=>
   have g4:m.kind=4:=by simpa using e4
   rw [e4] at hs
   rw [if_pos g4] at he
   refine sx hs hw fun a W hs hw=>?_
   refine aF hs (hc:=aHT m _ ⟨_,_,rfl⟩ (by omega) hw) (k:=?_)
   rintro e' W' ⟨rfl,H3,hle3,hw⟩
   refine ⟨_,rfl,fun a hs=>?_⟩
   refine sc hs ?_
   exact ⟨H3,_,hle3,he,hs.of ⟨rfl,rfl,trivial⟩,hw⟩
  |false=>
   have g4:¬m.kind=4:=by simpa using e4
   exfalso
   unfold iH at c1
   simp only [Bool.and_eq_true,Bool.not_eq_true',decide_eq_false_iff_not] at c1
   omega
 clear hs hw
 rintro a W ⟨H2,r2,hle,he,hs,hw⟩
 refine sv hs hw fun a hs=>?_
 refine cle hs (s4 hw) fun s a W _ hs hw=>?_
 refine sx hs hw fun a W hs hw=>?_
 refine rc1 hs rfl rfl hw (by repeat (first|exact In.hd|apply In.tl)) rfl ⟨H2,s,?_⟩
 rw [he]
 exact ⟨rfl,hle,hw.sl⟩
end
section
variable {H H':Fh} {p pl:Nat} {pv pt mv:Value} {r:RaftD} {w0 W:World} {R L:List Res} {v:Value}
abbrev iM (r:RaftD) (x:Int):bP:={cP with kind:=1,to_:=x,ix:=r.l.last,lterm:=(r.l.term r.l.last).1}
theorem aBr (l:List Int):∀r:RaftD,(l.foldl (fun r x=>r.say (iM r x)) r).l=r.l∧(l.foldl (fun r x=>r.say (iM r x)) r).out.msgs.length=r.out.msgs.length+l.length:=by
 induction l with
 |nil=>intro r;exact ⟨rfl,rfl⟩
 |cons x l ih=>
  intro r
  rw [List.foldl_cons]
  obtain ⟨h1,h2⟩:=ih (r.say (iM r x))
  refine ⟨h1,?_⟩
  rw [h2]
  show (r.out.msgs ++ [_]).length+l.length=_
  simp;omega
theorem aHX (hl : r.out.msgs.length ≤ 800) (hw : Has 0 w0 W (aG H p r :: Fz H :: R)) :
    Calls Tryz.prog 78 ⟨[ptr p]⟩ W fun e W' => ∃ (H' : Fh) (x : Option Addr × Nat), e = .returned (.agg ⟨aW r.fire.2 (.slice x.1 r.fire.2.msgs.length x.2)⟩) ∧ H.le H' ∧ Has 0 w0 W' (aC H' (.slice x.1 r.fire.2.msgs.length x.2) r.fire.2.msgs :: aG H' p r.fire.1 :: Fz H' :: R) := by
  have h7 := qF r.l r.l.last
  refine enter Tryz.func78 Tryz.ntmps78 rfl rfl fun a hs => ?_
  refine sc hs ?_
  refine sn hs hw fun b4 a W hs hw => ?_
  have hw : Has 0 w0 W (aG H p r :: Fz H :: aA b4 (aW bV (.slice none 0 0)) 103 :: R) := hw.pm
  obtain ⟨pl, pv, pt, mv, hw⟩ := dG hw
  refine sv hs hw fun a hs => ?_
  refine aF hs (hc := (sO (l := r.l)).ok hw.rebase) (k := ?_)
  rintro e' W' ⟨xx, rfl, hw'⟩
  refine ⟨_, rfl, fun a hs => ?_⟩
  have hw := hw.trans hw'
  rw [show r.l.conf = r.l.confAt r.l.last from rfl] at hs hw
  obtain ⟨c, hcc⟩ : ∃ c, c = (r.l.confAt r.l.last).1 := ⟨_, rfl⟩
  have hfire : r.fire = (match r.role == 2, r.heard with
   | true, _ => r.all
   | false, true => { r with heard := false }
   | false, false =>
     match has c r.id && decide (r.h.term < 1099511627776) with
     | false => r
     | true =>
       match kQ (some ((i3 c).yesD r.id).1) with
       | true => ({ r.hardD ⟨w64 (r.h.term + 1), r.id⟩ with role := 1, leader := 0, v := some ((i3 c).yesD r.id).1 } : RaftD).lead
       | false => ({ r.hardD ⟨w64 (r.h.term + 1), r.id⟩ with role := 1, leader := 0, v := some ((i3 c).yesD r.id).1 } : RaftD).others.foldl (fun r x => r.say (iM r x)) { r.hardD ⟨w64 (r.h.term + 1), r.id⟩ with role := 1, leader := 0, v := some ((i3 c).yesD r.id).1 }).did := by rw [hcc]; rfl
  rw [← hcc] at hs hw h7
  generalize (r.l.confAt r.l.last).2 = ci at *
  clear hcc
  obtain ⟨cv, hcv⟩ : ∃ cv, cv = Value.slice xx.1 c.length xx.2 := ⟨_, rfl⟩
  replace hs : Slots a 124 ((17, .tuple ⟨[.slice xx.1 c.length xx.2, .int .i64 ci]⟩) :: [(0, ptr p), (2, ptr b4)]) := hs.of ⟨rfl, rfl, rfl, trivial⟩
  rw [← hcv] at hs
  have hw : Has 0 w0 W' (aK p r pl pv pt mv :: aI pl r.l :: VoR pv r.v :: ToR pt r.t :: aC H mv r.out.msgs :: Fz H :: aN cv c :: aA b4 (aW bV (.slice none 0 0)) 103 :: R) := by rw [hcv]; exact hw.pm
  refine zE hs hw ?_; clear hs; intro a hs
  refine sq ?_
  replace hs : Slots a 124 [(0, ptr p), (2, ptr b4), (3, cv)] := hs.of ⟨rfl, rfl, rfl, trivial⟩
  refine fC (M := fun a W => ∃ (H2 : Fh) (r2 : RaftD), H.le H2 ∧ r.fire = r2.did ∧ Slots a 124 [(0, ptr p), (2, ptr b4)] ∧ Has 0 w0 W (aG H2 p (r2) :: Fz H2 :: aN cv c :: aA b4 (aW bV (.slice none 0 0)) 103 :: R)) ?_ ?_
  · refine sx hs hw fun a W hs hw => ?_
    cases c1 : r.role == 2 with
    | true =>
      rw [c1] at hs hfire
      have hw : Has 0 w0 W (aG H p (r) :: Fz H :: aN cv c :: aA b4 (aW bV (.slice none 0 0)) 103 :: R) := cF hw
      refine sv hs hw fun a hs => ?_
      refine aF hs (hc := s9 (by omega) hw) (k := ?_)
      rintro e' W' ⟨rfl, H3, hle3, hw⟩
      refine ⟨_, rfl, fun a hs => ?_⟩
      refine sc hs ?_
      exact ⟨H3, _, hle3, hfire, hs.of ⟨rfl, rfl, trivial⟩, hw⟩
    | false =>
    rw [c1] at hs hfire
    refine sx hs hw fun a W hs hw => ?_
    cases c2 : r.heard with
    | true =>
      rw [c2] at hs hfire
      refine sx hs hw fun a W hs hw => ?_
      exact ⟨H, { r with heard := false }, Fh.le.refl H, hfire, hs.of ⟨rfl, rfl, trivial⟩, cF (r := { r with heard := false }) hw⟩
    | false =>
    rw [c2] at hs hfire
    refine sx hs hw fun a W hs hw => ?_
    cases c3 : has c r.id with
    | false =>
      rw [c3] at hs hfire
      refine sv hs hw fun a hs => ?_
      exact ⟨H, r, Fh.le.refl H, hfire, hs.of ⟨rfl, rfl, trivial⟩, cF hw⟩
    | true =>
    rw [c3] at hs hfire
    refine sx hs hw fun a W hs hw => ?_
    cases c4 : decide (r.h.term < 1099511627776) with
    | false =>
      rw [c4] at hs hfire
      refine sc hs ?_
      exact ⟨H, r, Fh.le.refl H, hfire, hs.of ⟨rfl, rfl, trivial⟩, cF hw⟩
    | true =>
    rw [c4] at hs
    replace hs : Slots a 124 [(0, ptr p), (2, ptr b4), (3, cv), (36, .bool true)] := hs.of ⟨rfl, rfl, rfl, rfl, trivial⟩
    obtain ⟨r2, hr2⟩ : ∃ r2 : RaftD, r2 = r.hardD ⟨w64 (r.h.term + 1), r.id⟩ := ⟨_, rfl⟩
    obtain ⟨vo, hvo⟩ : ∃ vo, vo = ((i3 c).yesD r.id).1 := ⟨_, rfl⟩
    obtain ⟨r4, hr4⟩ : ∃ r4 : RaftD, r4 = { r2 with role := 1, leader := 0, v := some vo } := ⟨_, rfl⟩
    have hfire : r.fire = (match kQ (some vo) with | true => r4.lead | false => r4.others.foldl (fun r x => r.say (iM r x)) r4).did := by
      rw [hfire, c4, hr4, hvo, hr2]; rfl
    have hid : r2.id = r.id := by rw [hr2]; rfl
    have hrm : r2.out.msgs = r.out.msgs := by rw [hr2]; rfl
    rw [← hid] at hvo
    refine zG hs ?_
    refine bF [12] [.f 0 0, .f 0 0, .f 0 0, .f 0 0, .f 0 0, .f 0 0, .f 0 0, .f 0 0, .f 0 0, .f 0 0, .f 0 0, .f 0 0, .m 0] [.c0 _, .c0 _, .c0 _, .c0 _, .c0 _, .c0 _, .c0 _, .c0 _, .c0 _, .c0 _, .c0 _, .c0 _, .c1 (fun x => .tuple ⟨[]⟩)] (aK p r pl pv pt mv :: aI pl r.l :: VoR pv r.v :: ToR pt r.t :: aC H mv r.out.msgs :: Fz H :: aN cv c :: aA b4 (aW bV (.slice none 0 0)) 103 :: R) (fun x => aG H p (r2) :: Fz H :: aN cv c :: aA b4 (aW bV (.slice none 0 0)) 103 :: R) (fun x y => []) (fun x y z => []) (fun x y z t => []) hs hw ?kk ⟨drs, drs, drs, drs, drs, drs, drs, drs, drs, drs, drs, drs, ?m0, trivial⟩
    case m0 =>
      intro x y z t LD a W hs hw
      have hw : Has 0 w0 W (aG H p (r) :: Fz H :: aN cv c :: aA b4 (aW bV (.slice none 0 0)) 103 :: R) := cF hw
      refine cl hs (sZ ⟨w64 (r.h.term + 1), r.id⟩ hw) fun a W hs hw => ?_
      rw [← hr2] at hw
      exact ⟨{}, hs, hw⟩
    case kk =>
    intro _ a W hs hw
    replace hs : Slots a 124 [(0, ptr p), (2, ptr b4), (3, cv)] := hs.of ⟨rfl, rfl, rfl, trivial⟩
    clear hr2
    obtain ⟨pl, pv, pt, mv, hw⟩ := dG hw
    refine sx hs hw fun a W hs hw => ?_
    have hw : Has 0 w0 W (aN cv c :: aK p { r2 with role := 1, leader := 0 } pl pv pt mv :: aI pl r2.l :: VoR pv r2.v :: ToR pt r2.t :: aC H mv r2.out.msgs :: Fz H :: aA b4 (aW bV (.slice none 0 0)) 103 :: R) := hw.pm
    refine sg hs hw (fun q a W hs hw => ?_) (g := aGR (l := c) (by omega))
    refine sx hs hw fun a W hs hw => ?_
    have hw : Has 0 w0 W (fW q (i3 c) :: aN cv c :: aK p { r2 with role := 1, leader := 0 } pl (ptr q) pt mv :: aI pl r2.l :: VoR pv r2.v :: ToR pt r2.t :: aC H mv r2.out.msgs :: Fz H :: aA b4 (aW bV (.slice none 0 0)) 103 :: R) := hw
    replace hs : Slots a 124 [(0, ptr p), (2, ptr b4), (3, cv)] := hs.of ⟨rfl, rfl, rfl, trivial⟩
    refine bF [8] [.f 0 0, .f 0 0, .f 0 0, .f 0 0, .f 0 0, .f 0 0, .f 0 0, .f 0 0, .m 0] [.c0 _, .c0 _, .c0 _, .c0 _, .c0 _, .c0 _, .c0 _, .c0 _, .c1 (fun x => .bool ((i3 c).yesD r2.id).2)] (fW q (i3 c) :: aN cv c :: aK p { r2 with role := 1, leader := 0 } pl (ptr q) pt mv :: aI pl r2.l :: VoR pv r2.v :: ToR pt r2.t :: aC H mv r2.out.msgs :: Fz H :: aA b4 (aW bV (.slice none 0 0)) 103 :: R) (fun x => fW q vo :: aN cv c :: aK p { r2 with role := 1, leader := 0 } pl (ptr q) pt mv :: aI pl r2.l :: VoR pv r2.v :: ToR pt r2.t :: aC H mv r2.out.msgs :: Fz H :: aA b4 (aW bV (.slice none 0 0)) 103 :: R) (fun x y => []) (fun x y z => []) (fun x y z t => []) hs hw ?kk ⟨drs, drs, drs, drs, drs, drs, drs, drs, ?m0, trivial⟩
    case m0 =>
      intro x y z t LD a W hs hw
      refine cl hs ((aBJ (v := i3 c) (x := r2.id) (by show ([] : List Int).length ≤ 1000; decide)).ok hw) fun a W hs hw => ?_
      rw [← hvo] at hw
      exact ⟨{}, hs, hw⟩
    case kk =>
    intro _ a W hs hw
    replace hs : Slots a 124 [(0, ptr p), (2, ptr b4), (3, cv)] := hs.of ⟨rfl, rfl, rfl, trivial⟩
    clear hvo
    have hw : Has 0 w0 W (VoR (ptr q) (some vo) :: aN cv c :: aK p { r2 with role := 1, leader := 0 } pl (ptr q) pt mv :: aI pl r2.l :: VoR pv r2.v :: ToR pt r2.t :: aC H mv r2.out.msgs :: Fz H :: aA b4 (aW bV (.slice none 0 0)) 103 :: R) := qI hw
    have mid : ∀ {W}, Has 0 w0 W (VoR (ptr q) (some vo) :: aN cv c :: aK p { r2 with role := 1, leader := 0 } pl (ptr q) pt mv :: aI pl r2.l :: VoR pv r2.v :: ToR pt r2.t :: aC H mv r2.out.msgs :: Fz H :: aA b4 (aW bV (.slice none 0 0)) 103 :: R) → Has 0 w0 W (aG H p (r4) :: Fz H :: aN cv c :: aA b4 (aW bV (.slice none 0 0)) 103 :: R) := fun h => by
      rw [hr4]
      exact cF (r := { r2 with role := 1, leader := 0, v := some vo }) (h.sl)
    have hm4 : r4.out.msgs.length ≤ 800 := by rw [hr4]; show r2.out.msgs.length ≤ 800; rw [hrm]; exact hl
    refine sx hs hw fun a W hs hw => ?_
    refine cl hs (xH hw) fun a W hs hw => ?_
    cases c5 : kQ (some vo) with
    | true =>
      rw [c5] at hs hfire
      have hw := mid hw
      refine sv hs hw fun a hs => ?_
      refine aF hs (hc := xI (by omega) hw) (k := ?_)
      rintro e' W' ⟨rfl, H3, hle3, hw⟩
      refine ⟨_, rfl, fun a hs => ?_⟩
      refine sc hs ?_
      exact ⟨H3, _, hle3, hfire, hs.of ⟨rfl, rfl, trivial⟩, hw⟩
    | false =>
    rw [c5] at hs hfire
    have hw := mid hw
    clear mid hr4
    replace hs : Slots a 124 [(0, ptr p), (2, ptr b4), (88, .bool false)] := hs.of ⟨rfl, rfl, rfl, trivial⟩
    obtain ⟨pl, pv, pt, mv, hw⟩ := dG hw
    refine zG hs ?_
    refine bF [8, 9] [.f 0 1, .f 0 1, .f 0 1, .f 0 1, .f 0 0, .f 0 0, .f 0 0, .f 0 0, .m 0, .m 1, .f 2 2, .f 2 2, .f 2 2, .f 2 2, .f 2 2] [.c0 _, .c0 _, .c0 _, .c0 _, .c0 _, .c0 _, .c0 _, .c0 _, .c1 (fun x => .int .i64 r4.l.last), .c2 (fun x y => .tuple ⟨[.int .i64 (r4.l.term r4.l.last).1, .bool (r4.l.term r4.l.last).2]⟩), .c2 _, .c2 _, .c2 _, .c2 _, .c2 _] (aK p r4 pl pv pt mv :: aI pl r4.l :: VoR pv r4.v :: ToR pt r4.t :: aC H mv r4.out.msgs :: Fz H :: aN cv c :: aA b4 (aW bV (.slice none 0 0)) 103 :: R) (fun x => aK p r4 pl pv pt mv :: aI pl r4.l :: VoR pv r4.v :: ToR pt r4.t :: aC H mv r4.out.msgs :: Fz H :: aN cv c :: aA b4 (aW bV (.slice none 0 0)) 103 :: R) (fun x y => aK p r4 pl pv pt mv :: aI pl r4.l :: VoR pv r4.v :: ToR pt r4.t :: aC H mv r4.out.msgs :: Fz H :: aN cv c :: aA b4 (aW bV (.slice none 0 0)) 103 :: R) (fun x y z => []) (fun x y z t => []) hs hw ?kk ⟨drs, drs, drs, drs, drs, drs, drs, drs, drm, drm, drs, drs, drs, drs, drs, trivial⟩
    case kk =>
    intro _ _ a W hs hw
    replace hs : Slots a 124 [(0, ptr p), (2, ptr b4), (5, .int .i64 (r4.l.term r4.l.last).1)] := hs.of ⟨rfl, rfl, rfl, trivial⟩
    have hw : Has 0 w0 W (aG H p (r4) :: Fz H :: aN cv c :: aA b4 (aW bV (.slice none 0 0)) 103 :: R) := cF hw
    have h8 := aBl r4
    refine sv hs hw fun a hs => ?_
    refine cle hs (aBh hw) fun s a W _ hs hw => ?_
    refine sv hs hw fun a hs => ?_
    have hw : Has 0 w0 W (aG H p r4 :: aN (.slice s.1 r4.others.length s.2) r4.others :: Fz H :: aN cv c :: aA b4 (aW bV (.slice none 0 0)) 103 :: R) := hw.pm
    have hall : ∀ i, ((r4.others.take i).foldl (fun r x => r.say (iM r x)) r4).out.msgs.length ≤ 1000 := fun i => by rw [(aBr _ r4).2, List.length_take]; omega
    have hlog : ∀ i, ((r4.others.take i).foldl (fun r x => r.say (iM r x)) r4).l = r4.l := fun i => (aBr _ r4).1
    replace hfire : r.fire = (r4.others.foldl (fun r x => r.say (iM r x)) r4).did := hfire
    generalize r4.others = o at *
    obtain ⟨FF, hFF⟩ : ∃ FF : Nat → RaftD, FF = fun i => (o.take i).foldl (fun r x => r.say (iM r x)) r4 := ⟨_, rfl⟩
    have hF0 : FF 0 = r4 := by rw [hFF]; rfl
    have hFs : ∀ {i x}, o[i]? = some x → FF (i + 1) = (FF i).say (iM (FF i) x) := fun {i x} h => by rw [hFF]; exact aBm (f := fun r x => RaftD.say r (iM r x)) (b := r4) h
    have hFe : ∀ {i}, o.length ≤ i → r.fire = (FF i).did := fun {i} h => by rw [hfire, hFF]; simp only []; rw [List.take_of_length_le h]
    replace hall : ∀ i, (FF i).out.msgs.length ≤ 1000 := fun i => by rw [hFF]; exact hall i
    replace hlog : ∀ i, (FF i).l = r4.l := fun i => by rw [hFF]; exact hlog i
    rw [← hF0] at hw
    clear hfire hFF
    refine bX (σ := Nat) (fun i => [(0, ptr p), (2, ptr b4), (5, .int .i64 (r4.l.term r4.l.last).1), (105, .slice s.1 o.length s.2), (106, .int .i64 (o.length : Int)), (107, .int .i64 (i : Int))]) (fun i => aG H p (FF i) :: aN (.slice s.1 o.length s.2) o :: Fz H :: aN cv c :: aA b4 (aW bV (.slice none 0 0)) 103 :: R) (fun i => i ≤ o.length) (fun i => o.length - i) 0 (Nat.zero_le _) hs ⟨rfl, rfl, rfl, rfl, rfl, rfl, trivial⟩ hw ?_
    clear hs hw
    intro i a W hi hs hw
    refine sv hs hw fun a hs => ?_
    refine cI hs (kt := fun hc => ?_) (kf := fun hc => ?_)
    · have hi' : i < o.length := by simpa using hc
      obtain ⟨x, ho, hd⟩ := dS hi'
      refine sc hs ?_
      refine iA hs (hw.rd_own (In.tl In.hd)) ho rfl fun a b f hs => ?_
      obtain ⟨pl, pv, pt, mv, hw⟩ := dG hw
      refine sx hs hw fun a W hs hw => ?_
      have hw : Has 0 w0 W (aG H p (FF i) :: aN (.slice s.1 o.length s.2) o :: Fz H :: aN cv c :: aA b4 (aW bV (.slice none 0 0)) 103 :: R) := cF hw
      have hask : iM (FF i) x = { cP with kind := 1, to_ := x, ix := (FF i).l.last, lterm := (r4.l.term r4.l.last).1 } := by unfold iM; rw [hlog]
      have hnx := hFs ho
      rw [hask] at hnx
      refine cl hs (fH { cP with kind := 1, to_ := x, ix := (FF i).l.last, lterm := (r4.l.term r4.l.last).1 } (.slice none 0 0) fP (by show (0 : Nat) ≤ 1000000; omega) (hall i) hw) fun a W hs hw => ?_
      rw [← hnx] at hw
      refine sv hs hw fun a hs => ?_
      exact bR (i + 1) hs hw hi' (by omega) ⟨rfl, rfl, rfl, rfl, rfl, bS (i1 (by omega)), trivial⟩
    · refine sc hs ?_
      exact ⟨H, FF i, Fh.le.refl H, hFe (by simp at hc; omega), hs.of ⟨rfl, rfl, trivial⟩, hw.sl⟩
  clear hs hw hfire
  rintro a W ⟨H2, r2, hle, he, hs, hw⟩
  refine sv hs hw fun a hs => ?_
  refine cle hs (s4 hw) fun s a W _ hs hw => ?_
  refine sx hs hw fun a W hs hw => ?_
  refine rc1 hs rfl rfl hw (by repeat (first | exact In.hd | apply In.tl)) rfl ⟨H2, s, ?_⟩
  rw [he]
  exact ⟨rfl, hle, hw.sl⟩
end
section
variable {H H':Fh} {p pl:Nat} {pv pt mv:Value} {r:RaftD} {w0 W:World} {R L:List Res} {l:LogD} {v:Value}
theorem xJ (hw:Has 0 w0 W (aG H p r::R)):
  Calls Tryz.prog 56 ⟨[ptr p]⟩ W fun e W'=>e= .returned (.int .i64 r.role)∧Has 0 w0 W' (aG H p r::R):=by
 obtain ⟨pl,pv,pt,mv,hw⟩:=dG hw
 refine enter Tryz.func56 Tryz.ntmps56 rfl rfl fun a hs=>?_
 refine sv hs hw fun a hs=>?_
 exact rt1 hs rfl rfl ⟨rfl,cF hw⟩
theorem aHY (hw:Has 0 w0 W (aG H p r::R)):
  Calls Tryz.prog 124 ⟨[ptr p]⟩ W fun e W'=>e= .returned (.int .i64 r.commit)∧Has 0 w0 W' (aG H p r::R):=by
 obtain ⟨pl,pv,pt,mv,hw⟩:=dG hw
 refine enter Tryz.func124 Tryz.ntmps124 rfl rfl fun a hs=>?_
 refine sv hs hw fun a hs=>?_
 exact rt1 hs rfl rfl ⟨rfl,cF hw⟩
theorem aHZ (hw:Has 0 w0 W (aG H p r::R)):
  Calls Tryz.prog 21 ⟨[ptr p]⟩ W fun e W'=>e= .returned (.agg ⟨[.int .i64 r.h.term,.int .i64 r.h.vote]⟩)∧Has 0 w0 W' (aG H p r::R):=by
 obtain ⟨pl,pv,pt,mv,hw⟩:=dG hw
 refine enter Tryz.func21 Tryz.ntmps21 rfl rfl fun a hs=>?_
 refine sc hs ?_
 refine sn hs hw fun b a W hs hw=>?_
 refine sx hs hw fun a W hs hw=>?_
 exact rc1 hs rfl rfl hw (by repeat (first|exact In.hd|apply In.tl)) rfl ⟨rfl,cF (hw.sub (List.Sublist.cons _ (List.Sublist.refl _)))⟩
theorem qK (hw:Has 0 w0 W (aK p r pl pv pt mv::R)):
  Calls Tryz.prog 67 ⟨[ptr p]⟩ W fun e W'=>e= .returned (ptr pl)∧Has 0 w0 W' (aK p r pl pv pt mv::R):=by
 refine enter Tryz.func67 Tryz.ntmps67 rfl rfl fun a hs=>?_
 refine sv hs hw fun a hs=>?_
 exact rt1 hs rfl rfl ⟨rfl,hw⟩
theorem aH0 (id:Int) (h:fN) (commit:Int) (hr:pO id h l commit=some r) (hw:Has 0 w0 W (aI pl l::R)):
  Calls Tryz.prog 92 ⟨[.int .i64 id,.agg ⟨[.int .i64 h.term,.int .i64 h.vote]⟩,ptr pl,.int .i64 commit]⟩ W fun e W'=>∃q:Nat,e= .returned (ptr q)∧True∧Has 0 w0 W' (aG H q r::R):=by
 unfold pO at hr
 split at hr
 ·cases hr
 rename_i hn
 obtain rfl:=Option.some.inj hr
 have c1:decide (id<1)=false:=decide_eq_false (by omega)
 have c2:decide (id > 7)=false:=decide_eq_false (by omega)
 have c3:i5 h=true:=by cases hh:i5 h with|true=>rfl|false=>exact absurd (.inr (.inr (.inl hh))) hn
 have c4:decide (commit<l.s.ix)=false:=decide_eq_false (by omega)
 have c5:decide (commit > l.last)=false:=decide_eq_false (by omega)
 refine enter Tryz.func92 Tryz.ntmps92 rfl rfl fun a hs=>?_
 refine sc hs ?_
 refine sn hs hw fun b a W hs hw=>?_
 refine sv hs hw fun a hs=>?_
 rw [c1] at hs
 refine sv hs hw fun a hs=>?_
 rw [c2] at hs
 refine sv hs hw fun a hs=>?_
 refine cl hs ((wal_May_hard (h:=h)).ok hw) fun a W hs hw=>?_
 rw [c3] at hs
 refine sx hs hw fun a W hs hw=>?_
 rw [c4] at hs
 refine sx hs hw fun a W hs hw=>?_
 rw [c5] at hs
 refine sv hs hw fun a hs=>?_
 refine sn hs hw fun q a W hs hw=>?_
 refine sv hs hw fun a hs=>?_
 refine rt1 hs rfl rfl ⟨q,rfl,trivial,?_⟩
 have hw:Has 0 w0 W (Sx.Own 38 13 (.slice none 0 0) 0 []::_):=hw.nilOwn 38 13
 have hw:=kX (H:=H) (l:=[]) hw rfl
 have hw:=(hw.fact (show Value.pointer none=Value.pointer none from rfl)).fact (show Value.pointer none=Value.pointer none from rfl)
 exact cF (r:=⟨id,h,l,commit,0,0,false,none,none,bV⟩) (pl:=pl) (pv:= .pointer none) (pt:= .pointer none) (mv:= .slice none 0 0) (hw.sl)
end
end Go.Proofs.YtgpbngfehfbndaaGreatDoor.Sw
namespace Go.Sx
open Go.RowKit
section
variable {P:Program} {fn:Func} {C:Ending→World→Prop} {a:Act} {n G:Nat} {L:List (Nat×Value)} {w W:World} {R:List Res} {t b o:Nat} {T E:TypeId} {cs z:List Value}
theorem qL [u:Ty P T true z] {r r':Tmp} {v v':Value} (hs:Slots a n L) (hr:fn.results= #[.tmp r,.cell t T,.tmp r']) (hv:lk L t=some (.pointer (some ⟨b,o,none⟩)):=by with_unfolding_all exact rfl) (hw:Has G w W R) (hi:In (aA b cs E) R:=by repeat (first|exact In.hd|apply In.tl)) (hl:Nat.ble (o+z.length) cs.length=true:=by with_unfolding_all exact rfl) (hv2:lk L r=some v) (hv3:lk L r'=some v') (h:C (.returned (.tuple #[v,.agg ⟨cut cs o z.length⟩,v'])) W):bodyPost P fn C .ret a W:=by
 have h1:=oK u (hw.block hi).1 (Nat.le_of_ble_eq_true hl)
 refine rt hs ?_ h
 have h2:=gJ hs hv
 have h3:=gJ hs hv2
 have h4:=gJ hs hv3
 simp only [Instr.loadAt,Instr.sureAddr,Sem.run_bind,Sem.run_pure,Result.andThen_ok] at h1
 simp only [results,hr,List.mapM_toArray,List.mapM_cons,List.mapM_nil]
 simp [h2,h3,h4,asAddr,h1]
end
end Go.Sx
namespace Go.Proofs.YtgpbngfehfbndaaGreatDoor.Sw
open Go.RowKit Go.Sx
section
variable {H H':Fh} {p pl:Nat} {pv pt mv:Value} {r:RaftD} {w0 W:World} {R L:List Res} {v:Value}
theorem aH1 (kind:Int) (s:ByteArray) (hsz:s.size≤1000000) (hl:r.out.msgs.length≤800) (hw:Has 0 w0 W (aG H p r::Fz H::R)):
  Calls Tryz.prog 114 ⟨[ptr p,.int .i64 kind,.string s]⟩ W fun e W'=>∃(H':Fh) (x:Option Addr×Nat),e= .returned (.tuple ⟨[.int .i64 (r.propose kind s).2.1,.agg ⟨aW (r.propose kind s).2.2.1 (.slice x.1 (r.propose kind s).2.2.1.msgs.length x.2)⟩,.int .i64 (r.propose kind s).2.2.2]⟩)∧H.le H'∧Has 0 w0 W' (aC H' (.slice x.1 (r.propose kind s).2.2.1.msgs.length x.2) (r.propose kind s).2.2.1.msgs::aG H' p (r.propose kind s).1::Fz H'::R):=by
 have h7:=qF r.l r.l.last
 have hp:r.propose kind s=(if r.role≠2 then (r,0,bV,9)
  else if (kind≠2∧kind≠3)∨2500<(s.size:Int)∨(kind=3∧((dK s.data.toList).2=false∨nM (dK s.data.toList).1 (r.l.confAt r.l.last).1=false)) then (r,0,bV,1)
  else if kind=3∧(r.commit<(r.l.confAt r.l.last).2∨r.l.fits r.commit r.h.term=false) then (r,0,bV,10)
  else if 200≤((r.l.get r.l.first 200).length:Int) then (r,0,bV,5)
  else ((r.put kind s).1.move.all.did.1,(r.put kind s).2,(r.put kind s).1.move.all.did.2,0)):=rfl
 refine enter Tryz.func114 Tryz.ntmps114 rfl rfl fun a hs=>?_
 refine sv hs hw fun a hs=>?_
 refine sn hs hw fun b7 a W hs hw=>?_
 have hw:Has 0 w0 W (aG H p r::Fz H::aA b7 (aW bV (.slice none 0 0)) 103::R):=hw.pm
 obtain ⟨pl,pv,pt,mv,hw⟩:=dG hw
 refine sv hs hw fun a hs=>?_
 refine aF hs (hc:=(sO (l:=r.l)).ok hw.rebase) (k:=?_)
 rintro e' W' ⟨xx,rfl,hw'⟩
 refine ⟨_,rfl,fun a hs=>?_⟩
 have hw:=hw.trans hw'
 rw [show r.l.conf=r.l.confAt r.l.last from rfl] at hs hw
 generalize (r.l.confAt r.l.last).1=c at *
 generalize (r.l.confAt r.l.last).2=ci at *
 obtain ⟨cv,hcv⟩:∃cv,cv=Value.slice xx.1 c.length xx.2:=⟨_,rfl⟩
 replace hs:Slots a 118 ((22,.tuple ⟨[.slice xx.1 c.length xx.2,.int .i64 ci]⟩):: [(0,ptr p),(1,.int .i64 kind),(2,.string s),(6,.int .i64 0),(7,ptr b7),(8,.int .i64 0)]):=hs.of ⟨rfl,rfl,rfl,rfl,rfl,rfl,rfl,trivial⟩
 rw [←hcv] at hs hw
 refine sv hs hw fun a hs=>?_
 refine aF hs (hc:=(sJ (s:=s) hsz).ok hw.rebase) (k:=?_)
 rintro e' W'' ⟨yy,rfl,hw'⟩
 refine ⟨_,rfl,fun a hs=>?_⟩
 have hw:=hw.trans hw'
 obtain ⟨dv,hdv⟩:∃dv,dv=Value.slice yy.1 (dK s.data.toList).1.length yy.2:=⟨_,rfl⟩
 rw [←hdv] at hs hw
 generalize dK s.data.toList=D at *
 have hw:Has 0 w0 W'' (aK p r pl pv pt mv::aI pl r.l::VoR pv r.v::ToR pt r.t::aC H mv r.out.msgs::Fz H::aN cv c::aN dv D.1::aA b7 (aW bV (.slice none 0 0)) 103::R):=hw.pm
 have fin0:∀{W},Has 0 w0 W (aK p r pl pv pt mv::aI pl r.l::VoR pv r.v::ToR pt r.t::aC H mv r.out.msgs::Fz H::aN cv c::aN dv D.1::aA b7 (aW bV (.slice none 0 0)) 103::R)→Has 0 w0 W (aC H (.slice none 0 0) []::aG H p r::Fz H::R):=fun h=>aBo (cF (h.sl))
 have fin1:∀{W},Has 0 w0 W (aK p r pl pv pt mv::aI pl r.l::VoR pv r.v::ToR pt r.t::aC H mv r.out.msgs::Fz H::aN cv c::aN dv D.1::aA b7 (aW bV (.slice none 0 0)) 103::R)→Has 0 w0 W (aG H p (r)::Fz H::aN cv c::aN dv D.1::aA b7 (aW bV (.slice none 0 0)) 103::R):=fun h=>cF h
 replace hs:Slots a 118 ((27,.tuple ⟨[dv,.bool D.2]⟩):: [(0,ptr p),(1,.int .i64 kind),(2,.string s),(6,.int .i64 0),(7,ptr b7),(8,.int .i64 0),(9,cv),(10,.int .i64 ci)]):=hs.of ⟨rfl,rfl,rfl,rfl,rfl,rfl,rfl,rfl,rfl,trivial⟩
 clear hdv hcv hw'
 refine zE hs hw ?_;clear hs;intro a hs
 refine sq ?_
 replace hs:Slots a 118 [(0,ptr p),(1,.int .i64 kind),(2,.string s),(7,ptr b7),(9,cv),(10,.int .i64 ci),(11,dv),(12,.bool D.2)]:=hs.of ⟨rfl,rfl,rfl,rfl,rfl,rfl,rfl,rfl,trivial⟩
 refine fC (M:=fun a W=>(r.propose kind s=((r.put kind s).1.move.all.did.1,(r.put kind s).2,(r.put kind s).1.move.all.did.2,0))∧Slots a 118 [(0,ptr p),(1,.int .i64 kind),(2,.string s),(7,ptr b7)]∧Has 0 w0 W (aG H p (r)::Fz H::aN cv c::aN dv D.1::aA b7 (aW bV (.slice none 0 0)) 103::R)) ?_ ?_
 ·refine sx hs hw fun a W hs hw=>?_
  cases c1:(r.role !=2) with
  |true=>
   rw [c1] at hs
   rw [if_pos (by simpa using c1)] at hp
   refine sx hs hw fun a W hs hw=>?_
   refine qL hs rfl rfl hw (by repeat (first|exact In.hd|apply In.tl)) rfl rfl rfl ⟨H,(none,0),?_⟩
   rw [hp]
   exact ⟨rfl,Fh.le.refl H,fin0 hw⟩
  |false=>
  rw [c1] at hs
  rw [if_neg (by simpa using c1)] at hp
  replace hs:Slots a 118 [(30,.bool false),(0,ptr p),(1,.int .i64 kind),(2,.string s),(7,ptr b7),(9,cv),(10,.int .i64 ci),(11,dv),(12,.bool D.2)]:=hs.of ⟨rfl,rfl,rfl,rfl,rfl,rfl,rfl,rfl,rfl,trivial⟩
  refine sxc hs ?_
  refine sq ?_
  refine fC (M:=fun a W=>∃g:Bool,(g=true↔((kind≠2∧kind≠3)∨2500<(s.size:Int)∨(kind=3∧(D.2=false∨nM D.1 c=false))))∧Slots a 118 [(37,.bool g),(0,ptr p),(1,.int .i64 kind),(2,.string s),(7,ptr b7),(9,cv),(10,.int .i64 ci),(11,dv),(12,.bool D.2)]∧Has 0 w0 W (aK p r pl pv pt mv::aI pl r.l::VoR pv r.v::ToR pt r.t::aC H mv r.out.msgs::Fz H::aN cv c::aN dv D.1::aA b7 (aW bV (.slice none 0 0)) 103::R)) ?_ ?_
  ·by_cases k2:kind=2
   ·rw [k2] at hs
    refine sv hs hw fun a hs=>?_
    cases c2:decide ((s.size:Int) > 2500) with
    |true=>
     rw [c2] at hs
     refine sv hs hw fun a hs=>?_
     exact ⟨true,by have:=of_decide_eq_true c2;simp;omega,by rw [k2];exact hs.of ⟨rfl,rfl,rfl,rfl,rfl,rfl,rfl,rfl,rfl,trivial⟩,hw⟩
    |false=>
     rw [c2] at hs
     refine sv hs hw fun a hs=>?_
     exact ⟨false,by have:=of_decide_eq_false c2;simp;omega,by rw [k2];exact hs.of ⟨rfl,rfl,rfl,rfl,rfl,rfl,rfl,rfl,rfl,trivial⟩,hw⟩
   by_cases k3:kind=3
   ·rw [k3] at hs
    refine sv hs hw fun a hs=>?_
    cases c2:decide ((s.size:Int) > 2500) with
    |true=>
     rw [c2] at hs
     refine sv hs hw fun a hs=>?_
     exact ⟨true,by have:=of_decide_eq_true c2;simp;omega,by rw [k3];exact hs.of ⟨rfl,rfl,rfl,rfl,rfl,rfl,rfl,rfl,rfl,trivial⟩,hw⟩
    |false=>
    rw [c2] at hs
    have g2:=of_decide_eq_false c2
    refine sv hs hw fun a hs=>?_
    cases c3:D.2 with
    |false=>
     rw [c3] at hs
     refine sv hs hw fun a hs=>?_
     exact ⟨true,by simp;omega,by rw [k3];exact hs.of ⟨rfl,rfl,rfl,rfl,rfl,rfl,rfl,rfl,rfl,trivial⟩,hw⟩
    |true=>
    rw [c3] at hs
    refine sv hs hw fun a hs=>?_
    refine cl hs ((aGw (l:=D.1) (l2:=c)).ok hw) fun a W hs hw=>?_
    cases c4:nM D.1 c with
    |false=>
     rw [c4] at hs
     refine sv hs hw fun a hs=>?_
     exact ⟨true,by simp;omega,by rw [k3];exact hs.of ⟨rfl,rfl,rfl,rfl,rfl,rfl,rfl,rfl,rfl,trivial⟩,hw⟩
    |true=>
     rw [c4] at hs
     refine sv hs hw fun a hs=>?_
     exact ⟨false,by simp;omega,by rw [k3];exact hs.of ⟨rfl,rfl,rfl,rfl,rfl,rfl,rfl,rfl,rfl,trivial⟩,hw⟩
   ·refine sv hs hw fun a hs=>?_
    rw [show (kind !=2)=true by simpa using k2] at hs
    refine sv hs hw fun a hs=>?_
    rw [show (kind !=3)=true by simpa using k3] at hs
    refine sv hs hw fun a hs=>?_
    exact ⟨true,by simp;omega,hs.of ⟨rfl,rfl,rfl,rfl,rfl,rfl,rfl,rfl,rfl,trivial⟩,hw⟩
  clear hs hw
  rintro a W ⟨g,hg,hs,hw⟩
  cases g with
  |true=>
   rw [if_pos (hg.1 rfl)] at hp
   refine sx hs hw fun a W hs hw=>?_
   refine qL hs rfl rfl hw (by repeat (first|exact In.hd|apply In.tl)) rfl rfl rfl ⟨H,(none,0),?_⟩
   rw [hp]
   exact ⟨rfl,Fh.le.refl H,fin0 hw⟩
  |false=>
  rw [if_neg (fun h=>by have:=hg.2 h;cases this)] at hp
  clear hg
  refine sxc hs ?_
  refine sq ?_
  replace hs:Slots a 118 [(0,ptr p),(1,.int .i64 kind),(2,.string s),(7,ptr b7),(9,cv),(10,.int .i64 ci),(11,dv),(12,.bool D.2)]:=hs.of ⟨rfl,rfl,rfl,rfl,rfl,rfl,rfl,rfl,trivial⟩
  refine fC (M:=fun a W=>∃g:Bool,(g=true↔(kind=3∧(r.commit<ci∨r.l.fits r.commit r.h.term=false)))∧Slots a 118 [(64,.bool g),(0,ptr p),(1,.int .i64 kind),(2,.string s),(7,ptr b7),(9,cv),(10,.int .i64 ci),(11,dv),(12,.bool D.2)]∧Has 0 w0 W (aK p r pl pv pt mv::aI pl r.l::VoR pv r.v::ToR pt r.t::aC H mv r.out.msgs::Fz H::aN cv c::aN dv D.1::aA b7 (aW bV (.slice none 0 0)) 103::R)) ?_ ?_
  ·by_cases k3:kind=3
   ·rw [k3] at hs
    cases c4:decide (ci > r.commit) with
    |true=>
     have g4:=of_decide_eq_true c4
     refine bF [23] [.f 0 0,.f 0 0,.f 0 0,.f 0 0,.f 0 0,.f 0 0,.f 0 0,.f 0 0,.f 0 0,.f 0 0,.f 0 0,.f 0 0,.f 0 0,.f 0 0,.f 0 0,.f 0 0,.f 0 0,.f 0 0,.f 0 0,.f 0 0,.f 0 0,.f 0 0,.f 0 0,.m 0,.f 1 1,.f 1 1,.f 1 1,.f 1 1] [.c0 _,.c0 _,.c0 _,.c0 _,.c0 _,.c0 _,.c0 _,.c0 _,.c0 (.bool true),.c0 _,.c0 _,.c0 _,.c0 _,.c0 _,.c0 _,.c0 _,.c0 _,.c0 _,.c0 _,.c0 _,.c0 _,.c0 _,.c0 _,.c1 (fun x=>undef),.c1 _,.c1 _,.c1 _,.c1 _] (aK p r pl pv pt mv::aI pl r.l::VoR pv r.v::ToR pt r.t::aC H mv r.out.msgs::Fz H::aN cv c::aN dv D.1::aA b7 (aW bV (.slice none 0 0)) 103::R) (fun x=>aK p r pl pv pt mv::aI pl r.l::VoR pv r.v::ToR pt r.t::aC H mv r.out.msgs::Fz H::aN cv c::aN dv D.1::aA b7 (aW bV (.slice none 0 0)) 103::R) (fun x y=>[]) (fun x y z=>[]) (fun x y z t=>[]) hs hw ?kk ⟨drs,drs,drs,drs,drs,drs,drs,drs,?f8,drs,drs,drs,drs,drs,drs,drs,drs,drs,drs,drs,drs,drs,drs,drm,drs,drs,drs,drs,trivial⟩
     case f8=>
      refine ⟨?_,trivial,trivial,trivial,trivial⟩
      intro x y z t LD a W hs hw
      refine sv hs hw fun a hs=>?_
      rw [c4] at hs
      exact ⟨hs,hw⟩
     case kk=>
      intro _ a W hs hw
      exact ⟨true,by simp;omega,by rw [k3];exact hs.of ⟨rfl,rfl,rfl,rfl,rfl,rfl,rfl,rfl,rfl,trivial⟩,hw⟩
    |false=>
     have g4:=of_decide_eq_false c4
     refine bF [23] [.f 0 0,.f 0 0,.f 0 0,.f 0 0,.f 0 0,.f 0 0,.f 0 0,.f 0 0,.f 0 0,.f 0 0,.f 0 0,.f 0 0,.f 0 0,.f 0 0,.f 0 0,.f 0 0,.f 0 0,.f 0 0,.f 0 0,.f 0 0,.f 0 0,.f 0 0,.f 0 0,.m 0,.f 1 1,.f 1 1,.f 1 1,.f 1 1] [.c0 _,.c0 _,.c0 _,.c0 _,.c0 _,.c0 _,.c0 _,.c0 _,.c0 (.bool false),.c0 _,.c0 _,.c0 _,.c0 _,.c0 _,.c0 _,.c0 _,.c0 _,.c0 _,.c0 _,.c0 _,.c0 _,.c0 _,.c0 _,.c1 (fun x=> .bool (r.l.fits r.commit r.h.term)),.c1 _,.c1 _,.c1 _,.c1 _] (aK p r pl pv pt mv::aI pl r.l::VoR pv r.v::ToR pt r.t::aC H mv r.out.msgs::Fz H::aN cv c::aN dv D.1::aA b7 (aW bV (.slice none 0 0)) 103::R) (fun x=>aK p r pl pv pt mv::aI pl r.l::VoR pv r.v::ToR pt r.t::aC H mv r.out.msgs::Fz H::aN cv c::aN dv D.1::aA b7 (aW bV (.slice none 0 0)) 103::R) (fun x y=>[]) (fun x y z=>[]) (fun x y z t=>[]) hs hw ?kk ⟨drs,drs,drs,drs,drs,drs,drs,drs,?f8,drs,drs,drs,drs,drs,drs,drs,drs,drs,drs,drs,drs,drs,drs,drm,drs,drs,drs,drs,trivial⟩
     case f8=>
      refine ⟨?_,trivial,trivial,trivial,trivial⟩
      intro x y z t LD a W hs hw
      refine sv hs hw fun a hs=>?_
      rw [c4] at hs
      exact ⟨hs,hw⟩
     case kk=>
      intro _ a W hs hw
      exact ⟨!r.l.fits r.commit r.h.term,by cases r.l.fits r.commit r.h.term <;> simp <;> omega,by rw [k3];exact hs.of ⟨rfl,rfl,rfl,rfl,rfl,rfl,rfl,rfl,rfl,trivial⟩,hw⟩
   ·refine bF [23] [.f 0 0,.f 0 0,.f 0 0,.f 0 0,.f 0 0,.f 0 0,.f 0 0,.f 0 0,.f 0 0,.f 0 0,.f 0 0,.f 0 0,.f 0 0,.f 0 0,.f 0 0,.f 0 0,.f 0 0,.f 0 0,.f 0 0,.f 0 0,.f 0 0,.f 0 0,.f 0 0,.m 0,.f 1 1,.f 1 1,.f 1 1,.f 1 1] [.c0 _,.c0 (.bool false),.c0 _,.c0 _,.c0 _,.c0 _,.c0 _,.c0 _,.c0 _,.c0 _,.c0 _,.c0 _,.c0 _,.c0 _,.c0 _,.c0 _,.c0 _,.c0 _,.c0 _,.c0 _,.c0 _,.c0 _,.c0 _,.c1 (fun x=>undef),.c1 _,.c1 _,.c1 _,.c1 _] (aK p r pl pv pt mv::aI pl r.l::VoR pv r.v::ToR pt r.t::aC H mv r.out.msgs::Fz H::aN cv c::aN dv D.1::aA b7 (aW bV (.slice none 0 0)) 103::R) (fun x=>aK p r pl pv pt mv::aI pl r.l::VoR pv r.v::ToR pt r.t::aC H mv r.out.msgs::Fz H::aN cv c::aN dv D.1::aA b7 (aW bV (.slice none 0 0)) 103::R) (fun x y=>[]) (fun x y z=>[]) (fun x y z t=>[]) hs hw ?kk ⟨drs,?f1,drs,drs,drs,drs,drs,drs,drs,drs,drs,drs,drs,drs,drs,drs,drs,drs,drs,drs,drs,drs,drs,drm,drs,drs,drs,drs,trivial⟩
    case f1=>
     refine ⟨?_,trivial,trivial,trivial,trivial⟩
     intro x y z t LD a W hs hw
     refine sv hs hw fun a hs=>?_
     rw [show (kind == 3)=false by simpa using k3] at hs
     exact ⟨hs,hw⟩
    case kk=>
     intro _ a W hs hw
     exact ⟨false,by simp;omega,hs.of ⟨rfl,rfl,rfl,rfl,rfl,rfl,rfl,rfl,rfl,trivial⟩,hw⟩
  clear hs hw
  rintro a W ⟨g,hg,hs,hw⟩
  cases g with
  |true=>
   rw [if_pos (hg.1 rfl)] at hp
   refine sx hs hw fun a W hs hw=>?_
   refine qL hs rfl rfl hw (by repeat (first|exact In.hd|apply In.tl)) rfl rfl rfl ⟨H,(none,0),?_⟩
   rw [hp]
   exact ⟨rfl,Fh.le.refl H,fin0 hw⟩
  |false=>
  rw [if_neg (fun h=>by have:=hg.2 h;cases this)] at hp
  clear hg
  refine sc hs ?_
  refine bF [8,9] [.f 0 1,.f 0 1,.f 0 1,.f 0 1,.f 0 0,.f 0 0,.f 0 0,.f 0 0,.m 0,.m 1,.f 2 2,.f 2 2,.f 2 2] [.c0 _,.c0 _,.c0 _,.c0 _,.c0 _,.c0 _,.c0 _,.c0 _,.c1 (fun x=> .int .i64 r.l.first),.c2 (fun x y=> .slice y.ad (r.l.get r.l.first 200).length y.cap),.c2 _,.c2 _,.c2 _] (aK p r pl pv pt mv::aI pl r.l::VoR pv r.v::ToR pt r.t::aC H mv r.out.msgs::Fz H::aN cv c::aN dv D.1::aA b7 (aW bV (.slice none 0 0)) 103::R) (fun x=>aK p r pl pv pt mv::aI pl r.l::VoR pv r.v::ToR pt r.t::aC H mv r.out.msgs::Fz H::aN cv c::aN dv D.1::aA b7 (aW bV (.slice none 0 0)) 103::R) (fun x y=>aK p r pl pv pt mv::aI pl r.l::VoR pv r.v::ToR pt r.t::aC H mv r.out.msgs::Fz H::aN cv c::aN dv D.1::aA b7 (aW bV (.slice none 0 0)) 103::R) (fun x y z=>[]) (fun x y z t=>[]) hs hw ?kk ⟨drs,drs,drs,drs,drs,drs,drs,drs,drm,?m1,drs,drs,drs,trivial⟩
  case m1=>
   intro x y z t LD a W hs hw
   refine sg hs hw (fun s a W hs hw=>?_) (g:=mT)
   exact ⟨{ad:=s.1,cap:=s.2},hs,hw.sub (List.Sublist.cons _ (List.Sublist.refl _))⟩
  case kk=>
  intro _ y a W hs hw
  replace hs:Slots a 118 [(93,.bool (decide (((r.l.get r.l.first 200).length:Int)≥200))),(0,ptr p),(1,.int .i64 kind),(2,.string s),(7,ptr b7),(9,cv),(10,.int .i64 ci),(11,dv),(12,.bool D.2)]:=hs.of ⟨rfl,rfl,rfl,rfl,rfl,rfl,rfl,rfl,rfl,trivial⟩
  cases c5:decide (((r.l.get r.l.first 200).length:Int)≥200) with
  |true=>
   rw [c5] at hs
   rw [if_pos (of_decide_eq_true c5)] at hp
   refine sx hs hw fun a W hs hw=>?_
   refine qL hs rfl rfl hw (by repeat (first|exact In.hd|apply In.tl)) rfl rfl rfl ⟨H,(none,0),?_⟩
   rw [hp]
   exact ⟨rfl,Fh.le.refl H,fin0 hw⟩
  |false=>
   rw [c5] at hs
   rw [if_neg (of_decide_eq_false c5)] at hp
   refine sc hs ?_
   exact ⟨hp,hs.of ⟨rfl,rfl,rfl,rfl,trivial⟩,fin1 hw⟩
 clear hs hw hp fin0 fin1
 rintro a W ⟨hp,hs,hw⟩
 refine sv hs hw fun a hs=>?_
 refine cl hs (aBk kind s hsz hw) fun a W hs hw=>?_
 refine sv hs hw fun a hs=>?_
 refine cl hs (tA hw) fun a W hs hw=>?_
 refine sv hs hw fun a hs=>?_
 refine aF hs (hc:=s9 (by rw [tB,aBn];omega) hw) (k:=?_)
 rintro e' W' ⟨rfl,H3,hle3,hw⟩
 refine ⟨_,rfl,fun a hs=>?_⟩
 refine sv hs hw fun a hs=>?_
 refine cle hs (s4 hw) fun x a W _ hs hw=>?_
 refine sx hs hw fun a W hs hw=>?_
 refine qL hs rfl rfl hw (by repeat (first|exact In.hd|apply In.tl)) rfl rfl rfl ⟨H3,x,?_⟩
 rw [hp]
 exact ⟨rfl,hle3,hw.sl⟩
end
section
variable {H H':Fh} {p q pk pr pt:Nat} {s:cY} {w0 W:World} {R L:List Res} {d d':bM} {k k':dY} {o:fV}
abbrev aP (p pk pr pt:Nat):Res:=aA p [ptr pk,ptr pr,ptr pt,.bool false] 98
theorem aBs (l:LogD) (i:Int) (n:Nat):(l.get i (n:Int)).length≤n:=by
 unfold LogD.get
 split
 ·exact Nat.zero_le _
 ·rw [List.length_take];omega
theorem aH2 (h:pS d s o=some (d',k')):o.snap=false∧∃d1 k1 d2 k2,(if o.hard=true then nO d s.k s.r.h else some (d,s.k))=some (d1,k1)∧(if 0<o.from_ then wP d1 k1 (s.r.l.get o.from_ 200) else some (d1,k1))=some (d2,k2)∧(if o.hard=true∨0<o.from_ then (pP d2).map (fun d=>(d,k2)) else some (d2,k2))=some (d',k'):=by
 unfold pS at h
 split at h
 ·cases h
 ·rename_i hn
  refine ⟨by simpa using hn,?_⟩
  cases hh:o.hard <;> by_cases hf:0<o.from_ <;> simp only [hh,hf,Bool.false_eq_true,if_true,if_false,or_true,true_or,or_self,Option.bind_some,Option.bind_eq_some_iff,Option.some.injEq,Prod.exists,Option.bind_eq_bind] at h⊢
  ·obtain ⟨d2,k2,h2,h3⟩:=h
   exact ⟨d,s.k,d2,k2,rfl,h2,h3⟩
  ·exact ⟨d,s.k,d,s.k,rfl,rfl,h⟩
  ·obtain ⟨d1,k1,h1,d2,k2,h2,h3⟩:=h
   exact ⟨d1,k1,d2,k2,h1,h2,h3⟩
  ·obtain ⟨d1,k1,h1,h3⟩:=h
   exact ⟨d1,k1,d1,k1,h1,rfl,h3⟩
theorem aH3 {oad:Option Addr} {on ocap:Nat} (hk:pS d s o=some (d',k')) (hw:Has 0 w0 W (aP p pk pr pt::aX pk q s.k::aG H pr s.r::aB nameS q d::R)):
  Calls Tryz.prog 123 ⟨[ptr p,.agg ⟨aW o (.slice oad on ocap)⟩]⟩ W fun e W'=>e= .returned (.int .i64 0)∧Has 0 w0 W' (aP p pk pr pt::aX pk q k'::aG H pr s.r::aB nameS q d'::R):=by
 obtain ⟨hsn,d1,k1,d2,k2,h1,h2,h3⟩:=aH2 hk
 clear hk
 refine enter Tryz.func123 Tryz.ntmps123 rfl rfl fun a hs=>?_
 refine sc hs ?_
 refine sn hs hw fun b3 a W hs hw=>?_
 have hw:Has 0 w0 W (aP p pk pr pt::aX pk q (s.k)::aG H pr s.r::aB nameS q (d)::aA b3 (aW o (.slice oad on ocap)) 103::R):=hw.pm
 refine zE hs hw ?_;clear hs;intro a hs
 refine sq ?_
 refine fC (M:=fun a W=>Slots a 101 [(0,ptr p),(3,ptr b3)]∧Has 0 w0 W (aP p pk pr pt::aX pk q (k1)::aG H pr s.r::aB nameS q (d1)::aA b3 (aW o (.slice oad on ocap)) 103::R)) ?_ ?_
 ·refine sx hs hw fun a W hs hw=>?_
  cases c1:o.hard with
  |false=>
   rw [c1] at h1 hs
   have h1:some (d,s.k)=some (d1,k1):=h1
   injection h1 with h1
   injection h1 with e1 e2
   subst e1 e2
   refine sc hs ?_
   exact ⟨hs.of ⟨rfl,rfl,trivial⟩,hw⟩
  |true=>
   rw [c1] at h1 hs
   have h1:nO d s.k s.r.h=some (d1,k1):=h1
   refine zG hs ?_
   refine bF [8,9] [.f 0 1,.f 0 1,.f 0 1,.f 0 1,.f 0 0,.f 0 0,.f 0 0,.f 0 0,.m 0,.m 1,.f 2 2] [.c0 _,.c0 _,.c0 _,.c0 _,.c0 _,.c0 _,.c0 _,.c0 _,.c1 (fun x=> .agg ⟨[.int .i64 s.r.h.term,.int .i64 s.r.h.vote]⟩),.c2 (fun x y=> .int .i64 0),.c2 _] (aP p pk pr pt::aX pk q (s.k)::aG H pr s.r::aB nameS q (d)::aA b3 (aW o (.slice oad on ocap)) 103::R) (fun x=>aP p pk pr pt::aX pk q (s.k)::aG H pr s.r::aB nameS q (d)::aA b3 (aW o (.slice oad on ocap)) 103::R) (fun x y=>aP p pk pr pt::aX pk q (k1)::aG H pr s.r::aB nameS q (d1)::aA b3 (aW o (.slice oad on ocap)) 103::R) (fun x y z=>[]) (fun x y z t=>[]) hs hw ?kk ⟨drs,drs,drs,drs,drs,drs,drs,drs,?m0,?m1,drs,trivial⟩
   case m0=>
    intro x y z t LD a W hs hw
    have hw:Has 0 w0 W (aG H pr s.r::aP p pk pr pt::aX pk q s.k::aB nameS q d::aA b3 (aW o (.slice oad on ocap)) 103::R):=hw.pm
    refine cl hs (aHZ hw) fun a W hs hw=>?_
    exact ⟨{},hs,hw.pm⟩
   case m1=>
    intro x y z t LD a W hs hw
    have hw:Has 0 w0 W (aX pk q s.k::aB nameS q d::aP p pk pr pt::aG H pr s.r::aA b3 (aW o (.slice oad on ocap)) 103::R):=hw.pm
    refine cl hs (aG9 h1 hw) fun a W hs hw=>?_
    exact ⟨{},hs,hw.pm⟩
   case kk=>
    intro _ _ a W hs hw
    refine sv hs hw fun a hs=>?_
    exact ⟨hs.of ⟨rfl,rfl,trivial⟩,hw⟩
 clear hs hw
 rintro a W ⟨hs,hw⟩
 refine sx hs hw fun a W hs hw=>?_
 rw [hsn] at hs
 replace hs:Slots a 101 [(27,.bool false),(0,ptr p),(3,ptr b3)]:=hs.of ⟨rfl,rfl,rfl,trivial⟩
 refine zH hs ?_
 refine sq ?_
 refine fC (M:=fun a W=>Slots a 101 [(0,ptr p),(3,ptr b3)]∧Has 0 w0 W (aP p pk pr pt::aX pk q (k2)::aG H pr s.r::aB nameS q (d2)::aA b3 (aW o (.slice oad on ocap)) 103::R)) ?_ ?_
 ·refine sx hs hw fun a W hs hw=>?_
  cases c1:decide (o.from_ > 0) with
  |false=>
   rw [c1] at hs
   rw [if_neg (of_decide_eq_false c1)] at h2
   injection h2 with h2
   injection h2 with e1 e2
   subst e1 e2
   refine sc hs ?_
   exact ⟨hs.of ⟨rfl,rfl,trivial⟩,hw⟩
  |true=>
   rw [c1] at hs
   rw [if_pos (of_decide_eq_true c1)] at h2
   have hw:Has 0 w0 W (aG H pr s.r::aP p pk pr pt::aX pk q k1::aB nameS q d1::aA b3 (aW o (.slice oad on ocap)) 103::R):=hw.pm
   obtain ⟨pl,pv,pu,mv,hw⟩:=dG hw
   have hw:Has 0 w0 W (aP p pk pr pt::aX pk q (k1)::aK pr s.r pl pv pu mv::aI pl s.r.l::VoR pv s.r.v::ToR pu s.r.t::aC H mv s.r.out.msgs::aB nameS q (d1)::aA b3 (aW o (.slice oad on ocap)) 103::R):=hw.pm
   have hgl:(s.r.l.get o.from_ 200).length≤200:=aBs s.r.l o.from_ 200
   have hback:∀{W},Has 0 w0 W (aP p pk pr pt::aX pk q (k2)::aK pr s.r pl pv pu mv::aI pl s.r.l::VoR pv s.r.v::ToR pu s.r.t::aC H mv s.r.out.msgs::aB nameS q (d2)::aA b3 (aW o (.slice oad on ocap)) 103::R)→Has 0 w0 W (aP p pk pr pt::aX pk q (k2)::aG H pr s.r::aB nameS q (d2)::aA b3 (aW o (.slice oad on ocap)) 103::R):=fun {W} h=>by
    have h:Has 0 w0 W (aG H pr s.r::aP p pk pr pt::aX pk q k2::aB nameS q d2::aA b3 (aW o (.slice oad on ocap)) 103::R):=cF (h.pm)
    exact h.pm
   refine zG hs ?_
   refine bF [8,11,12] [.f 0 2,.f 0 2,.f 0 2,.f 0 2,.f 0 0,.f 0 0,.f 0 0,.f 0 0,.m 0,.f 0 1,.f 0 1,.m 1,.m 2,.f 3 3] [.c0 _,.c0 _,.c0 _,.c0 _,.c0 _,.c0 _,.c0 _,.c0 _,.c1 (fun x=>ptr pl),.c0 _,.c0 _,.c2 (fun x y=> .slice y.ad (s.r.l.get o.from_ 200).length y.cap),.c3 (fun x y z=> .int .i64 0),.c3 _] (aP p pk pr pt::aX pk q (k1)::aK pr s.r pl pv pu mv::aI pl s.r.l::VoR pv s.r.v::ToR pu s.r.t::aC H mv s.r.out.msgs::aB nameS q (d1)::aA b3 (aW o (.slice oad on ocap)) 103::R) (fun x=>aP p pk pr pt::aX pk q (k1)::aK pr s.r pl pv pu mv::aI pl s.r.l::VoR pv s.r.v::ToR pu s.r.t::aC H mv s.r.out.msgs::aB nameS q (d1)::aA b3 (aW o (.slice oad on ocap)) 103::R) (fun x y=>bC (.slice y.ad (s.r.l.get o.from_ 200).length y.cap) (s.r.l.get o.from_ 200)::aP p pk pr pt::aX pk q (k1)::aK pr s.r pl pv pu mv::aI pl s.r.l::VoR pv s.r.v::ToR pu s.r.t::aC H mv s.r.out.msgs::aB nameS q (d1)::aA b3 (aW o (.slice oad on ocap)) 103::R) (fun x y z=>aP p pk pr pt::aX pk q (k2)::aK pr s.r pl pv pu mv::aI pl s.r.l::VoR pv s.r.v::ToR pu s.r.t::aC H mv s.r.out.msgs::aB nameS q (d2)::aA b3 (aW o (.slice oad on ocap)) 103::R) (fun x y z t=>[]) hs hw ?kk ⟨drs,drs,drs,drs,drs,drs,drs,drs,?m0,drs,drs,?m1,?m2,drs,trivial⟩
   case m0=>
    intro x y z t LD a W hs hw
    have hw:Has 0 w0 W (aK pr s.r pl pv pu mv::aP p pk pr pt::aX pk q k1::aI pl s.r.l::VoR pv s.r.v::ToR pu s.r.t::aC H mv s.r.out.msgs::aB nameS q d1::aA b3 (aW o (.slice oad on ocap)) 103::R):=hw.pm
    refine cl hs (qK hw) fun a W hs hw=>?_
    exact ⟨{},hs,hw.pm⟩
   case m1=>
    intro x y z t LD a W hs hw
    refine sg hs hw (fun s a W hs hw=>?_) (g:=mT)
    exact ⟨{ad:=s.1,cap:=s.2},hs,hw⟩
   case m2=>
    intro x y z t LD a W hs hw
    have hw:Has 0 w0 W (aX pk q k1::aB nameS q d1::bC (.slice y.ad (s.r.l.get o.from_ 200).length y.cap) (s.r.l.get o.from_ 200)::aP p pk pr pt::aK pr s.r pl pv pu mv::aI pl s.r.l::VoR pv s.r.v::ToR pu s.r.t::aC H mv s.r.out.msgs::aA b3 (aW o (.slice oad on ocap)) 103::R):=hw.pm
    refine cl hs (aGa _ _ (by omega) (fun h=>h.rd_own In.hd) h2 hw) fun a W hs hw=>?_
    exact ⟨{},hs,hw.sl⟩
   case kk=>
    intro _ _ _ a W hs hw
    refine sv hs hw fun a hs=>?_
    exact ⟨hs.of ⟨rfl,rfl,trivial⟩,hback hw⟩
 clear hs hw
 rintro a W ⟨hs,hw⟩
 refine sq ?_
 refine sq ?_
 refine fC (M:=fun a W=>∃g:Bool,(g=true↔(o.hard=true∨0<o.from_))∧Slots a 101 [(95,.bool g),(0,ptr p),(3,ptr b3)]∧Has 0 w0 W (aP p pk pr pt::aX pk q (k2)::aG H pr s.r::aB nameS q (d2)::aA b3 (aW o (.slice oad on ocap)) 103::R)) ?_ ?_
 ·refine sx hs hw fun a W hs hw=>?_
  cases c1:o.hard with
  |true=>
   rw [c1] at hs
   refine sv hs hw fun a hs=>?_
   exact ⟨true,by simp,hs.of ⟨rfl,rfl,rfl,trivial⟩,hw⟩
  |false=>
   rw [c1] at hs
   refine sv hs hw fun a hs=>?_
   exact ⟨decide (o.from_ > 0),by simp,hs.of ⟨rfl,rfl,rfl,trivial⟩,hw⟩
 clear hs hw
 rintro a W ⟨g,hg,hs,hw⟩
 cases g with
 |true=>
  rw [if_pos (hg.1 rfl),Option.map_eq_some_iff] at h3
  obtain ⟨d3,h3,h4⟩:=h3
  injection h4 with e1 e2
  subst e1 e2
  have hw:Has 0 w0 W (aX pk q k2::aP p pk pr pt::aG H pr s.r::aB nameS q d2::aA b3 (aW o (.slice oad on ocap)) 103::R):=hw.pm
  obtain ⟨hko,ad,cap,hw⟩:=sW hw
  refine sv hs hw fun a hs=>?_
  have hw:Has 0 w0 W (cN pk q k2.h k2.s (.slice ad k2.log.length cap) k2.size::aB nameS q d2::bC (.slice ad k2.log.length cap) k2.log::aP p pk pr pt::aG H pr s.r::aA b3 (aW o (.slice oad on ocap)) 103::R):=hw.pm
  refine cl hs (aG5 (by have:=hko.2.1;omega) h3 hw) fun a W hs hw=>?_
  refine sv hs hw fun a hs=>?_
  refine rt1 hs rfl rfl ⟨rfl,?_⟩
  have hw:Has 0 w0 W (aX pk q k2::aB nameS q d3::aP p pk pr pt::aG H pr s.r::aA b3 (aW o (.slice oad on ocap)) 103::R):=p7 (hw.pm) hko
  exact hw.sl
 |false=>
  rw [if_neg (fun h=>by have:=hg.2 h;cases this)] at h3
  injection h3 with h3
  injection h3 with e1 e2
  subst e1 e2
  refine sv hs hw fun a hs=>?_
  exact rt1 hs rfl rfl ⟨rfl,hw.sl⟩
end
end Go.Proofs.YtgpbngfehfbndaaGreatDoor.Sw
namespace Go.Sx
open Go.RowKit
class gS (H H':Fh) (r:Res) (r':outParam Res):Prop where
 le:∀{w W:World} {R:List Res},H.le H'→Has 0 w W (r::R)→Has 0 w W (r'::R)
class tC (H H':Fh) (L:List Res) (L':outParam (List Res)):Prop where
 le:∀{w W:World} {R:List Res},H.le H'→Has 0 w W (L ++ R)→Has 0 w W (L' ++ R)
instance (priority:=low) (H H':Fh) (r:Res):gS H H' r r:=⟨fun _ h=>h⟩
instance (priority:=low) (H H':Fh) (L:List Res):tC H H' L L:=⟨fun _ h=>h⟩
instance (H H':Fh) (r r':Res) (L L':List Res) [x:gS H H' r r'] [y:tC H H' L L']:tC H H' (r::L) (r'::L'):=⟨fun {w W R} hl h=>by
 have h1:Has 0 w W (r'::(L ++ R)):=x.le hl h
 have h2:Has 0 w W (L ++ (r'::R)):=h1.perm (List.perm_middle.symm)
 exact (y.le hl h2).perm List.perm_middle⟩
theorem Has.lz {w W:World} {H H':Fh} {L L':List Res} [y:tC H H' L L'] (h:Has 0 w W L) (hl:H.le H'):Has 0 w W L':=by
 have:=y.le (R:=[]) hl (by rw [List.append_nil];exact h)
 rwa [List.append_nil] at this
end Go.Sx
namespace Go.Proofs.YtgpbngfehfbndaaGreatDoor.Sw
open Go.RowKit Go.Sx
section
variable {H H':Fh} {p q pk pr pt:Nat} {s s':cY} {w0 W:World} {R L:List Res} {d d':bM} {k k':dY} {o:fV} {ms:List bP}
def cM (H:Fh) (p q:Nat) (s:cY):Res:=Ex fun x:Nat×Nat×Nat=>aP p x.1 x.2.1 x.2.2::aX x.1 q s.k::aG H x.2.1 s.r::aO H x.2.2 s.t::bN (kT s.r=true∧kS s.t=true):: []
theorem i8 (h:Has 0 w0 W (aP p pk pr pt::aX pk q s.k::aG H pr s.r::aO H pt s.t::R)) (h1:kT s.r=true) (h2:kS s.t=true):Has 0 w0 W (cM H p q s::R):=Has.shut (pk,pr,pt) ((h.fact (And.intro h1 h2)).pm)
theorem kA (h:Has 0 w0 W (cM H p q s::R)):kT s.r=true∧kS s.t=true∧∃pk pr pt,Has 0 w0 W (aP p pk pr pt::aX pk q s.k::aG H pr s.r::aO H pt s.t::R):=by
 obtain ⟨⟨pk,pr,pt⟩,h⟩:=Has.open h
 have h:Has 0 w0 W (aP p pk pr pt::aX pk q s.k::aG H pr s.r::aO H pt s.t::bN (kT s.r=true∧kS s.t=true)::R):=h
 obtain ⟨h1,h2⟩:=h.told (In.tl (In.tl (In.tl (In.tl In.hd))))
 exact ⟨h1,h2,pk,pr,pt,h.sl⟩
theorem aBt (h:Has 0 w0 W (cM H p q s::R)) (hl:H.le H'):Has 0 w0 W (cM H' p q s::R):=by
 obtain ⟨h1,h2,pk,pr,pt,h⟩:=kA h
 have h:=aB0 (h.pm:Has 0 w0 W (aG H pr s.r::aP p pk pr pt::aX pk q s.k::aO H pt s.t::R)) hl
 have h:=wK (h.pm:Has 0 w0 W (aO H pt s.t::aP p pk pr pt::aX pk q s.k::aG H' pr s.r::R)) hl
 exact i8 (h.pm) h1 h2
instance (H H':Fh) (p:Nat) (f:dV):gS H H' (aS H p f) (aS H' p f):=⟨fun hl h=>jX h hl⟩
instance (H H':Fh) (p:Nat) (f:dU):gS H H' (aO H p f) (aO H' p f):=⟨fun hl h=>wK h hl⟩
instance (H H':Fh) (p:Nat) (f:eK):gS H H' (aT H p f) (aT H' p f):=⟨fun hl h=>aAd h hl⟩
instance (H H':Fh) (v:Value) (l:List bP):gS H H' (aC H v l) (aC H' v l):=⟨fun hl h=>xD h hl⟩
instance (H H':Fh) (p:Nat) (r:RaftD):gS H H' (aG H p r) (aG H' p r):=⟨fun hl h=>aB0 h hl⟩
instance (H H':Fh) (p q:Nat) (s:cY):gS H H' (cM H p q s) (cM H' p q s):=⟨fun hl h=>aBt h hl⟩
theorem aH4 (t:dU) (e:bZ):(eB t e).1.rows.length≤t.rows.length+1:=by
 unfold eB pK
 split
 ·split
  ·split <;> simp
  ·exact Nat.le_succ _
 ·exact Nat.le_succ _
theorem aH5 {l:LogD} {i n:Int} {e:bZ} (h:e∈l.get i n):e∈l.l:=by
 unfold LogD.get at h
 split at h
 ·cases h
 ·exact List.mem_of_mem_drop (List.mem_of_mem_take h)
theorem aH6 {s':cY} (h:mO d s o=some (d',s',ms)):∃k',pS d s o=some (d',k')∧nP 300 s.r s.t=some s'.t∧s'=⟨k',s.r,s'.t⟩∧nQ s'=true∧ms=o.msgs:=by
 unfold mO at h
 simp only [Option.bind_eq_bind,Option.bind_eq_some_iff] at h
 obtain ⟨⟨d1,k1⟩,h1,t1,h2,h3⟩:=h
 split at h3
 ·rename_i hok
  injection h3 with h3
  injection h3 with e1 h3
  injection h3 with e2 e3
  subst e1 e2 e3
  exact ⟨k1,h1,h2,rfl,hok,rfl⟩
 ·cases h3
theorem aBu {l:LogD} (h:j6 l) {i n:Int}:∀e∈l.get i n,e.data.size≤1000000:=fun e he=>h.2.2.2.2 e (aH5 he)
theorem aBv {l:LogD} {pl:Nat} (h:Has 0 w0 W (aI pl l::R)):j6 l:=(iJ h).1
theorem xK {oad:Option Addr} {ocap:Nat} (h:mO d s o=some (d',s',ms)) (hrows:s.t.rows.length≤1000) (hH:(fr w0).le H) (hT:Tabs w0) (hw:Has 0 w0 W (aP p pk pr pt::aX pk q s.k::aG H pr s.r::aO H pt s.t::aB nameS q d::Fz H::aC (H) (.slice oad o.msgs.length ocap) o.msgs::R)):
  Calls Tryz.prog 71 ⟨[ptr p,.agg ⟨aW o (.slice oad o.msgs.length ocap)⟩]⟩ W fun e W'=>∃(v:Value) (H':Fh),e= .returned v∧H.le H'∧Has 0 w0 W' (aC H' v ms::cM H' p q s'::aB nameS q d'::Fz H'::R):=by
 obtain ⟨k',hk,hcu,hs',hok,rfl⟩:=aH6 h
 obtain ⟨t',ht'⟩:∃t',t'=s'.t:=⟨_,rfl⟩
 rw [←ht'] at hcu hs'
 clear ht'
 subst hs'
 have hok1:kT s.r=true∧kS t'=true:=by
  unfold nQ at hok
  simp only [Bool.and_eq_true] at hok
  exact hok.1
 clear h hok
 refine enter Tryz.func71 Tryz.ntmps71 rfl rfl fun a hs=>?_
 refine sc hs ?_
 refine sn hs hw fun b3 a W hs hw=>?_
 have hw:Has 0 w0 W (aP p pk pr pt::aX pk q s.k::aG H pr s.r::aB nameS q d::aO H pt s.t::Fz H::aC (H) (.slice oad o.msgs.length ocap) o.msgs::aA b3 (aW o (.slice oad o.msgs.length ocap)) 103::R):=hw.pm
 refine sx hs hw fun a W hs hw=>?_
 refine cl hs (aH3 hk hw) fun a W hs hw=>?_
 have hw:Has 0 w0 W (aO (H) pt (s.t)::Fz (H)::aG (H) pr s.r::aP p pk pr pt::aX pk q k'::aB nameS q d'::aC (H) (.slice oad o.msgs.length ocap) o.msgs::aA b3 (aW o (.slice oad o.msgs.length ocap)) 103::R):=hw.pm
 refine sv hs hw fun a hs=>?_
 refine bX (σ:=Nat×dU×Fh) (fun u=>[(0,ptr p),(3,ptr b3)]) (fun u=>aO (u.2.2) pt (u.2.1)::Fz (u.2.2)::aG (u.2.2) pr s.r::aP p pk pr pt::aX pk q k'::aB nameS q d'::aC (u.2.2) (.slice oad o.msgs.length ocap) o.msgs::aA b3 (aW o (.slice oad o.msgs.length ocap)) 103::R) (fun u=>nP u.1 s.r u.2.1=some t'∧u.2.1.rows.length+u.1≤1300∧H.le u.2.2) (fun u=>u.1) (300,s.t,H) ⟨hcu,by show s.t.rows.length+300≤1300;omega,Fh.le.refl H⟩ hs ⟨rfl,rfl,trivial⟩ hw ?_
 clear hs hw hcu hk
 rintro ⟨n,t,H2⟩ a W ⟨hcu,hr1,hle⟩ hs hw
 simp only at hcu hr1 hle hs hw
 obtain ⟨n,rfl⟩:∃m,n=m+1:=by cases n with|zero=>cases hcu|succ m=>exact ⟨m,rfl⟩
 have hcu:(if t.ix<s.r.commit then (match s.r.l.get (w64 (t.ix+1)) 1 with| []=>some t|e::_=>nP n s.r (eB t e).1) else some t)=some t':=hcu
 refine zG hs ?_
 refine bF [4,9] [.f 0 0,.f 0 0,.f 0 0,.f 0 0,.m 0,.f 0 1,.f 0 1,.f 0 1,.f 0 1,.m 1,.f 2 2] [.c0 _,.c0 _,.c0 _,.c0 _,.c1 (fun x=> .int .i64 t.ix),.c0 _,.c0 _,.c0 _,.c0 _,.c2 (fun x y=> .int .i64 s.r.commit),.c2 _] (aO (H2) pt (t)::Fz (H2)::aG (H2) pr s.r::aP p pk pr pt::aX pk q k'::aB nameS q d'::aC (H2) (.slice oad o.msgs.length ocap) o.msgs::aA b3 (aW o (.slice oad o.msgs.length ocap)) 103::R) (fun x=>aO (H2) pt (t)::Fz (H2)::aG (H2) pr s.r::aP p pk pr pt::aX pk q k'::aB nameS q d'::aC (H2) (.slice oad o.msgs.length ocap) o.msgs::aA b3 (aW o (.slice oad o.msgs.length ocap)) 103::R) (fun x y=>aO (H2) pt (t)::Fz (H2)::aG (H2) pr s.r::aP p pk pr pt::aX pk q k'::aB nameS q d'::aC (H2) (.slice oad o.msgs.length ocap) o.msgs::aA b3 (aW o (.slice oad o.msgs.length ocap)) 103::R) (fun x y z=>[]) (fun x y z t=>[]) hs hw ?kk ⟨drs,drs,drs,drs,?m0,drs,drs,drs,drs,?m1,drs,trivial⟩
 case m0=>
  intro x y z u LD a W hs hw
  refine cl hs (sC w0 _ H2 pt t _ hw) fun a W hs hw=>?_
  exact ⟨{},hs,hw⟩
 case m1=>
  intro x y z u LD a W hs hw
  have hw:Has 0 w0 W (aG H2 pr s.r::aO H2 pt t::Fz H2::aP p pk pr pt::aX pk q k'::aB nameS q d'::aC (H2) (.slice oad o.msgs.length ocap) o.msgs::aA b3 (aW o (.slice oad o.msgs.length ocap)) 103::R):=hw.pm
  refine cl hs (aHY hw) fun a W hs hw=>?_
  exact ⟨{},hs,hw.pm⟩
 case kk=>
 intro _ _ a W hs hw
 cases c1:decide (t.ix<s.r.commit) with
 |false=>
  rw [c1] at hs
  rw [if_neg (of_decide_eq_false c1)] at hcu
  injection hcu with hcu
  subst hcu
  refine sx hs hw fun a W hs hw=>?_
  refine rt1 hs rfl rfl ⟨_,H2,rfl,hle,?_⟩
  have hw:Has 0 w0 W (cM H2 p q ⟨k',s.r,t⟩::Fz H2::aB nameS q d'::aC (H2) (.slice oad o.msgs.length ocap) o.msgs::aA b3 (aW o (.slice oad o.msgs.length ocap)) 103::R):=i8 (s:=⟨k',s.r,t⟩) (hw.pm) hok1.1 hok1.2
  exact hw.sl
 |true=>
 rw [c1] at hs
 rw [if_pos (of_decide_eq_true c1)] at hcu
 replace hs:Slots a 49 [(23,.bool true),(0,ptr p),(3,ptr b3)]:=hs.of ⟨rfl,rfl,rfl,trivial⟩
 have hw:Has 0 w0 W (aG H2 pr s.r::aO H2 pt t::Fz H2::aP p pk pr pt::aX pk q k'::aB nameS q d'::aC (H2) (.slice oad o.msgs.length ocap) o.msgs::aA b3 (aW o (.slice oad o.msgs.length ocap)) 103::R):=hw.pm
 obtain ⟨pl,pv,pu,mv,hw⟩:=dG hw
 have hlw:=aBu (aBv (hw.pm:Has 0 w0 W (aI pl s.r.l::aK pr s.r pl pv pu mv::VoR pv s.r.v::ToR pu s.r.t::aC H2 mv s.r.out.msgs::aO H2 pt t::Fz H2::aP p pk pr pt::aX pk q k'::aB nameS q d'::aC (H2) (.slice oad o.msgs.length ocap) o.msgs::aA b3 (aW o (.slice oad o.msgs.length ocap)) 103::R))) (i:=w64 (t.ix+1)) (n:=1)
 refine zG hs ?_
 refine bF [4,9,11] [.f 0 0,.f 0 0,.f 0 0,.f 0 0,.m 0,.f 0 1,.f 0 1,.f 0 1,.f 0 1,.m 1,.f 2 2,.m 2,.f 3 3] [.c0 _,.c0 _,.c0 _,.c0 _,.c1 (fun x=>ptr pl),.c0 _,.c0 _,.c0 _,.c0 _,.c2 (fun x y=> .int .i64 t.ix),.c2 _,.c3 (fun x y z=> .slice z.ad (s.r.l.get (w64 (t.ix+1)) 1).length z.cap),.c3 _] (aK pr s.r pl pv pu mv::aI pl s.r.l::VoR pv s.r.v::ToR pu s.r.t::aC (H2) mv s.r.out.msgs::aO (H2) pt (t)::Fz (H2)::aP p pk pr pt::aX pk q k'::aB nameS q d'::aC (H2) (.slice oad o.msgs.length ocap) o.msgs::aA b3 (aW o (.slice oad o.msgs.length ocap)) 103::R) (fun x=>aK pr s.r pl pv pu mv::aI pl s.r.l::VoR pv s.r.v::ToR pu s.r.t::aC (H2) mv s.r.out.msgs::aO (H2) pt (t)::Fz (H2)::aP p pk pr pt::aX pk q k'::aB nameS q d'::aC (H2) (.slice oad o.msgs.length ocap) o.msgs::aA b3 (aW o (.slice oad o.msgs.length ocap)) 103::R) (fun x y=>aK pr s.r pl pv pu mv::aI pl s.r.l::VoR pv s.r.v::ToR pu s.r.t::aC (H2) mv s.r.out.msgs::aO (H2) pt (t)::Fz (H2)::aP p pk pr pt::aX pk q k'::aB nameS q d'::aC (H2) (.slice oad o.msgs.length ocap) o.msgs::aA b3 (aW o (.slice oad o.msgs.length ocap)) 103::R) (fun x y z=>bC (.slice z.ad (s.r.l.get (w64 (t.ix+1)) 1).length z.cap) (s.r.l.get (w64 (t.ix+1)) 1)::aK pr s.r pl pv pu mv::aI pl s.r.l::VoR pv s.r.v::ToR pu s.r.t::aC (H2) mv s.r.out.msgs::aO (H2) pt (t)::Fz (H2)::aP p pk pr pt::aX pk q k'::aB nameS q d'::aC (H2) (.slice oad o.msgs.length ocap) o.msgs::aA b3 (aW o (.slice oad o.msgs.length ocap)) 103::R) (fun x y z t=>[]) hs hw ?kk ⟨drs,drs,drs,drs,?m0,drs,drs,drs,drs,?m1,drs,?m2,drs,trivial⟩
 case m0=>
  intro x y z u LD a W hs hw
  refine cl hs (qK hw) fun a W hs hw=>?_
  exact ⟨{},hs,hw⟩
 case m1=>
  intro x y z u LD a W hs hw
  have hw:Has 0 w0 W (aO H2 pt t::aK pr s.r pl pv pu mv::aI pl s.r.l::VoR pv s.r.v::ToR pu s.r.t::aC H2 mv s.r.out.msgs::Fz H2::aP p pk pr pt::aX pk q k'::aB nameS q d'::aC (H2) (.slice oad o.msgs.length ocap) o.msgs::aA b3 (aW o (.slice oad o.msgs.length ocap)) 103::R):=hw.pm
  refine cl hs (sC w0 _ H2 pt t _ hw) fun a W hs hw=>?_
  exact ⟨{},hs,hw.pm⟩
 case m2=>
  intro x y z u LD a W hs hw
  refine sg hs hw (fun s a W hs hw=>?_) (g:=mT)
  exact ⟨{ad:=s.1,cap:=s.2},hs,hw⟩
 case kk=>
 intro _ _ zz a W hs hw
 obtain ⟨es,hes⟩:∃es,es=s.r.l.get (w64 (t.ix+1)) 1:=⟨_,rfl⟩
 rw [←hes] at hs hw hcu hlw
 clear hes
 replace hs:Slots a 49 [(0,ptr p),(3,ptr b3),(5,.slice zz.ad es.length zz.cap)]:=hs.of ⟨rfl,rfl,rfl,trivial⟩
 have hw:Has 0 w0 W (aG H2 pr s.r::bC (.slice zz.ad es.length zz.cap) es::aO H2 pt t::Fz H2::aP p pk pr pt::aX pk q k'::aB nameS q d'::aC (H2) (.slice oad o.msgs.length ocap) o.msgs::aA b3 (aW o (.slice oad o.msgs.length ocap)) 103::R):=cF (hw.pm)
 obtain ⟨zad,hzad⟩:∃zad,zad=zz.ad:=⟨_,rfl⟩
 obtain ⟨zcap,hzcap⟩:∃zcap,zcap=zz.cap:=⟨_,rfl⟩
 rw [←hzad,←hzcap] at hs hw
 clear hzad hzcap
 have hw:Has 0 w0 W (bC (.slice zad es.length zcap) es::aO (H2) pt (t)::Fz (H2)::aG (H2) pr s.r::aP p pk pr pt::aX pk q k'::aB nameS q d'::aC (H2) (.slice oad o.msgs.length ocap) o.msgs::aA b3 (aW o (.slice oad o.msgs.length ocap)) 103::R):=hw.pm
 cases es with
 |nil=>
  have hcu:some t=some t':=hcu
  injection hcu with hcu
  subst hcu
  refine sv hs hw fun a hs=>?_
  refine rt1 hs rfl rfl ⟨_,H2,rfl,hle,?_⟩
  have hw:Has 0 w0 W (cM H2 p q ⟨k',s.r,t⟩::Fz H2::aB nameS q d'::aC (H2) (.slice oad o.msgs.length ocap) o.msgs::aA b3 (aW o (.slice oad o.msgs.length ocap)) 103::R):=i8 (s:=⟨k',s.r,t⟩) (hw.sl) hok1.1 hok1.2
  exact hw.sl
 |cons e r=>
 have hcu:nP n s.r (eB t e).1=some t':=hcu
 have hpos:0<(e::r).length:=Nat.succ_pos _
 obtain ⟨b,off,cap,hv,_⟩:=j8 (hw.rd_own In.hd) hpos
 injection hv with hv1 _ hv2
 subst hv1 hv2
 have hk0:(0:Int)≤0:=by omega
 have hk1:(0:Int)<(((e::r).length:Nat):Int):=by omega
 have hed:=hlw e (List.mem_cons_self ..)
 have har:=aH4 t e
 refine sv hs hw fun a hs=>?_
 rw [show ((((e::r).length:Nat):Int) == 0)=false by simp;omega] at hs
 refine zG hs ?_
 refine bF [7] [.f 0 0,.f 0 0,.f 0 0,.f 0 0,.f 0 0,.f 0 0,.f 0 0,.m 0] [.c0 _,.c0 _,.c0 _,.c0 _,.c0 _,.c0 _,.c0 (.agg ⟨bE e⟩),.c1 (fun x=>x.v)] (bC (.slice (some ⟨b,off,none⟩) (e::r).length zcap) (e::r)::aO (H2) pt (t)::Fz (H2)::aG (H2) pr s.r::aP p pk pr pt::aX pk q k'::aB nameS q d'::aC (H2) (.slice oad o.msgs.length ocap) o.msgs::aA b3 (aW o (.slice oad o.msgs.length ocap)) 103::R) (fun x=>bC (.slice (some ⟨b,off,none⟩) (e::r).length zcap) (e::r)::aO x.H pt (eB t e).1::FzF x.H (H2.le x.H)::aG H2 pr s.r::aP p pk pr pt::aX pk q k'::aB nameS q d'::aC (H2) (.slice oad o.msgs.length ocap) o.msgs::aA b3 (aW o (.slice oad o.msgs.length ocap)) 103::R) (fun x y=>[]) (fun x y z=>[]) (fun x y z t=>[]) hs hw ?kk ⟨drs,drs,drs,drs,drs,drs,?f6,?m0,trivial⟩
 case f6=>
  refine ⟨?_,trivial,trivial,trivial,trivial⟩
  intro x y z u LD a W hs hw
  refine eC hs (z:=zEnt) (cs:=bE e) (hc:=fun j x hx=>lS (hw.rd_own In.hd) hpos j x (by
   rw [List.flatMap_cons,List.getElem?_append_left]
   ·exact hx
   ·exact (List.getElem?_eq_some_iff.1 hx).1)) (hl:=by rfl) (c:=fun a hs=>?_)
  exact ⟨hs,hw⟩
 case m0=>
  intro x y z u LD a W hs hw
  have hw:Has 0 w0 W (aO H2 pt t::Fz H2::bC (.slice (some ⟨b,off,none⟩) (e::r).length zcap) (e::r)::aG H2 pr s.r::aP p pk pr pt::aX pk q k'::aB nameS q d'::aC (H2) (.slice oad o.msgs.length ocap) o.msgs::aA b3 (aW o (.slice oad o.msgs.length ocap)) 103::R):=hw.pm
  refine aF hs (hc:=aFy w0 _ H2 pt t e _ (by omega) hed (hH.trans hle) hT hw) (k:=?_)
  rintro e' W' ⟨sv',H3,rfl,hle3,_,hw⟩
  refine ⟨_,rfl,fun a hs=>?_⟩
  have hw:Has 0 w0 W' (Fz H3::aO H3 pt (eB t e).1::bC (.slice (some ⟨b,off,none⟩) (e::r).length zcap) (e::r)::aG H2 pr s.r::aP p pk pr pt::aX pk q k'::aB nameS q d'::aC (H2) (.slice oad o.msgs.length ocap) o.msgs::aA b3 (aW o (.slice oad o.msgs.length ocap)) 103::R):=hw.pm
  have hw:=hw.fzf hle3
  exact ⟨{H:=H3,v:=_},hs,hw.pm⟩
 case kk=>
 intro x a W hs hw
 have hw:Has 0 w0 W (FzF x.H (H2.le x.H)::aO x.H pt (eB t e).1::aG H2 pr s.r::aP p pk pr pt::aX pk q k'::aB nameS q d'::aC (H2) (.slice oad o.msgs.length ocap) o.msgs::aA b3 (aW o (.slice oad o.msgs.length ocap)) 103::R):=hw.sl
 obtain ⟨hle3,hw⟩:=hw.unfzf
 have hw:=hw.lz hle3
 have hw:Has 0 w0 W (aO (x.H) pt ((eB t e).1)::Fz (x.H)::aG (x.H) pr s.r::aP p pk pr pt::aX pk q k'::aB nameS q d'::aC (x.H) (.slice oad o.msgs.length ocap) o.msgs::aA b3 (aW o (.slice oad o.msgs.length ocap)) 103::R):=hw.pm
 refine sc hs ?_
 exact bR (n,(eB t e).1,x.H) hs hw ⟨hcu,by show (eB t e).1.rows.length+n≤1300;omega,hle.trans hle3⟩ (by show n<n+1;omega) ⟨rfl,rfl,trivial⟩
end
section
variable {H H':Fh} {p q pk pr pt:Nat} {s s':cY} {w0 W:World} {R L:List Res} {d d':bM} {k k':dY} {o:fV} {ms:List bP}
theorem xL {r:RaftD} (h:kT r=true):r.out.msgs.length≤800∧∀o,r.v=some o→o.yes.length≤1000∧o.no.length≤1000:=by
 unfold kT at h
 rw [Bool.and_eq_true,decide_eq_true_eq] at h
 refine ⟨by omega,fun o ho=>?_⟩
 rw [ho] at h
 have h2:=h.2
 simp only [Bool.and_eq_true,decide_eq_true_eq] at h2
 omega
theorem nV {t:dU} (h:kS t=true):t.rows.length≤1000∧(∀r∈t.rows,lR r=true)∧∀x∈t.f.told,x.2.b.l.length≤8:=by
 unfold kS at h
 simp only [Bool.and_eq_true,decide_eq_true_eq,List.all_eq_true] at h
 exact ⟨h.1.1,h.1.2,h.2⟩
theorem xM (hw:Has 0 w0 W (aP p pk pr pt::R)):Calls Tryz.prog 65 ⟨[ptr p]⟩ W fun e W'=>e= .returned (.bool false)∧Has 0 w0 W' (aP p pk pr pt::R):=by
 refine enter Tryz.func65 Tryz.ntmps65 rfl rfl fun a hs=>?_
 refine sv hs hw fun a hs=>?_
 exact rt1 hs rfl rfl ⟨rfl,hw⟩
theorem aH7 (h:aAz d s=some (d',s',ms)) (hH:(fr w0).le H) (hT:Tabs w0) (hw:Has 0 w0 W (cM H p q s::aB nameS q d::Fz H::R)):
  Calls Tryz.prog 46 ⟨[ptr p]⟩ W fun e W'=>∃(v:Value) (H':Fh),e= .returned v∧H.le H'∧Has 0 w0 W' (aC H' v ms::cM H' p q s'::aB nameS q d'::Fz H'::R):=by
 obtain ⟨h1,h2,pk,pr,pt,hw⟩:=kA hw
 obtain ⟨hm,hv⟩:=xL h1
 have ht:=nV h2
 refine enter Tryz.func46 Tryz.ntmps46 rfl rfl fun a hs=>?_
 refine sv hs hw fun a hs=>?_
 refine cl hs (xM hw) fun a W hs hw=>?_
 refine sv hs hw fun a hs=>?_
 have hw:Has 0 w0 W (aG H pr s.r::Fz H::aP p pk pr pt::aX pk q s.k::aO H pt s.t::aB nameS q d::R):=hw.pm
 refine aF hs (hc:=aHX hm hw) (k:=?_)
 rintro e' W' ⟨H1,x,rfl,hle1,hw⟩
 refine ⟨_,rfl,fun a hs=>?_⟩
 have hw:=hw.lz hle1
 have hw:Has 0 w0 W' (aP p pk pr pt::aX pk q s.k::aG H1 pr s.r.fire.1::aO H1 pt s.t::aB nameS q d::Fz H1::aC H1 (.slice x.1 s.r.fire.2.msgs.length x.2) s.r.fire.2.msgs::R):=hw.pm
 refine aF hs (hc:=xK (s:={s with r:=s.r.fire.1}) h ht.1 (hH.trans hle1) hT hw) (k:=?_)
 rintro e' W' ⟨v,H2,rfl,hle2,hw⟩
 refine ⟨_,rfl,fun a hs=>?_⟩
 refine sv hs hw fun a hs=>?_
 exact rt1 hs rfl rfl ⟨v,H2,rfl,hle1.trans hle2,hw⟩
theorem aH8 (m:bP) (v:Value) (hm:fO H v m.es) (hc:m.snap.conf.size≤1000000) (h:wQ d s m=some (d',s',ms)) (hH:(fr w0).le H) (hT:Tabs w0) (hw:Has 0 w0 W (cM H p q s::aB nameS q d::Fz H::R)):
  Calls Tryz.prog 49 ⟨[ptr p,.agg ⟨aH m v⟩]⟩ W fun e W'=>∃(v:Value) (H':Fh),e= .returned v∧H.le H'∧Has 0 w0 W' (aC H' v ms::cM H' p q s'::aB nameS q d'::Fz H'::R):=by
 obtain ⟨mad,mcap,rfl⟩:=hm.slice
 obtain ⟨h1,h2,pk,pr,pt,hw⟩:=kA hw
 obtain ⟨hmm,hv⟩:=xL h1
 have ht:=nV h2
 obtain ⟨h5,h⟩:m.kind≠5∧mO d {s with r:=(s.r.step m).1} (s.r.step m).2=some (d',s',ms):=by
  unfold wQ at h
  split at h
  ·cases h
  ·rename_i h5;exact ⟨h5,h⟩
 refine enter Tryz.func49 Tryz.ntmps49 rfl rfl fun a hs=>?_
 refine sc hs ?_
 refine sn hs hw fun b3 a W hs hw=>?_
 refine sv hs hw fun a hs=>?_
 have hw:Has 0 w0 W (aP p pk pr pt::aX pk q s.k::aG H pr s.r::aO H pt s.t::aB nameS q d::Fz H::aA b3 (aH m (.slice mad m.es.length mcap)) 38::R):=hw.pm
 refine cl hs (xM hw) fun a W hs hw=>?_
 refine zG hs ?_
 refine bF [6,7] [.f 0 1,.f 0 0,.f 0 0,.f 0 0,.f 0 0,.f 0 0,.m 0,.m 1,.f 2 2] [.c0 _,.c0 _,.c0 _,.c0 _,.c0 _,.c0 _,.c1 (fun x=> .agg ⟨aW (s.r.step m).2 (.slice x.ad (s.r.step m).2.msgs.length x.cap)⟩),.c2 (fun x y=>y.v),.c2 _] (aP p pk pr pt::aX pk q s.k::aG H pr s.r::aO H pt s.t::aB nameS q d::Fz H::aA b3 (aH m (.slice mad m.es.length mcap)) 38::R) (fun x=>FzF x.H (H.le x.H)::aC x.H (.slice x.ad (s.r.step m).2.msgs.length x.cap) (s.r.step m).2.msgs::aG x.H pr (s.r.step m).1::aP p pk pr pt::aX pk q s.k::aO H pt s.t::aB nameS q d::aA b3 (aH m (.slice mad m.es.length mcap)) 38::R) (fun x y=>FzF y.H (H.le y.H)::aC y.H y.v ms::cM y.H p q s'::aB nameS q d'::aA b3 (aH m (.slice mad m.es.length mcap)) 38::R) (fun x y z=>[]) (fun x y z t=>[]) hs hw ?kk ⟨drs,drs,drs,drs,drs,drs,?m0,?m1,drs,trivial⟩
 case m0=>
  intro x y z u LD a W hs hw
  have hw:Has 0 w0 W (aG H pr s.r::Fz H::aP p pk pr pt::aX pk q s.k::aO H pt s.t::aB nameS q d::aA b3 (aH m (.slice mad m.es.length mcap)) 38::R):=hw.pm
  refine aF hs (hc:=aHW m _ hm hc h5 hmm hv hw) (k:=?_)
  rintro e' W' ⟨H1,x1,rfl,hle1,hw⟩
  refine ⟨_,rfl,fun a hs=>?_⟩
  have hw:Has 0 w0 W' (Fz H1::aC H1 (.slice x1.1 (s.r.step m).2.msgs.length x1.2) (s.r.step m).2.msgs::aG H1 pr (s.r.step m).1::aP p pk pr pt::aX pk q s.k::aO H pt s.t::aB nameS q d::aA b3 (aH m (.slice mad m.es.length mcap)) 38::R):=hw.pm
  exact ⟨{H:=H1,ad:=x1.1,cap:=x1.2},hs,hw.fzf hle1⟩
 case m1=>
  intro x y z u LD a W hs hw
  obtain ⟨hle1,hw⟩:=hw.unfzf
  have hw:=hw.lz hle1
  have hw:Has 0 w0 W (aP p pk pr pt::aX pk q s.k::aG x.H pr (s.r.step m).1::aO x.H pt s.t::aB nameS q d::Fz x.H::aC x.H (.slice x.ad (s.r.step m).2.msgs.length x.cap) (s.r.step m).2.msgs::aA b3 (aH m (.slice mad m.es.length mcap)) 38::R):=hw.pm
  refine aF hs (hc:=xK (s:={s with r:=(s.r.step m).1}) h ht.1 (hH.trans hle1) hT hw) (k:=?_)
  rintro e' W' ⟨v,H2,rfl,hle2,hw⟩
  refine ⟨_,rfl,fun a hs=>?_⟩
  have hw:Has 0 w0 W' (Fz H2::aC H2 v ms::cM H2 p q s'::aB nameS q d'::aA b3 (aH m (.slice mad m.es.length mcap)) 38::R):=hw.pm
  exact ⟨{H:=H2,v:=v},hs,hw.fzf (hle1.trans hle2)⟩
 case kk=>
 intro _ y a W hs hw
 have hw:Has 0 w0 W (FzF y.H (H.le y.H)::aC y.H y.v ms::cM y.H p q s'::aB nameS q d'::aA b3 (aH m (.slice mad m.es.length mcap)) 38::R):=hw
 obtain ⟨hle,hw⟩:=hw.unfzf
 refine sc hs ?_
 exact rt1 hs rfl rfl ⟨y.v,y.H,rfl,hle,hw.sl⟩
end
section
variable {H H':Fh} {p q pk pr pt:Nat} {s s':cY} {w0 W:World} {R L:List Res} {d d':bM} {k k':dY} {o:fV} {ms:List bP} {t:dU}
theorem aBw (c:Int) (hw:Has 0 w0 W (aO H pt t::R)):
  Calls Tryz.prog 177 ⟨[ptr pt,.int .i64 c]⟩ W fun e W'=>e= .returned (.int .i64 (cQ t.f c))∧Has 0 w0 W' (aO H pt t::R):=by
 obtain ⟨pf,ad,cap,xs,hc,hw⟩:=kO hw
 refine enter Tryz.func177 Tryz.ntmps177 rfl rfl fun a hs=>?_
 refine sv hs hw fun a hs=>?_
 refine cl hs (rZ w0 _ H pf t.f c _ hw.swap2) fun a W hs hw=>?_
 refine sv hs hw fun a hs=>?_
 exact rt1 hs rfl rfl ⟨rfl,fU hw.swap2 hc⟩
theorem aBx (c:Int) (h8:∀x∈t.f.told,x.2.b.l.length≤8) (hw:Has 0 w0 W (aO H pt t::Fz H::R)):
  Calls Tryz.prog 178 ⟨[ptr pt,.int .i64 c]⟩ W fun e W'=>∃(sv:Value) (H':Fh),e= .returned (.tuple ⟨[.agg ⟨aJ (cK t.f c) sv⟩,.bool (!(cQ t.f c == 0))]⟩)∧H.le H'∧cH H' sv (cK t.f c).b.l∧Has 0 w0 W' (aO H' pt t::Fz H'::R):=by
 obtain ⟨pf,ad,cap,xs,hc,hw⟩:=kO hw
 refine enter Tryz.func178 Tryz.ntmps178 rfl rfl fun a hs=>?_
 refine sc hs ?_
 refine sn hs hw fun b4 a W hs hw=>?_
 refine sv hs hw fun a hs=>?_
 have hw:Has 0 w0 W (aS H pf t.f::Fz H::aA pt [.int .i64 t.ix,.pointer (some ⟨pf,0,none⟩),.slice ad t.rows.length cap] 201::Sx.Own 68 5 (.slice ad t.rows.length cap) t.rows.length xs::aA b4 zrc 68::R):=hw.pm
 refine aF hs (hc:=aGH w0 _ H pf t.f c _ h8 hw) (k:=?_)
 rintro e' W' ⟨sv,H',rfl,hle,hop,hw⟩
 refine ⟨_,rfl,fun a hs=>?_⟩
 obtain ⟨oad,ocap,rfl⟩:=hop.slice
 have hw:=hw.lz hle
 refine sx hs hw fun a W hs hw=>?_
 refine rc2 hs rfl rfl hw (by repeat (first|exact In.hd|apply In.tl)) rfl rfl ⟨_,H',rfl,hle,hop,?_⟩
 have hw:Has 0 w0 W (aA pt [.int .i64 t.ix,.pointer (some ⟨pf,0,none⟩),.slice ad t.rows.length cap] 201::aS H' pf t.f::Sx.Own 68 5 (.slice ad t.rows.length cap) t.rows.length xs::Fz H'::R):=hw.sl
 exact fU hw (hc.mono (RowIn.le hle))
theorem aH9 (hw:Has 0 w0 W (cM H p q s::R)):Calls Tryz.prog 44 ⟨[ptr p]⟩ W fun e W'=>e= .returned (.bool false)∧Has 0 w0 W' (cM H p q s::R):=by
 obtain ⟨h1,h2,pk,pr,pt,hw⟩:=kA hw
 refine enter Tryz.func44 Tryz.ntmps44 rfl rfl fun a hs=>?_
 refine sv hs hw fun a hs=>?_
 exact rt1 hs rfl rfl ⟨rfl,i8 hw h1 h2⟩
theorem tD (hw:Has 0 w0 W (aP p pk pr pt::R)):Calls Tryz.prog 20 ⟨[ptr p]⟩ W fun e W'=>e= .returned (ptr pr)∧Has 0 w0 W' (aP p pk pr pt::R):=by
 refine enter Tryz.func20 Tryz.ntmps20 rfl rfl fun a hs=>?_
 refine sv hs hw fun a hs=>?_
 exact rt1 hs rfl rfl ⟨rfl,hw⟩
theorem qM {r:cD} (h:lR r=true):jH r∧r.b.l.length≤8:=by
 unfold lR mN gP at h
 simp only [Bool.and_eq_true,decide_eq_true_eq,List.all_eq_true] at h
 refine ⟨⟨⟨h.1.1.1,h.1.1.2⟩,⟨h.1.2.1,h.1.2.2⟩,⟨⟨h.2.1.1.1.1,h.2.1.1.1.2⟩,⟨h.2.1.1.2.1,h.2.1.1.2.2⟩,fun o ho=>?_⟩⟩,h.2.2⟩
 have h1:=h.2.1.2 o ho
 unfold sH gP at h1
 simp only [Bool.and_eq_true,decide_eq_true_eq] at h1
 obtain ⟨⟨⟨⟨⟨⟨⟨⟨a1,a2⟩,a3⟩,a4⟩,a5⟩,a6⟩,a7⟩,a8⟩,a9⟩:=h1
 exact ⟨a1,a2,a3,a4,a5,a6,a7,a8,a9⟩
theorem aHa (fr_:Int) (hw:Has 0 w0 W (cM H p q s::Fz H::R)):
  Calls Tryz.prog 104 ⟨[ptr p,.int .i64 fr_]⟩ W fun e W'=>∃(v:Value) (H':Fh),e= .returned (.tuple ⟨[v,.int .i64 0]⟩)∧H.le H'∧i0 H' v (gL s.t fr_ 10)∧Has 0 w0 W' (cM H' p q s::Fz H'::R):=by
 obtain ⟨h1,h2,pk,pr,pt,hw⟩:=kA hw
 have ht:=nV h2
 refine enter Tryz.func104 Tryz.ntmps104 rfl rfl fun a hs=>?_
 refine sv hs hw fun a hs=>?_
 have hw:Has 0 w0 W (aO H pt s.t::Fz H::aP p pk pr pt::aX pk q s.k::aG H pr s.r::R):=hw.pm
 refine aF hs (hc:=aGD w0 _ H pt s.t fr_ 10 _ (by omega) (fun r hr=>by have:=(qM (ht.2.1 r hr)).2;omega) hw) (k:=?_)
 rintro e' W' ⟨v,H',rfl,hle,hro,hw⟩
 refine ⟨_,rfl,fun a hs=>?_⟩
 refine sv hs hw fun a hs=>?_
 have hw:=hw.lz hle
 have hw:Has 0 w0 W' (aP p pk pr pt::aX pk q s.k::aG H' pr s.r::aO H' pt s.t::Fz H'::R):=hw.pm
 exact rt2 hs rfl rfl rfl ⟨v,H',rfl,hle,hro,i8 hw h1 h2⟩
end
def tE (s:cY) (b:cR):Bool:=(s.r.l.get (w64 (s.t.ix+1)) 200).any fun e=>(e.kind == 2) && (match decode e.data.data.toList with|some p=>(p.1 == b.c) && (p.2.1 == b.q)|none=>false)
def xN (d:bM) (s:cY) (b:cR):Option (bM×cY×cD×List bP×Int):=
 if dP b=false then some (d,s,zeroRow,[],1)
 else if s.r.role≠2 then some (d,s,zeroRow,[],9)
 else if b.q=cQ s.t.f b.c then some (d,s,cK s.t.f b.c,[],0)
 else if b.q≠w64 (cQ s.t.f b.c+1) then some (d,s,zeroRow,[],11)
 else if tE s b=true then some (d,s,zeroRow,[],10)
 else
  if (s.r.propose 2 ⟨(cT b).toArray⟩).2.2.2≠0 then some (d,s,zeroRow,[],(s.r.propose 2 ⟨(cT b).toArray⟩).2.2.2)
  else (mO d {s with r:=(s.r.propose 2 ⟨(cT b).toArray⟩).1} (s.r.propose 2 ⟨(cT b).toArray⟩).2.2.1).map fun x=>
   if cQ x.2.1.t.f b.c=b.q then (x.1,x.2.1,cK x.2.1.t.f b.c,x.2.2,0) else (x.1,x.2.1,zeroRow,x.2.2,10)
structure cW where
 c:Int
 added:List cR
 s:eK
def fA (q:cW) (r:cD):Bool:=
 if r.b.c≠q.c then true else decide (r.b.q≥1) && decide (r.b.q≤(q.added.length:Int)) && eqL r.b.l (q.added.getD (r.b.q - 1).toNat ⟨0,0,[]⟩).l
def tF (q:cW):Int:=(q.added.length:Int) - cQ q.s.f q.c
def xO (d:bM) (b:List UInt8):Option bM:=(j0 d b).bind pP
def gH (q:cW):Bool:=decide (1≤q.c) && decide (q.c≤5) && decide (q.added.length≤1000) && q.added.all mN && decide (q.s.l.length≤1000) && q.s.l.all (fun r=>lR r && dP r.b) && decide (0≤cQ q.s.f q.c) && decide (cQ q.s.f q.c≤(q.added.length:Int))
def tG (d:bM) (q:cW):Option (bM×cW):=if gH q=true then some (d,q) else none
def tH (d:bM) (q:cW) (ops:List OpD):Option (bM×cW×cR×Int):=
 if dP ⟨q.c,(q.added.length:Int)+1,ops⟩=false then some (d,q,⟨0,0,[]⟩,1)
 else if 30≤tF q then some (d,q,⟨0,0,[]⟩,5)
 else ((xO d (frB 1 (cT ⟨q.c,(q.added.length:Int)+1,ops⟩))).bind fun d=>tG d {q with added:=q.added ++ [⟨q.c,(q.added.length:Int)+1,ops⟩]}).map fun x=>(x.1,x.2,⟨q.c,(q.added.length:Int)+1,ops⟩,0)
def fB (q:cW):List cR:=q.added.drop (cQ q.s.f q.c).toNat
def fI (r:cD):List UInt8:=frB 2 (Ph.putI r.place ++ Ph.putI r.err ++ cT r.b)
def tI (l rows:List cD) (err:Int):Int:=if err=0∧l.length<rows.length then 1 else err
def tJ (d:bM) (q:cW) (rows:List cD):Option (bM×cW×Nat×Int):=
 if (gC q.s 0 (rows.takeWhile (fA q))).2.1=0 then some (d,q,0,tI (rows.takeWhile (fA q)) rows (gC q.s 0 (rows.takeWhile (fA q))).2.2)
 else ((xO d (((gC q.s 0 (rows.takeWhile (fA q))).1.l.drop q.s.l.length).flatMap fI)).bind fun d=>tG d {q with s:=(gC q.s 0 (rows.takeWhile (fA q))).1}).map fun x=>(x.1,x.2,(gC q.s 0 (rows.takeWhile (fA q))).2.1,tI (rows.takeWhile (fA q)) rows (gC q.s 0 (rows.takeWhile (fA q))).2.2)
def iN (q:cW):Int:=(q.s.l.length:Int)+1
structure bL where
 servers:List (Int×cY)
 clients:List (Int×cW)
 sd:List (Int×bM)
 cd:List (Int×bM)
 n:List bP
def at? {α:Type}:List (Int×α)→Int→Option α
 | [],_=>none
 |p::l,k=>if p.1=k then some p.2 else at? l k
def cL {α:Type}:List (Int×α)→Int→α→List (Int×α)
 | [],k,v=>[(k,v)]
 |p::l,k,v=>if p.1=k then (k,v)::l else p::cL l k v
def nW (n:List bP) (m:bP):List bP:=if iH m=true∧n.length<400 then n ++ [m] else n
def iO (n l:List bP):List bP:=l.foldl nW n
def nX (all:List Int):List Int→bL→Option bL
 | [],w=>some w
 |id::r,w=>(sI id all).bind fun x=>nX all r {w with servers:=cL w.servers id x.2,sd:=cL w.sd id x.1}
def bD:Nat→Int→List Int
 |0,_=>[]
 |n+1,k=>k::bD n (k+1)
def tK (servers clients:Nat):Option bL:=
 nX (bD servers 1) (bD servers 1) ⟨[],(bD clients 1).map fun c=>(c,⟨c,[],⟨fT,[]⟩⟩),(bD 7 1).map fun k=>(k,none),(bD clients 1).map fun c=>(c,none),[]⟩
def xP (w:bL) (id:Int) (x:bM×cY×List bP) (n:List bP):bL:={w with servers:=cL w.servers id x.2.1,sd:=cL w.sd id x.1,n:=iO n x.2.2}
def nY (w:bL) (id:Int):Option (bL×Int):=
 match at? w.servers id,at? w.sd id with
 |none,_=>some (w,12)
 |some s,some d=>(aAz d s).map fun x=>(xP w id x w.n,0)
 |_,none=>none
def xQ (w:bL):Option bL:=
 match w.n with
 | []=>some w
 |m::n=>
  match at? w.servers m.to_,at? w.sd m.to_ with
  |none,_=>some {w with n:=n}
  |some s,some d=>(wQ d s m).map fun x=>xP w m.to_ x n
  |_,none=>none
def kZ:Nat→bL→Option (bL×Bool)
 |0,w=>some (w,w.n.isEmpty)
 |k+1,w=>match w.n with| []=>some (w,true)|_::_=>(xQ w).bind (kZ k)
def nZ (w : bL) (c s : Int) : Option (bL × Int) :=
  match at? w.clients c, at? w.servers s, at? w.sd s with
  | none, _, _ => some (w, 12)
  | some _, none, _ => some (w, 12)
  | some q, some v, some d =>
    (match fB q with
     | [] => some (w, 13)
     | b :: _ => (xN d v b).map fun x => (xP w s (x.1, x.2.1, x.2.2.2.1) w.n, x.2.2.2.2))
  | some _, some _, none => none
def kB (w:bL) (c s:Int):Option (bL×Int):=
 match at? w.clients c,at? w.servers s,at? w.cd c with
 |none,_,_=>some (w,12)
 |some _,none,_=>some (w,12)
 |some q,some v,some d=>(tJ d q (gL v.t (iN q) 10)).map fun x=>({w with clients:=cL w.clients c x.2.1,cd:=cL w.cd c x.1},x.2.2.2)
 |some _,some _,none=>none
def tL (w:bL) (c:Int) (ops:List OpD):Option (bL×Int):=
 match at? w.clients c,at? w.cd c with
 |some q,some d=>(tH d q ops).map fun x=>({w with clients:=cL w.clients c x.2.1,cd:=cL w.cd c x.1},x.2.2.2)
 |_,_=>none
def tM (f:bL→Int→Int→Option (bL×Int)) (c:Int):Nat→Int→bL→Option bL
 |0,_,w=>some w
 |n+1,s,w=>(f w c s).bind fun x=>tM f c n (s+1) x.1
def tN (f:bL→Int→Int→Option (bL×Int)):Nat→Int→bL→Option bL
 |0,_,w=>some w
 |n+1,c,w=>(tM f c 7 1 w).bind (tN f n (c+1))
def xR (f:bL→Int→Int→Option (bL×Int)) (w:bL):Option bL:=tN f 5 1 w
def qN (w:bL):Bool:=w.servers.all fun s=>decide ((s.2.r.l.get s.2.r.l.first 200).length≤100)
def mE:Nat→bL→Option bL
 |0,w=>some w
 |k+1,w=>(xR nZ w).bind fun w=>(kZ 5000 w).bind fun x=>(xR kB x.1).bind fun w=>if qN w=true then mE k w else none
def mU:Nat→Int→Int→bL→Bool
 |0,_,_,_=>true
 |n+1,c,at_,w=>
  match at? w.clients c with
  |none=>mU n (c+1) at_ w
  |some q=>if (fB q).length > 0∨(at_ > 0∧iN q≠at_) then false else mU n (c+1) (iN q) w
def xS (w:bL):Bool:=mU 5 1 0 w
def qO:Nat→Int→bL→Option bL
 |0,_,w=>some w
 |k+1,id,w=>
  match at? w.servers id with
  |none=>qO k (id+1) w
  |some _=>(nY w id).bind fun x=>(kZ 5000 x.1).bind fun x=>qO k (id+1) x.1
def round (w:bL):Option (bL×Bool):=
 if qN w=true then (qO 7 1 w).bind fun w=>(mE 40 w).map fun w=>(w,xS w) else none
def aD:Nat→bL→Option (bL×Bool)
 |0,w=>some (w,false)
 |k+1,w=>(round w).bind fun x=>if x.2=true then some (x.1,true) else aD k x.1
section
variable {H H':Fh} {p q ps:Nat} {w0 W:World} {R L:List Res} {u:cW} {s:eK} {d d':bM}
def nameQ:ByteArray:=⟨#[113,117,101,117,101]⟩
theorem aHb:kW nameQ.data.toList=true:=by decide
theorem aHc:nameQ.size≤1000:=by decide
theorem aBy (c:Int) (hw:Has 0 w0 W (aT H ps s::R)):
  Calls Tryz.prog 238 ⟨[ptr ps,.int .i64 c]⟩ W fun e W'=>e= .returned (.int .i64 (cQ s.f c))∧Has 0 w0 W' (aT H ps s::R):=by
 obtain ⟨pf,ad,cap,xs,hc,hw⟩:=lM hw
 refine enter Tryz.func238 Tryz.ntmps238 rfl rfl fun a hs=>?_
 refine sv hs hw fun a hs=>?_
 refine cl hs (rZ w0 _ H pf s.f c _ hw.swap2) fun a W hs hw=>?_
 refine sv hs hw fun a hs=>?_
 exact rt1 hs rfl rfl ⟨rfl,iD hw.swap2 hc⟩
theorem aHd {n:Nat} {v:Value} {xs:List Value} (h1:∀u∈xs,u.oneCell'=true) (hl:n≤1000000) (hr:∀{W},Has 0 w0 W R→Rd W 5 v n xs) (hw:Has 0 w0 W R):
  Calls Tryz.prog 279 ⟨[v]⟩ W fun e W'=>∃s:Option Addr×Nat,e= .returned (.slice s.1 n s.2)∧True∧Has 0 w0 W' (Sx.Own 68 5 (.slice s.1 n s.2) n xs::R):=by
 have hxl:xs.length=n*5:=by obtain ⟨h,_⟩:=hr hw;exact h
 obtain ⟨ad,cap,rfl⟩:∃ad cap,v= .slice ad n cap:=by obtain ⟨_,ad,cap,e,_⟩:=hr hw;exact ⟨ad,cap,e⟩
 refine enter Tryz.func279 Tryz.ntmps279 rfl rfl fun a hs=>?_
 refine sv hs hw fun a hs=>?_
 refine kE hs (c:=fun a hs=>?_)
 cases ad with
 |none=>
  refine sv hs hw fun a hs=>?_
  have h0:n=0:=by
   obtain ⟨_,ad,cap,e,_,_,h|⟨b,o,h,_⟩⟩:=hr hw
   ·exact h
   ·injection e with e1 _ _
    rw [←e1] at h;cases h
  subst h0
  obtain rfl:xs= []:=List.eq_nil_of_length_eq_zero (by omega)
  exact rt1 hs rfl rfl ⟨(none,0),rfl,trivial,hw.nilOwn 68 5⟩
 |some A=>
  rw [show (some A).isNone=false from rfl] at hs
  refine sc hs ?_
  refine oU hs hw (c:=fun a ad W hw hs=>?_)
  refine sv hs hw fun a hs=>?_
  refine lF hs (hw:=hw) (k:=0) (m:=n) (xs:=[]) (news:=xs) (hsrc:=fK (hr (hw.sub (List.Sublist.cons _ (List.Sublist.refl _)))) h1) (h63:=by omega) (hb:=by omega) (c:=fun a ad2 cap2 W hs hw=>?_)
  rw [List.nil_append,Nat.zero_add] at hw
  rw [Nat.zero_add] at hs
  refine sv hs hw fun a hs=>?_
  exact rt1 hs rfl rfl ⟨(ad2,cap2),rfl,trivial,hw⟩
theorem aHe (hl:s.l.length≤1000000) (hw:Has 0 w0 W (aT H ps s::R)):
  Calls Tryz.prog 248 ⟨[ptr ps]⟩ W fun e W'=>∃q:Nat,e= .returned (ptr q)∧True∧Has 0 w0 W' (aT H q s::aT H ps s::R):=by
 obtain ⟨pf,ad,cap,xs,hc,hw⟩:=lM hw
 refine enter Tryz.func248 Tryz.ntmps248 rfl rfl fun a hs=>?_
 refine zA hs hw ?_;clear hs;intro a hs
 refine bF [4,9,11] [.f 0 0,.f 0 0,.f 0 0,.f 0 0,.m 0,.f 0 1,.f 0 1,.f 0 1,.f 0 1,.m 1,.f 2 2,.m 2,.f 3 3] [.c0 _,.c0 _,.c0 _,.c0 _,.c1 (fun x=>ptr x.n),.c0 _,.c0 _,.c0 _,.c0 _,.c2 (fun x y=> .slice y.ad s.l.length y.cap),.c2 _,.c3 (fun x y z=>ptr z.n),.c3 _] (aA ps [.pointer (some ⟨pf,0,none⟩),.slice ad s.l.length cap] 186::aS H pf s.f::Sx.Own 68 5 (.slice ad s.l.length cap) s.l.length xs::R) (fun x=>aS H x.n s.f::aA ps [.pointer (some ⟨pf,0,none⟩),.slice ad s.l.length cap] 186::aS H pf s.f::Sx.Own 68 5 (.slice ad s.l.length cap) s.l.length xs::R) (fun x y=>Sx.Own 68 5 (.slice y.ad s.l.length y.cap) s.l.length xs::aS H x.n s.f::aA ps [.pointer (some ⟨pf,0,none⟩),.slice ad s.l.length cap] 186::aS H pf s.f::Sx.Own 68 5 (.slice ad s.l.length cap) s.l.length xs::R) (fun x y z=>aA z.n [.pointer (some ⟨x.n,0,none⟩),.slice y.ad s.l.length y.cap] 186::Sx.Own 68 5 (.slice y.ad s.l.length y.cap) s.l.length xs::aS H x.n s.f::aA ps [.pointer (some ⟨pf,0,none⟩),.slice ad s.l.length cap] 186::aS H pf s.f::Sx.Own 68 5 (.slice ad s.l.length cap) s.l.length xs::R) (fun x y z t=>[]) hs hw ?kk ⟨drs,drs,drs,drs,?m0,drs,drs,drs,drs,?m1,drs,drn,drs,trivial⟩
 case m0=>
  intro x y z t LD a W hs hw
  have hw:Has 0 w0 W (aS H pf s.f::aA ps [.pointer (some ⟨pf,0,none⟩),.slice ad s.l.length cap] 186::Sx.Own 68 5 (.slice ad s.l.length cap) s.l.length xs::R):=hw.pm
  refine aF hs (hc:=v7 w0 _ H pf s.f _ hw) (k:=?_)
  rintro e' W' ⟨q,rfl,hw⟩
  refine ⟨_,rfl,fun a hs=>?_⟩
  exact ⟨{n:=q},hs,hw.pm⟩
 case m1=>
  intro x y z t LD a W hs hw
  refine cle hs (aHd (hc.ones RowIn.ones) hl (fun h=>h.rd_own (by repeat (first|exact In.hd|apply In.tl))) hw) fun q a W _ hs hw=>?_
  exact ⟨{ad:=q.1,cap:=q.2},hs,hw⟩
 case kk=>
 intro x y z a W hs hw
 refine sc hs ?_
 refine rt1 hs rfl rfl ⟨z.n,rfl,trivial,?_⟩
 have hw:Has 0 w0 W (aA z.n [.pointer (some ⟨x.n,0,none⟩),.slice y.ad s.l.length y.cap] 186::aS H x.n s.f::Sx.Own 68 5 (.slice y.ad s.l.length y.cap) s.l.length xs::aA ps [.pointer (some ⟨pf,0,none⟩),.slice ad s.l.length cap] 186::aS H pf s.f::Sx.Own 68 5 (.slice ad s.l.length cap) s.l.length xs::R):=hw.pm
 have hw:=iD hw hc
 have hw:Has 0 w0 W (aA ps [.pointer (some ⟨pf,0,none⟩),.slice ad s.l.length cap] 186::aS H pf s.f::Sx.Own 68 5 (.slice ad s.l.length cap) s.l.length xs::aT H z.n s::R):=hw.pm
 exact (iD hw hc).swap2
abbrev bG (p q:Nat) (c:Int) (v:Value) (ps:Nat):Res:=aA p [ptr q,.int .i64 c,v,ptr ps] 183
def eH (H:Fh) (p q:Nat) (u:cW):Res:=Ex fun x:Value×List Value×Nat=>bG p q u.c x.1 x.2.2::Sx.Own 66 3 x.1 u.added.length x.2.1::aT H x.2.2 u.s::bN (Ch (BatIn H) u.added x.2.1∧gH u=true):: []
theorem k5 {v:Value} {xs:List Value} (h:Has 0 w0 W (bG p q u.c v ps::Sx.Own 66 3 v u.added.length xs::aT H ps u.s::R)) (hc:Ch (BatIn H) u.added xs) (ho:gH u=true):Has 0 w0 W (eH H p q u::R):=Has.shut (v,xs,ps) ((h.fact (And.intro hc ho)).pm)
theorem kC (h:Has 0 w0 W (eH H p q u::R)):gH u=true∧∃ps ad cap xs,Ch (BatIn H) u.added xs∧Has 0 w0 W (bG p q u.c (.slice ad u.added.length cap) ps::Sx.Own 66 3 (.slice ad u.added.length cap) u.added.length xs::aT H ps u.s::R):=by
 obtain ⟨⟨v,xs,ps⟩,h⟩:=Has.open h
 have h:Has 0 w0 W (bG p q u.c v ps::Sx.Own 66 3 v u.added.length xs::aT H ps u.s::bN (Ch (BatIn H) u.added xs∧gH u=true)::R):=h
 obtain ⟨h1,h2⟩:=h.told (In.tl (In.tl (In.tl In.hd)))
 have h3:Has 0 w0 W (Sx.Own 66 3 v u.added.length xs::bG p q u.c v ps::aT H ps u.s::R):=h.sl
 obtain ⟨ad,cap,rfl⟩:=h3.own_slice
 exact ⟨h2,ps,ad,cap,xs,h1,h3.swap2⟩
theorem aBz (h:Has 0 w0 W (eH H p q u::R)) (hl:H.le H'):Has 0 w0 W (eH H' p q u::R):=by
 obtain ⟨h1,ps,ad,cap,xs,hc,h⟩:=kC h
 have h:=aAd (h.pm:Has 0 w0 W (aT H ps u.s::bG p q u.c (.slice ad u.added.length cap) ps::Sx.Own 66 3 (.slice ad u.added.length cap) u.added.length xs::R)) hl
 exact k5 (h.pm) (hc.mono (BatIn.le hl)) h1
instance (H H':Fh) (p q:Nat) (u:cW):gS H H' (eH H p q u) (eH H' p q u):=⟨fun hl h=>aBz h hl⟩
structure n9 (u:cW):Prop where
 c:1≤u.c∧u.c≤5
 added:u.added.length≤1000∧∀b∈u.added,gW b∧b.l.length≤8
 rows:u.s.l.length≤1000∧∀r∈u.s.l,(jH r∧r.b.l.length≤8)∧dP r.b=true
 last:0≤cQ u.s.f u.c∧cQ u.s.f u.c≤(u.added.length:Int)
theorem lU {u:cW} (h:gH u=true):n9 u:=by
 unfold gH at h
 simp only [Bool.and_eq_true,decide_eq_true_eq,List.all_eq_true] at h
 obtain ⟨⟨⟨⟨⟨⟨⟨a1,a2⟩,a3⟩,a4⟩,a5⟩,a6⟩,a7⟩,a8⟩:=h
 refine ⟨⟨a1,a2⟩,⟨a3,fun b hb=>?_⟩,⟨a5,fun r hr=>⟨qM (a6 r hr).1,(a6 r hr).2⟩⟩,⟨a7,a8⟩⟩
 have:=qM (r:=⟨0,b,0⟩) (by unfold lR gP;rw [a4 b hb];rfl)
 exact ⟨this.1.b,this.2⟩
theorem xT (b:cR) (v:Value) (hb:b.l.length≤1000) (hv:cH H v b.l) (hw:Has 0 w0 W (Fz H::R)):
  Calls Tryz.prog 164 ⟨[.agg ⟨aL b v⟩]⟩ W fun e W'=>∃(v':Value) (H':Fh),e= .returned (.agg ⟨aL b v'⟩)∧H.le H'∧cH H' v' b.l∧Has 0 w0 W' (Fz H'::R):=by
 obtain ⟨mad,mcap,rfl⟩:=hv.slice
 refine enter Tryz.func164 Tryz.ntmps164 rfl rfl fun a hs=>?_
 refine sc hs ?_
 refine sn hs hw fun b1 a W hs hw=>?_
 refine sn hs hw fun b2 a W hs hw=>?_
 refine sv hs hw fun a hs=>?_
 have hw:Has 0 w0 W (Fz H::aA b1 (aL b (.slice mad b.l.length mcap)) 66::aA b2 (aL ⟨0,0,[]⟩ (.slice none 0 0)) 66::R):=hw.pm
 refine aF hs (hc:=rY w0 _ H b.l _ _ hb hv hw) (k:=?_)
 rintro e' W' ⟨v',H',rfl,hle,hv',hw⟩
 refine ⟨_,rfl,fun a hs=>?_⟩
 obtain ⟨vad,vcap,rfl⟩:=RdH.slice hv'
 refine sx hs hw fun a W hs hw=>?_
 exact rc1 hs rfl rfl hw (by repeat (first|exact In.hd|apply In.tl)) rfl ⟨_,H',rfl,hle,hv',hw.sl⟩
theorem aCA {v bv:Value} {b:List UInt8} (h:xO d b=some d') (hr:∀{W},Has 0 w0 W R→RdB W bv b) (hw:Has 0 w0 W (aB nameQ q d::bG p q u.c v ps::R)):
  Calls Tryz.prog 166 ⟨[ptr p,bv]⟩ W fun e W'=>e= .returned (.int .i64 0)∧Has 0 w0 W' (aB nameQ q d'::bG p q u.c v ps::R):=by
 obtain ⟨d1,h1,h2⟩:=Option.bind_eq_some_iff.1 h
 obtain ⟨vad,vcap,rfl⟩:∃ad cap,bv= .slice ad b.length cap:=by
  obtain ⟨_,ad,cap,e,_⟩:=hr (hw.sub (List.Sublist.cons _ (List.Sublist.cons _ (List.Sublist.refl _))));exact ⟨ad,cap,e⟩
 refine enter Tryz.func166 Tryz.ntmps166 rfl rfl fun a hs=>?_
 refine sv hs hw fun a hs=>?_
 refine cl hs (aBO w0 W nameQ aHc aHb d d1 b _ _ h1 (fun g=>hr (g.sub (List.Sublist.cons _ (List.Sublist.refl _)))) hw) fun a W hs hw=>?_
 refine sv hs hw fun a hs=>?_
 refine cl hs (aBP w0 W nameQ d1 d' _ h2 hw) fun a W hs hw=>?_
 refine sv hs hw fun a hs=>?_
 exact rt1 hs rfl rfl ⟨rfl,hw⟩
theorem aHf {ad:Option Addr} {cap:Nat} {xs:List Value} (hf:n9 u) (hw:Has 0 w0 W (bG p q u.c (.slice ad u.added.length cap) ps::Sx.Own 66 3 (.slice ad u.added.length cap) u.added.length xs::aT H ps u.s::R)):
  Calls Tryz.prog 165 ⟨[ptr p]⟩ W fun e W'=>e= .returned (.int .i64 (tF u))∧Has 0 w0 W' (bG p q u.c (.slice ad u.added.length cap) ps::Sx.Own 66 3 (.slice ad u.added.length cap) u.added.length xs::aT H ps u.s::R):=by
 have h9:IntKind.i64.wrap ((u.added.length:Int) - cQ u.s.f u.c)=tF u:=by
  have:=hf.last;have:=hf.added.1
  rw [IntWalk.i64_in _ (by omega)];rfl
 refine enter Tryz.func165 Tryz.ntmps165 rfl rfl fun a hs=>?_
 refine zA hs hw ?_;clear hs;intro a hs
 refine bF [13] [.f 0 1,.f 0 1,.f 0 1,.f 0 1,.f 0 1,.f 0 0,.f 0 0,.f 0 0,.f 0 0,.f 0 0,.f 0 0,.f 0 0,.f 0 0,.m 0,.f 1 1,.f 1 1] [.c0 _,.c0 _,.c0 _,.c0 _,.c0 _,.c0 _,.c0 _,.c0 _,.c0 _,.c0 _,.c0 _,.c0 _,.c0 _,.c1 (fun x=> .int .i64 (cQ u.s.f u.c)),.c1 _,.c1 _] (bG p q u.c (.slice ad u.added.length cap) ps::Sx.Own 66 3 (.slice ad u.added.length cap) u.added.length xs::aT H ps u.s::R) (fun x=>bG p q u.c (.slice ad u.added.length cap) ps::Sx.Own 66 3 (.slice ad u.added.length cap) u.added.length xs::aT H ps u.s::R) (fun x y=>[]) (fun x y z=>[]) (fun x y z t=>[]) hs hw ?kk ⟨drs,drs,drs,drs,drs,drs,drs,drs,drs,drs,drs,drs,drs,?m0,drs,drs,trivial⟩
 case m0=>
  intro x y z t LD a W hs hw
  have hw:Has 0 w0 W (aT H ps u.s::bG p q u.c (.slice ad u.added.length cap) ps::Sx.Own 66 3 (.slice ad u.added.length cap) u.added.length xs::R):=hw.pm
  refine cl hs (aBy u.c hw) fun a W hs hw=>?_
  exact ⟨{},hs,hw.pm⟩
 case kk=>
 intro _ a W hs hw
 refine sc hs ?_
 exact rt1 hs rfl rfl ⟨by rw [h9],hw⟩
theorem xU {v:Value} (hw:Has 0 w0 W (bG p q u.c v ps::R)):
  Calls Tryz.prog 58 ⟨[ptr p]⟩ W fun e W'=>e= .returned (ptr ps)∧Has 0 w0 W' (bG p q u.c v ps::R):=by
 refine enter Tryz.func58 Tryz.ntmps58 rfl rfl fun a hs=>?_
 refine sv hs hw fun a hs=>?_
 exact rt1 hs rfl rfl ⟨rfl,hw⟩
end
set_option maxRecDepth 100000
section
variable {H H':Fh} {p q ps:Nat} {w0 W:World} {R L:List Res} {u:cW} {s:eK} {d d':bM} {ad:Option Addr} {cap:Nat} {xs:List Value}
abbrev tO:List Value:=[.int .i64 0,.int .i64 0,.slice none 0 0]
theorem aHg (r:cD) {rad:Option Addr} {rcap:Nat} (hv:cH H (.slice rad r.b.l.length rcap) r.b.l) (hf:n9 u) (hc:Ch (BatIn H) u.added xs) (i:In (Fz H) R) (hw:Has 0 w0 W (bG p q u.c (.slice ad u.added.length cap) ps::Sx.Own 66 3 (.slice ad u.added.length cap) u.added.length xs::aT H ps u.s::R)):
  Calls Tryz.prog 251 ⟨[ptr p,.agg ⟨aJ r (.slice rad r.b.l.length rcap)⟩]⟩ W fun e W'=>e= .returned (.bool (fA u r))∧Has 0 w0 W' (bG p q u.c (.slice ad u.added.length cap) ps::Sx.Own 66 3 (.slice ad u.added.length cap) u.added.length xs::aT H ps u.s::R):=by
 have hq:fA u r=(if r.b.c≠u.c then true else decide (r.b.q≥1) && decide (r.b.q≤(u.added.length:Int)) && eqL r.b.l (u.added.getD (r.b.q - 1).toNat ⟨0,0,[]⟩).l):=rfl
 refine enter Tryz.func251 Tryz.ntmps251 rfl rfl fun a hs=>?_
 refine sc hs ?_
 refine sn hs hw fun b3 a W hs hw=>?_
 have drop:∀{W},Has 0 w0 W (aA b3 (aJ r (.slice rad r.b.l.length rcap)) 68::bG p q u.c (.slice ad u.added.length cap) ps::Sx.Own 66 3 (.slice ad u.added.length cap) u.added.length xs::aT H ps u.s::R)→Has 0 w0 W (bG p q u.c (.slice ad u.added.length cap) ps::Sx.Own 66 3 (.slice ad u.added.length cap) u.added.length xs::aT H ps u.s::R):=fun h=>h.sub (List.Sublist.cons _ (List.Sublist.refl _))
 have hw:Has 0 w0 W (aA b3 (aJ r (.slice rad r.b.l.length rcap)) 68::bG p q u.c (.slice ad u.added.length cap) ps::Sx.Own 66 3 (.slice ad u.added.length cap) u.added.length xs::aT H ps u.s::R):=hw
 refine zA hs hw ?_;clear hs;intro a hs
 refine rgp [_,_,_,_,_,_,_,_] hs hw fun a W hs hw=>?_
 cases c1:(r.b.c !=u.c) with
 |true=>
  rw [c1] at hs
  rw [hq,if_pos (by simpa using c1)]
  refine sv hs hw fun a hs=>?_
  exact rt1 hs rfl rfl ⟨rfl,drop hw⟩
 |false=>
 rw [c1] at hs
 rw [hq,if_neg (by simpa using c1)]
 refine sc hs ?_
 cases c2:decide (r.b.q≥1) with
 |false=>
  refine bF [30] [Sp.f 0 0,Sp.f 0 0,Sp.f 0 0,Sp.f 0 0,Sp.f 0 0,Sp.f 0 0,Sp.f 0 0,Sp.f 0 0,Sp.f 0 0,Sp.f 0 0,Sp.f 0 0,Sp.f 0 0,Sp.f 0 0,Sp.f 0 0,Sp.f 0 0,Sp.f 0 0,Sp.f 0 0,Sp.f 0 0,Sp.f 0 0,Sp.f 0 0,Sp.f 0 0,Sp.f 0 0,Sp.f 0 0,Sp.f 0 0,Sp.f 0 0,Sp.f 0 0,Sp.f 0 0,Sp.f 0 0,Sp.f 0 0,Sp.f 0 0,Sp.m 0,Sp.f 1 1,Sp.f 1 1] [En.c0 _,En.c0 _,En.c0 _,En.c0 (.bool false),En.c0 _,En.c0 _,En.c0 _,En.c0 _,En.c0 _,En.c0 _,En.c0 _,En.c0 _,En.c0 _,En.c0 _,En.c0 _,En.c0 _,En.c0 _,En.c0 _,En.c0 _,En.c0 _,En.c0 _,En.c0 _,En.c0 _,En.c0 _,En.c0 _,En.c0 _,En.c0 _,En.c0 _,En.c0 _,En.c0 _,En.c1 (fun x=>undef),En.c1 _,En.c1 _] (aA b3 (aJ r (.slice rad r.b.l.length rcap)) 68::bG p q u.c (.slice ad u.added.length cap) ps::Sx.Own 66 3 (.slice ad u.added.length cap) u.added.length xs::aT H ps u.s::R) (fun x=>aA b3 (aJ r (.slice rad r.b.l.length rcap)) 68::bG p q u.c (.slice ad u.added.length cap) ps::Sx.Own 66 3 (.slice ad u.added.length cap) u.added.length xs::aT H ps u.s::R) (fun x y=>[]) (fun x y z=>[]) (fun x y z t=>[]) hs hw ?kk ⟨drs,drs,drs,?f3,drs,drs,drs,drs,drs,drs,drs,drs,drs,drs,drs,drs,drs,drs,drs,drs,drs,drs,drs,drs,drs,drs,drs,drs,drs,drs,drm,drs,drs,trivial⟩
  case f3=>
   refine ⟨?_,trivial,trivial,trivial,trivial⟩
   intro x y z t LD a W hs hw
   refine sv hs hw fun a hs=>?_
   rw [c2] at hs
   exact ⟨hs,hw⟩
  case kk=>
   intro _ a W hs hw
   refine sc hs ?_
   exact rt1 hs rfl rfl ⟨rfl,drop hw⟩
 |true=>
 cases c3:decide (r.b.q≤(u.added.length:Int)) with
 |false=>
  refine bF [30] [Sp.f 0 0,Sp.f 0 0,Sp.f 0 0,Sp.f 0 0,Sp.f 0 0,Sp.f 0 0,Sp.f 0 0,Sp.f 0 0,Sp.f 0 0,Sp.f 0 0,Sp.f 0 0,Sp.f 0 0,Sp.f 0 0,Sp.f 0 0,Sp.f 0 0,Sp.f 0 0,Sp.f 0 0,Sp.f 0 0,Sp.f 0 0,Sp.f 0 0,Sp.f 0 0,Sp.f 0 0,Sp.f 0 0,Sp.f 0 0,Sp.f 0 0,Sp.f 0 0,Sp.f 0 0,Sp.f 0 0,Sp.f 0 0,Sp.f 0 0,Sp.m 0,Sp.f 1 1,Sp.f 1 1] [En.c0 _,En.c0 _,En.c0 _,En.c0 (.bool true),En.c0 _,En.c0 _,En.c0 _,En.c0 _,En.c0 _,En.c0 _,En.c0 _,En.c0 _,En.c0 _,En.c0 (.bool false),En.c0 _,En.c0 _,En.c0 _,En.c0 _,En.c0 _,En.c0 _,En.c0 _,En.c0 _,En.c0 _,En.c0 _,En.c0 _,En.c0 _,En.c0 _,En.c0 _,En.c0 _,En.c0 _,En.c1 (fun x=>undef),En.c1 _,En.c1 _] (aA b3 (aJ r (.slice rad r.b.l.length rcap)) 68::bG p q u.c (.slice ad u.added.length cap) ps::Sx.Own 66 3 (.slice ad u.added.length cap) u.added.length xs::aT H ps u.s::R) (fun x=>aA b3 (aJ r (.slice rad r.b.l.length rcap)) 68::bG p q u.c (.slice ad u.added.length cap) ps::Sx.Own 66 3 (.slice ad u.added.length cap) u.added.length xs::aT H ps u.s::R) (fun x y=>[]) (fun x y z=>[]) (fun x y z t=>[]) hs hw ?kk ⟨drs,drs,drs,?f3,drs,drs,drs,drs,drs,drs,drs,drs,drs,?f13,drs,drs,drs,drs,drs,drs,drs,drs,drs,drs,drs,drs,drs,drs,drs,drs,drm,drs,drs,trivial⟩
  case f3=>
   refine ⟨?_,trivial,trivial,trivial,trivial⟩
   intro x y z t LD a W hs hw
   refine sv hs hw fun a hs=>?_
   rw [c2] at hs
   exact ⟨hs,hw⟩
  case f13=>
   refine ⟨?_,trivial,trivial,trivial,trivial⟩
   intro x y z t LD a W hs hw
   refine sv hs hw fun a hs=>?_
   rw [c3] at hs
   exact ⟨hs,hw⟩
  case kk=>
   intro _ a W hs hw
   refine sc hs ?_
   exact rt1 hs rfl rfl ⟨rfl,drop hw⟩
 |true=>
 have g2:=of_decide_eq_true c2
 have g3:=of_decide_eq_true c3
 have hal:=hf.added.1
 obtain ⟨I,hI⟩:∃I:Nat,r.b.q - 1=(I:Int):=⟨(r.b.q - 1).toNat,by omega⟩
 have hIl:I<u.added.length:=by omega
 obtain ⟨bt,hbt⟩:∃bt,u.added[I]? =some bt:=⟨_,List.getElem?_eq_getElem hIl⟩
 have hgd:u.added.getD (r.b.q - 1).toNat ⟨0,0,[]⟩=bt:=by
  rw [hI,Int.toNat_natCast,List.getD_eq_getElem?_getD,hbt];rfl
 obtain ⟨bc,⟨sv,rfl,hsv⟩,_,hcut⟩:=hc.get BatIn.len hbt
 obtain ⟨sad,scap,rfl⟩:=hsv.slice
 rw [hgd]
 obtain ⟨g,off,cap',hvv,_⟩:=j8 ((drop hw).rd_own (In.tl In.hd)) (by omega)
 injection hvv with hv1 _ hv2
 subst hv1 hv2
 have hI64:IntKind.i64.wrap (r.b.q - 1)=(I:Int):=by rw [IntWalk.i64_in _ (by omega)];exact hI
 have hcell:∀{W},Has 0 w0 W (aA b3 (aJ r (.slice rad r.b.l.length rcap)) 68::bG p q u.c (.slice (some ⟨g,off,none⟩) u.added.length cap) ps::Sx.Own 66 3 (.slice (some ⟨g,off,none⟩) u.added.length cap) u.added.length xs::aT H ps u.s::R)→W.cell? ⟨g,off+I*3+2,none⟩=some (.slice sad bt.l.length scap):=fun h=>by
  rw [Nat.add_assoc]
  refine lS (h.rd_own (In.tl (In.tl In.hd))) (by omega) (I*3+2) _ ?_
  have h9:=congrArg (fun t=>t[2]?) hcut
  simp only [fX,List.getElem?_take,List.getElem?_drop] at h9
  rw [if_pos (by omega)] at h9
  exact h9
 refine bF [30] [Sp.f 0 0,Sp.f 0 0,Sp.f 0 0,Sp.f 0 0,Sp.f 0 0,Sp.f 0 0,Sp.f 0 0,Sp.f 0 0,Sp.f 0 0,Sp.f 0 0,Sp.f 0 0,Sp.f 0 0,Sp.f 0 0,Sp.f 0 0,Sp.f 0 0,Sp.f 0 0,Sp.f 0 0,Sp.f 0 0,Sp.f 0 0,Sp.f 0 0,Sp.f 0 0,Sp.f 0 0,Sp.f 0 0,Sp.f 0 0,Sp.f 0 0,Sp.f 0 0,Sp.f 0 0,Sp.f 0 0,Sp.f 0 0,Sp.f 0 0,Sp.m 0,Sp.f 1 1,Sp.f 1 1] [En.c0 _,En.c0 _,En.c0 _,En.c0 (.bool true),En.c0 _,En.c0 _,En.c0 _,En.c0 _,En.c0 _,En.c0 _,En.c0 _,En.c0 _,En.c0 _,En.c0 (.bool true),En.c0 _,En.c0 _,En.c0 _,En.c0 _,En.c0 _,En.c0 _,En.c0 _,En.c0 _,En.c0 _,En.c0 _,En.c0 _,En.c0 _,En.c0 (.int .i64 (I:Int)),En.c0 (.pointer (some ⟨g,off+I*3,none⟩)),En.c0 _,En.c0 (.slice sad bt.l.length scap),En.c1 (fun x=> .bool (eqL r.b.l bt.l)),En.c1 _,En.c1 _] (aA b3 (aJ r (.slice rad r.b.l.length rcap)) 68::bG p q u.c (.slice (some ⟨g,off,none⟩) u.added.length cap) ps::Sx.Own 66 3 (.slice (some ⟨g,off,none⟩) u.added.length cap) u.added.length xs::aT H ps u.s::R) (fun x=>aA b3 (aJ r (.slice rad r.b.l.length rcap)) 68::bG p q u.c (.slice (some ⟨g,off,none⟩) u.added.length cap) ps::Sx.Own 66 3 (.slice (some ⟨g,off,none⟩) u.added.length cap) u.added.length xs::aT H ps u.s::R) (fun x y=>[]) (fun x y z=>[]) (fun x y z t=>[]) hs hw ?kk ⟨drs,drs,drs,?f3,drs,drs,drs,drs,drs,drs,drs,drs,drs,?f13,drs,drs,drs,drs,drs,drs,drs,drs,drs,drs,drs,drs,?f26,?f27,drs,?f29,?m0,drs,drs,trivial⟩
 case f3=>
  refine ⟨?_,trivial,trivial,trivial,trivial⟩
  intro x y z t LD a W hs hw
  refine sv hs hw fun a hs=>?_
  rw [c2] at hs
  exact ⟨hs,hw⟩
 case f13=>
  refine ⟨?_,trivial,trivial,trivial,trivial⟩
  intro x y z t LD a W hs hw
  refine sv hs hw fun a hs=>?_
  rw [c3] at hs
  exact ⟨hs,hw⟩
 case f26=>
  refine ⟨?_,trivial,trivial,trivial,trivial⟩
  intro x y z t LD a W hs hw
  refine sv hs hw fun a hs=>?_
  rw [hI64] at hs
  exact ⟨hs,hw⟩
 case f27=>
  refine ⟨?_,trivial,trivial,trivial,trivial⟩
  intro x y z t LD a W hs hw
  refine sc hs ?_
  refine eG hs (z:=tO) (g:=g) (o:=off) (k:=u.added.length) (i:=(I:Int)) (h0:=by omega) (h1:=by omega) (c:=fun a hs=>?_)
  exact ⟨hs,hw⟩
 case f29=>
  refine ⟨?_,trivial,trivial,trivial,trivial⟩
  intro x y z t LD a W hs hw
  refine sc hs ?_
  refine eP hs (hc:=hcell hw) (c:=fun a hs=>?_)
  exact ⟨hs,hw⟩
 case m0=>
  intro x y z t LD a W hs hw
  refine sc hs ?_
  refine cb hs hw (aAc r.b.l _ bt.l _ W (hw.rdH (In.tl (In.tl (In.tl (In.tl i)))) hv) (hw.rdH (In.tl (In.tl (In.tl (In.tl i)))) hsv)) fun a W hs hw=>?_
  exact ⟨{},hs,hw⟩
 case kk=>
  intro _ a W hs hw
  refine sc hs ?_
  exact rt1 hs rfl rfl ⟨rfl,hw.sub (List.Sublist.cons _ (List.Sublist.refl _))⟩
theorem aHh (r:cD) {b2:Nat} {rad:Option Addr} {rcap:Nat} (hv:cH H (.slice rad r.b.l.length rcap) r.b.l) (hf:n9 u) (hc:Ch (BatIn H) u.added xs) (i:In (Fz H) R) (hw:Has 0 w0 W (bG p q u.c (.slice ad u.added.length cap) ps::Sx.Own 66 3 (.slice ad u.added.length cap) u.added.length xs::aT H ps u.s::aA b2 [ptr p] 114::R)):
  Calls Tryz.prog 250 ⟨[.agg ⟨aJ r (.slice rad r.b.l.length rcap)⟩,ptr b2]⟩ W fun e W'=>e= .returned (.bool (!fA u r))∧Has 0 w0 W' (bG p q u.c (.slice ad u.added.length cap) ps::Sx.Own 66 3 (.slice ad u.added.length cap) u.added.length xs::aT H ps u.s::aA b2 [ptr p] 114::R):=by
 refine enter Tryz.func250 Tryz.ntmps250 rfl rfl fun a hs=>?_
 refine sc hs ?_
 refine sn hs hw fun b3 a W hs hw=>?_
 refine sx hs hw fun a W hs hw=>?_
 have hw:Has 0 w0 W (bG p q u.c (.slice ad u.added.length cap) ps::Sx.Own 66 3 (.slice ad u.added.length cap) u.added.length xs::aT H ps u.s::aA b2 [ptr p] 114::aA b3 (aJ r (.slice rad r.b.l.length rcap)) 68::R):=hw.pm
 refine cl hs (aHg r hv hf hc (In.tl (In.tl i)) hw) fun a W hs hw=>?_
 refine sv hs hw fun a hs=>?_
 exact rt1 hs rfl rfl ⟨rfl,hw.sl⟩
theorem aHi {b2:Nat} (rows:List cD) (v:Value) {ys:List Value} (hr:RdH H 5 v rows.length ys) (hys:Ch (RowIn H) rows ys) (hf:n9 u) (hc:Ch (BatIn H) u.added xs) (i:In (Fz H) R) (hw:Has 0 w0 W (bG p q u.c (.slice ad u.added.length cap) ps::Sx.Own 66 3 (.slice ad u.added.length cap) u.added.length xs::aT H ps u.s::aA b2 [ptr p] 114::R)):
  Calls Tryz.prog 249 ⟨[v,.func (.func 250) ⟨[]⟩ ⟨[ptr b2]⟩]⟩ W fun e W'=>e= .returned (.int .i64 (if (rows.takeWhile (fA u)).length<rows.length then ((rows.takeWhile (fA u)).length:Int) else -1))∧Has 0 w0 W' (bG p q u.c (.slice ad u.added.length cap) ps::Sx.Own 66 3 (.slice ad u.added.length cap) u.added.length xs::aT H ps u.s::aA b2 [ptr p] 114::R):=by
 obtain ⟨sad,scap,rfl⟩:=hr.slice
 have hlen:=hr.len
 have i4:In (Fz H) (bG p q u.c (.slice ad u.added.length cap) ps::Sx.Own 66 3 (.slice ad u.added.length cap) u.added.length xs::aT H ps u.s::aA b2 [ptr p] 114::R):=In.tl (In.tl (In.tl (In.tl i)))
 refine enter Tryz.func249 Tryz.ntmps249 rfl rfl fun a hs=>?_
 refine sv hs hw fun a hs=>?_
 refine bX (σ:=Nat) (fun j=>[(0,.slice sad rows.length scap),(1,.func (.func 250) ⟨[]⟩ ⟨[ptr b2]⟩),(7,.int .i64 (rows.length:Int)),(8,.int .i64 (j:Int))]) (fun _=>bG p q u.c (.slice ad u.added.length cap) ps::Sx.Own 66 3 (.slice ad u.added.length cap) u.added.length xs::aT H ps u.s::aA b2 [ptr p] 114::R) (fun j=>j≤rows.length∧(rows.takeWhile (fA u)).length=j+((rows.drop j).takeWhile (fA u)).length) (fun j=>rows.length - j) 0 ⟨Nat.zero_le _,by simp⟩ hs ⟨rfl,rfl,rfl,rfl,trivial⟩ hw ?_
 clear hs hw
 rintro j a W ⟨hj,ha⟩ hs hw
 refine sv hs hw fun a hs=>?_
 refine cI hs (kt:=fun hcc=>?_) (kf:=fun hcc=>?_)
 ·have hj':j<rows.length:=by simpa using hcc
  obtain ⟨o,ho,hd⟩:=dS hj'
  rw [hd] at ha
  refine sv hs hw fun a hs=>?_
  refine fZ hs (r:=hw.rdH i4 hr) (hk:=RowIn.len) (ch:=hys) (ho:=ho) (hlen:=rfl) (c:=fun a g off c hmc hcl hpc hlt hs=>?_)
  obtain ⟨sv,rfl,hsv⟩:=hmc
  obtain ⟨oad,ocap,rfl⟩:=hsv.slice
  refine eC hs (z:=zrc) (cs:=aJ o _) (hc:=hpc) (hl:=by rfl) (c:=fun a hs=>?_)
  refine aAH hs (vs:=[.agg ⟨aJ o (.slice oad o.b.l.length ocap)⟩]) (cs:=[ptr b2]) (hf:=by kernel_rfl) (hc:=(show Calls Tryz.prog 250 ⟨[.agg ⟨aJ o (.slice oad o.b.l.length ocap)⟩] ++ [ptr b2]⟩ _ _ from aHh o hsv hf hc i hw)) (k:=?_)
  rintro e0 W1 ⟨rfl,hw⟩
  refine ⟨_,rfl,fun a hs=>?_⟩
  cases hq:fA u o with
  |false=>
   rw [hq] at hs
   have h9:(rows.takeWhile (fA u)).length=j:=by
    rw [ha,List.takeWhile_cons,hq];rfl
   refine sv hs hw fun a hs=>?_
   exact rt1 hs rfl rfl ⟨by rw [h9,if_pos hj'],hw⟩
  |true=>
   rw [hq] at hs
   refine sv hs hw fun a hs=>?_
   refine bR (j+1) hs hw ⟨hj',?_⟩ (by show rows.length - (j+1)<rows.length - j;omega) ⟨rfl,rfl,rfl,bS (i1 (by omega)),trivial⟩
   rw [ha,List.takeWhile_cons,hq]
   simp;omega
 ·have h9:rows.drop j= []:=List.drop_eq_nil_of_le (by simp at hcc;omega)
  rw [h9] at ha
  have hl9:rows.length≤(rows.takeWhile (fA u)).length:=by simp at hcc ha;omega
  refine sv hs hw fun a hs=>?_
  exact rt1 hs rfl rfl ⟨by rw [if_neg (by omega)],hw⟩
end
end Go.Proofs.YtgpbngfehfbndaaGreatDoor.Sw
