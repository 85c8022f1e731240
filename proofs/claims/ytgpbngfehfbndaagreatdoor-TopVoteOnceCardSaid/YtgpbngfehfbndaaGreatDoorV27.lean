import Derived.Test.YtgpbngfehfbndaaGreatDoorV24
import Derived.Test.YtgpbngfehfbndaaGreatDoorV25
set_option maxHeartbeats 16000000
set_option linter.all false
set_option maxRecDepth 10000
namespace Go.Proofs.YtgpbngfehfbndaaGreatDoor.Sw
open Go.RowKit Go.Sx
section
variable {H H':Fh} {p pl:Nat} {pv pt mv:Value} {r:RaftD} {w0 W:World} {R L:List Res} {l:List bF} {v:Value}
theorem aHP (m:bF) (v:Value) (hm:fN H v m.es) (hn:m.es.length≤200) (hes:∀e∈m.es,0≤e.ix∧e.data.size≤1000000) (hl:r.out.msgs.length≤900) (hw:Has 0 w0 W (aE H p r::Fz H::R)):
  Calls Tryz.prog 143 ⟨[ptr p,.agg ⟨aF m v⟩]⟩ W fun e W'=>e= .returned (.tuple ⟨[]⟩)∧Has 0 w0 W' (aE H p (r.append m)::Fz H::R):=by
 obtain ⟨vad,vcap,rfl⟩:=hm.slice;obtain ⟨q,hq⟩:∃q,q=({r with role:=0,leader:=m.from_,heard:=true}:RaftD):=⟨_,rfl⟩
 have hql:q.out.msgs.length≤900:=by rw [hq];exact hl
 have he:r.append m=match r.role == 2 with
  |true=>r
  |false=>match !q.l.fits m.ix m.lterm && decide (m.ix≥q.commit) with
   |true=>q.say {cM with kind:=4,to_:=m.from_,ix:=max (min q.l.last (w64 (m.ix - 1))) 0}
   |false=>
    match (q.l.put (m.es.dropWhile fun e=>decide (e.ix≤q.commit))).2.2 with
    |false=>({q with l:=(q.l.put (m.es.dropWhile fun e=>decide (e.ix≤q.commit))).1}.changed (q.l.put (m.es.dropWhile fun e=>decide (e.ix≤q.commit))).2.1).say {cM with kind:=4,to_:=m.from_,ix:=({q with l:=(q.l.put (m.es.dropWhile fun e=>decide (e.ix≤q.commit))).1}.changed (q.l.put (m.es.dropWhile fun e=>decide (e.ix≤q.commit))).2.1).l.last}
    |true=>{({q with l:=(q.l.put (m.es.dropWhile fun e=>decide (e.ix≤q.commit))).1}.changed (q.l.put (m.es.dropWhile fun e=>decide (e.ix≤q.commit))).2.1) with commit:=max ({q with l:=(q.l.put (m.es.dropWhile fun e=>decide (e.ix≤q.commit))).1}.changed (q.l.put (m.es.dropWhile fun e=>decide (e.ix≤q.commit))).2.1).commit (min m.commit (w64 (m.ix+(m.es.length:Int))))}.say {cM with kind:=4,to_:=m.from_,yes:=true,ix:=w64 (m.ix+(m.es.length:Int))}:=by rw [hq];rfl
 refine en Tryz.func143 Tryz.ntmps143 fun a hs=>?_;refine sc hs ?_;refine sn hs hw fun b a W hs hw=>?_;refine sv hs hw fun a hs=>?_;refine cl hs (aHL m (.slice vad m.es.length vcap) ⟨_,_,rfl⟩ hw.swap2) fun a W hs hw=>?_;cases c1:(r.role == 2) with
 |true=>
  rw [c1] at hs he hw;rw [he];refine sv hs hw fun a hs=>?_;exact rt0 hs rfl ⟨rfl,hw.sl⟩
 |false=>
 rw [c1] at hs he hw;replace hw:Has 0 w0 W (aE H p {r with role:=0,leader:=m.from_,heard:=true}::aA b (aF m (.slice vad m.es.length vcap)) 38::Fz H::R):=hw;rw [←hq] at hw;refine sv hs hw fun a hs=>?_;obtain ⟨pl,pv,pt,mv,hw⟩:=dG hw;replace hw:Has 0 w0 W (aA b (aF m (.slice vad m.es.length vcap)) 38::aJ p q pl pv pt mv::aG pl q.l::VoR pv q.v::ToR pt q.t::aD H mv q.out.msgs::Fz H::R):=hw.pm;have fin:∀{W},Has 0 w0 W (aA b (aF m (.slice vad m.es.length vcap)) 38::aJ p q pl pv pt mv::aG pl q.l::VoR pv q.v::ToR pt q.t::aD H mv q.out.msgs::Fz H::R)→Has 0 w0 W (aE H p q::aA b (aF m (.slice vad m.es.length vcap)) 38::Fz H::R):=fun h=>cD (h.pm);rw [he];clear he hq;cases c2:q.l.fits m.ix m.lterm with
 |false=>
  refine bB [8] [.f 0 0,.f 0 0,.f 0 0,.f 0 0,.f 0 0,.f 0 0,.f 0 0,.f 0 0,.m 0,.f 1 1,.f 1 1,.f 1 1,.f 1 1,.f 1 1,.f 1 1,.f 1 1,.f 1 1,.f 1 1,.f 1 1] [.c0 _,.c0 _,.c0 _,.c0 _,.c0 _,.c0 _,.c0 _,.c0 _,.c1 (fun x=> .bool false),.c1 _,.c1 _,.c1 _,.c1 _,.c1 _,.c1 _,.c1 _,.c1 _,.c1 _,.c1 _] (aA b (aF m (.slice vad m.es.length vcap)) 38::aJ p q pl pv pt mv::aG pl q.l::VoR pv q.v::ToR pt q.t::aD H mv q.out.msgs::Fz H::R) (fun x=>aA b (aF m (.slice vad m.es.length vcap)) 38::aJ p q pl pv pt mv::aG pl q.l::VoR pv q.v::ToR pt q.t::aD H mv q.out.msgs::Fz H::R) (fun x y=>[]) (fun x y z=>[]) (fun x y z t=>[]) hs hw ?kk ⟨drs,drs,drs,drs,drs,drs,drs,drs,?m0,drs,drs,drs,drs,drs,drs,drs,drs,drs,drs,trivial⟩
  case m0=>
   intro x y z t LD a W hs hw;refine sx hs hw fun a W hs hw=>?_;rw [c2] at hs;exact ⟨{},hs,hw⟩
  case kk=>
  intro _ a W hs hw;replace hs:Slots a 107 [(0,ptr p),(3,ptr b),(28,.bool (decide (m.ix≥q.commit)))]:=hs.ot;cases c3:decide (m.ix≥q.commit) with
  |true=>
   rw [c3] at hs;refine sc hs ?_;refine bB [7,14] [.f 0 1,.f 0 1,.f 0 1,.f 0 0,.f 0 0,.f 0 0,.f 0 0,.m 0,.f 0 1,.f 0 1,.f 0 1,.f 1 1,.f 1 1,.f 1 1,.m 1] [.c0 _,.c0 _,.c0 _,.c0 _,.c0 _,.c0 _,.c0 _,.c1 (fun x=> .int .i64 q.l.last),.c0 _,.c0 _,.c0 _,.c1 _,.c1 _,.c1 _,.c2 (fun x y=> .tuple ⟨[]⟩)] (aA b (aF m (.slice vad m.es.length vcap)) 38::aJ p q pl pv pt mv::aG pl q.l::VoR pv q.v::ToR pt q.t::aD H mv q.out.msgs::Fz H::R) (fun x=>aA b (aF m (.slice vad m.es.length vcap)) 38::aJ p q pl pv pt mv::aG pl q.l::VoR pv q.v::ToR pt q.t::aD H mv q.out.msgs::Fz H::R) (fun x y=>aE H p (q.say {cM with kind:=4,to_:=m.from_,ix:=max (min q.l.last (w64 (m.ix - 1))) 0})::aA b (aF m (.slice vad m.es.length vcap)) 38::Fz H::R) (fun x y z=>[]) (fun x y z t=>[]) hs hw ?kk ⟨drs,drs,drs,drs,drs,drs,drs,drm,drs,drs,drs,drs,drs,drs,?m1,trivial⟩
   case m1=>
    intro x y z t LD a W hs hw;refine cl hs (fO {cM with kind:=4,to_:=m.from_,ix:=max (min q.l.last (w64 (m.ix - 1))) 0} (.slice none 0 0) fU (by show (0:Nat)≤1000000;omega) (by omega) (fin hw)) fun a W hs hw=>?_;exact ⟨{},hs,hw⟩
   case kk=>
    intro _ _ a W hs hw;refine sc hs ?_;exact rt0 hs rfl ⟨rfl,hw.sl⟩
  |false=>
   rw [c3] at hs;refine sc hs ?_;replace hs:Slots a 107 [(0,ptr p),(3,ptr b)]:=hs.ot;refine sv hs hw fun a hs=>?_;refine bX (σ:=Nat×Option Addr×Nat) (fun s=>[(0,ptr p),(3,ptr b),(4,.int .i64 (w64 (m.ix+(m.es.length:Int)))),(5,.slice s.2.1 (m.es.length - s.1) s.2.2)]) (fun _=>aA b (aF m (.slice vad m.es.length vcap)) 38::aJ p q pl pv pt mv::aG pl q.l::VoR pv q.v::ToR pt q.t::aD H mv q.out.msgs::Fz H::R) (fun s=>s.1≤m.es.length∧RdH H 4 (.slice s.2.1 (m.es.length - s.1) s.2.2) (m.es.length - s.1) ((m.es.drop s.1).flatMap bA)∧(m.es.dropWhile fun e=>decide (e.ix≤q.commit))=(m.es.drop s.1).dropWhile fun e=>decide (e.ix≤q.commit)) (fun s=>m.es.length - s.1) (0,vad,vcap) ⟨Nat.zero_le _,hm,rfl⟩ hs ⟨rfl,rfl,rfl,rfl,trivial⟩ hw ?_;clear hs hw;rintro ⟨j,ad,cap⟩ a W ⟨hj,hrd,hdw⟩ hs hw;simp only at hj hrd hdw hs hw;have hn':(m.es.drop j).length≤200:=by rw [List.length_drop];omega
   have hes':∀e∈m.es.drop j,0≤e.ix∧e.data.size≤1000000:=fun e h=>hes e (List.mem_of_mem_drop h);have hlenj:m.es.length - j=(m.es.drop j).length:=by rw [List.length_drop]
   by_cases hj':j=m.es.length
   ·have hz:m.es.length - j=0:=by omega
    have hg0:decide (((m.es.length - j:Nat):Int) > 0)=false:=by rw [hz];rfl
    rw [show (m.es.dropWhile fun e=>decide (e.ix≤q.commit))=m.es.drop j by rw [hdw,List.drop_of_length_le (by omega)];rfl];refine sc hs ?_;refine bB [] [.f 0 0,.f 0 0,.f 0 0,.f 0 0,.f 0 0,.f 0 0,.f 0 0,.f 0 0,.f 0 0,.f 0 0,.f 0 0,.f 0 0,.f 0 0,.f 0 0] [.c0 _,.c0 _,.c0 (.bool false),.c0 _,.c0 _,.c0 _,.c0 _,.c0 _,.c0 _,.c0 _,.c0 _,.c0 _,.c0 _,.c0 _] (aA b (aF m (.slice vad m.es.length vcap)) 38::aJ p q pl pv pt mv::aG pl q.l::VoR pv q.v::ToR pt q.t::aD H mv q.out.msgs::Fz H::R) (fun x=>[]) (fun x y=>[]) (fun x y z=>[]) (fun x y z t=>[]) hs hw ?kk ⟨drs,drs,?f2,drs,drs,drs,drs,drs,drs,drs,drs,drs,drs,drs,trivial⟩
    case f2=>
     refine ⟨?_,trivial,trivial,trivial,trivial⟩;intro x y z t LD a W hs hw;refine sv hs hw fun a hs=>?_;rw [hg0] at hs;exact ⟨hs,hw⟩
    case kk=>
    intro a W hs hw;replace hs:Slots a 107 [(0,ptr p),(3,ptr b),(4,.int .i64 (w64 (m.ix+(m.es.length:Int)))),(5,.slice ad (m.es.length - j) cap),(65,.bool false)]:=hs.ot;generalize m.es.drop j=es at *;rw [hlenj] at hs hrd;refine sv hs hw fun a hs=>?_;have hw:Has 0 w0 W (aG pl q.l::aA b (aF m (.slice vad m.es.length vcap)) 38::aJ p q pl pv pt mv::VoR pv q.v::ToR pt q.t::aD H mv q.out.msgs::Fz H::R):=hw.pm;refine cl hs (qB es (.slice ad es.length cap) hn' hes' (fun h=>h.rdH inn hrd) hw) fun a W hs hw=>?_;have hw:Has 0 w0 W (aE H p {q with l:=(q.l.put es).1}::aA b (aF m (.slice vad m.es.length vcap)) 38::Fz H::R):=cD (r:={q with l:=(q.l.put es).1}) (hw.pm);refine sv hs hw fun a hs=>?_;refine cl hs (qL _ _ hw) fun a W hs hw=>?_;have hgl:(RaftD.changed {q with l:=(q.l.put es).1} (q.l.put es).2.1).out.msgs.length≤900:=by rw [qQ];exact hql
    generalize RaftD.changed {q with l:=(q.l.put es).1} (q.l.put es).2.1=g at *;obtain ⟨pl2,pv2,pt2,mv2,hw⟩:=dG hw;replace hw:Has 0 w0 W (aJ p g pl2 pv2 pt2 mv2::aG pl2 g.l::VoR pv2 g.v::ToR pt2 g.t::aD H mv2 g.out.msgs::aA b (aF m (.slice vad m.es.length vcap)) 38::Fz H::R):=hw;cases c4:(q.l.put es).2.2 with
    |false=>
     rw [c4] at hs;refine sv hs hw fun a hs=>?_;refine bB [7,9] [.f 0 1,.f 0 1,.f 0 1,.f 0 0,.f 0 0,.f 0 0,.f 0 0,.m 0,.f 1 1,.m 1] [.c0 _,.c0 _,.c0 _,.c0 _,.c0 _,.c0 _,.c0 _,.c1 (fun x=> .int .i64 g.l.last),.c1 _,.c2 (fun x y=> .tuple ⟨[]⟩)] (aJ p g pl2 pv2 pt2 mv2::aG pl2 g.l::VoR pv2 g.v::ToR pt2 g.t::aD H mv2 g.out.msgs::aA b (aF m (.slice vad m.es.length vcap)) 38::Fz H::R) (fun x=>aJ p g pl2 pv2 pt2 mv2::aG pl2 g.l::VoR pv2 g.v::ToR pt2 g.t::aD H mv2 g.out.msgs::aA b (aF m (.slice vad m.es.length vcap)) 38::Fz H::R) (fun x y=>aE H p (g.say {cM with kind:=4,to_:=m.from_,ix:=g.l.last})::aA b (aF m (.slice vad m.es.length vcap)) 38::Fz H::R) (fun x y z=>[]) (fun x y z t=>[]) hs hw ?kk ⟨drs,drs,drs,drs,drs,drs,drs,drm,drs,?m1,trivial⟩
     case m1=>
      intro x y z t LD a W hs hw;have hw:Has 0 w0 W (aE H p g::aA b (aF m (.slice vad m.es.length vcap)) 38::Fz H::R):=cD hw;refine cl hs (fO {cM with kind:=4,to_:=m.from_,ix:=g.l.last} (.slice none 0 0) fU (by show (0:Nat)≤1000000;omega) (by omega) hw) fun a W hs hw=>?_;exact ⟨{},hs,hw⟩
     case kk=>
      intro _ _ a W hs hw;refine sc hs ?_;exact rt0 hs rfl ⟨rfl,hw.sl⟩
    |true=>
     rw [c4] at hs;refine sv hs hw fun a hs=>?_;refine bB [12] [.f 0 0,.f 0 0,.f 0 0,.f 0 0,.f 0 0,.f 0 0,.f 0 0,.f 0 0,.f 0 0,.f 0 0,.f 0 0,.f 0 0,.m 0] [.c0 _,.c0 _,.c0 _,.c0 _,.c0 _,.c0 _,.c0 _,.c0 _,.c0 _,.c0 _,.c0 _,.c0 _,.c1 (fun x=>undef)] (aJ p g pl2 pv2 pt2 mv2::aG pl2 g.l::VoR pv2 g.v::ToR pt2 g.t::aD H mv2 g.out.msgs::aA b (aF m (.slice vad m.es.length vcap)) 38::Fz H::R) (fun x=>gY p g.id g.h.term g.h.vote pl2 (max g.commit (min m.commit (w64 (m.ix+(m.es.length:Int))))) g.role g.leader g.heard pv2 pt2 mv2 g.out.hard g.out.from_ g.out.snap::aG pl2 g.l::VoR pv2 g.v::ToR pt2 g.t::aD H mv2 g.out.msgs::aA b (aF m (.slice vad m.es.length vcap)) 38::Fz H::R) (fun x y=>[]) (fun x y z=>[]) (fun x y z t=>[]) hs hw ?kk ⟨drs,drs,drs,drs,drs,drs,drs,drs,drs,drs,drs,drs,drm,trivial⟩
     case kk=>
      intro _ a W hs hw;refine sv hs hw fun a hs=>?_;have hw:Has 0 w0 W (aE H p {g with commit:=max g.commit (min m.commit (w64 (m.ix+(m.es.length:Int))))}::aA b (aF m (.slice vad m.es.length vcap)) 38::Fz H::R):=cD (r:={g with commit:=max g.commit (min m.commit (w64 (m.ix+(m.es.length:Int))))}) hw;refine cl hs (fO (r:={g with commit:=max g.commit (min m.commit (w64 (m.ix+(m.es.length:Int))))}) {cM with kind:=4,to_:=m.from_,yes:=true,ix:=w64 (m.ix+(m.es.length:Int))} (.slice none 0 0) fU (by show (0:Nat)≤1000000;omega) (by show g.out.msgs.length≤1000;omega) hw) fun a W hs hw=>?_;refine sc hs ?_;exact cO hs rfl ⟨rfl,hw.sl⟩
   ·have hlt:j<m.es.length:=by omega
    obtain ⟨e',he',hd⟩:=dP hlt;obtain ⟨b',o',cap',hv,hcap'⟩:=jX (hw.rdH inn hrd) (by omega);injection hv with hv1 _ hv2;subst hv1 hv2;have hcell:∀{W},Has 0 w0 W (aA b (aF m (.slice vad m.es.length vcap)) 38::aJ p q pl pv pt mv::aG pl q.l::VoR pv q.v::ToR pt q.t::aD H mv q.out.msgs::Fz H::R)→_:=fun {W} h=>kG (h.rdH inn hrd) (by omega);have hfh:=qA hd;have hk0:(0:Int)≤0:=by omega
    have hk1:(0:Int)<((m.es.length - j:Nat):Int):=by omega
    have hg0:decide (((m.es.length - j:Nat):Int) > 0)=true:=decide_eq_true hk1;refine sc hs ?_;refine bB [] [.f 0 0,.f 0 0,.f 0 0,.f 0 0,.f 0 0,.f 0 0,.f 0 0,.f 0 0,.f 0 0,.f 0 0,.f 0 0,.f 0 0,.f 0 0,.f 0 0] [.c0 _,.c0 _,.c0 (.bool true),.c0 _,.c0 _,.c0 _,.c0 _,.c0 (.int .i64 e'.ix),.c0 _,.c0 _,.c0 _,.c0 _,.c0 _,.c0 _] (aA b (aF m (.slice vad m.es.length vcap)) 38::aJ p q pl pv pt mv::aG pl q.l::VoR pv q.v::ToR pt q.t::aD H mv q.out.msgs::Fz H::R) (fun x=>[]) (fun x y=>[]) (fun x y z=>[]) (fun x y z t=>[]) hs hw ?kk ⟨drs,drs,?f2,drs,drs,drs,drs,?f7,drs,drs,drs,drs,drs,drs,trivial⟩
    case f2=>
     refine ⟨?_,trivial,trivial,trivial,trivial⟩;intro x y z t LD a W hs hw;refine sv hs hw fun a hs=>?_;rw [hg0] at hs;exact ⟨hs,hw⟩
    case f7=>
     refine ⟨?_,trivial,trivial,trivial,trivial⟩;intro x y z t LD a W hs hw;refine sc hs ?_;refine eQ hs (hc:=hcell hw 0 _ hfh.1) (c:=fun a hs=>?_);exact ⟨hs,hw⟩
    case kk=>
    intro a W hs hw;replace hs:Slots a 107 [(0,ptr p),(3,ptr b),(4,.int .i64 (w64 (m.ix+(m.es.length:Int)))),(5,.slice (some ⟨b',o',none⟩) (m.es.length - j) cap),(65,.bool (decide (e'.ix≤q.commit)))]:=hs.ot;cases c5:decide (e'.ix≤q.commit) with
    |true=>
     rw [c5] at hs;refine sv hs hw fun a hs=>?_;refine aAC (i:=1) hs hrd (by omega) (by omega) (c:=fun a v' hr' hs=>?_);obtain ⟨ad2,cap2,rfl⟩:=hr'.slice;refine sv hs hw fun a hs=>?_;have hl2:m.es.length - (j+1)=m.es.length - j - (1:Int).toNat:=by show m.es.length - (j+1)=m.es.length - j - 1;omega
     have hfl:(m.es.drop (j+1)).flatMap bA=((m.es.drop j).flatMap bA).drop ((1:Int).toNat*4):=by rw [hd,List.flatMap_cons];rfl
     exact bS (j+1,ad2,cap2) hs hw ⟨hlt,by rw [hl2,hfl];exact hr',by rw [hdw,hd,List.dropWhile_cons,if_pos c5]⟩ (by show m.es.length - (j+1)<m.es.length - j;omega) ⟨rfl,rfl,rfl,by rw [hl2];rfl,trivial⟩
    |false=>
     rw [c5] at hs;rw [show (m.es.dropWhile fun e=>decide (e.ix≤q.commit))=m.es.drop j by rw [hdw,hd,List.dropWhile_cons,if_neg (by rw [c5];simp)]];clear hcell hfh hd;generalize (some (⟨b',o',none⟩:Addr))=ad at *;generalize m.es.drop j=es at *;rw [hlenj] at hs hrd;refine sv hs hw fun a hs=>?_;have hw:Has 0 w0 W (aG pl q.l::aA b (aF m (.slice vad m.es.length vcap)) 38::aJ p q pl pv pt mv::VoR pv q.v::ToR pt q.t::aD H mv q.out.msgs::Fz H::R):=hw.pm;refine cl hs (qB es (.slice ad es.length cap) hn' hes' (fun h=>h.rdH inn hrd) hw) fun a W hs hw=>?_;have hw:Has 0 w0 W (aE H p {q with l:=(q.l.put es).1}::aA b (aF m (.slice vad m.es.length vcap)) 38::Fz H::R):=cD (r:={q with l:=(q.l.put es).1}) (hw.pm);refine sv hs hw fun a hs=>?_;refine cl hs (qL _ _ hw) fun a W hs hw=>?_;have hgl:(RaftD.changed {q with l:=(q.l.put es).1} (q.l.put es).2.1).out.msgs.length≤900:=by rw [qQ];exact hql
     generalize RaftD.changed {q with l:=(q.l.put es).1} (q.l.put es).2.1=g at *;obtain ⟨pl2,pv2,pt2,mv2,hw⟩:=dG hw;replace hw:Has 0 w0 W (aJ p g pl2 pv2 pt2 mv2::aG pl2 g.l::VoR pv2 g.v::ToR pt2 g.t::aD H mv2 g.out.msgs::aA b (aF m (.slice vad m.es.length vcap)) 38::Fz H::R):=hw;cases c4:(q.l.put es).2.2 with
     |false=>
      rw [c4] at hs;refine sv hs hw fun a hs=>?_;refine bB [7,9] [.f 0 1,.f 0 1,.f 0 1,.f 0 0,.f 0 0,.f 0 0,.f 0 0,.m 0,.f 1 1,.m 1] [.c0 _,.c0 _,.c0 _,.c0 _,.c0 _,.c0 _,.c0 _,.c1 (fun x=> .int .i64 g.l.last),.c1 _,.c2 (fun x y=> .tuple ⟨[]⟩)] (aJ p g pl2 pv2 pt2 mv2::aG pl2 g.l::VoR pv2 g.v::ToR pt2 g.t::aD H mv2 g.out.msgs::aA b (aF m (.slice vad m.es.length vcap)) 38::Fz H::R) (fun x=>aJ p g pl2 pv2 pt2 mv2::aG pl2 g.l::VoR pv2 g.v::ToR pt2 g.t::aD H mv2 g.out.msgs::aA b (aF m (.slice vad m.es.length vcap)) 38::Fz H::R) (fun x y=>aE H p (g.say {cM with kind:=4,to_:=m.from_,ix:=g.l.last})::aA b (aF m (.slice vad m.es.length vcap)) 38::Fz H::R) (fun x y z=>[]) (fun x y z t=>[]) hs hw ?kk ⟨drs,drs,drs,drs,drs,drs,drs,drm,drs,?m1,trivial⟩
      case m1=>
       intro x y z t LD a W hs hw;have hw:Has 0 w0 W (aE H p g::aA b (aF m (.slice vad m.es.length vcap)) 38::Fz H::R):=cD hw;refine cl hs (fO {cM with kind:=4,to_:=m.from_,ix:=g.l.last} (.slice none 0 0) fU (by show (0:Nat)≤1000000;omega) (by omega) hw) fun a W hs hw=>?_;exact ⟨{},hs,hw⟩
      case kk=>
       intro _ _ a W hs hw;refine sc hs ?_;exact rt0 hs rfl ⟨rfl,hw.sl⟩
     |true=>
      rw [c4] at hs;refine sv hs hw fun a hs=>?_;refine bB [12] [.f 0 0,.f 0 0,.f 0 0,.f 0 0,.f 0 0,.f 0 0,.f 0 0,.f 0 0,.f 0 0,.f 0 0,.f 0 0,.f 0 0,.m 0] [.c0 _,.c0 _,.c0 _,.c0 _,.c0 _,.c0 _,.c0 _,.c0 _,.c0 _,.c0 _,.c0 _,.c0 _,.c1 (fun x=>undef)] (aJ p g pl2 pv2 pt2 mv2::aG pl2 g.l::VoR pv2 g.v::ToR pt2 g.t::aD H mv2 g.out.msgs::aA b (aF m (.slice vad m.es.length vcap)) 38::Fz H::R) (fun x=>gY p g.id g.h.term g.h.vote pl2 (max g.commit (min m.commit (w64 (m.ix+(m.es.length:Int))))) g.role g.leader g.heard pv2 pt2 mv2 g.out.hard g.out.from_ g.out.snap::aG pl2 g.l::VoR pv2 g.v::ToR pt2 g.t::aD H mv2 g.out.msgs::aA b (aF m (.slice vad m.es.length vcap)) 38::Fz H::R) (fun x y=>[]) (fun x y z=>[]) (fun x y z t=>[]) hs hw ?kk ⟨drs,drs,drs,drs,drs,drs,drs,drs,drs,drs,drs,drs,drm,trivial⟩
      case kk=>
       intro _ a W hs hw;refine sv hs hw fun a hs=>?_;have hw:Has 0 w0 W (aE H p {g with commit:=max g.commit (min m.commit (w64 (m.ix+(m.es.length:Int))))}::aA b (aF m (.slice vad m.es.length vcap)) 38::Fz H::R):=cD (r:={g with commit:=max g.commit (min m.commit (w64 (m.ix+(m.es.length:Int))))}) hw;refine cl hs (fO (r:={g with commit:=max g.commit (min m.commit (w64 (m.ix+(m.es.length:Int))))}) {cM with kind:=4,to_:=m.from_,yes:=true,ix:=w64 (m.ix+(m.es.length:Int))} (.slice none 0 0) fU (by show (0:Nat)≤1000000;omega) (by show g.out.msgs.length≤1000;omega) hw) fun a W hs hw=>?_;refine sc hs ?_;exact cO hs rfl ⟨rfl,hw.sl⟩
 |true=>
  refine bB [8] [.f 0 0,.f 0 0,.f 0 0,.f 0 0,.f 0 0,.f 0 0,.f 0 0,.f 0 0,.m 0,.f 1 1,.f 1 1,.f 1 1,.f 1 1,.f 1 1,.f 1 1,.f 1 1,.f 1 1,.f 1 1,.f 1 1] [.c0 _,.c0 _,.c0 _,.c0 _,.c0 _,.c0 _,.c0 _,.c0 _,.c1 (fun x=> .bool true),.c1 _,.c1 _,.c1 _,.c1 _,.c1 _,.c1 _,.c1 _,.c1 _,.c1 _,.c1 _] (aA b (aF m (.slice vad m.es.length vcap)) 38::aJ p q pl pv pt mv::aG pl q.l::VoR pv q.v::ToR pt q.t::aD H mv q.out.msgs::Fz H::R) (fun x=>aA b (aF m (.slice vad m.es.length vcap)) 38::aJ p q pl pv pt mv::aG pl q.l::VoR pv q.v::ToR pt q.t::aD H mv q.out.msgs::Fz H::R) (fun x y=>[]) (fun x y z=>[]) (fun x y z t=>[]) hs hw ?kk ⟨drs,drs,drs,drs,drs,drs,drs,drs,?m0,drs,drs,drs,drs,drs,drs,drs,drs,drs,drs,trivial⟩
  case m0=>
   intro x y z t LD a W hs hw;refine sx hs hw fun a W hs hw=>?_;rw [c2] at hs;exact ⟨{},hs,hw⟩
  case kk=>
  intro _ a W hs hw;replace hs:Slots a 107 [(0,ptr p),(3,ptr b),(28,.bool false)]:=hs.ot;refine sv hs hw fun a hs=>?_;refine bX (σ:=Nat×Option Addr×Nat) (fun s=>[(0,ptr p),(3,ptr b),(4,.int .i64 (w64 (m.ix+(m.es.length:Int)))),(5,.slice s.2.1 (m.es.length - s.1) s.2.2)]) (fun _=>aA b (aF m (.slice vad m.es.length vcap)) 38::aJ p q pl pv pt mv::aG pl q.l::VoR pv q.v::ToR pt q.t::aD H mv q.out.msgs::Fz H::R) (fun s=>s.1≤m.es.length∧RdH H 4 (.slice s.2.1 (m.es.length - s.1) s.2.2) (m.es.length - s.1) ((m.es.drop s.1).flatMap bA)∧(m.es.dropWhile fun e=>decide (e.ix≤q.commit))=(m.es.drop s.1).dropWhile fun e=>decide (e.ix≤q.commit)) (fun s=>m.es.length - s.1) (0,vad,vcap) ⟨Nat.zero_le _,hm,rfl⟩ hs ⟨rfl,rfl,rfl,rfl,trivial⟩ hw ?_;clear hs hw;rintro ⟨j,ad,cap⟩ a W ⟨hj,hrd,hdw⟩ hs hw;simp only at hj hrd hdw hs hw;have hn':(m.es.drop j).length≤200:=by rw [List.length_drop];omega
  have hes':∀e∈m.es.drop j,0≤e.ix∧e.data.size≤1000000:=fun e h=>hes e (List.mem_of_mem_drop h);have hlenj:m.es.length - j=(m.es.drop j).length:=by rw [List.length_drop]
  by_cases hj':j=m.es.length
  ·have hz:m.es.length - j=0:=by omega
   have hg0:decide (((m.es.length - j:Nat):Int) > 0)=false:=by rw [hz];rfl
   rw [show (m.es.dropWhile fun e=>decide (e.ix≤q.commit))=m.es.drop j by rw [hdw,List.drop_of_length_le (by omega)];rfl];refine sc hs ?_;refine bB [] [.f 0 0,.f 0 0,.f 0 0,.f 0 0,.f 0 0,.f 0 0,.f 0 0,.f 0 0,.f 0 0,.f 0 0,.f 0 0,.f 0 0,.f 0 0,.f 0 0] [.c0 _,.c0 _,.c0 (.bool false),.c0 _,.c0 _,.c0 _,.c0 _,.c0 _,.c0 _,.c0 _,.c0 _,.c0 _,.c0 _,.c0 _] (aA b (aF m (.slice vad m.es.length vcap)) 38::aJ p q pl pv pt mv::aG pl q.l::VoR pv q.v::ToR pt q.t::aD H mv q.out.msgs::Fz H::R) (fun x=>[]) (fun x y=>[]) (fun x y z=>[]) (fun x y z t=>[]) hs hw ?kk ⟨drs,drs,?f2,drs,drs,drs,drs,drs,drs,drs,drs,drs,drs,drs,trivial⟩
   case f2=>
    refine ⟨?_,trivial,trivial,trivial,trivial⟩;intro x y z t LD a W hs hw;refine sv hs hw fun a hs=>?_;rw [hg0] at hs;exact ⟨hs,hw⟩
   case kk=>
   intro a W hs hw;replace hs:Slots a 107 [(0,ptr p),(3,ptr b),(4,.int .i64 (w64 (m.ix+(m.es.length:Int)))),(5,.slice ad (m.es.length - j) cap),(65,.bool false)]:=hs.ot;generalize m.es.drop j=es at *;rw [hlenj] at hs hrd;refine sv hs hw fun a hs=>?_;have hw:Has 0 w0 W (aG pl q.l::aA b (aF m (.slice vad m.es.length vcap)) 38::aJ p q pl pv pt mv::VoR pv q.v::ToR pt q.t::aD H mv q.out.msgs::Fz H::R):=hw.pm;refine cl hs (qB es (.slice ad es.length cap) hn' hes' (fun h=>h.rdH inn hrd) hw) fun a W hs hw=>?_;have hw:Has 0 w0 W (aE H p {q with l:=(q.l.put es).1}::aA b (aF m (.slice vad m.es.length vcap)) 38::Fz H::R):=cD (r:={q with l:=(q.l.put es).1}) (hw.pm);refine sv hs hw fun a hs=>?_;refine cl hs (qL _ _ hw) fun a W hs hw=>?_;have hgl:(RaftD.changed {q with l:=(q.l.put es).1} (q.l.put es).2.1).out.msgs.length≤900:=by rw [qQ];exact hql
   generalize RaftD.changed {q with l:=(q.l.put es).1} (q.l.put es).2.1=g at *;obtain ⟨pl2,pv2,pt2,mv2,hw⟩:=dG hw;replace hw:Has 0 w0 W (aJ p g pl2 pv2 pt2 mv2::aG pl2 g.l::VoR pv2 g.v::ToR pt2 g.t::aD H mv2 g.out.msgs::aA b (aF m (.slice vad m.es.length vcap)) 38::Fz H::R):=hw;cases c4:(q.l.put es).2.2 with
   |false=>
    rw [c4] at hs;refine sv hs hw fun a hs=>?_;refine bB [7,9] [.f 0 1,.f 0 1,.f 0 1,.f 0 0,.f 0 0,.f 0 0,.f 0 0,.m 0,.f 1 1,.m 1] [.c0 _,.c0 _,.c0 _,.c0 _,.c0 _,.c0 _,.c0 _,.c1 (fun x=> .int .i64 g.l.last),.c1 _,.c2 (fun x y=> .tuple ⟨[]⟩)] (aJ p g pl2 pv2 pt2 mv2::aG pl2 g.l::VoR pv2 g.v::ToR pt2 g.t::aD H mv2 g.out.msgs::aA b (aF m (.slice vad m.es.length vcap)) 38::Fz H::R) (fun x=>aJ p g pl2 pv2 pt2 mv2::aG pl2 g.l::VoR pv2 g.v::ToR pt2 g.t::aD H mv2 g.out.msgs::aA b (aF m (.slice vad m.es.length vcap)) 38::Fz H::R) (fun x y=>aE H p (g.say {cM with kind:=4,to_:=m.from_,ix:=g.l.last})::aA b (aF m (.slice vad m.es.length vcap)) 38::Fz H::R) (fun x y z=>[]) (fun x y z t=>[]) hs hw ?kk ⟨drs,drs,drs,drs,drs,drs,drs,drm,drs,?m1,trivial⟩
    case m1=>
     intro x y z t LD a W hs hw;have hw:Has 0 w0 W (aE H p g::aA b (aF m (.slice vad m.es.length vcap)) 38::Fz H::R):=cD hw;refine cl hs (fO {cM with kind:=4,to_:=m.from_,ix:=g.l.last} (.slice none 0 0) fU (by show (0:Nat)≤1000000;omega) (by omega) hw) fun a W hs hw=>?_;exact ⟨{},hs,hw⟩
    case kk=>
     intro _ _ a W hs hw;refine sc hs ?_;exact rt0 hs rfl ⟨rfl,hw.sl⟩
   |true=>
    rw [c4] at hs;refine sv hs hw fun a hs=>?_;refine bB [12] [.f 0 0,.f 0 0,.f 0 0,.f 0 0,.f 0 0,.f 0 0,.f 0 0,.f 0 0,.f 0 0,.f 0 0,.f 0 0,.f 0 0,.m 0] [.c0 _,.c0 _,.c0 _,.c0 _,.c0 _,.c0 _,.c0 _,.c0 _,.c0 _,.c0 _,.c0 _,.c0 _,.c1 (fun x=>undef)] (aJ p g pl2 pv2 pt2 mv2::aG pl2 g.l::VoR pv2 g.v::ToR pt2 g.t::aD H mv2 g.out.msgs::aA b (aF m (.slice vad m.es.length vcap)) 38::Fz H::R) (fun x=>gY p g.id g.h.term g.h.vote pl2 (max g.commit (min m.commit (w64 (m.ix+(m.es.length:Int))))) g.role g.leader g.heard pv2 pt2 mv2 g.out.hard g.out.from_ g.out.snap::aG pl2 g.l::VoR pv2 g.v::ToR pt2 g.t::aD H mv2 g.out.msgs::aA b (aF m (.slice vad m.es.length vcap)) 38::Fz H::R) (fun x y=>[]) (fun x y z=>[]) (fun x y z t=>[]) hs hw ?kk ⟨drs,drs,drs,drs,drs,drs,drs,drs,drs,drs,drs,drs,drm,trivial⟩
    case kk=>
     intro _ a W hs hw;refine sv hs hw fun a hs=>?_;have hw:Has 0 w0 W (aE H p {g with commit:=max g.commit (min m.commit (w64 (m.ix+(m.es.length:Int))))}::aA b (aF m (.slice vad m.es.length vcap)) 38::Fz H::R):=cD (r:={g with commit:=max g.commit (min m.commit (w64 (m.ix+(m.es.length:Int))))}) hw;refine cl hs (fO (r:={g with commit:=max g.commit (min m.commit (w64 (m.ix+(m.es.length:Int))))}) {cM with kind:=4,to_:=m.from_,yes:=true,ix:=w64 (m.ix+(m.es.length:Int))} (.slice none 0 0) fU (by show (0:Nat)≤1000000;omega) (by show g.out.msgs.length≤1000;omega) hw) fun a W hs hw=>?_;refine sc hs ?_;exact cO hs rfl ⟨rfl,hw.sl⟩
  ·have hlt:j<m.es.length:=by omega
   obtain ⟨e',he',hd⟩:=dP hlt;obtain ⟨b',o',cap',hv,hcap'⟩:=jX (hw.rdH inn hrd) (by omega);injection hv with hv1 _ hv2;subst hv1 hv2;have hcell:∀{W},Has 0 w0 W (aA b (aF m (.slice vad m.es.length vcap)) 38::aJ p q pl pv pt mv::aG pl q.l::VoR pv q.v::ToR pt q.t::aD H mv q.out.msgs::Fz H::R)→_:=fun {W} h=>kG (h.rdH inn hrd) (by omega);have hfh:=qA hd;have hk0:(0:Int)≤0:=by omega
   have hk1:(0:Int)<((m.es.length - j:Nat):Int):=by omega
   have hg0:decide (((m.es.length - j:Nat):Int) > 0)=true:=decide_eq_true hk1;refine sc hs ?_;refine bB [] [.f 0 0,.f 0 0,.f 0 0,.f 0 0,.f 0 0,.f 0 0,.f 0 0,.f 0 0,.f 0 0,.f 0 0,.f 0 0,.f 0 0,.f 0 0,.f 0 0] [.c0 _,.c0 _,.c0 (.bool true),.c0 _,.c0 _,.c0 _,.c0 _,.c0 (.int .i64 e'.ix),.c0 _,.c0 _,.c0 _,.c0 _,.c0 _,.c0 _] (aA b (aF m (.slice vad m.es.length vcap)) 38::aJ p q pl pv pt mv::aG pl q.l::VoR pv q.v::ToR pt q.t::aD H mv q.out.msgs::Fz H::R) (fun x=>[]) (fun x y=>[]) (fun x y z=>[]) (fun x y z t=>[]) hs hw ?kk ⟨drs,drs,?f2,drs,drs,drs,drs,?f7,drs,drs,drs,drs,drs,drs,trivial⟩
   case f2=>
    refine ⟨?_,trivial,trivial,trivial,trivial⟩;intro x y z t LD a W hs hw;refine sv hs hw fun a hs=>?_;rw [hg0] at hs;exact ⟨hs,hw⟩
   case f7=>
    refine ⟨?_,trivial,trivial,trivial,trivial⟩;intro x y z t LD a W hs hw;refine sc hs ?_;refine eQ hs (hc:=hcell hw 0 _ hfh.1) (c:=fun a hs=>?_);exact ⟨hs,hw⟩
   case kk=>
   intro a W hs hw;replace hs:Slots a 107 [(0,ptr p),(3,ptr b),(4,.int .i64 (w64 (m.ix+(m.es.length:Int)))),(5,.slice (some ⟨b',o',none⟩) (m.es.length - j) cap),(65,.bool (decide (e'.ix≤q.commit)))]:=hs.ot;cases c5:decide (e'.ix≤q.commit) with
   |true=>
    rw [c5] at hs;refine sv hs hw fun a hs=>?_;refine aAC (i:=1) hs hrd (by omega) (by omega) (c:=fun a v' hr' hs=>?_);obtain ⟨ad2,cap2,rfl⟩:=hr'.slice;refine sv hs hw fun a hs=>?_;have hl2:m.es.length - (j+1)=m.es.length - j - (1:Int).toNat:=by show m.es.length - (j+1)=m.es.length - j - 1;omega
    have hfl:(m.es.drop (j+1)).flatMap bA=((m.es.drop j).flatMap bA).drop ((1:Int).toNat*4):=by rw [hd,List.flatMap_cons];rfl
    exact bS (j+1,ad2,cap2) hs hw ⟨hlt,by rw [hl2,hfl];exact hr',by rw [hdw,hd,List.dropWhile_cons,if_pos c5]⟩ (by show m.es.length - (j+1)<m.es.length - j;omega) ⟨rfl,rfl,rfl,by rw [hl2];rfl,trivial⟩
   |false=>
    rw [c5] at hs;rw [show (m.es.dropWhile fun e=>decide (e.ix≤q.commit))=m.es.drop j by rw [hdw,hd,List.dropWhile_cons,if_neg (by rw [c5];simp)]];clear hcell hfh hd;generalize (some (⟨b',o',none⟩:Addr))=ad at *;generalize m.es.drop j=es at *;rw [hlenj] at hs hrd;refine sv hs hw fun a hs=>?_;have hw:Has 0 w0 W (aG pl q.l::aA b (aF m (.slice vad m.es.length vcap)) 38::aJ p q pl pv pt mv::VoR pv q.v::ToR pt q.t::aD H mv q.out.msgs::Fz H::R):=hw.pm;refine cl hs (qB es (.slice ad es.length cap) hn' hes' (fun h=>h.rdH inn hrd) hw) fun a W hs hw=>?_;have hw:Has 0 w0 W (aE H p {q with l:=(q.l.put es).1}::aA b (aF m (.slice vad m.es.length vcap)) 38::Fz H::R):=cD (r:={q with l:=(q.l.put es).1}) (hw.pm);refine sv hs hw fun a hs=>?_;refine cl hs (qL _ _ hw) fun a W hs hw=>?_;have hgl:(RaftD.changed {q with l:=(q.l.put es).1} (q.l.put es).2.1).out.msgs.length≤900:=by rw [qQ];exact hql
    generalize RaftD.changed {q with l:=(q.l.put es).1} (q.l.put es).2.1=g at *;obtain ⟨pl2,pv2,pt2,mv2,hw⟩:=dG hw;replace hw:Has 0 w0 W (aJ p g pl2 pv2 pt2 mv2::aG pl2 g.l::VoR pv2 g.v::ToR pt2 g.t::aD H mv2 g.out.msgs::aA b (aF m (.slice vad m.es.length vcap)) 38::Fz H::R):=hw;cases c4:(q.l.put es).2.2 with
    |false=>
     rw [c4] at hs;refine sv hs hw fun a hs=>?_;refine bB [7,9] [.f 0 1,.f 0 1,.f 0 1,.f 0 0,.f 0 0,.f 0 0,.f 0 0,.m 0,.f 1 1,.m 1] [.c0 _,.c0 _,.c0 _,.c0 _,.c0 _,.c0 _,.c0 _,.c1 (fun x=> .int .i64 g.l.last),.c1 _,.c2 (fun x y=> .tuple ⟨[]⟩)] (aJ p g pl2 pv2 pt2 mv2::aG pl2 g.l::VoR pv2 g.v::ToR pt2 g.t::aD H mv2 g.out.msgs::aA b (aF m (.slice vad m.es.length vcap)) 38::Fz H::R) (fun x=>aJ p g pl2 pv2 pt2 mv2::aG pl2 g.l::VoR pv2 g.v::ToR pt2 g.t::aD H mv2 g.out.msgs::aA b (aF m (.slice vad m.es.length vcap)) 38::Fz H::R) (fun x y=>aE H p (g.say {cM with kind:=4,to_:=m.from_,ix:=g.l.last})::aA b (aF m (.slice vad m.es.length vcap)) 38::Fz H::R) (fun x y z=>[]) (fun x y z t=>[]) hs hw ?kk ⟨drs,drs,drs,drs,drs,drs,drs,drm,drs,?m1,trivial⟩
     case m1=>
      intro x y z t LD a W hs hw;have hw:Has 0 w0 W (aE H p g::aA b (aF m (.slice vad m.es.length vcap)) 38::Fz H::R):=cD hw;refine cl hs (fO {cM with kind:=4,to_:=m.from_,ix:=g.l.last} (.slice none 0 0) fU (by show (0:Nat)≤1000000;omega) (by omega) hw) fun a W hs hw=>?_;exact ⟨{},hs,hw⟩
     case kk=>
      intro _ _ a W hs hw;refine sc hs ?_;exact rt0 hs rfl ⟨rfl,hw.sl⟩
    |true=>
     rw [c4] at hs;refine sv hs hw fun a hs=>?_;refine bB [12] [.f 0 0,.f 0 0,.f 0 0,.f 0 0,.f 0 0,.f 0 0,.f 0 0,.f 0 0,.f 0 0,.f 0 0,.f 0 0,.f 0 0,.m 0] [.c0 _,.c0 _,.c0 _,.c0 _,.c0 _,.c0 _,.c0 _,.c0 _,.c0 _,.c0 _,.c0 _,.c0 _,.c1 (fun x=>undef)] (aJ p g pl2 pv2 pt2 mv2::aG pl2 g.l::VoR pv2 g.v::ToR pt2 g.t::aD H mv2 g.out.msgs::aA b (aF m (.slice vad m.es.length vcap)) 38::Fz H::R) (fun x=>gY p g.id g.h.term g.h.vote pl2 (max g.commit (min m.commit (w64 (m.ix+(m.es.length:Int))))) g.role g.leader g.heard pv2 pt2 mv2 g.out.hard g.out.from_ g.out.snap::aG pl2 g.l::VoR pv2 g.v::ToR pt2 g.t::aD H mv2 g.out.msgs::aA b (aF m (.slice vad m.es.length vcap)) 38::Fz H::R) (fun x y=>[]) (fun x y z=>[]) (fun x y z t=>[]) hs hw ?kk ⟨drs,drs,drs,drs,drs,drs,drs,drs,drs,drs,drs,drs,drm,trivial⟩
     case kk=>
      intro _ a W hs hw;refine sv hs hw fun a hs=>?_;have hw:Has 0 w0 W (aE H p {g with commit:=max g.commit (min m.commit (w64 (m.ix+(m.es.length:Int))))}::aA b (aF m (.slice vad m.es.length vcap)) 38::Fz H::R):=cD (r:={g with commit:=max g.commit (min m.commit (w64 (m.ix+(m.es.length:Int))))}) hw;refine cl hs (fO (r:={g with commit:=max g.commit (min m.commit (w64 (m.ix+(m.es.length:Int))))}) {cM with kind:=4,to_:=m.from_,yes:=true,ix:=w64 (m.ix+(m.es.length:Int))} (.slice none 0 0) fU (by show (0:Nat)≤1000000;omega) (by show g.out.msgs.length≤1000;omega) hw) fun a W hs hw=>?_;refine sc hs ?_;exact cO hs rfl ⟨rfl,hw.sl⟩
end
section
variable {H H':Fh} {p pl:Nat} {pv pt mv:Value} {r:RaftD} {w0 W:World} {R L:List Res} {v:Value}
abbrev aT (o:fT) (v:Value):List Value:=[v,.bool o.hard,.int .i64 o.from_,.bool o.snap]
theorem aBo (h:Has 0 w0 W (aE H p r::Fz H::R)):Has 0 w0 W (aD H (.slice none 0 0) []::aE H p r::Fz H::R):=lB (l:=[]) (h.nilOwn 38 13) rfl
theorem aBp {m:bF}:∀{l:List bY} {i t:Int},j9 m i t l=true→∀e∈l,eH e=true
 | [],_,_,_=>fun e he=>by cases he
 |x::l,i,t,h=>by
  have h:(!(x.ix !=w64 (i+1)) && !decide (x.term<t) && !decide (x.term > m.term) && eH x && j9 m x.ix x.term l)=true:=h;simp only [Bool.and_eq_true] at h;intro e he;rcases List.mem_cons.1 he with rfl|he
  ·exact h.1.2
  ·exact aBp h.2 e he
theorem aBq {m:bF} (h:iO m=true):m.es.length≤8∧∀e∈m.es,eH e=true:=by
 unfold iO nU at h;simp only [Bool.and_eq_true,decide_eq_true_eq] at h;exact ⟨by omega,aBp h.1.1.2.1.1⟩
theorem aHQ {e:bY} (h:eH e=true):0≤e.ix∧e.data.size≤1000000:=by
 unfold eH in1 at h;simp at h;omega
theorem aHR (m:bF) (v:Value) (hm:fN H v m.es) (hc:m.snap.conf.size≤1000000) (h5:m.kind≠5) (hl:r.out.msgs.length≤800) (hy:∀o,r.v=some o→o.yes.length≤1000∧o.no.length≤1000) (hw:Has 0 w0 W (aE H p r::Fz H::R)):
  Calls Tryz.prog 81 ⟨[ptr p,.agg ⟨aF m v⟩]⟩ W fun e W'=>∃(H':Fh) (x:Option Addr×Nat),e= .returned (.agg ⟨aT (r.step m).2 (.slice x.1 (r.step m).2.msgs.length x.2)⟩)∧H.le H'∧Has 0 w0 W' (aD H' (.slice x.1 (r.step m).2.msgs.length x.2) (r.step m).2.msgs::aE H' p (r.step m).1::Fz H'::R):=by
 obtain ⟨vad,vcap,rfl⟩:=hm.slice;have hes:=hm.len;refine en Tryz.func81 Tryz.ntmps81 fun a hs=>?_;refine sc hs ?_;refine sn hs hw fun b3 a W hs hw=>?_;refine sn hs hw fun b4 a W hs hw=>?_;have hw:Has 0 w0 W (aE H p r::Fz H::aA b3 (aF m (.slice vad m.es.length vcap)) 38::aA b4 (aT bW (.slice none 0 0)) 103::R):=hw.pm;have fin0:∀{W},Has 0 w0 W (aE H p r::Fz H::aA b3 (aF m (.slice vad m.es.length vcap)) 38::aA b4 (aT bW (.slice none 0 0)) 103::R)→Has 0 w0 W (aD H (.slice none 0 0) []::aE H p r::Fz H::R):=fun h=>aBo (h.sub (List.Sublist.cons_cons _ (List.Sublist.cons_cons _ (List.Sublist.cons _ (List.Sublist.cons _ (List.Sublist.refl _))))));have hws:=hw;obtain ⟨pl,pv,pt,mv,hw⟩:=dG hw;have back:∀{W},Has 0 w0 W (aJ p r pl pv pt mv::aG pl r.l::VoR pv r.v::ToR pt r.t::aD H mv r.out.msgs::Fz H::aA b3 (aF m (.slice vad m.es.length vcap)) 38::aA b4 (aT bW (.slice none 0 0)) 103::R)→Has 0 w0 W (aE H p r::Fz H::aA b3 (aF m (.slice vad m.es.length vcap)) 38::aA b4 (aT bW (.slice none 0 0)) 103::R):=fun h=>cD h;refine sc hs ?_;have may:∀{W},Has 0 w0 W (aJ p r pl pv pt mv::aG pl r.l::VoR pv r.v::ToR pt r.t::aD H mv r.out.msgs::Fz H::aA b3 (aF m (.slice vad m.es.length vcap)) 38::aA b4 (aT bW (.slice none 0 0)) 103::R)→Calls Tryz.prog 129 ⟨[.agg ⟨aF m (.slice vad m.es.length vcap)⟩]⟩ W fun e W'=>e= .returned (.bool (iO m))∧Has 0 w0 W' (aJ p r pl pv pt mv::aG pl r.l::VoR pv r.v::ToR pt r.t::aD H mv r.out.msgs::Fz H::aA b3 (aF m (.slice vad m.es.length vcap)) 38::aA b4 (aT bW (.slice none 0 0)) 103::R):=fun h=>aB1 m _ hm hc inn h;cases c1:iO m with
 |false=>
  have he:r.step m=(r,bW):=by unfold RaftD.step;rw [if_pos (.inl c1)]
  rw [c1] at may;refine bB [4] [.f 0 0,.f 0 0,.f 0 0,.f 0 0,.m 0,.f 1 1,.f 1 1,.f 1 1,.f 1 1,.f 1 1,.f 1 1,.f 1 1,.f 1 1,.f 1 1,.f 1 1,.f 1 1,.f 1 1,.f 1 1,.f 1 1,.f 1 1,.f 1 1,.f 1 1,.f 1 1,.f 1 1,.f 1 1] [.c0 _,.c0 _,.c0 _,.c0 _,.c1 (fun x=> .bool false),.c1 _,.c1 _,.c1 _,.c1 _,.c1 _,.c1 _,.c1 _,.c1 _,.c1 _,.c1 _,.c1 _,.c1 _,.c1 _,.c1 _,.c1 _,.c1 _,.c1 _,.c1 _,.c1 _,.c1 _] (aJ p r pl pv pt mv::aG pl r.l::VoR pv r.v::ToR pt r.t::aD H mv r.out.msgs::Fz H::aA b3 (aF m (.slice vad m.es.length vcap)) 38::aA b4 (aT bW (.slice none 0 0)) 103::R) (fun x=>aJ p r pl pv pt mv::aG pl r.l::VoR pv r.v::ToR pt r.t::aD H mv r.out.msgs::Fz H::aA b3 (aF m (.slice vad m.es.length vcap)) 38::aA b4 (aT bW (.slice none 0 0)) 103::R) (fun x y=>[]) (fun x y z=>[]) (fun x y z t=>[]) hs hw ?kk ⟨drs,drs,drs,drs,?m0,drs,drs,drs,drs,drs,drs,drs,drs,drs,drs,drs,drs,drs,drs,drs,drs,drs,drs,drs,drs,trivial⟩
  case m0=>
   intro x y z t LD a W hs hw;refine sc hs ?_;refine cl hs (may hw) fun a W hs hw=>?_;exact ⟨{},hs,hw⟩
  case kk=>
   intro _ a W hs hw;refine sx hs hw fun a W hs hw=>?_;refine rc1 hs rfl rfl hw inn rfl ⟨H,(none,0),?_⟩;rw [he];exact ⟨rfl,Fh.le.refl H,fin0 (back hw)⟩
 |true=>
 rw [c1] at may;cases c2:(m.to_ !=r.id) with
 |true=>
  have he:r.step m=(r,bW):=by unfold RaftD.step;rw [if_pos (.inr (.inl (by simpa using c2)))]
  refine bB [4] [.f 0 0,.f 0 0,.f 0 0,.f 0 0,.m 0,.f 1 1,.f 1 1,.f 1 1,.f 1 1,.f 1 1,.f 1 1,.f 1 1,.f 1 1,.f 1 1,.f 1 1,.f 1 1,.f 1 1,.f 1 1,.f 1 1,.f 1 1,.f 1 1,.f 1 1,.f 1 1,.f 1 1,.f 1 1] [.c0 _,.c0 _,.c0 _,.c0 _,.c1 (fun x=> .bool true),.c1 _,.c1 _,.c1 _,.c1 _,.c1 _,.c1 _,.c1 _,.c1 _,.c1 _,.c1 (fun x=> .bool true),.c1 _,.c1 _,.c1 _,.c1 _,.c1 _,.c1 _,.c1 _,.c1 _,.c1 _,.c1 _] (aJ p r pl pv pt mv::aG pl r.l::VoR pv r.v::ToR pt r.t::aD H mv r.out.msgs::Fz H::aA b3 (aF m (.slice vad m.es.length vcap)) 38::aA b4 (aT bW (.slice none 0 0)) 103::R) (fun x=>aJ p r pl pv pt mv::aG pl r.l::VoR pv r.v::ToR pt r.t::aD H mv r.out.msgs::Fz H::aA b3 (aF m (.slice vad m.es.length vcap)) 38::aA b4 (aT bW (.slice none 0 0)) 103::R) (fun x y=>[]) (fun x y z=>[]) (fun x y z t=>[]) hs hw ?kk ⟨drs,drs,drs,drs,?m0,drs,drs,drs,drs,drs,drs,drs,drs,drs,?f14,drs,drs,drs,drs,drs,drs,drs,drs,drs,drs,trivial⟩
  case f14=>
   refine ⟨trivial,?_,trivial,trivial,trivial⟩;intro x y z t LD a W hs hw;refine sv hs hw fun a hs=>?_;rw [c2] at hs;exact ⟨hs,hw⟩
  case m0=>
   intro x y z t LD a W hs hw;refine sc hs ?_;refine cl hs (may hw) fun a W hs hw=>?_;exact ⟨{},hs,hw⟩
  case kk=>
   intro _ a W hs hw;refine sx hs hw fun a W hs hw=>?_;refine rc1 hs rfl rfl hw inn rfl ⟨H,(none,0),?_⟩;rw [he];exact ⟨rfl,Fh.le.refl H,fin0 (back hw)⟩
 |false=>
 cases c3:(m.from_ == r.id) with
 |true=>
  have he:r.step m=(r,bW):=by unfold RaftD.step;rw [if_pos (.inr (.inr (by simpa using c3)))]
  refine bB [4] [.f 0 0,.f 0 0,.f 0 0,.f 0 0,.m 0,.f 1 1,.f 1 1,.f 1 1,.f 1 1,.f 1 1,.f 1 1,.f 1 1,.f 1 1,.f 1 1,.f 1 1,.f 1 1,.f 1 1,.f 1 1,.f 1 1,.f 1 1,.f 1 1,.f 1 1,.f 1 1,.f 1 1,.f 1 1] [.c0 _,.c0 _,.c0 _,.c0 _,.c1 (fun x=> .bool true),.c1 _,.c1 _,.c1 _,.c1 _,.c1 _,.c1 _,.c1 _,.c1 _,.c1 _,.c1 (fun x=> .bool false),.c1 _,.c1 _,.c1 _,.c1 _,.c1 _,.c1 _,.c1 _,.c1 _,.c1 (fun x=> .bool true),.c1 _] (aJ p r pl pv pt mv::aG pl r.l::VoR pv r.v::ToR pt r.t::aD H mv r.out.msgs::Fz H::aA b3 (aF m (.slice vad m.es.length vcap)) 38::aA b4 (aT bW (.slice none 0 0)) 103::R) (fun x=>aJ p r pl pv pt mv::aG pl r.l::VoR pv r.v::ToR pt r.t::aD H mv r.out.msgs::Fz H::aA b3 (aF m (.slice vad m.es.length vcap)) 38::aA b4 (aT bW (.slice none 0 0)) 103::R) (fun x y=>[]) (fun x y z=>[]) (fun x y z t=>[]) hs hw ?kk ⟨drs,drs,drs,drs,?m0,drs,drs,drs,drs,drs,drs,drs,drs,drs,?f14,drs,drs,drs,drs,drs,drs,drs,drs,?f23,drs,trivial⟩
  case f14=>
   refine ⟨trivial,?_,trivial,trivial,trivial⟩;intro x y z t LD a W hs hw;refine sv hs hw fun a hs=>?_;rw [c2] at hs;exact ⟨hs,hw⟩
  case f23=>
   refine ⟨trivial,?_,trivial,trivial,trivial⟩;intro x y z t LD a W hs hw;refine sv hs hw fun a hs=>?_;rw [c3] at hs;exact ⟨hs,hw⟩
  case m0=>
   intro x y z t LD a W hs hw;refine sc hs ?_;refine cl hs (may hw) fun a W hs hw=>?_;exact ⟨{},hs,hw⟩
  case kk=>
   intro _ a W hs hw;refine sx hs hw fun a W hs hw=>?_;refine rc1 hs rfl rfl hw inn rfl ⟨H,(none,0),?_⟩;rw [he];exact ⟨rfl,Fh.le.refl H,fin0 (back hw)⟩
 |false=>
 have hnn:¬(iO m=false∨m.to_≠r.id∨m.from_=r.id):=by
  have h2:m.to_=r.id:=by simpa using c2
  have h3:¬m.from_=r.id:=by simpa using c3
  rw [c1];simp [h2];omega
 have he:r.step m=if m.term<r.h.term then
   (if m.kind=1 then r.say {cM with kind:=2,to_:=m.from_} else if m.kind=3∨m.kind=5 then r.say {cM with kind:=4,to_:=m.from_} else r).did
  else ((if m.kind=1 then (if r.h.term<m.term then r.yield m.term else r).asked m else if m.kind=2 then (if r.h.term<m.term then r.yield m.term else r).voted m else if m.kind=3 then (if r.h.term<m.term then r.yield m.term else r).append m else if m.kind=4 then (if r.h.term<m.term then r.yield m.term else r).ack m else (if r.h.term<m.term then r.yield m.term else r).snapD m)).did:=by
  unfold RaftD.step;rw [if_neg hnn]
 refine bB [4] [.f 0 0,.f 0 0,.f 0 0,.f 0 0,.m 0,.f 1 1,.f 1 1,.f 1 1,.f 1 1,.f 1 1,.f 1 1,.f 1 1,.f 1 1,.f 1 1,.f 1 1,.f 1 1,.f 1 1,.f 1 1,.f 1 1,.f 1 1,.f 1 1,.f 1 1,.f 1 1,.f 1 1,.f 1 1] [.c0 _,.c0 _,.c0 _,.c0 _,.c1 (fun x=> .bool true),.c1 _,.c1 _,.c1 _,.c1 _,.c1 _,.c1 _,.c1 _,.c1 _,.c1 _,.c1 (fun x=> .bool false),.c1 _,.c1 _,.c1 _,.c1 _,.c1 _,.c1 _,.c1 _,.c1 _,.c1 (fun x=> .bool false),.c1 _] (aJ p r pl pv pt mv::aG pl r.l::VoR pv r.v::ToR pt r.t::aD H mv r.out.msgs::Fz H::aA b3 (aF m (.slice vad m.es.length vcap)) 38::aA b4 (aT bW (.slice none 0 0)) 103::R) (fun x=>aJ p r pl pv pt mv::aG pl r.l::VoR pv r.v::ToR pt r.t::aD H mv r.out.msgs::Fz H::aA b3 (aF m (.slice vad m.es.length vcap)) 38::aA b4 (aT bW (.slice none 0 0)) 103::R) (fun x y=>[]) (fun x y z=>[]) (fun x y z t=>[]) hs hw ?kk ⟨drs,drs,drs,drs,?m0,drs,drs,drs,drs,drs,drs,drs,drs,drs,?f14,drs,drs,drs,drs,drs,drs,drs,drs,?f23,drs,trivial⟩
 case f14=>
  refine ⟨trivial,?_,trivial,trivial,trivial⟩;intro x y z t LD a W hs hw;refine sv hs hw fun a hs=>?_;rw [c2] at hs;exact ⟨hs,hw⟩
 case f23=>
  refine ⟨trivial,?_,trivial,trivial,trivial⟩;intro x y z t LD a W hs hw;refine sv hs hw fun a hs=>?_;rw [c3] at hs;exact ⟨hs,hw⟩
 case m0=>
  intro x y z t LD a W hs hw;refine sc hs ?_;refine cl hs (may hw) fun a W hs hw=>?_;exact ⟨{},hs,hw⟩
 case kk=>
 intro _ a W hs hw;replace hs:Slots a 101 [(0,ptr p),(3,ptr b3),(4,ptr b4),(29,.bool false)]:=hs.ot;clear may;refine zH hs ?_;refine sq ?_;refine fD (M:=fun a W=>¬m.term<r.h.term∧Slots a 101 [(0,ptr p),(3,ptr b3),(4,ptr b4)]∧Has 0 w0 W (aE H p (if r.h.term<m.term then r.yield m.term else r)::Fz H::aA b3 (aF m (.slice vad m.es.length vcap)) 38::aA b4 (aT bW (.slice none 0 0)) 103::R)) ?_ ?_
 ·refine zG hs ?_;refine rgp [_,_,_,_,_,_,_,_,_] hs hw fun a W hs hw=>?_;cases d1:decide (m.term > r.h.term) with
  |true=>
   rw [d1] at hs;refine sx hs hw fun a W hs hw=>?_;refine cl hs (aGw m.term (back hw)) fun a W hs hw=>?_;refine sc hs ?_;have g:=of_decide_eq_true d1;exact ⟨by omega,hs.ot,by rw [if_pos g];exact hw⟩
  |false=>
  rw [d1] at hs;have g:=of_decide_eq_false d1;refine zG hs ?_;refine rgp [_,_,_,_,_,_,_,_,_] hs hw fun a W hs hw=>?_;cases d2:decide (m.term<r.h.term) with
  |false=>
   rw [d2] at hs;refine sc hs ?_;exact ⟨of_decide_eq_false d2,hs.ot,by rw [if_neg g];exact back hw⟩
  |true=>
  rw [d2] at hs;rw [if_pos (of_decide_eq_true d2)] at he;replace hs:Slots a 101 [(0,ptr p),(3,ptr b3),(4,ptr b4),(44,.bool true)]:=hs.ot;replace hw:=back hw;refine zH hs ?_;refine sq ?_;refine fD (M:=fun a W=>∃r2:RaftD,r.step m=r2.did∧Slots a 101 [(0,ptr p),(4,ptr b4)]∧Has 0 w0 W (aE H p r2::Fz H::aA b3 (aF m (.slice vad m.es.length vcap)) 38::aA b4 (aT bW (.slice none 0 0)) 103::R)) ?_ ?_
  ·refine sx hs hw fun a W hs hw=>?_;cases e1:(m.kind == 1) with
   |true=>
    have g1:m.kind=1:=by simpa using e1
    rw [e1] at hs;rw [if_pos g1] at he;refine sx hs hw fun a W hs hw=>?_;refine cl hs (fO {cM with kind:=2,to_:=m.from_} (.slice none 0 0) fU (by show (0:Nat)≤1000000;omega) (by omega) hw) fun a W hs hw=>?_;refine sc hs ?_;exact ⟨_,he,hs.ot,hw⟩
   |false=>
   have g1:¬m.kind=1:=by simpa using e1
   rw [e1] at hs;rw [if_neg g1] at he;refine sv hs hw fun a hs=>?_;cases e3:(m.kind == 3) with
   |true=>
    have g3:m.kind=3:=by simpa using e3
    rw [e3] at hs;rw [if_pos (.inl g3)] at he;refine sx hs hw fun a W hs hw=>?_;refine cl hs (fO {cM with kind:=4,to_:=m.from_} (.slice none 0 0) fU (by show (0:Nat)≤1000000;omega) (by omega) hw) fun a W hs hw=>?_;refine sc hs ?_;exact ⟨_,he,hs.ot,hw⟩
   |false=>
    have g3:¬m.kind=3:=by simpa using e3
    rw [e3] at hs;rw [if_neg (by omega)] at he;refine sv hs hw fun a hs=>?_;rw [show (m.kind == 5)=false by simpa using h5] at hs;refine sc hs ?_;exact ⟨_,he,hs.ot,hw⟩
  clear hs hw;rintro a W ⟨r2,he,hs,hw⟩;refine sv hs hw fun a hs=>?_;refine cle hs (s7 hw) fun s a W _ hs hw=>?_;refine sx hs hw fun a W hs hw=>?_;refine rc1 hs rfl rfl hw inn rfl ⟨H,s,?_⟩;rw [he];exact ⟨rfl,Fh.le.refl H,hw.sl⟩
 clear hs hw hws back fin0;rintro a W ⟨d2,hs,hw⟩;rw [if_neg d2] at he;obtain ⟨r1,hr1⟩:∃r1:RaftD,r1=(if r.h.term<m.term then r.yield m.term else r):=⟨_,rfl⟩
 rw [←hr1] at he hw;have hl1:r1.out.msgs.length≤800:=by rw [hr1];split <;> exact hl
 have hy1:∀o,r1.v=some o→o.yes.length≤1000∧o.no.length≤1000:=by rw [hr1];split <;> exact hy
 clear hr1;refine sq ?_;refine fD (M:=fun a W=>∃(H2:Fh) (r2:RaftD),H.le H2∧r.step m=r2.did∧Slots a 101 [(0,ptr p),(4,ptr b4)]∧Has 0 w0 W (aE H2 p r2::Fz H2::aA b3 (aF m (.slice vad m.es.length vcap)) 38::aA b4 (aT bW (.slice none 0 0)) 103::R)) ?_ ?_
 ·refine sx hs hw fun a W hs hw=>?_;cases e1:(m.kind == 1) with
  |true=>
   have g1:m.kind=1:=by simpa using e1
   rw [e1] at hs;rw [if_pos g1] at he;refine sx hs hw fun a W hs hw=>?_;refine cl hs (aHM m _ ⟨_,_,rfl⟩ (by omega) hw) fun a W hs hw=>?_;refine sc hs ?_;exact ⟨H,_,Fh.le.refl H,he,hs.ot,hw⟩
  |false=>
  have g1:¬m.kind=1:=by simpa using e1
  rw [e1] at hs;rw [if_neg g1] at he;refine sv hs hw fun a hs=>?_;cases e2:(m.kind == 2) with
  |true=>
   have g2:m.kind=2:=by simpa using e2
   rw [e2] at hs;rw [if_pos g2] at he;refine sx hs hw fun a W hs hw=>?_;refine aH hs (hc:=aHN m _ ⟨_,_,rfl⟩ (by omega) hy1 hw) (k:=?_);rintro e' W' ⟨rfl,H3,hle3,hw⟩;refine ⟨_,rfl,fun a hs=>?_⟩;refine sc hs ?_;exact ⟨H3,_,hle3,he,hs.ot,hw⟩
  |false=>
  have g2:¬m.kind=2:=by simpa using e2
  rw [e2] at hs;rw [if_neg g2] at he;refine sv hs hw fun a hs=>?_;cases e3:(m.kind == 3) with
  |true=>
   have g3:m.kind=3:=by simpa using e3
   rw [e3] at hs;rw [if_pos g3] at he;have hme:=aBq c1;refine sx hs hw fun a W hs hw=>?_;refine cl hs (aHP m _ hm (by omega) (fun e he=>aHQ (hme.2 e he)) (by omega) hw) fun a W hs hw=>?_;refine sc hs ?_;exact ⟨H,_,Fh.le.refl H,he,hs.ot,hw⟩
  |false=>
  have g3:¬m.kind=3:=by simpa using e3
  rw [e3] at hs;rw [if_neg g3] at he;refine sv hs hw fun a hs=>?_;cases e4:(m.kind == 4) with
  |true=>
   have g4:m.kind=4:=by simpa using e4
   rw [e4] at hs;rw [if_pos g4] at he;refine sx hs hw fun a W hs hw=>?_;refine aH hs (hc:=aHO m _ ⟨_,_,rfl⟩ (by omega) hw) (k:=?_);rintro e' W' ⟨rfl,H3,hle3,hw⟩;refine ⟨_,rfl,fun a hs=>?_⟩;refine sc hs ?_;exact ⟨H3,_,hle3,he,hs.ot,hw⟩
  |false=>
   have g4:¬m.kind=4:=by simpa using e4
   exfalso;unfold iO at c1;simp only [Bool.and_eq_true,Bool.not_eq_true',decide_eq_false_iff_not] at c1;omega
 clear hs hw;rintro a W ⟨H2,r2,hle,he,hs,hw⟩;refine sv hs hw fun a hs=>?_;refine cle hs (s7 hw) fun s a W _ hs hw=>?_;refine sx hs hw fun a W hs hw=>?_;refine rc1 hs rfl rfl hw inn rfl ⟨H2,s,?_⟩;rw [he];exact ⟨rfl,hle,hw.sl⟩
end
end Go.Proofs.YtgpbngfehfbndaaGreatDoor.Sw
