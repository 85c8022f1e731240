/-
  Texts of the proof, one behind the other (part 31).
-/
import Derived.Test.YtgpbngfehfbndaaGreatDoorM24
import Derived.Test.YtgpbngfehfbndaaGreatDoorM29
import Derived.Test.YtgpbngfehfbndaaGreatDoorM30
import Derived.Test.YtgpbngfehfbndaaGreatDoorChecked
import Derived.Test.YtgpbngfehfbndaaGreatDoorProg
set_option maxHeartbeats 16000000
set_option linter.unusedVariables false
set_option maxRecDepth 10000
namespace Go.Proofs.YtgpbngfehfbndaaGreatDoor.Sw
open Go.RowKit Go.Sx
section
variable {H H':Fh} {p pl:Nat} {pv pt mv:Value} {r:RaftD} {w0 W:World} {R L:List Res} {v:Value}
abbrev aU (o:fQ) (v:Value):List Value:=[v,.bool o.hard,.int .i64 o.from_,.bool o.snap]
theorem aCa (h:Has 0 w0 W (aF H p r::Fz H::R)):Has 0 w0 W (aD H (.slice none 0 0) []::aF H p r::Fz H::R):=j0 (l:=[]) (h.nilOwn 38 13) rfl
theorem aCb {m:bS}:∀{l:List cD} {i t:Int},kP m i t l=true→∀e∈l,eS e=true
 | [],_,_,_=>fun e he=>by cases he
 |x::l,i,t,h=>by
  have h:(!(x.ix !=w64 (i+1)) && !decide (x.term<t) && !decide (x.term > m.term) && eS x && kP m x.ix x.term l)=true:=h;simp only [Bool.and_eq_true] at h;intro e he;rcases List.mem_cons.1 he with rfl|he
  ·exact h.1.2
  ·exact aCb h.2 e he
theorem aCc {m:bS} (h:iS m=true):m.es.length≤8∧∀e∈m.es,eS e=true:=by
 unfold iS oI at h;simp only [Bool.and_eq_true,decide_eq_true_eq] at h;exact ⟨by omega,aCb h.1.1.2.1.1⟩
theorem aIH {e:cD} (h:eS e=true):0≤e.ix∧e.data.size≤1000000:=by
 unfold eS in1 at h;simp at h;omega
theorem aII (m:bS) (v:Value) (hm:fW H v m.es) (hc:m.snap.conf.size≤1000000) (h5:m.kind≠5) (hl:r.out.msgs.length≤800) (hy:∀o,r.v=some o→o.yes.length≤1000∧o.no.length≤1000) (hw:Has 0 w0 W (aF H p r::Fz H::R)):
  Calls Tryz.prog 81 ⟨[ptr p,.agg ⟨aI m v⟩]⟩ W fun e W'=>∃(H':Fh) (x:Option Addr×Nat),e= .returned (.agg ⟨aU (r.step m).2 (.slice x.1 (r.step m).2.msgs.length x.2)⟩)∧H.le H'∧Has 0 w0 W' (aD H' (.slice x.1 (r.step m).2.msgs.length x.2) (r.step m).2.msgs::aF H' p (r.step m).1::Fz H'::R):=by
 obtain ⟨vad,vcap,rfl⟩:=hm.slice;have hes:=hm.len;refine enter Tryz.func81 Tryz.ntmps81 rfl rfl fun a hs=>?_;refine sc hs ?_;refine sn hs hw fun b3 a W hs hw=>?_;refine sn hs hw fun b4 a W hs hw=>?_;have hw:Has 0 w0 W (aF H p r::Fz H::aA b3 (aI m (.slice vad m.es.length vcap)) 38::aA b4 (aU bT (.slice none 0 0)) 103::R):=hw.pm;have fin0:∀{W},Has 0 w0 W (aF H p r::Fz H::aA b3 (aI m (.slice vad m.es.length vcap)) 38::aA b4 (aU bT (.slice none 0 0)) 103::R)→Has 0 w0 W (aD H (.slice none 0 0) []::aF H p r::Fz H::R):=fun h=>aCa (h.sub (List.Sublist.cons_cons _ (List.Sublist.cons_cons _ (List.Sublist.cons _ (List.Sublist.cons _ (List.Sublist.refl _))))));have hws:=hw;obtain ⟨pl,pv,pt,mv,hw⟩:=dG hw;have back:∀{W},Has 0 w0 W (aK p r pl pv pt mv::aH pl r.l::VoR pv r.v::ToR pt r.t::aD H mv r.out.msgs::Fz H::aA b3 (aI m (.slice vad m.es.length vcap)) 38::aA b4 (aU bT (.slice none 0 0)) 103::R)→Has 0 w0 W (aF H p r::Fz H::aA b3 (aI m (.slice vad m.es.length vcap)) 38::aA b4 (aU bT (.slice none 0 0)) 103::R):=fun h=>cG h;refine sc hs ?_;have may:∀{W},Has 0 w0 W (aK p r pl pv pt mv::aH pl r.l::VoR pv r.v::ToR pt r.t::aD H mv r.out.msgs::Fz H::aA b3 (aI m (.slice vad m.es.length vcap)) 38::aA b4 (aU bT (.slice none 0 0)) 103::R)→Calls Tryz.prog 129 ⟨[.agg ⟨aI m (.slice vad m.es.length vcap)⟩]⟩ W fun e W'=>e= .returned (.bool (iS m))∧Has 0 w0 W' (aK p r pl pv pt mv::aH pl r.l::VoR pv r.v::ToR pt r.t::aD H mv r.out.msgs::Fz H::aA b3 (aI m (.slice vad m.es.length vcap)) 38::aA b4 (aU bT (.slice none 0 0)) 103::R):=fun h=>aCP m _ hm hc inn h;cases c1:iS m with
 |false=>
  have he:r.step m=(r,bT):=by unfold RaftD.step;rw [if_pos (.inl c1)]
  rw [c1] at may;refine bG [4] [.f 0 0,.f 0 0,.f 0 0,.f 0 0,.m 0,.f 1 1,.f 1 1,.f 1 1,.f 1 1,.f 1 1,.f 1 1,.f 1 1,.f 1 1,.f 1 1,.f 1 1,.f 1 1,.f 1 1,.f 1 1,.f 1 1,.f 1 1,.f 1 1,.f 1 1,.f 1 1,.f 1 1,.f 1 1] [.c0 _,.c0 _,.c0 _,.c0 _,.c1 (fun x=> .bool false),.c1 _,.c1 _,.c1 _,.c1 _,.c1 _,.c1 _,.c1 _,.c1 _,.c1 _,.c1 _,.c1 _,.c1 _,.c1 _,.c1 _,.c1 _,.c1 _,.c1 _,.c1 _,.c1 _,.c1 _] (aK p r pl pv pt mv::aH pl r.l::VoR pv r.v::ToR pt r.t::aD H mv r.out.msgs::Fz H::aA b3 (aI m (.slice vad m.es.length vcap)) 38::aA b4 (aU bT (.slice none 0 0)) 103::R) (fun x=>aK p r pl pv pt mv::aH pl r.l::VoR pv r.v::ToR pt r.t::aD H mv r.out.msgs::Fz H::aA b3 (aI m (.slice vad m.es.length vcap)) 38::aA b4 (aU bT (.slice none 0 0)) 103::R) (fun x y=>[]) (fun x y z=>[]) (fun x y z t=>[]) hs hw ?kk ⟨drs,drs,drs,drs,?m0,drs,drs,drs,drs,drs,drs,drs,drs,drs,drs,drs,drs,drs,drs,drs,drs,drs,drs,drs,drs,trivial⟩
  case m0=>
   intro x y z t LD a W hs hw;refine sc hs ?_;refine cl hs (may hw) fun a W hs hw=>?_;exact ⟨{},hs,hw⟩
  case kk=>
   intro _ a W hs hw;refine sx hs hw fun a W hs hw=>?_;refine rc1 hs rfl rfl hw inn rfl ⟨H,(none,0),?_⟩;rw [he];exact ⟨rfl,Fh.le.refl H,fin0 (back hw)⟩
 |true=>
 rw [c1] at may;cases c2:(m.to_ !=r.id) with
 |true=>
  have he:r.step m=(r,bT):=by unfold RaftD.step;rw [if_pos (.inr (.inl (by simpa using c2)))]
  refine bG [4] [.f 0 0,.f 0 0,.f 0 0,.f 0 0,.m 0,.f 1 1,.f 1 1,.f 1 1,.f 1 1,.f 1 1,.f 1 1,.f 1 1,.f 1 1,.f 1 1,.f 1 1,.f 1 1,.f 1 1,.f 1 1,.f 1 1,.f 1 1,.f 1 1,.f 1 1,.f 1 1,.f 1 1,.f 1 1] [.c0 _,.c0 _,.c0 _,.c0 _,.c1 (fun x=> .bool true),.c1 _,.c1 _,.c1 _,.c1 _,.c1 _,.c1 _,.c1 _,.c1 _,.c1 _,.c1 (fun x=> .bool true),.c1 _,.c1 _,.c1 _,.c1 _,.c1 _,.c1 _,.c1 _,.c1 _,.c1 _,.c1 _] (aK p r pl pv pt mv::aH pl r.l::VoR pv r.v::ToR pt r.t::aD H mv r.out.msgs::Fz H::aA b3 (aI m (.slice vad m.es.length vcap)) 38::aA b4 (aU bT (.slice none 0 0)) 103::R) (fun x=>aK p r pl pv pt mv::aH pl r.l::VoR pv r.v::ToR pt r.t::aD H mv r.out.msgs::Fz H::aA b3 (aI m (.slice vad m.es.length vcap)) 38::aA b4 (aU bT (.slice none 0 0)) 103::R) (fun x y=>[]) (fun x y z=>[]) (fun x y z t=>[]) hs hw ?kk ⟨drs,drs,drs,drs,?m0,drs,drs,drs,drs,drs,drs,drs,drs,drs,?f14,drs,drs,drs,drs,drs,drs,drs,drs,drs,drs,trivial⟩
  case f14=>
   refine ⟨trivial,?_,trivial,trivial,trivial⟩;intro x y z t LD a W hs hw;refine sv hs hw fun a hs=>?_;rw [c2] at hs;exact ⟨hs,hw⟩
  case m0=>
   intro x y z t LD a W hs hw;refine sc hs ?_;refine cl hs (may hw) fun a W hs hw=>?_;exact ⟨{},hs,hw⟩
  case kk=>
   intro _ a W hs hw;refine sx hs hw fun a W hs hw=>?_;refine rc1 hs rfl rfl hw inn rfl ⟨H,(none,0),?_⟩;rw [he];exact ⟨rfl,Fh.le.refl H,fin0 (back hw)⟩
 |false=>
 cases c3:(m.from_ == r.id) with
 |true=>
  have he:r.step m=(r,bT):=by unfold RaftD.step;rw [if_pos (.inr (.inr (by simpa using c3)))]
  refine bG [4] [.f 0 0,.f 0 0,.f 0 0,.f 0 0,.m 0,.f 1 1,.f 1 1,.f 1 1,.f 1 1,.f 1 1,.f 1 1,.f 1 1,.f 1 1,.f 1 1,.f 1 1,.f 1 1,.f 1 1,.f 1 1,.f 1 1,.f 1 1,.f 1 1,.f 1 1,.f 1 1,.f 1 1,.f 1 1] [.c0 _,.c0 _,.c0 _,.c0 _,.c1 (fun x=> .bool true),.c1 _,.c1 _,.c1 _,.c1 _,.c1 _,.c1 _,.c1 _,.c1 _,.c1 _,.c1 (fun x=> .bool false),.c1 _,.c1 _,.c1 _,.c1 _,.c1 _,.c1 _,.c1 _,.c1 _,.c1 (fun x=> .bool true),.c1 _] (aK p r pl pv pt mv::aH pl r.l::VoR pv r.v::ToR pt r.t::aD H mv r.out.msgs::Fz H::aA b3 (aI m (.slice vad m.es.length vcap)) 38::aA b4 (aU bT (.slice none 0 0)) 103::R) (fun x=>aK p r pl pv pt mv::aH pl r.l::VoR pv r.v::ToR pt r.t::aD H mv r.out.msgs::Fz H::aA b3 (aI m (.slice vad m.es.length vcap)) 38::aA b4 (aU bT (.slice none 0 0)) 103::R) (fun x y=>[]) (fun x y z=>[]) (fun x y z t=>[]) hs hw ?kk ⟨drs,drs,drs,drs,?m0,drs,drs,drs,drs,drs,drs,drs,drs,drs,?f14,drs,drs,drs,drs,drs,drs,drs,drs,?f23,drs,trivial⟩
  case f14=>
   refine ⟨trivial,?_,trivial,trivial,trivial⟩;intro x y z t LD a W hs hw;refine sv hs hw fun a hs=>?_;rw [c2] at hs;exact ⟨hs,hw⟩
  case f23=>
   refine ⟨trivial,?_,trivial,trivial,trivial⟩;intro x y z t LD a W hs hw;refine sv hs hw fun a hs=>?_;rw [c3] at hs;exact ⟨hs,hw⟩
  case m0=>
   intro x y z t LD a W hs hw;refine sc hs ?_;refine cl hs (may hw) fun a W hs hw=>?_;exact ⟨{},hs,hw⟩
  case kk=>
   intro _ a W hs hw;refine sx hs hw fun a W hs hw=>?_;refine rc1 hs rfl rfl hw inn rfl ⟨H,(none,0),?_⟩;rw [he];exact ⟨rfl,Fh.le.refl H,fin0 (back hw)⟩
 |false=>
 have hnn:¬(iS m=false∨m.to_≠r.id∨m.from_=r.id):=by
  have h2:m.to_=r.id:=by simpa using c2
  have h3:¬m.from_=r.id:=by simpa using c3
  rw [c1];simp [h2];omega
 have he:r.step m=if m.term<r.h.term then
   (if m.kind=1 then r.say {cR with kind:=2,to_:=m.from_} else if m.kind=3∨m.kind=5 then r.say {cR with kind:=4,to_:=m.from_} else r).did
  else ((if m.kind=1 then (if r.h.term<m.term then r.yield m.term else r).asked m else if m.kind=2 then (if r.h.term<m.term then r.yield m.term else r).voted m else if m.kind=3 then (if r.h.term<m.term then r.yield m.term else r).append m else if m.kind=4 then (if r.h.term<m.term then r.yield m.term else r).ack m else (if r.h.term<m.term then r.yield m.term else r).snapD m)).did:=by
  unfold RaftD.step;rw [if_neg hnn]
 refine bG [4] [.f 0 0,.f 0 0,.f 0 0,.f 0 0,.m 0,.f 1 1,.f 1 1,.f 1 1,.f 1 1,.f 1 1,.f 1 1,.f 1 1,.f 1 1,.f 1 1,.f 1 1,.f 1 1,.f 1 1,.f 1 1,.f 1 1,.f 1 1,.f 1 1,.f 1 1,.f 1 1,.f 1 1,.f 1 1] [.c0 _,.c0 _,.c0 _,.c0 _,.c1 (fun x=> .bool true),.c1 _,.c1 _,.c1 _,.c1 _,.c1 _,.c1 _,.c1 _,.c1 _,.c1 _,.c1 (fun x=> .bool false),.c1 _,.c1 _,.c1 _,.c1 _,.c1 _,.c1 _,.c1 _,.c1 _,.c1 (fun x=> .bool false),.c1 _] (aK p r pl pv pt mv::aH pl r.l::VoR pv r.v::ToR pt r.t::aD H mv r.out.msgs::Fz H::aA b3 (aI m (.slice vad m.es.length vcap)) 38::aA b4 (aU bT (.slice none 0 0)) 103::R) (fun x=>aK p r pl pv pt mv::aH pl r.l::VoR pv r.v::ToR pt r.t::aD H mv r.out.msgs::Fz H::aA b3 (aI m (.slice vad m.es.length vcap)) 38::aA b4 (aU bT (.slice none 0 0)) 103::R) (fun x y=>[]) (fun x y z=>[]) (fun x y z t=>[]) hs hw ?kk ⟨drs,drs,drs,drs,?m0,drs,drs,drs,drs,drs,drs,drs,drs,drs,?f14,drs,drs,drs,drs,drs,drs,drs,drs,?f23,drs,trivial⟩
 case f14=>
  refine ⟨trivial,?_,trivial,trivial,trivial⟩;intro x y z t LD a W hs hw;refine sv hs hw fun a hs=>?_;rw [c2] at hs;exact ⟨hs,hw⟩
 case f23=>
  refine ⟨trivial,?_,trivial,trivial,trivial⟩;intro x y z t LD a W hs hw;refine sv hs hw fun a hs=>?_;rw [c3] at hs;exact ⟨hs,hw⟩
 case m0=>
  intro x y z t LD a W hs hw;refine sc hs ?_;refine cl hs (may hw) fun a W hs hw=>?_;exact ⟨{},hs,hw⟩
 case kk=>
 intro _ a W hs hw;replace hs:Slots a 101 [(0,ptr p),(3,ptr b3),(4,ptr b4),(29,.bool false)]:=hs.ot;clear may;refine zH hs ?_;refine sq ?_;refine eW (M:=fun a W=>¬m.term<r.h.term∧Slots a 101 [(0,ptr p),(3,ptr b3),(4,ptr b4)]∧Has 0 w0 W (aF H p (if r.h.term<m.term then r.yield m.term else r)::Fz H::aA b3 (aI m (.slice vad m.es.length vcap)) 38::aA b4 (aU bT (.slice none 0 0)) 103::R)) ?_ ?_
 ·refine zG hs ?_;refine rgp [_,_,_,_,_,_,_,_,_] hs hw fun a W hs hw=>?_;cases d1:decide (m.term > r.h.term) with
  |true=>
   rw [d1] at hs;refine sx hs hw fun a W hs hw=>?_;refine cl hs (aHm m.term (back hw)) fun a W hs hw=>?_;refine sc hs ?_;have g:=of_decide_eq_true d1;exact ⟨by omega,hs.ot,by rw [if_pos g];exact hw⟩
  |false=>
  rw [d1] at hs;have g:=of_decide_eq_false d1;refine zG hs ?_;refine rgp [_,_,_,_,_,_,_,_,_] hs hw fun a W hs hw=>?_;cases d2:decide (m.term<r.h.term) with
  |false=>
   rw [d2] at hs;refine sc hs ?_;exact ⟨of_decide_eq_false d2,hs.ot,by rw [if_neg g];exact back hw⟩
  |true=>
  rw [d2] at hs;rw [if_pos (of_decide_eq_true d2)] at he;replace hs:Slots a 101 [(0,ptr p),(3,ptr b3),(4,ptr b4),(44,.bool true)]:=hs.ot;replace hw:=back hw;refine zH hs ?_;refine sq ?_;refine eW (M:=fun a W=>∃r2:RaftD,r.step m=r2.did∧Slots a 101 [(0,ptr p),(4,ptr b4)]∧Has 0 w0 W (aF H p r2::Fz H::aA b3 (aI m (.slice vad m.es.length vcap)) 38::aA b4 (aU bT (.slice none 0 0)) 103::R)) ?_ ?_
  ·refine sx hs hw fun a W hs hw=>?_;cases e1:(m.kind == 1) with
   |true=>
    have g1:m.kind=1:=by simpa using e1
    rw [e1] at hs;rw [if_pos g1] at he;refine sx hs hw fun a W hs hw=>?_;refine cl hs (fS {cR with kind:=2,to_:=m.from_} (.slice none 0 0) fX (by show (0:Nat)≤1000000;omega) (by omega) hw) fun a W hs hw=>?_;refine sc hs ?_;exact ⟨_,he,hs.ot,hw⟩
   |false=>
   have g1:¬m.kind=1:=by simpa using e1
   rw [e1] at hs;rw [if_neg g1] at he;refine sv hs hw fun a hs=>?_;cases e3:(m.kind == 3) with
   |true=>
    have g3:m.kind=3:=by simpa using e3
    rw [e3] at hs;rw [if_pos (.inl g3)] at he;refine sx hs hw fun a W hs hw=>?_;refine cl hs (fS {cR with kind:=4,to_:=m.from_} (.slice none 0 0) fX (by show (0:Nat)≤1000000;omega) (by omega) hw) fun a W hs hw=>?_;refine sc hs ?_;exact ⟨_,he,hs.ot,hw⟩
   |false=>
    have g3:¬m.kind=3:=by simpa using e3
    rw [e3] at hs;rw [if_neg (by omega)] at he;refine sv hs hw fun a hs=>?_;rw [show (m.kind == 5)=false by simpa using h5] at hs;refine sc hs ?_;exact ⟨_,he,hs.ot,hw⟩
  clear hs hw;rintro a W ⟨r2,he,hs,hw⟩;refine sv hs hw fun a hs=>?_;refine cle hs (tW hw) fun s a W _ hs hw=>?_;refine sx hs hw fun a W hs hw=>?_;refine rc1 hs rfl rfl hw inn rfl ⟨H,s,?_⟩;rw [he];exact ⟨rfl,Fh.le.refl H,hw.sl⟩
 clear hs hw hws back fin0;rintro a W ⟨d2,hs,hw⟩;rw [if_neg d2] at he;obtain ⟨r1,hr1⟩:∃r1:RaftD,r1=(if r.h.term<m.term then r.yield m.term else r):=⟨_,rfl⟩
 rw [←hr1] at he hw;have hl1:r1.out.msgs.length≤800:=by rw [hr1];split <;> exact hl
 have hy1:∀o,r1.v=some o→o.yes.length≤1000∧o.no.length≤1000:=by rw [hr1];split <;> exact hy
 clear hr1;refine sq ?_;refine eW (M:=fun a W=>∃(H2:Fh) (r2:RaftD),H.le H2∧r.step m=r2.did∧Slots a 101 [(0,ptr p),(4,ptr b4)]∧Has 0 w0 W (aF H2 p r2::Fz H2::aA b3 (aI m (.slice vad m.es.length vcap)) 38::aA b4 (aU bT (.slice none 0 0)) 103::R)) ?_ ?_
 ·refine sx hs hw fun a W hs hw=>?_;cases e1:(m.kind == 1) with
  |true=>
   have g1:m.kind=1:=by simpa using e1
   rw [e1] at hs;rw [if_pos g1] at he;refine sx hs hw fun a W hs hw=>?_;refine cl hs (aID m _ ⟨_,_,rfl⟩ (by omega) hw) fun a W hs hw=>?_;refine sc hs ?_;exact ⟨H,_,Fh.le.refl H,he,hs.ot,hw⟩
  |false=>
  have g1:¬m.kind=1:=by simpa using e1
  rw [e1] at hs;rw [if_neg g1] at he;refine sv hs hw fun a hs=>?_;cases e2:(m.kind == 2) with
  |true=>
   have g2:m.kind=2:=by simpa using e2
   rw [e2] at hs;rw [if_pos g2] at he;refine sx hs hw fun a W hs hw=>?_;refine aG hs (hc:=aIE m _ ⟨_,_,rfl⟩ (by omega) hy1 hw) (k:=?_);rintro e' W' ⟨rfl,H3,hle3,hw⟩;refine ⟨_,rfl,fun a hs=>?_⟩;refine sc hs ?_;exact ⟨H3,_,hle3,he,hs.ot,hw⟩
  |false=>
  have g2:¬m.kind=2:=by simpa using e2
  rw [e2] at hs;rw [if_neg g2] at he;refine sv hs hw fun a hs=>?_;cases e3:(m.kind == 3) with
  |true=>
   have g3:m.kind=3:=by simpa using e3
   rw [e3] at hs;rw [if_pos g3] at he;have hme:=aCc c1;refine sx hs hw fun a W hs hw=>?_;refine cl hs (aIG m _ hm (by omega) (fun e he=>aIH (hme.2 e he)) (by omega) hw) fun a W hs hw=>?_;refine sc hs ?_;exact ⟨H,_,Fh.le.refl H,he,hs.ot,hw⟩
  |false=>
  have g3:¬m.kind=3:=by simpa using e3
  rw [e3] at hs;rw [if_neg g3] at he;refine sv hs hw fun a hs=>?_;cases e4:(m.kind == 4) with
  |true=>
   have g4:m.kind=4:=by simpa using e4
   rw [e4] at hs;rw [if_pos g4] at he;refine sx hs hw fun a W hs hw=>?_;refine aG hs (hc:=aIF m _ ⟨_,_,rfl⟩ (by omega) hw) (k:=?_);rintro e' W' ⟨rfl,H3,hle3,hw⟩;refine ⟨_,rfl,fun a hs=>?_⟩;refine sc hs ?_;exact ⟨H3,_,hle3,he,hs.ot,hw⟩
  |false=>
   have g4:¬m.kind=4:=by simpa using e4
   exfalso;unfold iS at c1;simp only [Bool.and_eq_true,Bool.not_eq_true',decide_eq_false_iff_not] at c1;omega
 clear hs hw;rintro a W ⟨H2,r2,hle,he,hs,hw⟩;refine sv hs hw fun a hs=>?_;refine cle hs (tW hw) fun s a W _ hs hw=>?_;refine sx hs hw fun a W hs hw=>?_;refine rc1 hs rfl rfl hw inn rfl ⟨H2,s,?_⟩;rw [he];exact ⟨rfl,hle,hw.sl⟩
end
end Go.Proofs.YtgpbngfehfbndaaGreatDoor.Sw
