/-
  Texts of the proof, one behind the other (part 27).
-/
import Derived.Test.YtgpbngfehfbndaaGreatDoorM26
import Derived.Test.YtgpbngfehfbndaaGreatDoorChecked
import Derived.Test.YtgpbngfehfbndaaGreatDoorProg
set_option maxHeartbeats 16000000
set_option linter.unusedVariables false
set_option maxRecDepth 10000
namespace Go.Proofs.YtgpbngfehfbndaaGreatDoor.Sw
open Go.RowKit Go.Sx
section
variable {H H':Fh} {p pl:Nat} {pv pt mv:Value} {r:RaftD} {w0 W:World} {R L:List Res} {l:List bS} {v:Value}
theorem aC9 (r:RaftD) (k:Int) (s:ByteArray):(r.put k s).1.out.msgs=r.out.msgs:=by
 unfold RaftD.put;exact rF _ _
theorem uC (r:RaftD):r.move.out.msgs=r.out.msgs:=by
 unfold RaftD.move;simp only [];split
 ·rfl
 ·split <;> rfl
theorem yW (hl:r.out.msgs.length≤900) (hw:Has 0 w0 W (aF H p r::Fz H::R)):
  Calls Tryz.prog 136 ⟨[ptr p]⟩ W fun e W'=>e= .returned (.tuple ⟨[]⟩)∧∃H',H.le H'∧Has 0 w0 W' (aF H' p r.lead::Fz H'::R):=by
 obtain ⟨pl,pv,pt,mv,hw⟩:=dG hw;refine enter Tryz.func136 Tryz.ntmps136 rfl rfl fun a hs=>?_;refine sx hs hw fun a W hs hw=>?_;refine sg hs hw (fun q a W hs hw=>?_) (g:=aHj);refine sx hs hw fun a W hs hw=>?_;obtain ⟨r1,hr1⟩:∃r1:RaftD,r1= {r with role:=2,leader:=r.id,t:=some (mE r.l.last)}:=⟨_,rfl⟩
 have hrl:r1.l=r.l:=by rw [hr1]
 have he:r.lead=(if ((r1.l.get r1.l.first 200).length:Int)<200 then (r1.put 1 ⟨#[]⟩).1 else r1).move.all:=by rw [hr1];rfl
 rw [he];have hm1:r1.out.msgs.length≤900:=by rw [hr1];exact hl
 have hw:Has 0 w0 W (gM q (mE r.l.last)::aK p {r with role:=2,leader:=r.id,t:=some (mE r.l.last)} pl pv (ptr q) mv::aH pl r.l::VoR pv r.v::ToR pt r.t::aD H mv r.out.msgs::Fz H::R):=hw;have hw:=oR hw;have hw:Has 0 w0 W (aF H p r1::Fz H::R):=by rw [hr1];exact cG (r:={r with role:=2,leader:=r.id,t:=some (mE r.l.last)}) (hw.sl)
 clear hr1 he;obtain ⟨pl1,pv1,pt1,mv1,hw⟩:=dG hw;refine bG [8,9] [.f 0 1,.f 0 1,.f 0 1,.f 0 1,.f 0 0,.f 0 0,.f 0 0,.f 0 0,.m 0,.m 1,.f 2 2,.f 2 2] [.c0 _,.c0 _,.c0 _,.c0 _,.c0 _,.c0 _,.c0 _,.c0 _,.c1 (fun x=> .int .i64 r1.l.first),.c2 (fun x y=> .slice y.ad (r1.l.get r1.l.first 200).length y.cap),.c2 _,.c2 _] (aK p r1 pl1 pv1 pt1 mv1::aH pl1 r1.l::VoR pv1 r1.v::ToR pt1 r1.t::aD H mv1 r1.out.msgs::Fz H::R) (fun x=>aK p r1 pl1 pv1 pt1 mv1::aH pl1 r1.l::VoR pv1 r1.v::ToR pt1 r1.t::aD H mv1 r1.out.msgs::Fz H::R) (fun x y=>aK p r1 pl1 pv1 pt1 mv1::aH pl1 r1.l::VoR pv1 r1.v::ToR pt1 r1.t::aD H mv1 r1.out.msgs::Fz H::R) (fun x y z=>[]) (fun x y z t=>[]) hs hw ?kk ⟨drs,drs,drs,drs,drs,drs,drs,drs,drm,?m1,drs,drs,trivial⟩
 case m1=>
  intro x y z t LD a W hs hw;refine sg hs hw (fun s a W hs hw=>?_) (g:=nL);exact ⟨{ad:=s.1,cap:=s.2},hs,hw.d1⟩
 case kk=>
 intro _ y a W hs hw;have hw:Has 0 w0 W (aF H p r1::Fz H::R):=cG hw;replace hs:Slots a 39 [(0,ptr p),(32,.bool (decide (((r1.l.get r1.l.first 200).length:Int)<200)))]:=hs.ot;cases c1:decide (((r1.l.get r1.l.first 200).length:Int)<200) with
 |true=>
  rw [c1] at hs;rw [if_pos (of_decide_eq_true c1)];refine sv hs hw fun a hs=>?_;refine cl hs (aC6 1 ⟨#[]⟩ (by show (0:Nat)≤1000000;omega) hw) fun a W hs hw=>?_;refine sv hs hw fun a hs=>?_;refine cl hs (uB hw) fun a W hs hw=>?_;refine sv hs hw fun a hs=>?_;refine aG hs (hc:=uA (by rw [uC,aC9];exact hm1) hw) (k:=?_);rintro e' W' ⟨rfl,H3,hle3,hw⟩;refine ⟨_,rfl,fun a hs=>?_⟩;refine sc hs ?_;exact cP hs rfl ⟨rfl,H3,hle3,hw⟩
 |false=>
  rw [c1] at hs;rw [if_neg (of_decide_eq_false c1)];refine sv hs hw fun a hs=>?_;refine cl hs (uB hw) fun a W hs hw=>?_;refine sv hs hw fun a hs=>?_;refine aG hs (hc:=uA (by rw [uC];exact hm1) hw) (k:=?_);rintro e' W' ⟨rfl,H3,hle3,hw⟩;refine ⟨_,rfl,fun a hs=>?_⟩;refine sc hs ?_;exact cP hs rfl ⟨rfl,H3,hle3,hw⟩
end
section
variable {H H':Fh} {p pl:Nat} {pv pt mv:Value} {r:RaftD} {w0 W:World} {R L:List Res} {l:LogD} {v:Value}
theorem uD (hw:Has 0 w0 W (aF H p r::R)):
  Calls Tryz.prog 56 ⟨[ptr p]⟩ W fun e W'=>e= .returned (.int .i64 r.role)∧Has 0 w0 W' (aF H p r::R):=by
 obtain ⟨pl,pv,pt,mv,hw⟩:=dG hw;refine enter Tryz.func56 Tryz.ntmps56 rfl rfl fun a hs=>?_;refine sv hs hw fun a hs=>?_;exact rt1 hs rfl rfl ⟨rfl,cG hw⟩
theorem aIK (hw:Has 0 w0 W (aF H p r::R)):
  Calls Tryz.prog 124 ⟨[ptr p]⟩ W fun e W'=>e= .returned (.int .i64 r.commit)∧Has 0 w0 W' (aF H p r::R):=by
 obtain ⟨pl,pv,pt,mv,hw⟩:=dG hw;refine enter Tryz.func124 Tryz.ntmps124 rfl rfl fun a hs=>?_;refine sv hs hw fun a hs=>?_;exact rt1 hs rfl rfl ⟨rfl,cG hw⟩
theorem aIL (hw:Has 0 w0 W (aF H p r::R)):
  Calls Tryz.prog 21 ⟨[ptr p]⟩ W fun e W'=>e= .returned (.agg ⟨[.int .i64 r.h.term,.int .i64 r.h.vote]⟩)∧Has 0 w0 W' (aF H p r::R):=by
 obtain ⟨pl,pv,pt,mv,hw⟩:=dG hw;refine enter Tryz.func21 Tryz.ntmps21 rfl rfl fun a hs=>?_;refine sc hs ?_;refine sn hs hw fun b a W hs hw=>?_;refine sx hs hw fun a W hs hw=>?_;exact rc1 hs rfl rfl hw inn rfl ⟨rfl,cG (hw.d1)⟩
theorem oS (hw:Has 0 w0 W (aK p r pl pv pt mv::R)):
  Calls Tryz.prog 67 ⟨[ptr p]⟩ W fun e W'=>e= .returned (ptr pl)∧Has 0 w0 W' (aK p r pl pv pt mv::R):=by
 refine enter Tryz.func67 Tryz.ntmps67 rfl rfl fun a hs=>?_;refine sv hs hw fun a hs=>?_;exact rt1 hs rfl rfl ⟨rfl,hw⟩
theorem aIM (id:Int) (h:fV) (commit:Int) (hr:qH id h l commit=some r) (hw:Has 0 w0 W (aH pl l::R)):
  Calls Tryz.prog 92 ⟨[.int .i64 id,.agg ⟨[.int .i64 h.term,.int .i64 h.vote]⟩,ptr pl,.int .i64 commit]⟩ W fun e W'=>∃q:Nat,e= .returned (ptr q)∧True∧Has 0 w0 W' (aF H q r::R):=by
 unfold qH at hr;split at hr
 ·cases hr
 rename_i hn;obtain rfl:=Option.some.inj hr;have c1:decide (id<1)=false:=decide_eq_false (by omega);have c2:decide (id > 7)=false:=decide_eq_false (by omega);have c3:jH h=true:=by cases hh:jH h with|true=>rfl|false=>exact absurd (.inr (.inr (.inl hh))) hn
 have c4:decide (commit<l.s.ix)=false:=decide_eq_false (by omega);have c5:decide (commit > l.last)=false:=decide_eq_false (by omega);refine enter Tryz.func92 Tryz.ntmps92 rfl rfl fun a hs=>?_;refine sc hs ?_;refine sn hs hw fun b a W hs hw=>?_;refine sv hs hw fun a hs=>?_;rw [c1] at hs;refine sv hs hw fun a hs=>?_;rw [c2] at hs;refine sv hs hw fun a hs=>?_;refine cl hs ((wal_May_hard (h:=h)).ok hw) fun a W hs hw=>?_;rw [c3] at hs;refine sx hs hw fun a W hs hw=>?_;rw [c4] at hs;refine sx hs hw fun a W hs hw=>?_;rw [c5] at hs;refine sv hs hw fun a hs=>?_;refine sn hs hw fun q a W hs hw=>?_;refine sv hs hw fun a hs=>?_;refine rt1 hs rfl rfl ⟨q,rfl,trivial,?_⟩;have hw:Has 0 w0 W (Sx.Own 38 13 (.slice none 0 0) 0 []::_):=hw.nilOwn 38 13;have hw:=j0 (H:=H) (l:=[]) hw rfl;have hw:=(hw.fact (show Value.pointer none=Value.pointer none from rfl)).fact (show Value.pointer none=Value.pointer none from rfl);exact cG (r:=⟨id,h,l,commit,0,0,false,none,none,bT⟩) (pl:=pl) (pv:= .pointer none) (pt:= .pointer none) (mv:= .slice none 0 0) (hw.sl)
end
end Go.Proofs.YtgpbngfehfbndaaGreatDoor.Sw
