/-
  Texts of the proof, one behind the other (part 25).
-/
import Derived.Test.YtgpbngfehfbndaaGreatDoorM20
import Derived.Test.YtgpbngfehfbndaaGreatDoorChecked
import Derived.Test.YtgpbngfehfbndaaGreatDoorProg
set_option maxHeartbeats 16000000
set_option linter.unusedVariables false
set_option maxRecDepth 10000
namespace Go.Proofs.YtgpbngfehfbndaaGreatDoor.Sw
open Go.RowKit Go.Sx
theorem aC5 {α:Type} {p:α→Bool} {l:List α} {i:Nat} {o:α} (h:l[i]? =some o) (ha:(l.take i).any p=false) (hp:p o=false):(l.take (i+1)).any p=false:=by
 rw [gB h,List.any_append,ha];simp [hp]
def kT (x:Int):Bool:=decide (x<0) || decide (x > 1099511627776)
section
variable {p:Nat} {l:LogD} {w0 W:World} {L R:List Res}
theorem aHv (x:Int):Get Tryz.prog 237 [.int .i64 x] L (.bool (kT x)) L:=⟨fun {w W} hw=>by
 refine enter Tryz.func237 Tryz.ntmps237 rfl rfl fun a hs=>?_;refine sv hs hw fun a hs=>?_;unfold kT;cases c1:decide (x<0) with
 |true=>
  rw [c1] at hs;refine sv hs hw fun a hs=>?_;exact rt1 hs rfl rfl ⟨rfl,hw⟩
 |false=>
  rw [c1] at hs;refine sv hs hw fun a hs=>?_
  exact rt1 hs rfl rfl ⟨rfl,hw⟩⟩
theorem aHw (all:List Int) (v:Value) (r:∀{W},Has 0 w0 W R→Rd W 1 v all.length (bU all)) (hw:Has 0 w0 W R):
  Calls Tryz.prog 271 ⟨[v,.func (.func 237) ⟨[]⟩ ⟨[]⟩]⟩ W fun e W'=>∃i:Int,e= .returned (.int .i64 i)∧decide (i≥0)=all.any kT∧Has 0 w0 W' R:=by
 obtain ⟨sad,scap,rfl⟩:∃ad cap,v= .slice ad all.length cap:=by obtain ⟨_,ad,cap,e,_⟩:=r hw;exact ⟨ad,cap,e⟩
 have hlen:=(r hw).len;refine enter Tryz.func271 Tryz.ntmps271 rfl rfl fun a hs=>?_;refine sv hs hw fun a hs=>?_;refine bY (σ:=Nat) (fun i=>[(0,.slice sad all.length scap),(1,.func (.func 237) ⟨[]⟩ ⟨[]⟩),(7,.int .i64 (all.length:Int)),(8,.int .i64 (i:Int))]) (fun _=>R) (fun i=>i≤all.length∧(all.take i).any kT=false) (fun i=>all.length - i) 0 ⟨Nat.zero_le _,rfl⟩ hs ⟨rfl,rfl,rfl,rfl,trivial⟩ hw ?_;clear hs hw;rintro i a W ⟨hi,ha⟩ hs hw;refine sv hs hw fun a hs=>?_;refine cI hs (kt:=fun hcc=>?_) (kf:=fun hcc=>?_)
 ·have hi':i<all.length:=by simpa using hcc
  obtain ⟨o,ho,hd⟩:=dR hi';refine sv hs hw fun a hs=>?_;refine hQ hs (r hw) ho rfl fun a b f hs=>?_;refine sN hs (hf:=by kernel_rfl) (hc:=(aHv (L:=R) o).ok hw.rebase) (k:=?_);rintro e0 W1 ⟨rfl,hw'⟩;refine ⟨_,rfl,fun a hs=>?_⟩;have hw:=hw.trans hw';cases hq:kT o with
  |true=>
   rw [hq] at hs;refine sv hs hw fun a hs=>?_;exact rt1 hs rfl rfl ⟨_,rfl,by rw [List.any_eq_true.2 ⟨o,List.mem_of_getElem? ho,hq⟩];exact decide_eq_true (by omega),hw⟩
  |false=>
   rw [hq] at hs;refine sv hs hw fun a hs=>?_;exact bQ (i+1) hs hw ⟨hi',aC5 ho ha hq⟩ (by show all.length - (i+1)<all.length - i;omega) ⟨rfl,rfl,rfl,bR (i1 (by omega)),trivial⟩
 ·have:all.take i=all:=List.take_of_length_le (by simp at hcc;omega);rw [this] at ha;refine sv hs hw fun a hs=>?_;exact rt1 hs rfl rfl ⟨_,rfl,by rw [ha];decide,hw⟩
theorem aHx (all:List Int) (v:Value) (r:∀{W},Has 0 w0 W R→Rd W 1 v all.length (bU all)) (hw:Has 0 w0 W R):
  Calls Tryz.prog 162 ⟨[v]⟩ W fun e W'=>e= .returned (.bool (!all.any kT))∧Has 0 w0 W' R:=by
 have h1:∀{W},Has 0 w0 W R→Calls Tryz.prog 236 ⟨[v,.func (.func 237) ⟨[]⟩ ⟨[]⟩]⟩ W fun e W'=>e= .returned (.bool (all.any kT))∧Has 0 w0 W' R:=by
  intro W hw;refine enter Tryz.func236 Tryz.ntmps236 rfl rfl fun a hs=>?_;refine sv hs hw fun a hs=>?_;refine aG hs (hc:=aHw all v r hw) (k:=?_);rintro e0 W1 ⟨i,rfl,hi,hw⟩;refine ⟨_,rfl,fun a hs=>?_⟩;refine sv hs hw fun a hs=>?_;rw [hi] at hs;exact rt1 hs rfl rfl ⟨rfl,hw⟩
 refine enter Tryz.func162 Tryz.ntmps162 rfl rfl fun a hs=>?_;refine sv hs hw fun a hs=>?_;refine cl hs (h1 hw) fun a W hs hw=>?_;refine sv hs hw fun a hs=>?_;exact rt1 hs rfl rfl ⟨rfl,hw⟩
theorem aHy (x:Int):kT x=!dB x:=by unfold kT dB;cases decide (x<0) <;> cases decide (x > 1099511627776) <;> rfl
theorem aHz (s:eC) (l:List cD) (v:Value) (hm:x9 s l=true) (hc:s.conf.size≤1000000) (hd:∀e∈l,e.data.size≤1000000) (hr:∀{W},Has 0 w0 W R→Rd W 4 v l.length (l.flatMap bD)) (hw:Has 0 w0 W R):
  Calls Tryz.prog 93 ⟨[.agg ⟨fG s⟩,v]⟩ W fun e W'=>∃q:Nat,e= .returned (ptr q)∧True∧Has 0 w0 W' (aH q ⟨s,l⟩::R):=by
 unfold x9 at hm;simp only [Bool.and_eq_true] at hm;obtain ⟨⟨⟨h1,h2⟩,h3⟩,h4⟩:=hm;have h3':decide ((l.length:Int) > 200)=false:=by simpa using h3
 have h200:=of_decide_eq_false h3';have hin:0≤s.ix∧s.ix≤1099511627776:=by unfold dB at h1;simp at h1;omega
 obtain ⟨vad,vcap,rfl⟩:∃ad cap,v= .slice ad l.length cap:=by obtain ⟨_,ad,cap,e,_⟩:=hr hw;exact ⟨ad,cap,e⟩
 have ho:([s.ix,s.term].any kT)=false:=by simp [aHy,h1,h2]
 refine enter Tryz.func93 Tryz.ntmps93 rfl rfl fun a hs=>?_;refine sc hs ?_;refine sn hs hw fun b2 a W hs hw=>?_;refine sv hs hw fun a hs=>?_;refine sn hs hw fun b3 a W hs hw=>?_;replace hw:Has 0 w0 W (aA b3 (bU [s.ix,s.term]) 2::aA b2 (fG s) 36::R):=hw;refine cl hs (aHx [s.ix,s.term] _ (fun h=>h.rd_lit (cs:=bU [s.ix,s.term]) (n:=2) (size:=1) In.hd (by rfl) (by omega)) hw) fun a W hs hw=>?_;rw [ho] at hs;refine sv hs hw fun a hs=>?_;rw [h3'] at hs;refine sv hs hw fun a hs=>?_;refine cl hs (aCD w0 _ s.ix s.term l _ _ (fun h=>hr (h.d2)) hw) fun a W hs hw=>?_;rw [h4] at hs;refine sv hs hw fun a hs=>?_;replace hw:Has 0 w0 W (aA b2 (fG s) 36::R):=hw.d1;refine bG [2,4] [.f 0 1,.f 0 0,.m 0,.f 1 1,.m 1,.f 2 2] [.c0 _,.c0 _,.c1 (fun x=> .slice x.ad l.length x.cap),.c1 _,.c2 (fun x y=>ptr y.n),.c2 _] (aA b2 (fG s) 36::R) (fun x=>bV (.slice x.ad l.length x.cap) l::aA b2 (fG s) 36::R) (fun x y=>eT y.n s (.slice x.ad l.length x.cap)::bV (.slice x.ad l.length x.cap) l::aA b2 (fG s) 36::R) (fun x y z=>[]) (fun x y z t=>[]) hs hw ?kk ⟨drs,drs,?m0,drs,drn,drs,trivial⟩
 case m0=>
  intro x y z t LD a W hs hw;refine cle hs (tN w0 W l _ _ (by omega) (fun h=>hr (h.d1)) hw) fun x a W _ hs hw=>?_;exact ⟨{ad:=x.1,cap:=x.2},hs,hw⟩
 case kk=>
  intro x y a W hs hw;refine sc hs ?_;refine rt1 hs rfl rfl ⟨y.n,rfl,trivial,?_⟩;exact iD (l:=⟨s,l⟩) (hw.sl) ⟨hin.1,hin.2,by show l.length≤200;omega,hc,hd⟩
end
end Go.Proofs.YtgpbngfehfbndaaGreatDoor.Sw
