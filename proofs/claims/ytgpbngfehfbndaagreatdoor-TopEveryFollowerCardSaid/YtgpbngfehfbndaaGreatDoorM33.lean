/-
  Texts of the proof, one behind the other (part 33).
-/
import Derived.Test.YtgpbngfehfbndaaGreatDoorM32
import Derived.Test.YtgpbngfehfbndaaGreatDoorChecked
import Derived.Test.YtgpbngfehfbndaaGreatDoorProg
set_option maxHeartbeats 16000000
set_option linter.unusedVariables false
set_option maxRecDepth 10000
namespace Go.Proofs.YtgpbngfehfbndaaGreatDoor.Sw
open Go.RowKit Go.Sx
section
variable {H H':Fh} {p q pk pr pt:Nat} {s:cN} {w0 W:World} {R L:List Res} {d d':bF} {k k':dX} {o:fQ}
abbrev aP (p pk pr pt:Nat):Res:=aA p [ptr pk,ptr pr,ptr pt,.bool false] 98
theorem aCf (l:LogD) (i:Int) (n:Nat):(l.get i (n:Int)).length≤n:=by
 unfold LogD.get;split
 ·exact Nat.zero_le _
 ·rw [List.length_take];omega
theorem aIN (h:qL d s o=some (d',k')):o.snap=false∧∃d1 k1 d2 k2,(if o.hard=true then oJ d s.k s.r.h else some (d,s.k))=some (d1,k1)∧(if 0<o.from_ then yA d1 k1 (s.r.l.get o.from_ 200) else some (d1,k1))=some (d2,k2)∧(if o.hard=true∨0<o.from_ then (qI d2).map (fun d=>(d,k2)) else some (d2,k2))=some (d',k'):=by
 unfold qL at h;split at h
 ·cases h
 ·rename_i hn;refine ⟨by simpa using hn,?_⟩;cases hh:o.hard <;> by_cases hf:0<o.from_ <;> simp only [hh,hf,Bool.false_eq_true,if_true,if_false,or_true,true_or,or_self,Option.bind_some,Option.bind_eq_some_iff,Option.some.injEq,Prod.exists,Option.bind_eq_bind] at h⊢
  ·obtain ⟨d2,k2,h2,h3⟩:=h;exact ⟨d,s.k,d2,k2,rfl,h2,h3⟩
  ·exact ⟨d,s.k,d,s.k,rfl,rfl,h⟩
  ·obtain ⟨d1,k1,h1,d2,k2,h2,h3⟩:=h;exact ⟨d1,k1,d2,k2,h1,h2,h3⟩
  ·obtain ⟨d1,k1,h1,h3⟩:=h;exact ⟨d1,k1,d1,k1,h1,rfl,h3⟩
theorem aIO {oad:Option Addr} {on ocap:Nat} (hk:qL d s o=some (d',k')) (hw:Has 0 w0 W (aP p pk pr pt::aV pk q s.k::aF H pr s.r::aB nameS q d::R)):
  Calls Tryz.prog 123 ⟨[ptr p,.agg ⟨aU o (.slice oad on ocap)⟩]⟩ W fun e W'=>e= .returned (.int .i64 0)∧Has 0 w0 W' (aP p pk pr pt::aV pk q k'::aF H pr s.r::aB nameS q d'::R):=by
 obtain ⟨hsn,d1,k1,d2,k2,h1,h2,h3⟩:=aIN hk;clear hk;refine enter Tryz.func123 Tryz.ntmps123 rfl rfl fun a hs=>?_;refine sc hs ?_;refine sn hs hw fun b3 a W hs hw=>?_;have hw:Has 0 w0 W (aP p pk pr pt::aV pk q (s.k)::aF H pr s.r::aB nameS q (d)::aA b3 (aU o (.slice oad on ocap)) 103::R):=hw.pm;refine zE hs hw ?_;clear hs;intro a hs;refine sq ?_;refine eW (M:=fun a W=>Slots a 101 [(0,ptr p),(3,ptr b3)]∧Has 0 w0 W (aP p pk pr pt::aV pk q (k1)::aF H pr s.r::aB nameS q (d1)::aA b3 (aU o (.slice oad on ocap)) 103::R)) ?_ ?_
 ·refine sx hs hw fun a W hs hw=>?_;cases c1:o.hard with
  |false=>
   rw [c1] at h1 hs;have h1:some (d,s.k)=some (d1,k1):=h1;injection h1 with h1;injection h1 with e1 e2;subst e1 e2;refine sc hs ?_;exact ⟨hs.ot,hw⟩
  |true=>
   rw [c1] at h1 hs;have h1:oJ d s.k s.r.h=some (d1,k1):=h1;refine zG hs ?_;refine bG [8,9] [.f 0 1,.f 0 1,.f 0 1,.f 0 1,.f 0 0,.f 0 0,.f 0 0,.f 0 0,.m 0,.m 1,.f 2 2] [.c0 _,.c0 _,.c0 _,.c0 _,.c0 _,.c0 _,.c0 _,.c0 _,.c1 (fun x=> .agg ⟨[.int .i64 s.r.h.term,.int .i64 s.r.h.vote]⟩),.c2 (fun x y=> .int .i64 0),.c2 _] (aP p pk pr pt::aV pk q (s.k)::aF H pr s.r::aB nameS q (d)::aA b3 (aU o (.slice oad on ocap)) 103::R) (fun x=>aP p pk pr pt::aV pk q (s.k)::aF H pr s.r::aB nameS q (d)::aA b3 (aU o (.slice oad on ocap)) 103::R) (fun x y=>aP p pk pr pt::aV pk q (k1)::aF H pr s.r::aB nameS q (d1)::aA b3 (aU o (.slice oad on ocap)) 103::R) (fun x y z=>[]) (fun x y z t=>[]) hs hw ?kk ⟨drs,drs,drs,drs,drs,drs,drs,drs,?m0,?m1,drs,trivial⟩
   case m0=>
    intro x y z t LD a W hs hw;have hw:Has 0 w0 W (aF H pr s.r::aP p pk pr pt::aV pk q s.k::aB nameS q d::aA b3 (aU o (.slice oad on ocap)) 103::R):=hw.pm;refine cl hs (aIL hw) fun a W hs hw=>?_;exact ⟨{},hs,hw.pm⟩
   case m1=>
    intro x y z t LD a W hs hw;have hw:Has 0 w0 W (aV pk q s.k::aB nameS q d::aP p pk pr pt::aF H pr s.r::aA b3 (aU o (.slice oad on ocap)) 103::R):=hw.pm;refine cl hs (aHW h1 hw) fun a W hs hw=>?_;exact ⟨{},hs,hw.pm⟩
   case kk=>
    intro _ _ a W hs hw;refine sv hs hw fun a hs=>?_;exact ⟨hs.ot,hw⟩
 clear hs hw;rintro a W ⟨hs,hw⟩;refine sx hs hw fun a W hs hw=>?_;rw [hsn] at hs;replace hs:Slots a 101 [(27,.bool false),(0,ptr p),(3,ptr b3)]:=hs.ot;refine zH hs ?_;refine sq ?_;refine eW (M:=fun a W=>Slots a 101 [(0,ptr p),(3,ptr b3)]∧Has 0 w0 W (aP p pk pr pt::aV pk q (k2)::aF H pr s.r::aB nameS q (d2)::aA b3 (aU o (.slice oad on ocap)) 103::R)) ?_ ?_
 ·refine sx hs hw fun a W hs hw=>?_;cases c1:decide (o.from_ > 0) with
  |false=>
   rw [c1] at hs;rw [if_neg (of_decide_eq_false c1)] at h2;injection h2 with h2;injection h2 with e1 e2;subst e1 e2;refine sc hs ?_;exact ⟨hs.ot,hw⟩
  |true=>
   rw [c1] at hs;rw [if_pos (of_decide_eq_true c1)] at h2;have hw:Has 0 w0 W (aF H pr s.r::aP p pk pr pt::aV pk q k1::aB nameS q d1::aA b3 (aU o (.slice oad on ocap)) 103::R):=hw.pm;obtain ⟨pl,pv,pu,mv,hw⟩:=dG hw;have hw:Has 0 w0 W (aP p pk pr pt::aV pk q (k1)::aK pr s.r pl pv pu mv::aH pl s.r.l::VoR pv s.r.v::ToR pu s.r.t::aD H mv s.r.out.msgs::aB nameS q (d1)::aA b3 (aU o (.slice oad on ocap)) 103::R):=hw.pm;have hgl:(s.r.l.get o.from_ 200).length≤200:=aCf s.r.l o.from_ 200;have hback:∀{W},Has 0 w0 W (aP p pk pr pt::aV pk q (k2)::aK pr s.r pl pv pu mv::aH pl s.r.l::VoR pv s.r.v::ToR pu s.r.t::aD H mv s.r.out.msgs::aB nameS q (d2)::aA b3 (aU o (.slice oad on ocap)) 103::R)→Has 0 w0 W (aP p pk pr pt::aV pk q (k2)::aF H pr s.r::aB nameS q (d2)::aA b3 (aU o (.slice oad on ocap)) 103::R):=fun {W} h=>by
    have h:Has 0 w0 W (aF H pr s.r::aP p pk pr pt::aV pk q k2::aB nameS q d2::aA b3 (aU o (.slice oad on ocap)) 103::R):=cG (h.pm);exact h.pm
   refine zG hs ?_;refine bG [8,11,12] [.f 0 2,.f 0 2,.f 0 2,.f 0 2,.f 0 0,.f 0 0,.f 0 0,.f 0 0,.m 0,.f 0 1,.f 0 1,.m 1,.m 2,.f 3 3] [.c0 _,.c0 _,.c0 _,.c0 _,.c0 _,.c0 _,.c0 _,.c0 _,.c1 (fun x=>ptr pl),.c0 _,.c0 _,.c2 (fun x y=> .slice y.ad (s.r.l.get o.from_ 200).length y.cap),.c3 (fun x y z=> .int .i64 0),.c3 _] (aP p pk pr pt::aV pk q (k1)::aK pr s.r pl pv pu mv::aH pl s.r.l::VoR pv s.r.v::ToR pu s.r.t::aD H mv s.r.out.msgs::aB nameS q (d1)::aA b3 (aU o (.slice oad on ocap)) 103::R) (fun x=>aP p pk pr pt::aV pk q (k1)::aK pr s.r pl pv pu mv::aH pl s.r.l::VoR pv s.r.v::ToR pu s.r.t::aD H mv s.r.out.msgs::aB nameS q (d1)::aA b3 (aU o (.slice oad on ocap)) 103::R) (fun x y=>bV (.slice y.ad (s.r.l.get o.from_ 200).length y.cap) (s.r.l.get o.from_ 200)::aP p pk pr pt::aV pk q (k1)::aK pr s.r pl pv pu mv::aH pl s.r.l::VoR pv s.r.v::ToR pu s.r.t::aD H mv s.r.out.msgs::aB nameS q (d1)::aA b3 (aU o (.slice oad on ocap)) 103::R) (fun x y z=>aP p pk pr pt::aV pk q (k2)::aK pr s.r pl pv pu mv::aH pl s.r.l::VoR pv s.r.v::ToR pu s.r.t::aD H mv s.r.out.msgs::aB nameS q (d2)::aA b3 (aU o (.slice oad on ocap)) 103::R) (fun x y z t=>[]) hs hw ?kk ⟨drs,drs,drs,drs,drs,drs,drs,drs,?m0,drs,drs,?m1,?m2,drs,trivial⟩
   case m0=>
    intro x y z t LD a W hs hw;have hw:Has 0 w0 W (aK pr s.r pl pv pu mv::aP p pk pr pt::aV pk q k1::aH pl s.r.l::VoR pv s.r.v::ToR pu s.r.t::aD H mv s.r.out.msgs::aB nameS q d1::aA b3 (aU o (.slice oad on ocap)) 103::R):=hw.pm;refine cl hs (oS hw) fun a W hs hw=>?_;exact ⟨{},hs,hw.pm⟩
   case m1=>
    intro x y z t LD a W hs hw;refine sg hs hw (fun s a W hs hw=>?_) (g:=nL);exact ⟨{ad:=s.1,cap:=s.2},hs,hw⟩
   case m2=>
    intro x y z t LD a W hs hw;have hw:Has 0 w0 W (aV pk q k1::aB nameS q d1::bV (.slice y.ad (s.r.l.get o.from_ 200).length y.cap) (s.r.l.get o.from_ 200)::aP p pk pr pt::aK pr s.r pl pv pu mv::aH pl s.r.l::VoR pv s.r.v::ToR pu s.r.t::aD H mv s.r.out.msgs::aA b3 (aU o (.slice oad on ocap)) 103::R):=hw.pm;refine cl hs (aHX _ _ (by omega) (fun h=>h.rd_own In.hd) h2 hw) fun a W hs hw=>?_;exact ⟨{},hs,hw.sl⟩
   case kk=>
    intro _ _ _ a W hs hw;refine sv hs hw fun a hs=>?_;exact ⟨hs.ot,hback hw⟩
 clear hs hw;rintro a W ⟨hs,hw⟩;refine sq ?_;refine sq ?_;refine eW (M:=fun a W=>∃g:Bool,(g=true↔(o.hard=true∨0<o.from_))∧Slots a 101 [(95,.bool g),(0,ptr p),(3,ptr b3)]∧Has 0 w0 W (aP p pk pr pt::aV pk q (k2)::aF H pr s.r::aB nameS q (d2)::aA b3 (aU o (.slice oad on ocap)) 103::R)) ?_ ?_
 ·refine sx hs hw fun a W hs hw=>?_;cases c1:o.hard with
  |true=>
   rw [c1] at hs;refine sv hs hw fun a hs=>?_;exact ⟨true,by simp,hs.ot,hw⟩
  |false=>
   rw [c1] at hs;refine sv hs hw fun a hs=>?_;exact ⟨decide (o.from_ > 0),by simp,hs.ot,hw⟩
 clear hs hw;rintro a W ⟨g,hg,hs,hw⟩;cases g with
 |true=>
  rw [if_pos (hg.1 rfl),Option.map_eq_some_iff] at h3;obtain ⟨d3,h3,h4⟩:=h3;injection h4 with e1 e2;subst e1 e2;have hw:Has 0 w0 W (aV pk q k2::aP p pk pr pt::aF H pr s.r::aB nameS q d2::aA b3 (aU o (.slice oad on ocap)) 103::R):=hw.pm;obtain ⟨hko,ad,cap,hw⟩:=tS hw;refine sv hs hw fun a hs=>?_;have hw:Has 0 w0 W (cQ pk q k2.h k2.s (.slice ad k2.log.length cap) k2.size::aB nameS q d2::fB (.slice ad k2.log.length cap) k2.log::aP p pk pr pt::aF H pr s.r::aA b3 (aU o (.slice oad on ocap)) 103::R):=hw.pm;refine cl hs (aHQ (by have:=hko.2.1;omega) h3 hw) fun a W hs hw=>?_;refine sv hs hw fun a hs=>?_;refine rt1 hs rfl rfl ⟨rfl,?_⟩;have hw:Has 0 w0 W (aV pk q k2::aB nameS q d3::aP p pk pr pt::aF H pr s.r::aA b3 (aU o (.slice oad on ocap)) 103::R):=aHV (hw.pm) hko;exact hw.sl
 |false=>
  rw [if_neg (fun h=>by have:=hg.2 h;cases this)] at h3;injection h3 with h3;injection h3 with e1 e2;subst e1 e2;refine sv hs hw fun a hs=>?_;exact rt1 hs rfl rfl ⟨rfl,hw.sl⟩
end
end Go.Proofs.YtgpbngfehfbndaaGreatDoor.Sw
namespace Go.Sx
open Go.RowKit
class g0 (H H':Fh) (r:Res) (r':outParam Res):Prop where
 le:∀{w W:World} {R:List Res},H.le H'→Has 0 w W (r::R)→Has 0 w W (r'::R)
class uE (H H':Fh) (L:List Res) (L':outParam (List Res)):Prop where
 le:∀{w W:World} {R:List Res},H.le H'→Has 0 w W (L ++ R)→Has 0 w W (L' ++ R)
instance (priority:=low) (H H':Fh) (r:Res):g0 H H' r r:=⟨fun _ h=>h⟩
instance (priority:=low) (H H':Fh) (L:List Res):uE H H' L L:=⟨fun _ h=>h⟩
instance (H H':Fh) (r r':Res) (L L':List Res) [x:g0 H H' r r'] [y:uE H H' L L']:uE H H' (r::L) (r'::L'):=⟨fun {w W R} hl h=>by
 have h1:Has 0 w W (r'::(L ++ R)):=x.le hl h;have h2:Has 0 w W (L ++ (r'::R)):=h1.perm (List.perm_middle.symm)
 exact (y.le hl h2).perm List.perm_middle⟩
theorem Has.lz {w W:World} {H H':Fh} {L L':List Res} [y:uE H H' L L'] (h:Has 0 w W L) (hl:H.le H'):Has 0 w W L':=by
 have:=y.le (R:=[]) hl (by rw [List.append_nil];exact h);rwa [List.append_nil] at this
end Go.Sx
namespace Go.Proofs.YtgpbngfehfbndaaGreatDoor.Sw
open Go.RowKit Go.Sx
section
variable {H H':Fh} {p q pk pr pt:Nat} {s s':cN} {w0 W:World} {R L:List Res} {d d':bF} {k k':dX} {o:fQ} {ms:List bS}
def cC (H:Fh) (p q:Nat) (s:cN):Res:=Ex fun x:Nat×Nat×Nat=>aP p x.1 x.2.1 x.2.2::aV x.1 q s.k::aF H x.2.1 s.r::aO H x.2.2 s.t::bO (lJ s.r=true∧lI s.t=true):: []
theorem gN (h:Has 0 w0 W (aP p pk pr pt::aV pk q s.k::aF H pr s.r::aO H pt s.t::R)) (h1:lJ s.r=true) (h2:lI s.t=true):Has 0 w0 W (cC H p q s::R):=Has.shut (pk,pr,pt) ((h.fact (And.intro h1 h2)).pm)
theorem iY (h:Has 0 w0 W (cC H p q s::R)):lJ s.r=true∧lI s.t=true∧∃pk pr pt,Has 0 w0 W (aP p pk pr pt::aV pk q s.k::aF H pr s.r::aO H pt s.t::R):=by
 obtain ⟨⟨pk,pr,pt⟩,h⟩:=Has.open h;have h:Has 0 w0 W (aP p pk pr pt::aV pk q s.k::aF H pr s.r::aO H pt s.t::bO (lJ s.r=true∧lI s.t=true)::R):=h;obtain ⟨h1,h2⟩:=h.told (In.tl (In.tl (In.tl (In.tl In.hd))));exact ⟨h1,h2,pk,pr,pt,h.sl⟩
theorem aCg (h:Has 0 w0 W (cC H p q s::R)) (hl:H.le H'):Has 0 w0 W (cC H' p q s::R):=by
 obtain ⟨h1,h2,pk,pr,pt,h⟩:=iY h;have h:=aCN (h.pm:Has 0 w0 W (aF H pr s.r::aP p pk pr pt::aV pk q s.k::aO H pt s.t::R)) hl;have h:=x8 (h.pm:Has 0 w0 W (aO H pt s.t::aP p pk pr pt::aV pk q s.k::aF H' pr s.r::R)) hl;exact gN (h.pm) h1 h2
instance (H H':Fh) (p:Nat) (f:dZ):g0 H H' (aY H p f) (aY H' p f):=⟨fun hl h=>kM h hl⟩
instance (H H':Fh) (p:Nat) (f:dU):g0 H H' (aO H p f) (aO H' p f):=⟨fun hl h=>x8 h hl⟩
instance (H H':Fh) (p:Nat) (f:eL):g0 H H' (bA H p f) (bA H' p f):=⟨fun hl h=>aBZ h hl⟩
instance (H H':Fh) (v:Value) (l:List bS):g0 H H' (aD H v l) (aD H' v l):=⟨fun hl h=>yP h hl⟩
instance (H H':Fh) (p:Nat) (r:RaftD):g0 H H' (aF H p r) (aF H' p r):=⟨fun hl h=>aCN h hl⟩
instance (H H':Fh) (p q:Nat) (s:cN):g0 H H' (cC H p q s) (cC H' p q s):=⟨fun hl h=>aCg h hl⟩
theorem aIP (t:dU) (e:cD):(eD t e).1.rows.length≤t.rows.length+1:=by
 unfold eD qD;split
 ·split
  ·split <;> simp
  ·exact Nat.le_succ _
 ·exact Nat.le_succ _
theorem aIQ {l:LogD} {i n:Int} {e:cD} (h:e∈l.get i n):e∈l.l:=by
 unfold LogD.get at h;split at h
 ·cases h
 ·exact List.mem_of_mem_drop (List.mem_of_mem_take h)
theorem aIR {s':cN} (h:lK d s o=some (d',s',ms)):∃k',qL d s o=some (d',k')∧oK 300 s.r s.t=some s'.t∧s'=⟨k',s.r,s'.t⟩∧oL s'=true∧ms=o.msgs:=by
 unfold lK at h;simp only [Option.bind_eq_bind,Option.bind_eq_some_iff] at h;obtain ⟨⟨d1,k1⟩,h1,t1,h2,h3⟩:=h;split at h3
 ·rename_i hok;injection h3 with h3;injection h3 with e1 h3;injection h3 with e2 e3;subst e1 e2 e3;exact ⟨k1,h1,h2,rfl,hok,rfl⟩
 ·cases h3
theorem aCh {l:LogD} (h:kR l) {i n:Int}:∀e∈l.get i n,e.data.size≤1000000:=fun e he=>h.2.2.2.2 e (aIQ he)
theorem aCi {l:LogD} {pl:Nat} (h:Has 0 w0 W (aH pl l::R)):kR l:=(iU h).1
theorem uF {oad:Option Addr} {ocap:Nat} (h:lK d s o=some (d',s',ms)) (hrows:s.t.rows.length≤1000) (hH:(fr w0).le H) (hT:Tabs w0) (hw:Has 0 w0 W (aP p pk pr pt::aV pk q s.k::aF H pr s.r::aO H pt s.t::aB nameS q d::Fz H::aD (H) (.slice oad o.msgs.length ocap) o.msgs::R)):
  Calls Tryz.prog 71 ⟨[ptr p,.agg ⟨aU o (.slice oad o.msgs.length ocap)⟩]⟩ W fun e W'=>∃(v:Value) (H':Fh),e= .returned v∧H.le H'∧Has 0 w0 W' (aD H' v ms::cC H' p q s'::aB nameS q d'::Fz H'::R):=by
 obtain ⟨k',hk,hcu,hs',hok,rfl⟩:=aIR h;obtain ⟨t',ht'⟩:∃t',t'=s'.t:=⟨_,rfl⟩
 rw [←ht'] at hcu hs';clear ht';subst hs';have hok1:lJ s.r=true∧lI t'=true:=by
  unfold oL at hok;simp only [Bool.and_eq_true] at hok;exact hok.1
 clear h hok;refine enter Tryz.func71 Tryz.ntmps71 rfl rfl fun a hs=>?_;refine sc hs ?_;refine sn hs hw fun b3 a W hs hw=>?_;have hw:Has 0 w0 W (aP p pk pr pt::aV pk q s.k::aF H pr s.r::aB nameS q d::aO H pt s.t::Fz H::aD (H) (.slice oad o.msgs.length ocap) o.msgs::aA b3 (aU o (.slice oad o.msgs.length ocap)) 103::R):=hw.pm;refine sx hs hw fun a W hs hw=>?_;refine cl hs (aIO hk hw) fun a W hs hw=>?_;have hw:Has 0 w0 W (aO (H) pt (s.t)::Fz (H)::aF (H) pr s.r::aP p pk pr pt::aV pk q k'::aB nameS q d'::aD (H) (.slice oad o.msgs.length ocap) o.msgs::aA b3 (aU o (.slice oad o.msgs.length ocap)) 103::R):=hw.pm;refine sv hs hw fun a hs=>?_;refine bY (σ:=Nat×dU×Fh) (fun u=>[(0,ptr p),(3,ptr b3)]) (fun u=>aO (u.2.2) pt (u.2.1)::Fz (u.2.2)::aF (u.2.2) pr s.r::aP p pk pr pt::aV pk q k'::aB nameS q d'::aD (u.2.2) (.slice oad o.msgs.length ocap) o.msgs::aA b3 (aU o (.slice oad o.msgs.length ocap)) 103::R) (fun u=>oK u.1 s.r u.2.1=some t'∧u.2.1.rows.length+u.1≤1300∧H.le u.2.2) (fun u=>u.1) (300,s.t,H) ⟨hcu,by show s.t.rows.length+300≤1300;omega,Fh.le.refl H⟩ hs ⟨rfl,rfl,trivial⟩ hw ?_;clear hs hw hcu hk;rintro ⟨n,t,H2⟩ a W ⟨hcu,hr1,hle⟩ hs hw;simp only at hcu hr1 hle hs hw;obtain ⟨n,rfl⟩:∃m,n=m+1:=by cases n with|zero=>cases hcu|succ m=>exact ⟨m,rfl⟩
 have hcu:(if t.ix<s.r.commit then (match s.r.l.get (w64 (t.ix+1)) 1 with| []=>some t|e::_=>oK n s.r (eD t e).1) else some t)=some t':=hcu;refine zG hs ?_;refine bG [4,9] [.f 0 0,.f 0 0,.f 0 0,.f 0 0,.m 0,.f 0 1,.f 0 1,.f 0 1,.f 0 1,.m 1,.f 2 2] [.c0 _,.c0 _,.c0 _,.c0 _,.c1 (fun x=> .int .i64 t.ix),.c0 _,.c0 _,.c0 _,.c0 _,.c2 (fun x y=> .int .i64 s.r.commit),.c2 _] (aO (H2) pt (t)::Fz (H2)::aF (H2) pr s.r::aP p pk pr pt::aV pk q k'::aB nameS q d'::aD (H2) (.slice oad o.msgs.length ocap) o.msgs::aA b3 (aU o (.slice oad o.msgs.length ocap)) 103::R) (fun x=>aO (H2) pt (t)::Fz (H2)::aF (H2) pr s.r::aP p pk pr pt::aV pk q k'::aB nameS q d'::aD (H2) (.slice oad o.msgs.length ocap) o.msgs::aA b3 (aU o (.slice oad o.msgs.length ocap)) 103::R) (fun x y=>aO (H2) pt (t)::Fz (H2)::aF (H2) pr s.r::aP p pk pr pt::aV pk q k'::aB nameS q d'::aD (H2) (.slice oad o.msgs.length ocap) o.msgs::aA b3 (aU o (.slice oad o.msgs.length ocap)) 103::R) (fun x y z=>[]) (fun x y z t=>[]) hs hw ?kk ⟨drs,drs,drs,drs,?m0,drs,drs,drs,drs,?m1,drs,trivial⟩
 case m0=>
  intro x y z u LD a W hs hw;refine cl hs (tB w0 _ H2 pt t _ hw) fun a W hs hw=>?_;exact ⟨{},hs,hw⟩
 case m1=>
  intro x y z u LD a W hs hw;have hw:Has 0 w0 W (aF H2 pr s.r::aO H2 pt t::Fz H2::aP p pk pr pt::aV pk q k'::aB nameS q d'::aD (H2) (.slice oad o.msgs.length ocap) o.msgs::aA b3 (aU o (.slice oad o.msgs.length ocap)) 103::R):=hw.pm;refine cl hs (aIK hw) fun a W hs hw=>?_;exact ⟨{},hs,hw.pm⟩
 case kk=>
 intro _ _ a W hs hw;cases c1:decide (t.ix<s.r.commit) with
 |false=>
  rw [c1] at hs;rw [if_neg (of_decide_eq_false c1)] at hcu;injection hcu with hcu;subst hcu;refine sx hs hw fun a W hs hw=>?_;refine rt1 hs rfl rfl ⟨_,H2,rfl,hle,?_⟩;have hw:Has 0 w0 W (cC H2 p q ⟨k',s.r,t⟩::Fz H2::aB nameS q d'::aD (H2) (.slice oad o.msgs.length ocap) o.msgs::aA b3 (aU o (.slice oad o.msgs.length ocap)) 103::R):=gN (s:=⟨k',s.r,t⟩) (hw.pm) hok1.1 hok1.2;exact hw.sl
 |true=>
 rw [c1] at hs;rw [if_pos (of_decide_eq_true c1)] at hcu;replace hs:Slots a 49 [(23,.bool true),(0,ptr p),(3,ptr b3)]:=hs.ot;have hw:Has 0 w0 W (aF H2 pr s.r::aO H2 pt t::Fz H2::aP p pk pr pt::aV pk q k'::aB nameS q d'::aD (H2) (.slice oad o.msgs.length ocap) o.msgs::aA b3 (aU o (.slice oad o.msgs.length ocap)) 103::R):=hw.pm;obtain ⟨pl,pv,pu,mv,hw⟩:=dG hw;have hlw:=aCh (aCi (hw.pm:Has 0 w0 W (aH pl s.r.l::aK pr s.r pl pv pu mv::VoR pv s.r.v::ToR pu s.r.t::aD H2 mv s.r.out.msgs::aO H2 pt t::Fz H2::aP p pk pr pt::aV pk q k'::aB nameS q d'::aD (H2) (.slice oad o.msgs.length ocap) o.msgs::aA b3 (aU o (.slice oad o.msgs.length ocap)) 103::R))) (i:=w64 (t.ix+1)) (n:=1);refine zG hs ?_;refine bG [4,9,11] [.f 0 0,.f 0 0,.f 0 0,.f 0 0,.m 0,.f 0 1,.f 0 1,.f 0 1,.f 0 1,.m 1,.f 2 2,.m 2,.f 3 3] [.c0 _,.c0 _,.c0 _,.c0 _,.c1 (fun x=>ptr pl),.c0 _,.c0 _,.c0 _,.c0 _,.c2 (fun x y=> .int .i64 t.ix),.c2 _,.c3 (fun x y z=> .slice z.ad (s.r.l.get (w64 (t.ix+1)) 1).length z.cap),.c3 _] (aK pr s.r pl pv pu mv::aH pl s.r.l::VoR pv s.r.v::ToR pu s.r.t::aD (H2) mv s.r.out.msgs::aO (H2) pt (t)::Fz (H2)::aP p pk pr pt::aV pk q k'::aB nameS q d'::aD (H2) (.slice oad o.msgs.length ocap) o.msgs::aA b3 (aU o (.slice oad o.msgs.length ocap)) 103::R) (fun x=>aK pr s.r pl pv pu mv::aH pl s.r.l::VoR pv s.r.v::ToR pu s.r.t::aD (H2) mv s.r.out.msgs::aO (H2) pt (t)::Fz (H2)::aP p pk pr pt::aV pk q k'::aB nameS q d'::aD (H2) (.slice oad o.msgs.length ocap) o.msgs::aA b3 (aU o (.slice oad o.msgs.length ocap)) 103::R) (fun x y=>aK pr s.r pl pv pu mv::aH pl s.r.l::VoR pv s.r.v::ToR pu s.r.t::aD (H2) mv s.r.out.msgs::aO (H2) pt (t)::Fz (H2)::aP p pk pr pt::aV pk q k'::aB nameS q d'::aD (H2) (.slice oad o.msgs.length ocap) o.msgs::aA b3 (aU o (.slice oad o.msgs.length ocap)) 103::R) (fun x y z=>bV (.slice z.ad (s.r.l.get (w64 (t.ix+1)) 1).length z.cap) (s.r.l.get (w64 (t.ix+1)) 1)::aK pr s.r pl pv pu mv::aH pl s.r.l::VoR pv s.r.v::ToR pu s.r.t::aD (H2) mv s.r.out.msgs::aO (H2) pt (t)::Fz (H2)::aP p pk pr pt::aV pk q k'::aB nameS q d'::aD (H2) (.slice oad o.msgs.length ocap) o.msgs::aA b3 (aU o (.slice oad o.msgs.length ocap)) 103::R) (fun x y z t=>[]) hs hw ?kk ⟨drs,drs,drs,drs,?m0,drs,drs,drs,drs,?m1,drs,?m2,drs,trivial⟩
 case m0=>
  intro x y z u LD a W hs hw;refine cl hs (oS hw) fun a W hs hw=>?_;exact ⟨{},hs,hw⟩
 case m1=>
  intro x y z u LD a W hs hw;have hw:Has 0 w0 W (aO H2 pt t::aK pr s.r pl pv pu mv::aH pl s.r.l::VoR pv s.r.v::ToR pu s.r.t::aD H2 mv s.r.out.msgs::Fz H2::aP p pk pr pt::aV pk q k'::aB nameS q d'::aD (H2) (.slice oad o.msgs.length ocap) o.msgs::aA b3 (aU o (.slice oad o.msgs.length ocap)) 103::R):=hw.pm;refine cl hs (tB w0 _ H2 pt t _ hw) fun a W hs hw=>?_;exact ⟨{},hs,hw.pm⟩
 case m2=>
  intro x y z u LD a W hs hw;refine sg hs hw (fun s a W hs hw=>?_) (g:=nL);exact ⟨{ad:=s.1,cap:=s.2},hs,hw⟩
 case kk=>
 intro _ _ zz a W hs hw;obtain ⟨es,hes⟩:∃es,es=s.r.l.get (w64 (t.ix+1)) 1:=⟨_,rfl⟩
 rw [←hes] at hs hw hcu hlw;clear hes;replace hs:Slots a 49 [(0,ptr p),(3,ptr b3),(5,.slice zz.ad es.length zz.cap)]:=hs.ot;have hw:Has 0 w0 W (aF H2 pr s.r::bV (.slice zz.ad es.length zz.cap) es::aO H2 pt t::Fz H2::aP p pk pr pt::aV pk q k'::aB nameS q d'::aD (H2) (.slice oad o.msgs.length ocap) o.msgs::aA b3 (aU o (.slice oad o.msgs.length ocap)) 103::R):=cG (hw.pm);obtain ⟨zad,hzad⟩:∃zad,zad=zz.ad:=⟨_,rfl⟩
 obtain ⟨zcap,hzcap⟩:∃zcap,zcap=zz.cap:=⟨_,rfl⟩
 rw [←hzad,←hzcap] at hs hw;clear hzad hzcap;have hw:Has 0 w0 W (bV (.slice zad es.length zcap) es::aO (H2) pt (t)::Fz (H2)::aF (H2) pr s.r::aP p pk pr pt::aV pk q k'::aB nameS q d'::aD (H2) (.slice oad o.msgs.length ocap) o.msgs::aA b3 (aU o (.slice oad o.msgs.length ocap)) 103::R):=hw.pm;cases es with
 |nil=>
  have hcu:some t=some t':=hcu;injection hcu with hcu;subst hcu;refine sv hs hw fun a hs=>?_;refine rt1 hs rfl rfl ⟨_,H2,rfl,hle,?_⟩;have hw:Has 0 w0 W (cC H2 p q ⟨k',s.r,t⟩::Fz H2::aB nameS q d'::aD (H2) (.slice oad o.msgs.length ocap) o.msgs::aA b3 (aU o (.slice oad o.msgs.length ocap)) 103::R):=gN (s:=⟨k',s.r,t⟩) (hw.sl) hok1.1 hok1.2;exact hw.sl
 |cons e r=>
 have hcu:oK n s.r (eD t e).1=some t':=hcu;have hpos:0<(e::r).length:=Nat.succ_pos _;obtain ⟨b,off,cap,hv,_⟩:=jZ (hw.rd_own In.hd) hpos;injection hv with hv1 _ hv2;subst hv1 hv2;have hk0:(0:Int)≤0:=by omega
 have hk1:(0:Int)<(((e::r).length:Nat):Int):=by omega
 have hed:=hlw e (List.mem_cons_self ..);have har:=aIP t e;refine sv hs hw fun a hs=>?_;rw [show ((((e::r).length:Nat):Int) == 0)=false by simp;omega] at hs;refine zG hs ?_;refine bG [7] [.f 0 0,.f 0 0,.f 0 0,.f 0 0,.f 0 0,.f 0 0,.f 0 0,.m 0] [.c0 _,.c0 _,.c0 _,.c0 _,.c0 _,.c0 _,.c0 (.agg ⟨bD e⟩),.c1 (fun x=>x.v)] (bV (.slice (some ⟨b,off,none⟩) (e::r).length zcap) (e::r)::aO (H2) pt (t)::Fz (H2)::aF (H2) pr s.r::aP p pk pr pt::aV pk q k'::aB nameS q d'::aD (H2) (.slice oad o.msgs.length ocap) o.msgs::aA b3 (aU o (.slice oad o.msgs.length ocap)) 103::R) (fun x=>bV (.slice (some ⟨b,off,none⟩) (e::r).length zcap) (e::r)::aO x.H pt (eD t e).1::FzF x.H (H2.le x.H)::aF H2 pr s.r::aP p pk pr pt::aV pk q k'::aB nameS q d'::aD (H2) (.slice oad o.msgs.length ocap) o.msgs::aA b3 (aU o (.slice oad o.msgs.length ocap)) 103::R) (fun x y=>[]) (fun x y z=>[]) (fun x y z t=>[]) hs hw ?kk ⟨drs,drs,drs,drs,drs,drs,?f6,?m0,trivial⟩
 case f6=>
  refine ⟨?_,trivial,trivial,trivial,trivial⟩;intro x y z u LD a W hs hw
  refine eE hs (z:=zEnt) (cs:=bD e) (hc:=fun j x hx=>mI (hw.rd_own In.hd) hpos j x (by
   rw [List.flatMap_cons,List.getElem?_append_left]
   ·exact hx
   ·exact (List.getElem?_eq_some_iff.1 hx).1)) (hl:=by rfl) (c:=fun a hs=>?_)
  exact ⟨hs,hw⟩
 case m0=>
  intro x y z u LD a W hs hw;have hw:Has 0 w0 W (aO H2 pt t::Fz H2::bV (.slice (some ⟨b,off,none⟩) (e::r).length zcap) (e::r)::aF H2 pr s.r::aP p pk pr pt::aV pk q k'::aB nameS q d'::aD (H2) (.slice oad o.msgs.length ocap) o.msgs::aA b3 (aU o (.slice oad o.msgs.length ocap)) 103::R):=hw.pm;refine aG hs (hc:=aGm w0 _ H2 pt t e _ (by omega) hed (hH.trans hle) hT hw) (k:=?_);rintro e' W' ⟨sv',H3,rfl,hle3,_,hw⟩;refine ⟨_,rfl,fun a hs=>?_⟩;have hw:Has 0 w0 W' (Fz H3::aO H3 pt (eD t e).1::bV (.slice (some ⟨b,off,none⟩) (e::r).length zcap) (e::r)::aF H2 pr s.r::aP p pk pr pt::aV pk q k'::aB nameS q d'::aD (H2) (.slice oad o.msgs.length ocap) o.msgs::aA b3 (aU o (.slice oad o.msgs.length ocap)) 103::R):=hw.pm;have hw:=hw.fzf hle3;exact ⟨{H:=H3,v:=_},hs,hw.pm⟩
 case kk=>
 intro x a W hs hw;have hw:Has 0 w0 W (FzF x.H (H2.le x.H)::aO x.H pt (eD t e).1::aF H2 pr s.r::aP p pk pr pt::aV pk q k'::aB nameS q d'::aD (H2) (.slice oad o.msgs.length ocap) o.msgs::aA b3 (aU o (.slice oad o.msgs.length ocap)) 103::R):=hw.sl;obtain ⟨hle3,hw⟩:=hw.unfzf;have hw:=hw.lz hle3;have hw:Has 0 w0 W (aO (x.H) pt ((eD t e).1)::Fz (x.H)::aF (x.H) pr s.r::aP p pk pr pt::aV pk q k'::aB nameS q d'::aD (x.H) (.slice oad o.msgs.length ocap) o.msgs::aA b3 (aU o (.slice oad o.msgs.length ocap)) 103::R):=hw.pm;refine sc hs ?_;exact bQ (n,(eD t e).1,x.H) hs hw ⟨hcu,by show (eD t e).1.rows.length+n≤1300;omega,hle.trans hle3⟩ (by show n<n+1;omega) ⟨rfl,rfl,trivial⟩
end
section
variable {H H':Fh} {p q pk pr pt:Nat} {s s':cN} {w0 W:World} {R L:List Res} {d d':bF} {k k':dX} {o:fQ} {ms:List bS}
theorem uG {r:RaftD} (h:lJ r=true):r.out.msgs.length≤800∧∀o,r.v=some o→o.yes.length≤1000∧o.no.length≤1000:=by
 unfold lJ at h;rw [Bool.and_eq_true,decide_eq_true_eq] at h;refine ⟨by omega,fun o ho=>?_⟩;rw [ho] at h;have h2:=h.2;simp only [Bool.and_eq_true,decide_eq_true_eq] at h2;omega
theorem mJ {t:dU} (h:lI t=true):t.rows.length≤1000∧(∀r∈t.rows,mG r=true)∧∀x∈t.f.told,x.2.b.l.length≤8:=by
 unfold lI at h;simp only [Bool.and_eq_true,decide_eq_true_eq,List.all_eq_true] at h;exact ⟨h.1.1,h.1.2,h.2⟩
theorem uH (hw:Has 0 w0 W (aP p pk pr pt::R)):Calls Tryz.prog 65 ⟨[ptr p]⟩ W fun e W'=>e= .returned (.bool false)∧Has 0 w0 W' (aP p pk pr pt::R):=by
 refine enter Tryz.func65 Tryz.ntmps65 rfl rfl fun a hs=>?_;refine sv hs hw fun a hs=>?_;exact rt1 hs rfl rfl ⟨rfl,hw⟩
theorem aIS (h:aBm d s=some (d',s',ms)) (hH:(fr w0).le H) (hT:Tabs w0) (hw:Has 0 w0 W (cC H p q s::aB nameS q d::Fz H::R)):
  Calls Tryz.prog 46 ⟨[ptr p]⟩ W fun e W'=>∃(v:Value) (H':Fh),e= .returned v∧H.le H'∧Has 0 w0 W' (aD H' v ms::cC H' p q s'::aB nameS q d'::Fz H'::R):=by
 obtain ⟨h1,h2,pk,pr,pt,hw⟩:=iY hw;obtain ⟨hm,hv⟩:=uG h1;have ht:=mJ h2;refine enter Tryz.func46 Tryz.ntmps46 rfl rfl fun a hs=>?_;refine sv hs hw fun a hs=>?_;refine cl hs (uH hw) fun a W hs hw=>?_;refine sv hs hw fun a hs=>?_;have hw:Has 0 w0 W (aF H pr s.r::Fz H::aP p pk pr pt::aV pk q s.k::aO H pt s.t::aB nameS q d::R):=hw.pm;refine aG hs (hc:=aIJ hm hw) (k:=?_);rintro e' W' ⟨H1,x,rfl,hle1,hw⟩;refine ⟨_,rfl,fun a hs=>?_⟩;have hw:=hw.lz hle1;have hw:Has 0 w0 W' (aP p pk pr pt::aV pk q s.k::aF H1 pr s.r.fire.1::aO H1 pt s.t::aB nameS q d::Fz H1::aD H1 (.slice x.1 s.r.fire.2.msgs.length x.2) s.r.fire.2.msgs::R):=hw.pm;refine aG hs (hc:=uF (s:={s with r:=s.r.fire.1}) h ht.1 (hH.trans hle1) hT hw) (k:=?_);rintro e' W' ⟨v,H2,rfl,hle2,hw⟩;refine ⟨_,rfl,fun a hs=>?_⟩;refine sv hs hw fun a hs=>?_;exact rt1 hs rfl rfl ⟨v,H2,rfl,hle1.trans hle2,hw⟩
theorem aIT (m:bS) (v:Value) (hm:fW H v m.es) (hc:m.snap.conf.size≤1000000) (h:yB d s m=some (d',s',ms)) (hH:(fr w0).le H) (hT:Tabs w0) (hw:Has 0 w0 W (cC H p q s::aB nameS q d::Fz H::R)):
  Calls Tryz.prog 49 ⟨[ptr p,.agg ⟨aI m v⟩]⟩ W fun e W'=>∃(v:Value) (H':Fh),e= .returned v∧H.le H'∧Has 0 w0 W' (aD H' v ms::cC H' p q s'::aB nameS q d'::Fz H'::R):=by
 obtain ⟨mad,mcap,rfl⟩:=hm.slice;obtain ⟨h1,h2,pk,pr,pt,hw⟩:=iY hw;obtain ⟨hmm,hv⟩:=uG h1;have ht:=mJ h2;obtain ⟨h5,h⟩:m.kind≠5∧lK d {s with r:=(s.r.step m).1} (s.r.step m).2=some (d',s',ms):=by
  unfold yB at h;split at h
  ·cases h
  ·rename_i h5;exact ⟨h5,h⟩
 refine enter Tryz.func49 Tryz.ntmps49 rfl rfl fun a hs=>?_;refine sc hs ?_;refine sn hs hw fun b3 a W hs hw=>?_;refine sv hs hw fun a hs=>?_;have hw:Has 0 w0 W (aP p pk pr pt::aV pk q s.k::aF H pr s.r::aO H pt s.t::aB nameS q d::Fz H::aA b3 (aI m (.slice mad m.es.length mcap)) 38::R):=hw.pm;refine cl hs (uH hw) fun a W hs hw=>?_;refine zG hs ?_;refine bG [6,7] [.f 0 1,.f 0 0,.f 0 0,.f 0 0,.f 0 0,.f 0 0,.m 0,.m 1,.f 2 2] [.c0 _,.c0 _,.c0 _,.c0 _,.c0 _,.c0 _,.c1 (fun x=> .agg ⟨aU (s.r.step m).2 (.slice x.ad (s.r.step m).2.msgs.length x.cap)⟩),.c2 (fun x y=>y.v),.c2 _] (aP p pk pr pt::aV pk q s.k::aF H pr s.r::aO H pt s.t::aB nameS q d::Fz H::aA b3 (aI m (.slice mad m.es.length mcap)) 38::R) (fun x=>FzF x.H (H.le x.H)::aD x.H (.slice x.ad (s.r.step m).2.msgs.length x.cap) (s.r.step m).2.msgs::aF x.H pr (s.r.step m).1::aP p pk pr pt::aV pk q s.k::aO H pt s.t::aB nameS q d::aA b3 (aI m (.slice mad m.es.length mcap)) 38::R) (fun x y=>FzF y.H (H.le y.H)::aD y.H y.v ms::cC y.H p q s'::aB nameS q d'::aA b3 (aI m (.slice mad m.es.length mcap)) 38::R) (fun x y z=>[]) (fun x y z t=>[]) hs hw ?kk ⟨drs,drs,drs,drs,drs,drs,?m0,?m1,drs,trivial⟩
 case m0=>
  intro x y z u LD a W hs hw;have hw:Has 0 w0 W (aF H pr s.r::Fz H::aP p pk pr pt::aV pk q s.k::aO H pt s.t::aB nameS q d::aA b3 (aI m (.slice mad m.es.length mcap)) 38::R):=hw.pm;refine aG hs (hc:=aII m _ hm hc h5 hmm hv hw) (k:=?_);rintro e' W' ⟨H1,x1,rfl,hle1,hw⟩;refine ⟨_,rfl,fun a hs=>?_⟩;have hw:Has 0 w0 W' (Fz H1::aD H1 (.slice x1.1 (s.r.step m).2.msgs.length x1.2) (s.r.step m).2.msgs::aF H1 pr (s.r.step m).1::aP p pk pr pt::aV pk q s.k::aO H pt s.t::aB nameS q d::aA b3 (aI m (.slice mad m.es.length mcap)) 38::R):=hw.pm;exact ⟨{H:=H1,ad:=x1.1,cap:=x1.2},hs,hw.fzf hle1⟩
 case m1=>
  intro x y z u LD a W hs hw;obtain ⟨hle1,hw⟩:=hw.unfzf;have hw:=hw.lz hle1;have hw:Has 0 w0 W (aP p pk pr pt::aV pk q s.k::aF x.H pr (s.r.step m).1::aO x.H pt s.t::aB nameS q d::Fz x.H::aD x.H (.slice x.ad (s.r.step m).2.msgs.length x.cap) (s.r.step m).2.msgs::aA b3 (aI m (.slice mad m.es.length mcap)) 38::R):=hw.pm;refine aG hs (hc:=uF (s:={s with r:=(s.r.step m).1}) h ht.1 (hH.trans hle1) hT hw) (k:=?_);rintro e' W' ⟨v,H2,rfl,hle2,hw⟩;refine ⟨_,rfl,fun a hs=>?_⟩;have hw:Has 0 w0 W' (Fz H2::aD H2 v ms::cC H2 p q s'::aB nameS q d'::aA b3 (aI m (.slice mad m.es.length mcap)) 38::R):=hw.pm;exact ⟨{H:=H2,v:=v},hs,hw.fzf (hle1.trans hle2)⟩
 case kk=>
 intro _ y a W hs hw;have hw:Has 0 w0 W (FzF y.H (H.le y.H)::aD y.H y.v ms::cC y.H p q s'::aB nameS q d'::aA b3 (aI m (.slice mad m.es.length mcap)) 38::R):=hw;obtain ⟨hle,hw⟩:=hw.unfzf;refine sc hs ?_;exact rt1 hs rfl rfl ⟨y.v,y.H,rfl,hle,hw.sl⟩
end
end Go.Proofs.YtgpbngfehfbndaaGreatDoor.Sw
