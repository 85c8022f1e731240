import Derived.Test.YtgpbngfehfbndaaGreatDoorV29
set_option maxHeartbeats 16000000
set_option linter.all false
set_option maxRecDepth 100000
namespace Go.Proofs.YtgpbngfehfbndaaGreatDoor.Sw
open Go.RowKit Go.Sx
section
variable {H H':Fh} {p q ps:Nat} {w0 W:World} {R L:List Res} {u:cZ} {s:fA} {d d':bM} {ad:Option Addr} {cap:Nat} {xs:List Value}
abbrev tQ:List Value:=[.int .i64 0,.int .i64 0,.slice none 0 0]
theorem aH9 (r:cC) {rad:Option Addr} {rcap:Nat} (hv:cG H (.slice rad r.b.l.length rcap) r.b.l) (hf:qY u) (hc:Ch (BatIn H) u.added xs) (i:In (Fz H) R) (hw:Has 0 w0 W (bK p q u.c (.slice ad u.added.length cap) ps::Sx.Own 66 3 (.slice ad u.added.length cap) u.added.length xs::aV H ps u.s::R)):
  Calls Tryz.prog 251 ⟨[ptr p,.agg ⟨aI r (.slice rad r.b.l.length rcap)⟩]⟩ W fun e W'=>e= .returned (.bool (fG u r))∧Has 0 w0 W' (bK p q u.c (.slice ad u.added.length cap) ps::Sx.Own 66 3 (.slice ad u.added.length cap) u.added.length xs::aV H ps u.s::R):=by
 have hq:fG u r=(if r.b.c≠u.c then true else decide (r.b.q≥1) && decide (r.b.q≤(u.added.length:Int)) && eqL r.b.l (u.added.getD (r.b.q - 1).toNat ⟨0,0,[]⟩).l):=rfl;refine en Tryz.func251 Tryz.ntmps251 fun a hs=>?_;refine sc hs ?_;refine sn hs hw fun b3 a W hs hw=>?_;have drop:∀{W},Has 0 w0 W (aA b3 (aI r (.slice rad r.b.l.length rcap)) 68::bK p q u.c (.slice ad u.added.length cap) ps::Sx.Own 66 3 (.slice ad u.added.length cap) u.added.length xs::aV H ps u.s::R)→Has 0 w0 W (bK p q u.c (.slice ad u.added.length cap) ps::Sx.Own 66 3 (.slice ad u.added.length cap) u.added.length xs::aV H ps u.s::R):=fun h=>h.d1;have hw:Has 0 w0 W (aA b3 (aI r (.slice rad r.b.l.length rcap)) 68::bK p q u.c (.slice ad u.added.length cap) ps::Sx.Own 66 3 (.slice ad u.added.length cap) u.added.length xs::aV H ps u.s::R):=hw;refine zA hs hw ?_;clear hs;intro a hs;refine rgp [_,_,_,_,_,_,_,_] hs hw fun a W hs hw=>?_;cases c1:(r.b.c !=u.c) with
 |true=>
  rw [c1] at hs;rw [hq,if_pos (by simpa using c1)];refine sv hs hw fun a hs=>?_;exact rt1 hs rfl rfl ⟨rfl,drop hw⟩
 |false=>
 rw [c1] at hs;rw [hq,if_neg (by simpa using c1)];refine sc hs ?_;cases c2:decide (r.b.q≥1) with
 |false=>
  refine bB [30] [Sp.f 0 0,Sp.f 0 0,Sp.f 0 0,Sp.f 0 0,Sp.f 0 0,Sp.f 0 0,Sp.f 0 0,Sp.f 0 0,Sp.f 0 0,Sp.f 0 0,Sp.f 0 0,Sp.f 0 0,Sp.f 0 0,Sp.f 0 0,Sp.f 0 0,Sp.f 0 0,Sp.f 0 0,Sp.f 0 0,Sp.f 0 0,Sp.f 0 0,Sp.f 0 0,Sp.f 0 0,Sp.f 0 0,Sp.f 0 0,Sp.f 0 0,Sp.f 0 0,Sp.f 0 0,Sp.f 0 0,Sp.f 0 0,Sp.f 0 0,Sp.m 0,Sp.f 1 1,Sp.f 1 1] [En.c0 _,En.c0 _,En.c0 _,En.c0 (.bool false),En.c0 _,En.c0 _,En.c0 _,En.c0 _,En.c0 _,En.c0 _,En.c0 _,En.c0 _,En.c0 _,En.c0 _,En.c0 _,En.c0 _,En.c0 _,En.c0 _,En.c0 _,En.c0 _,En.c0 _,En.c0 _,En.c0 _,En.c0 _,En.c0 _,En.c0 _,En.c0 _,En.c0 _,En.c0 _,En.c0 _,En.c1 (fun x=>undef),En.c1 _,En.c1 _] (aA b3 (aI r (.slice rad r.b.l.length rcap)) 68::bK p q u.c (.slice ad u.added.length cap) ps::Sx.Own 66 3 (.slice ad u.added.length cap) u.added.length xs::aV H ps u.s::R) (fun x=>aA b3 (aI r (.slice rad r.b.l.length rcap)) 68::bK p q u.c (.slice ad u.added.length cap) ps::Sx.Own 66 3 (.slice ad u.added.length cap) u.added.length xs::aV H ps u.s::R) (fun x y=>[]) (fun x y z=>[]) (fun x y z t=>[]) hs hw ?kk ⟨drs,drs,drs,?f3,drs,drs,drs,drs,drs,drs,drs,drs,drs,drs,drs,drs,drs,drs,drs,drs,drs,drs,drs,drs,drs,drs,drs,drs,drs,drs,drm,drs,drs,trivial⟩
  case f3=>
   refine ⟨?_,trivial,trivial,trivial,trivial⟩;intro x y z t LD a W hs hw;refine sv hs hw fun a hs=>?_;rw [c2] at hs;exact ⟨hs,hw⟩
  case kk=>
   intro _ a W hs hw;refine sc hs ?_;exact rt1 hs rfl rfl ⟨rfl,drop hw⟩
 |true=>
 cases c3:decide (r.b.q≤(u.added.length:Int)) with
 |false=>
  refine bB [30] [Sp.f 0 0,Sp.f 0 0,Sp.f 0 0,Sp.f 0 0,Sp.f 0 0,Sp.f 0 0,Sp.f 0 0,Sp.f 0 0,Sp.f 0 0,Sp.f 0 0,Sp.f 0 0,Sp.f 0 0,Sp.f 0 0,Sp.f 0 0,Sp.f 0 0,Sp.f 0 0,Sp.f 0 0,Sp.f 0 0,Sp.f 0 0,Sp.f 0 0,Sp.f 0 0,Sp.f 0 0,Sp.f 0 0,Sp.f 0 0,Sp.f 0 0,Sp.f 0 0,Sp.f 0 0,Sp.f 0 0,Sp.f 0 0,Sp.f 0 0,Sp.m 0,Sp.f 1 1,Sp.f 1 1] [En.c0 _,En.c0 _,En.c0 _,En.c0 (.bool true),En.c0 _,En.c0 _,En.c0 _,En.c0 _,En.c0 _,En.c0 _,En.c0 _,En.c0 _,En.c0 _,En.c0 (.bool false),En.c0 _,En.c0 _,En.c0 _,En.c0 _,En.c0 _,En.c0 _,En.c0 _,En.c0 _,En.c0 _,En.c0 _,En.c0 _,En.c0 _,En.c0 _,En.c0 _,En.c0 _,En.c0 _,En.c1 (fun x=>undef),En.c1 _,En.c1 _] (aA b3 (aI r (.slice rad r.b.l.length rcap)) 68::bK p q u.c (.slice ad u.added.length cap) ps::Sx.Own 66 3 (.slice ad u.added.length cap) u.added.length xs::aV H ps u.s::R) (fun x=>aA b3 (aI r (.slice rad r.b.l.length rcap)) 68::bK p q u.c (.slice ad u.added.length cap) ps::Sx.Own 66 3 (.slice ad u.added.length cap) u.added.length xs::aV H ps u.s::R) (fun x y=>[]) (fun x y z=>[]) (fun x y z t=>[]) hs hw ?kk ⟨drs,drs,drs,?f3,drs,drs,drs,drs,drs,drs,drs,drs,drs,?f13,drs,drs,drs,drs,drs,drs,drs,drs,drs,drs,drs,drs,drs,drs,drs,drs,drm,drs,drs,trivial⟩
  case f3=>
   refine ⟨?_,trivial,trivial,trivial,trivial⟩;intro x y z t LD a W hs hw;refine sv hs hw fun a hs=>?_;rw [c2] at hs;exact ⟨hs,hw⟩
  case f13=>
   refine ⟨?_,trivial,trivial,trivial,trivial⟩;intro x y z t LD a W hs hw;refine sv hs hw fun a hs=>?_;rw [c3] at hs;exact ⟨hs,hw⟩
  case kk=>
   intro _ a W hs hw;refine sc hs ?_;exact rt1 hs rfl rfl ⟨rfl,drop hw⟩
 |true=>
 have g2:=of_decide_eq_true c2;have g3:=of_decide_eq_true c3;have hal:=hf.added.1;obtain ⟨I,hI⟩:∃I:Nat,r.b.q - 1=(I:Int):=⟨(r.b.q - 1).toNat,by omega⟩
 have hIl:I<u.added.length:=by omega
 obtain ⟨bt,hbt⟩:∃bt,u.added[I]? =some bt:=⟨_,List.getElem?_eq_getElem hIl⟩
 have hgd:u.added.getD (r.b.q - 1).toNat ⟨0,0,[]⟩=bt:=by
  rw [hI,Int.toNat_natCast,List.getD_eq_getElem?_getD,hbt];rfl
 obtain ⟨bc,⟨sv,rfl,hsv⟩,_,hcut⟩:=hc.get BatIn.len hbt;obtain ⟨sad,scap,rfl⟩:=hsv.slice;rw [hgd];obtain ⟨g,off,cap',hvv,_⟩:=jX ((drop hw).rd_own (In.tl In.hd)) (by omega);injection hvv with hv1 _ hv2;subst hv1 hv2;have hI64:IntKind.i64.wrap (r.b.q - 1)=(I:Int):=by rw [IntWalk.i64_in _ (by omega)];exact hI
 have hcell:∀{W},Has 0 w0 W (aA b3 (aI r (.slice rad r.b.l.length rcap)) 68::bK p q u.c (.slice (some ⟨g,off,none⟩) u.added.length cap) ps::Sx.Own 66 3 (.slice (some ⟨g,off,none⟩) u.added.length cap) u.added.length xs::aV H ps u.s::R)→W.cell? ⟨g,off+I*3+2,none⟩=some (.slice sad bt.l.length scap):=fun h=>by
  rw [Nat.add_assoc];refine kG (h.rd_own (In.tl (In.tl In.hd))) (by omega) (I*3+2) _ ?_;have h9:=congrArg (fun t=>t[2]?) hcut;simp only [gB,List.getElem?_take,List.getElem?_drop] at h9;rw [if_pos (by omega)] at h9;exact h9
 refine bB [30] [Sp.f 0 0,Sp.f 0 0,Sp.f 0 0,Sp.f 0 0,Sp.f 0 0,Sp.f 0 0,Sp.f 0 0,Sp.f 0 0,Sp.f 0 0,Sp.f 0 0,Sp.f 0 0,Sp.f 0 0,Sp.f 0 0,Sp.f 0 0,Sp.f 0 0,Sp.f 0 0,Sp.f 0 0,Sp.f 0 0,Sp.f 0 0,Sp.f 0 0,Sp.f 0 0,Sp.f 0 0,Sp.f 0 0,Sp.f 0 0,Sp.f 0 0,Sp.f 0 0,Sp.f 0 0,Sp.f 0 0,Sp.f 0 0,Sp.f 0 0,Sp.m 0,Sp.f 1 1,Sp.f 1 1] [En.c0 _,En.c0 _,En.c0 _,En.c0 (.bool true),En.c0 _,En.c0 _,En.c0 _,En.c0 _,En.c0 _,En.c0 _,En.c0 _,En.c0 _,En.c0 _,En.c0 (.bool true),En.c0 _,En.c0 _,En.c0 _,En.c0 _,En.c0 _,En.c0 _,En.c0 _,En.c0 _,En.c0 _,En.c0 _,En.c0 _,En.c0 _,En.c0 (.int .i64 (I:Int)),En.c0 (.pointer (some ⟨g,off+I*3,none⟩)),En.c0 _,En.c0 (.slice sad bt.l.length scap),En.c1 (fun x=> .bool (eqL r.b.l bt.l)),En.c1 _,En.c1 _] (aA b3 (aI r (.slice rad r.b.l.length rcap)) 68::bK p q u.c (.slice (some ⟨g,off,none⟩) u.added.length cap) ps::Sx.Own 66 3 (.slice (some ⟨g,off,none⟩) u.added.length cap) u.added.length xs::aV H ps u.s::R) (fun x=>aA b3 (aI r (.slice rad r.b.l.length rcap)) 68::bK p q u.c (.slice (some ⟨g,off,none⟩) u.added.length cap) ps::Sx.Own 66 3 (.slice (some ⟨g,off,none⟩) u.added.length cap) u.added.length xs::aV H ps u.s::R) (fun x y=>[]) (fun x y z=>[]) (fun x y z t=>[]) hs hw ?kk ⟨drs,drs,drs,?f3,drs,drs,drs,drs,drs,drs,drs,drs,drs,?f13,drs,drs,drs,drs,drs,drs,drs,drs,drs,drs,drs,drs,?f26,?f27,drs,?f29,?m0,drs,drs,trivial⟩
 case f3=>
  refine ⟨?_,trivial,trivial,trivial,trivial⟩;intro x y z t LD a W hs hw;refine sv hs hw fun a hs=>?_;rw [c2] at hs;exact ⟨hs,hw⟩
 case f13=>
  refine ⟨?_,trivial,trivial,trivial,trivial⟩;intro x y z t LD a W hs hw;refine sv hs hw fun a hs=>?_;rw [c3] at hs;exact ⟨hs,hw⟩
 case f26=>
  refine ⟨?_,trivial,trivial,trivial,trivial⟩;intro x y z t LD a W hs hw;refine sv hs hw fun a hs=>?_;rw [hI64] at hs;exact ⟨hs,hw⟩
 case f27=>
  refine ⟨?_,trivial,trivial,trivial,trivial⟩;intro x y z t LD a W hs hw;refine sc hs ?_;refine eL hs (z:=tQ) (g:=g) (o:=off) (k:=u.added.length) (i:=(I:Int)) (h0:=by omega) (h1:=by omega) (c:=fun a hs=>?_);exact ⟨hs,hw⟩
 case f29=>
  refine ⟨?_,trivial,trivial,trivial,trivial⟩;intro x y z t LD a W hs hw;refine sc hs ?_;refine eQ hs (hc:=hcell hw) (c:=fun a hs=>?_);exact ⟨hs,hw⟩
 case m0=>
  intro x y z t LD a W hs hw;refine sc hs ?_;refine cb hs hw (aAc r.b.l _ bt.l _ W (hw.rdH (In.tl (In.tl (In.tl (In.tl i)))) hv) (hw.rdH (In.tl (In.tl (In.tl (In.tl i)))) hsv)) fun a W hs hw=>?_;exact ⟨{},hs,hw⟩
 case kk=>
  intro _ a W hs hw;refine sc hs ?_;exact rt1 hs rfl rfl ⟨rfl,hw.d1⟩
theorem aHa (r:cC) {b2:Nat} {rad:Option Addr} {rcap:Nat} (hv:cG H (.slice rad r.b.l.length rcap) r.b.l) (hf:qY u) (hc:Ch (BatIn H) u.added xs) (i:In (Fz H) R) (hw:Has 0 w0 W (bK p q u.c (.slice ad u.added.length cap) ps::Sx.Own 66 3 (.slice ad u.added.length cap) u.added.length xs::aV H ps u.s::aA b2 [ptr p] 114::R)):
  Calls Tryz.prog 250 ⟨[.agg ⟨aI r (.slice rad r.b.l.length rcap)⟩,ptr b2]⟩ W fun e W'=>e= .returned (.bool (!fG u r))∧Has 0 w0 W' (bK p q u.c (.slice ad u.added.length cap) ps::Sx.Own 66 3 (.slice ad u.added.length cap) u.added.length xs::aV H ps u.s::aA b2 [ptr p] 114::R):=by
 refine en Tryz.func250 Tryz.ntmps250 fun a hs=>?_;refine sc hs ?_;refine sn hs hw fun b3 a W hs hw=>?_;refine sx hs hw fun a W hs hw=>?_;have hw:Has 0 w0 W (bK p q u.c (.slice ad u.added.length cap) ps::Sx.Own 66 3 (.slice ad u.added.length cap) u.added.length xs::aV H ps u.s::aA b2 [ptr p] 114::aA b3 (aI r (.slice rad r.b.l.length rcap)) 68::R):=hw.pm;refine cl hs (aH9 r hv hf hc (In.tl (In.tl i)) hw) fun a W hs hw=>?_;refine sv hs hw fun a hs=>?_;exact rt1 hs rfl rfl ⟨rfl,hw.sl⟩
theorem aHb {b2:Nat} (rows:List cC) (v:Value) {ys:List Value} (hr:RdH H 5 v rows.length ys) (hys:Ch (RowIn H) rows ys) (hf:qY u) (hc:Ch (BatIn H) u.added xs) (i:In (Fz H) R) (hw:Has 0 w0 W (bK p q u.c (.slice ad u.added.length cap) ps::Sx.Own 66 3 (.slice ad u.added.length cap) u.added.length xs::aV H ps u.s::aA b2 [ptr p] 114::R)):
  Calls Tryz.prog 249 ⟨[v,.func (.func 250) ⟨[]⟩ ⟨[ptr b2]⟩]⟩ W fun e W'=>e= .returned (.int .i64 (if (rows.takeWhile (fG u)).length<rows.length then ((rows.takeWhile (fG u)).length:Int) else -1))∧Has 0 w0 W' (bK p q u.c (.slice ad u.added.length cap) ps::Sx.Own 66 3 (.slice ad u.added.length cap) u.added.length xs::aV H ps u.s::aA b2 [ptr p] 114::R):=by
 obtain ⟨sad,scap,rfl⟩:=hr.slice;have hlen:=hr.len;have i4:In (Fz H) (bK p q u.c (.slice ad u.added.length cap) ps::Sx.Own 66 3 (.slice ad u.added.length cap) u.added.length xs::aV H ps u.s::aA b2 [ptr p] 114::R):=In.tl (In.tl (In.tl (In.tl i)));refine en Tryz.func249 Tryz.ntmps249 fun a hs=>?_;refine sv hs hw fun a hs=>?_;refine bX (σ:=Nat) (fun j=>[(0,.slice sad rows.length scap),(1,.func (.func 250) ⟨[]⟩ ⟨[ptr b2]⟩),(7,.int .i64 (rows.length:Int)),(8,.int .i64 (j:Int))]) (fun _=>bK p q u.c (.slice ad u.added.length cap) ps::Sx.Own 66 3 (.slice ad u.added.length cap) u.added.length xs::aV H ps u.s::aA b2 [ptr p] 114::R) (fun j=>j≤rows.length∧(rows.takeWhile (fG u)).length=j+((rows.drop j).takeWhile (fG u)).length) (fun j=>rows.length - j) 0 ⟨Nat.zero_le _,by simp⟩ hs ⟨rfl,rfl,rfl,rfl,trivial⟩ hw ?_;clear hs hw;rintro j a W ⟨hj,ha⟩ hs hw;refine sv hs hw fun a hs=>?_;refine cI hs (kt:=fun hcc=>?_) (kf:=fun hcc=>?_)
 ·have hj':j<rows.length:=by simpa using hcc
  obtain ⟨o,ho,hd⟩:=dP hj';rw [hd] at ha;refine sv hs hw fun a hs=>?_;refine gT hs (r:=hw.rdH i4 hr) (hk:=RowIn.len) (ch:=hys) (ho:=ho) (hlen:=rfl) (c:=fun a g off c hmc hcl hpc hlt hs=>?_);obtain ⟨sv,rfl,hsv⟩:=hmc;obtain ⟨oad,ocap,rfl⟩:=hsv.slice;refine eC hs (z:=zrc) (cs:=aI o _) (hc:=hpc) (hl:=by rfl) (c:=fun a hs=>?_);refine aAF hs (vs:=[.agg ⟨aI o (.slice oad o.b.l.length ocap)⟩]) (cs:=[ptr b2]) (hf:=by kernel_rfl) (hc:=(show Calls Tryz.prog 250 ⟨[.agg ⟨aI o (.slice oad o.b.l.length ocap)⟩] ++ [ptr b2]⟩ _ _ from aHa o hsv hf hc i hw)) (k:=?_);rintro e0 W1 ⟨rfl,hw⟩;refine ⟨_,rfl,fun a hs=>?_⟩;cases hq:fG u o with
  |false=>
   rw [hq] at hs;have h9:(rows.takeWhile (fG u)).length=j:=by
    rw [ha,List.takeWhile_cons,hq];rfl
   refine sv hs hw fun a hs=>?_;exact rt1 hs rfl rfl ⟨by rw [h9,if_pos hj'],hw⟩
  |true=>
   rw [hq] at hs;refine sv hs hw fun a hs=>?_;refine bS (j+1) hs hw ⟨hj',?_⟩ (by show rows.length - (j+1)<rows.length - j;omega) ⟨rfl,rfl,rfl,bU (i1 (by omega)),trivial⟩;rw [ha,List.takeWhile_cons,hq];simp;omega
 ·have h9:rows.drop j= []:=List.drop_eq_nil_of_le (by simp at hcc;omega);rw [h9] at ha;have hl9:rows.length≤(rows.takeWhile (fG u)).length:=by simp at hcc ha;omega
  refine sv hs hw fun a hs=>?_;exact rt1 hs rfl rfl ⟨by rw [if_neg (by omega)],hw⟩
end
end Go.Proofs.YtgpbngfehfbndaaGreatDoor.Sw
set_option maxRecDepth 10000
namespace Go.Sx
open Go.RowKit
def loV (ad:Option Addr) (sz k cap m:Nat):Value:= .slice (if cap=m then ad else ad.map (·.add (m*sz))) (k - m) (cap - m)
section
variable {P:Program} {ops:Array Oper} {rest:List Oper} {Q:Exit→Act→World→Prop} {a:Act} {n:Nat} {L:List (Nat×Value)} {W:World} {d k cap m:Nat} {T S E:TypeId} {p:String} {e:Array Edge} {x lo:Operand} {ad:Option Addr} {q:IntKind} {z xs:List Value}
theorem aCG {agg:Bool} [sl:Sl P S E] [t:Ty P E agg z] (hs:Slots a n L) (h1:m≤k) (c:∀a',Slots a' n ((d,loV ad z.length k cap m)::L)→wpList P ops Q rest a' W) (hx:ev L x=some (.slice ad k cap):=by with_unfolding_all exact rfl) (hl:ev L lo=some (.int q (m:Int)):=by with_unfolding_all exact rfl) (hd:Nat.blt d n=true:=by with_unfolding_all exact rfl):
  wpList P ops Q (⟨some d,.slice S x (some lo) none none,T,p,e,none⟩::rest) a W:=by
 have hb:(Instr.sliceBound (.int q (m:Int)) k .sliceB).run P W= .ok m W:=by
  have:(0:Int)≤(m:Int)∧(m:Int)≤(k:Int):=⟨by omega,by omega⟩
  simp only [Instr.sliceBound,asIntOf,Sem.run_bind,Sem.run_pure,Result.andThen_ok];rw [if_pos this];simp
 have hbs:(Instr.sliceBounds true k cap (some (.int q (m:Int))) none none).run P W= .ok (m,k,cap) W:=by
  unfold Instr.sliceBounds;simp [hb]
 refine bP hs hd (v:=loV ad z.length k cap m) (W':=W) ?_ c;simp only [execOp,Option.map_some,Option.map_none,hs.ev hx,hs.ev hl,Instr.sliceAt,Instr.slice,Sem.run_bind,run_underlying sl.out,Result.andThen_ok,hbs,t.sizeOf,Sem.run_pure];rfl
theorem aHc {sz:Nat} (r:Rd W sz (.slice ad k cap) k xs) (h1:m≤k):Rd W sz (loV ad sz k cap m) (k - m) (xs.drop (m*sz)):=by
 obtain ⟨hx,ad',cap',e,h3,h4,h5⟩:=r;injection e with e1 _ e3;subst e1 e3;refine ⟨by rw [List.length_drop,hx,Nat.sub_mul],_,_,rfl,by omega,by omega,?_⟩;rcases h5 with rfl|⟨b,o,rfl,hlt,hc⟩
 ·exact .inl (by omega)
 ·by_cases hci:cap=m
  ·exact .inl (by omega)
  ·refine .inr ⟨b,o+m*sz,by rw [if_neg hci];simp [eF],hlt,fun j u hu=>?_⟩;rw [List.getElem?_drop] at hu;rw [Nat.add_assoc];exact hc _ _ hu
end
end Go.Sx
namespace Go.Proofs.YtgpbngfehfbndaaGreatDoor.Sw
open Go.RowKit Go.Sx
open Go.Proofs.Tryz (prog)
section
variable {H H':Fh} {p q ps:Nat} {w0 W:World} {R L:List Res} {u:cZ} {s:fA} {d d':bM} {ad:Option Addr} {cap:Nat} {xs:List Value}
theorem aHd (b:cT) {v:Value} (hb:iK b) (hm:dS b=true) (hv:cG H v b.l) (hH:(fr w0).le H) (hT:Tabs w0) (i:In (Fz H) R) (hw:Has 0 w0 W R):
  Calls prog 117 ⟨[.agg ⟨aK b v⟩]⟩ W fun e W'=>∃x:Option Addr×Nat,e= .returned (.slice x.1 (cR b).length x.2)∧True∧Has 0 w0 W' (bG (.slice x.1 (cR b).length x.2) (cR b)::R):=by
 have henc:(if dO b.c b.q b.l=true then eA b.c b.q b.l else [])=cR b:=if_pos hm;have hlen:=hw.endF i hH;refine (pF b.c b.q b.l v W hb.c hb.q hb.ops (hw.rdH i hv) (hT.keep hlen)).mono ?_;rintro e W' ⟨ad,cap,rfl,_,hw1⟩;rw [henc] at hw1⊢;exact ⟨(ad,cap),rfl,trivial,hw.call hw1⟩
theorem xU {b:cT} (hm:dS b=true):(cR b).length≤1200:=(mK (show dO b.c b.q b.l=true from hm)).2.2.2.2
theorem aHe (r:cC) {rad:Option Addr} {rcap:Nat} (hro:jT r) (hm:dS r.b=true) (hv:cG H (.slice rad r.b.l.length rcap) r.b.l) (hH:(fr w0).le H) (hT:Tabs w0) (i:In (Fz H) R) (hw:Has 0 w0 W R):
  Calls prog 253 ⟨[.agg ⟨aI r (.slice rad r.b.l.length rcap)⟩]⟩ W fun e W'=>∃x:Option Addr×Nat,e= .returned (.slice x.1 (fP r).length x.2)∧True∧Has 0 w0 W' (bG (.slice x.1 (fP r).length x.2) (fP r)::R):=by
 have p1:=Ph.putI_length_le r.place;have p2:=Ph.putI_length_le r.err;have hp1:=hro.place;have hp2:=hro.err;unfold i64 at hp1 hp2;have p3:=xU hm;refine en Tryz.func253 Tryz.ntmps253 fun a hs=>?_;refine sc hs ?_;refine sn hs hw fun b1 a W hs hw=>?_;refine zA hs hw ?_;clear hs;intro a hs;refine bB [2,5] [.f 0 0,.f 0 0,.m 0,.f 0 1,.f 0 1,.m 1,.f 2 2] [.c0 _,.c0 _,.c1 (fun x=> .slice x.ad (Ph.putI r.place).length x.cap),.c0 _,.c0 _,.c2 (fun x y=> .slice y.ad (Ph.putI r.place ++ Ph.putI r.err).length y.cap),.c2 _] (aA b1 (aI r (.slice rad r.b.l.length rcap)) 68::R) (fun x=>bG (.slice x.ad (Ph.putI r.place).length x.cap) (Ph.putI r.place)::aA b1 (aI r (.slice rad r.b.l.length rcap)) 68::R) (fun x y=>bG (.slice y.ad (Ph.putI r.place ++ Ph.putI r.err).length y.cap) (Ph.putI r.place ++ Ph.putI r.err)::aA b1 (aI r (.slice rad r.b.l.length rcap)) 68::R) (fun x y z=>[]) (fun x y z t=>[]) hs hw ?kk ⟨drs,drs,?m0,drs,drs,?m1,drs,trivial⟩
 case m0=>
  intro x y z t LD a W hs hw;refine aH hs (hc:=eS w0 W (.slice none 0 0) [] r.place _ (by omega) (by omega) (by simp) (hw.nilB 5)) (k:=?_);rintro e' W' ⟨ad,cap,rfl,hw⟩;exact ⟨_,rfl,fun a hs=>⟨{ad:=ad,cap:=cap},hs,hw⟩⟩
 case m1=>
  intro x y z t LD a W hs hw;refine aH hs (hc:=eS w0 W _ (Ph.putI r.place) r.err _ (by omega) (by omega) (by omega) hw) (k:=?_);rintro e' W' ⟨ad,cap,rfl,hw⟩;exact ⟨_,rfl,fun a hs=>⟨{ad:=ad,cap:=cap},hs,hw⟩⟩
 case kk=>
 intro _ y a W hs hw;have hrf:fP r=frB 2 (Ph.putI r.place ++ Ph.putI r.err ++ cR r.b):=rfl;have hhl:(Ph.putI r.place ++ Ph.putI r.err).length≤20:=by rw [List.length_append];omega
 rw [hrf];generalize Ph.putI r.place ++ Ph.putI r.err=h at *;replace hs:Slots a 16 [(1,ptr b1),(3,.slice y.ad h.length y.cap)]:=hs.ot;have hw:Has 0 w0 W (bG (.slice y.ad h.length y.cap) h::aA b1 (aI r (.slice rad r.b.l.length rcap)) 68::R):=hw;refine sx hs hw fun a W hs hw=>?_;refine cle hs (aHd r.b hro.b hm hv hH hT (In.tl (In.tl i)) hw) fun x a W _ hs hw=>?_;refine gQ hs (hw.pick (Pick.tl Pick.hd)) (l:=h) (m:=cR r.b) (hr:=eZ (hw.rd_own In.hd) (iY _)) (hb:=by omega) (c:=fun a ad2 cap2 W hs hw=>?_);refine cle hs (nK w0 W 2 (h ++ cR r.b) _ _ (by decide) (by decide) (by rw [List.length_append];omega) (fun g=>g.rd_own In.hd) hw) fun f a W _ hs hw=>?_;refine sv hs hw fun a hs=>?_;exact rt1 hs rfl rfl ⟨f,rfl,trivial,hw.sl⟩
theorem aHf (hw:Has 0 w0 W (eN H p q u::Fz H::R)):
  Calls prog 174 ⟨[ptr p]⟩ W fun e W'=>∃(v:Value) (H':Fh),e= .returned v∧H.le H'∧aAf H' v (iD u)∧Has 0 w0 W' (eN H' p q u::Fz H'::R):=by
 obtain ⟨ho,ps,ad,cap,xs,hc,hw⟩:=lE hw;have hf:=m9 ho;obtain ⟨m,hm⟩:∃m:Nat,cN u.s.f u.c=(m:Int):=⟨(cN u.s.f u.c).toNat,by have:=hf.last.1;omega⟩
 have hml:m≤u.added.length:=by have:=hf.last.2;omega
 have hal:=hf.added.1;obtain ⟨l,hl⟩:∃l,l=iD u:=⟨_,rfl⟩
 have hqa:iD u=u.added.drop m:=by unfold iD;rw [hm,Int.toNat_natCast]
 have hll:l.length=u.added.length - m:=by rw [hl,hqa,List.length_drop]
 have hcl:Ch (BatIn H) l (xs.drop (m*3)):=by rw [hl,hqa];exact hc.drop BatIn.len m
 have hlb:∀b∈l,b.l.length≤1000:=fun b hb=>by
  have:=(hf.added.2 b (by rw [hl,hqa] at hb;exact List.mem_of_mem_drop hb)).2;omega
 rw [←hl];have hw:Has 0 w0 W (bK p q u.c (.slice ad u.added.length cap) ps::Sx.Own 66 3 (.slice ad u.added.length cap) u.added.length xs::aV H ps u.s::Fz H::R):=hw;refine en Tryz.func174 Tryz.ntmps174 fun a hs=>?_;refine sv hs hw fun a hs=>?_;refine bB [12] [.f 0 1,.f 0 1,.f 0 1,.f 0 1,.f 0 0,.f 0 0,.f 0 0,.f 0 0,.f 0 0,.f 0 0,.f 0 0,.f 0 0,.m 0,.f 1 1,.f 1 1,.f 0 1] [.c0 _,.c0 _,.c0 _,.c0 _,.c0 _,.c0 _,.c0 _,.c0 _,.c0 _,.c0 _,.c0 _,.c0 _,.c1 (fun x=> .int .i64 (m:Int)),.c1 (fun x=>loV ad 3 u.added.length cap m),.c1 (fun x=> .int .i64 (l.length:Int)),.c0 _] (bK p q u.c (.slice ad u.added.length cap) ps::Sx.Own 66 3 (.slice ad u.added.length cap) u.added.length xs::aV H ps u.s::Fz H::R) (fun x=>bK p q u.c (.slice ad u.added.length cap) ps::Sx.Own 66 3 (.slice ad u.added.length cap) u.added.length xs::aV H ps u.s::Fz H::R) (fun x y=>[]) (fun x y z=>[]) (fun x y z t=>[]) hs hw ?kk ⟨drs,drs,drs,drs,drs,drs,drs,drs,drs,drs,drs,drs,?m0,?f13,?f14,drs,trivial⟩
 case m0=>
  intro x y z t LD a W hs hw;have hw:Has 0 w0 W (aV H ps u.s::bK p q u.c (.slice ad u.added.length cap) ps::Sx.Own 66 3 (.slice ad u.added.length cap) u.added.length xs::Fz H::R):=hw.pm;refine cl hs (aCC u.c hw) fun a W hs hw=>?_;rw [hm] at hs;exact ⟨{},hs,hw.pm⟩
 case f13=>
  refine ⟨trivial,?_,trivial,trivial,trivial⟩;intro x y z t LD a W hs hw;refine aCG (z:=tQ) hs hml fun a hs=>?_;exact ⟨hs,hw⟩
 case f14=>
  refine ⟨trivial,?_,trivial,trivial,trivial⟩;intro x y z t LD a W hs hw;refine rK hs (k:=fun a hs=>?_);rw [←hll] at hs;exact ⟨hs,hw⟩
 case kk=>
 intro _ a W hs hw;replace hs:Slots a 34 [(3,.slice none 0 0),(21,loV ad 3 u.added.length cap m),(22,.int .i64 (l.length:Int)),(23,.int .i64 0)]:=hs.ot;have hw:Has 0 w0 W (Sx.Own 66 3 (.slice none 0 0) 0 []::bK p q u.c (.slice ad u.added.length cap) ps::Sx.Own 66 3 (.slice ad u.added.length cap) u.added.length xs::aV H ps u.s::Fz H::R):=hw.nilOwn 66 3;refine sc hs ?_;obtain ⟨lv,hlv⟩:∃lv,lv=loV ad 3 u.added.length cap m:=⟨_,rfl⟩
 have hrd:∀{W A B C D R'},Has 0 w0 W (A::B::Sx.Own 66 3 (.slice ad u.added.length cap) u.added.length xs::C::D::R')→Rd W 3 lv l.length (xs.drop (m*3)):=fun h=>by
  rw [hlv,hll];exact aHc (h.rd_own (In.tl (In.tl In.hd))) hml
 rw [←hlv] at hs;refine bX (σ:=Nat×Option Addr×Nat×List Value×Fh) (fun z=>[(3,.slice z.2.1 (l.take z.1).length z.2.2.1),(21,lv),(22,.int .i64 (l.length:Int)),(23,.int .i64 (z.1:Int))]) (fun z=>Sx.Own 66 3 (.slice (z.2.1) (l.take (z.1)).length (z.2.2.1)) (l.take (z.1)).length (z.2.2.2.1)::bK p q u.c (.slice ad u.added.length cap) ps::Sx.Own 66 3 (.slice ad u.added.length cap) u.added.length xs::aV z.2.2.2.2 ps u.s::Fz z.2.2.2.2::R) (fun z=>z.1≤l.length∧H.le z.2.2.2.2∧Ch (BatIn z.2.2.2.2) (l.take z.1) z.2.2.2.1) (fun z=>l.length - z.1) (0,none,0,[],H) ⟨Nat.zero_le _,Fh.le.refl H,rfl⟩ hs ⟨rfl,rfl,rfl,rfl,trivial⟩ hw ?_;clear hs hw;rintro ⟨i,gad,gcap,ys,H2⟩ a W ⟨hi,hle,hys⟩ hs hw;simp only at hi hle hys hs hw;refine sv hs hw fun a hs=>?_;refine cI hs (kt:=fun hcc=>?_) (kf:=fun hcc=>?_)
 ·have hi':i<l.length:=by simpa using hcc
  obtain ⟨o,ho9,hd⟩:=dP hi';have hlo:=hlb o (List.mem_of_getElem? ho9);refine sc hs ?_;refine gT hs (r:=hrd hw) (hk:=BatIn.len) (ch:=hcl) (ho:=ho9) (hlen:=rfl) (c:=fun a g off c hmc hcl9 hpc hlt hs=>?_);obtain ⟨sv9,rfl,hsv⟩:=hmc;obtain ⟨oad,ocap,rfl⟩:=hsv.slice;refine eC hs (z:=tQ) (cs:=aK o _) (hc:=hpc) (hl:=by rfl) (c:=fun a hs=>?_);refine sn hs hw fun b5 a W hs hw=>?_;refine sx hs hw fun a W hs hw=>?_;have hw:Has 0 w0 W (Fz H2::Sx.Own 66 3 (.slice (gad) (l.take (i)).length (gcap)) (l.take (i)).length (ys)::bK p q u.c (.slice ad u.added.length cap) ps::Sx.Own 66 3 (.slice ad u.added.length cap) u.added.length xs::aV H2 ps u.s::R):=hw.sl;refine aH hs (hc:=xT o _ hlo (hsv.le hle) hw) (k:=?_);rintro e' W' ⟨v',H3,rfl,hle3,hv3,hw⟩;refine ⟨_,rfl,fun a hs=>?_⟩;obtain ⟨vad,vcap,rfl⟩:=hv3.slice;have hw:=hw.lz hle3;refine sn hs hw fun b6 a W hs hw=>?_;have hw:Has 0 w0 W (Sx.Own 66 3 (.slice (gad) (l.take (i)).length (gcap)) (l.take (i)).length (ys)::aA b6 (aK o (.slice vad o.l.length vcap)) 66::Fz H3::bK p q u.c (.slice ad u.added.length cap) ps::Sx.Own 66 3 (.slice ad u.added.length cap) u.added.length xs::aV H3 ps u.s::R):=hw.pm;have hin:BatIn H3 o (aK o (.slice vad o.l.length vcap)):=⟨_,rfl,hv3⟩
  have hti:(l.take i).length=i:=by rw [List.length_take];omega
  refine i6 hs hw In.hd (hys.mono (BatIn.le hle3)) hin rfl rfl (by omega) (by omega) (k:=fun a ad2 cap2 W hs hw _=>?_);rw [←fQ ho9] at hs hw;refine sv hs hw fun a hs=>?_;refine bS (i+1,ad2,cap2,ys ++ aK o (.slice vad o.l.length vcap),H3) hs (hw.sl) ⟨hi',hle.trans hle3,?_⟩ (by show l.length - (i+1)<l.length - i;omega) ⟨rfl,rfl,rfl,bU (i1 (by omega)),trivial⟩;show Ch (BatIn H3) (l.take (i+1)) _;rw [fQ ho9];exact (hys.mono (BatIn.le hle3)).app (Ch.unit hin)
 ·have h9:l.take i=l:=List.take_of_length_le (by simp at hcc;omega);rw [h9] at hs hw hys;refine sv hs hw fun a hs=>?_;have hw:Has 0 w0 W (Sx.Own 66 3 (.slice gad l.length gcap) l.length ys::Fz H2::bK p q u.c (.slice ad u.added.length cap) ps::Sx.Own 66 3 (.slice ad u.added.length cap) u.added.length xs::aV H2 ps u.s::R):=hw.pm;obtain ⟨H3,hle3,hw,hrd3⟩:=hw.freeze_own;have hw:=hw.lz hle3;refine rt1 hs rfl rfl ⟨_,H3,rfl,hle.trans hle3,⟨ys,hrd3,hys.mono (BatIn.le hle3)⟩,?_⟩;have hw:Has 0 w0 W (bK p q u.c (.slice ad u.added.length cap) ps::Sx.Own 66 3 (.slice ad u.added.length cap) u.added.length xs::aV H3 ps u.s::Fz H3::R):=hw.pm;exact lD hw (hc.mono (BatIn.le (hle.trans hle3))) ho
end
section
variable {H H':Fh} {p q ps:Nat} {w0 W:World} {R L:List Res} {u u':cZ} {s:fA} {d d':bM} {ad:Option Addr} {cap:Nat} {xs:List Value} {b:cT} {err:Int}
theorem aHg (b:cT):cR b≠[]:=by
 show eA b.c b.q b.l≠[];unfold eA iJ;have:=Ph.putI_ne_nil b.c;simp [this]
theorem aHh (b:cT) {v:Value} (hb:iK b) (hv:cG H v b.l) (hH:(fr w0).le H) (hT:Tabs w0) (i:In (Fz H) R) (hw:Has 0 w0 W R):
  Calls prog 117 ⟨[.agg ⟨aK b v⟩]⟩ W fun e W'=>∃x:Option Addr×Nat,e= .returned (.slice x.1 (if dS b then cR b else []).length x.2)∧(x.1.isNone=!dS b)∧Has 0 w0 W' (bG (.slice x.1 (if dS b then cR b else []).length x.2) (if dS b then cR b else [])::R):=by
 have hlen:=hw.endF i hH;refine (pF b.c b.q b.l v W hb.c hb.q hb.ops (hw.rdH i hv) (hT.keep hlen)).mono ?_;rintro e W' ⟨ad,cap,rfl,hn,hw1⟩;have hw2:=hw.call hw1;refine ⟨(ad,cap),rfl,?_,hw2⟩;show ad.isNone=!dS b;cases hm:dS b with
 |false=>rw [(hn hm).1];rfl
 |true=>
  cases ad with
  |some _=>rfl
  |none=>
   have h9:=hw2.rd_own In.hd;rw [show dO b.c b.q b.l=true from hm,if_pos rfl] at h9;obtain ⟨_,ad',cap',e,_,_,h|⟨_,_,h,_⟩⟩:=h9
   ·exact absurd (List.eq_nil_of_length_eq_zero h) (aHg b)
   ·rw [h] at e;cases e
abbrev zBq:cT:=⟨0,0,[]⟩
theorem aHi (ops:List OpD) {bad:Option Addr} {bcap:Nat} (hops:∀o∈ops,OpOk o) (h8:ops.length≤8) (hv:cG H (.slice bad ops.length bcap) ops) (h:tJ d u ops=some (d',u',b,err)) (hH:(fr w0).le H) (hT:Tabs w0) (hw:Has 0 w0 W (eN H p q u::aB nameQ q d::Fz H::R)):
  Calls prog 94 ⟨[ptr p,.slice bad ops.length bcap]⟩ W fun e W'=>∃(v:Value) (H':Fh),e= .returned (.tuple ⟨[.agg ⟨aK b v⟩,.int .i64 err]⟩)∧H.le H'∧cG H' v b.l∧Has 0 w0 W' (eN H' p q u'::aB nameQ q d'::Fz H'::R):=by
 obtain ⟨ho,ps,ad,cap,xs,hc,hw⟩:=lE hw;have hf:=m9 ho;have hal:=hf.added.1;obtain ⟨b9,hb9⟩:∃b9,b9=(⟨u.c,(u.added.length:Int)+1,ops⟩:cT):=⟨_,rfl⟩
 have hb9o:iK b9:=by
  rw [hb9];refine ⟨?_,?_,hops⟩
  ·show i64 u.c;have:=hf.c;unfold i64;omega
  ·show i64 ((u.added.length:Int)+1);unfold i64;omega
 have hbl:b9.l.length≤1000:=by rw [hb9];show ops.length≤1000;omega
 have hv9:cG H (.slice bad b9.l.length bcap) b9.l:=by rw [hb9];exact hv
 have hcell:([.int .i64 u.c,.int .i64 ((u.added.length:Int)+1),.slice bad ops.length bcap]:List Value)=aK b9 (.slice bad b9.l.length bcap):=by rw [hb9];rfl
 have hi9:IntKind.i64.wrap ((u.added.length:Int)+1)=(u.added.length:Int)+1:=IntWalk.i64_in _ (by omega);refine en Tryz.func94 Tryz.ntmps94 fun a hs=>?_;refine sc hs ?_;refine sn hs hw fun b4 a W hs hw=>?_;refine sv hs hw fun a hs=>?_;have hw:Has 0 w0 W (Fz H::bK p q u.c (.slice ad u.added.length cap) ps::Sx.Own 66 3 (.slice ad u.added.length cap) u.added.length xs::aV H ps u.s::aB nameQ q d::aA b4 (aK zBq (.slice none 0 0)) 66::R):=hw.pm;refine fV (G:=0) (w:=w0) (σ:=Un) (V:=fun r=>[ptr p,ptr p,.pointer (some ⟨p,0+1,none⟩),.int .i64 u.c,ptr p,ptr p,.pointer (some ⟨p,0+2,none⟩),.slice ad u.added.length cap,.int .i64 (u.added.length:Int),.int .i64 (IntKind.i64.wrap ((u.added.length:Int)+1)),.slice bad ops.length bcap,.agg ⟨[.int .i64 u.c,.int .i64 (IntKind.i64.wrap ((u.added.length:Int)+1)),.slice bad ops.length bcap]⟩,.agg ⟨aK b9 (.slice (r 12).ad b9.l.length (r 12).cap)⟩,ptr (r 13).n,.bool true])
  (Rs:=fun r D=>(if D 13 then aA (r 13).n (if D 14 then aK b9 (.slice (r 12).ad b9.l.length (r 12).cap) else aK zBq (.slice none 0 0)) 66 else bT)::(if D 12 then FzF (r 12).H (Fh.le H (r 12).H∧cG (r 12).H (.slice (r 12).ad b9.l.length (r 12).cap) b9.l) else Fz H)::bK p q u.c (.slice ad u.added.length cap) ps::Sx.Own 66 3 (.slice ad u.added.length cap) u.added.length xs::aV H ps u.s::aB nameQ q d::aA b4 (aK zBq (.slice none 0 0)) 66::R) (fun _=>{}) hs ?h0 (hVu:=?vu) (ho:=⟨dru,dru,dru,dru,dru,dru,dru,dru,?c8,dru,dru,dru,?c12,?c13,?c14,trivial⟩) (k:=?kk)
 case h0=>exact (hw.pm:Has 0 w0 W (Fz H::bK p q u.c (.slice ad u.added.length cap) ps::Sx.Own 66 3 (.slice ad u.added.length cap) u.added.length xs::aV H ps u.s::aB nameQ q d::aA b4 (aK zBq (.slice none 0 0)) 66::R)).free
 case vu=>
  intro u u' j h;rcases j with _|_|_|_|_|_|_|_|_|_|_|_|_|_|_|j
  all_goals first|rfl|simp [h]
 case c8=>
  intro r LD D a W hcl hi hp hs hw;refine rK hs (k:=fun a hs=>?_);exact Or.inl ⟨hs,hw⟩
 case c12=>
  intro r LD D a W hcl hi hp hs hw;have n14:=Go.Sx.not_done hcl hi 14 (by kernel_rfl);simp only [hi,n14,Bool.false_eq_true,if_false] at hw;have hw:Has 0 w0 W (Fz H::(if D 13=true then aA (r 13).n (aK zBq (.slice none 0 0)) 66 else bT)::bK p q u.c (.slice ad u.added.length cap) ps::Sx.Own 66 3 (.slice ad u.added.length cap) u.added.length xs::aV H ps u.s::aB nameQ q d::aA b4 (aK zBq (.slice none 0 0)) 66::R):=hw.pm;refine aH hs (hc:=(by rw [hi9,hcell];exact xT b9 _ hbl hv9 hw)) (k:=?_);rintro e' W' ⟨v',H2,rfl,hle2,hv2,hw⟩;refine ⟨_,rfl,fun a hs=>?_⟩;obtain ⟨tad,tcap,rfl⟩:=hv2.slice;refine Or.inr ⟨{ad:=tad,cap:=tcap,H:=H2},hs,?_⟩;have hw:=hw.fzf (And.intro hle2 hv2);show Has 0 w0 W' ((if D 13=true then aA (r 13).n (if D 14=true then _ else aK zBq (.slice none 0 0)) 66 else bT)::FzF H2 (Fh.le H H2∧cG H2 (.slice tad b9.l.length tcap) b9.l)::bK p q u.c (.slice ad u.added.length cap) ps::Sx.Own 66 3 (.slice ad u.added.length cap) u.added.length xs::aV H ps u.s::aB nameQ q d::aA b4 (aK zBq (.slice none 0 0)) 66::R);rw [n14];exact hw.pm
 case c13=>
  intro r LD D a W hcl hi hp hs hw;have n14:=Go.Sx.not_done hcl hi 14 (by kernel_rfl);simp only [hi,Bool.false_eq_true,if_false] at hw;refine sn hs hw fun b a W hs hw=>?_;refine Or.inr ⟨{n:=b},hs,?_⟩;show Has 0 w0 _ (aA b (if (Nat.beq 14 13 || D 14)=true then _ else _) _::_);rw [n14];exact hw.fill Upd.hd
 case c14=>
  intro r LD D a W hcl hi hp hs hw;have h13:=Go.Sx.done hp 13 (by kernel_rfl);simp only [h13,hi,Bool.false_eq_true,if_false,if_true] at hw;refine d7 hs (hw:=hw) (vs:=aK b9 (.slice (r 12).ad b9.l.length (r 12).cap)) (k:=fun W hs hw=>?_);refine Or.inl ⟨hs,?_⟩;show Has 0 w0 _ ((if D 13=true then _ else _)::_);rw [h13];exact hw
 case kk=>
 intro r a W hs hw;have hw:Has 0 w0 W (FzF (r 12).H (Fh.le H (r 12).H∧cG (r 12).H (.slice (r 12).ad b9.l.length (r 12).cap) b9.l)::aA (r 13).n (aK b9 (.slice (r 12).ad b9.l.length (r 12).cap)) 66::bK p q u.c (.slice ad u.added.length cap) ps::Sx.Own 66 3 (.slice ad u.added.length cap) u.added.length xs::aV H ps u.s::aB nameQ q d::aA b4 (aK zBq (.slice none 0 0)) 66::R):=hw.sl;obtain ⟨⟨hle2,hv2⟩,hw⟩:=hw.unfzf;have hw:=hw.lz hle2;replace hs:Slots a 56 [(0,ptr p),(4,ptr b4),(6,ptr (r 13).n)]:=hs.ot;obtain ⟨H2,hH2⟩:∃H2,H2=(r 12).H:=⟨_,rfl⟩
 obtain ⟨b6,hb6⟩:∃b6,b6=(r 13).n:=⟨_,rfl⟩
 obtain ⟨rad,hrad⟩:∃rad,rad=(r 12).ad:=⟨_,rfl⟩
 obtain ⟨rcap,hrcap⟩:∃rcap,rcap=(r 12).cap:=⟨_,rfl⟩
 have hw:Has 0 w0 W (aA b6 (aK b9 (.slice rad b9.l.length rcap)) 66::bK p q u.c (.slice ad u.added.length cap) ps::Sx.Own 66 3 (.slice ad u.added.length cap) u.added.length xs::aV H2 ps u.s::aB nameQ q d::Fz H2::aA b4 (aK zBq (.slice none 0 0)) 66::R):=by rw [hH2,hb6,hrad,hrcap];exact hw.pm
 rw [←hb6] at hs;rw [←hH2] at hle2;rw [←hH2,←hrad,←hrcap] at hv2;clear hH2 hb6 hrad hrcap;have hc:=hc.mono (BatIn.le hle2);have fin0:∀{W} {cs:List Value},Has 0 w0 W (aA b6 (aK b9 (.slice rad b9.l.length rcap)) 66::bK p q u.c (.slice ad u.added.length cap) ps::Sx.Own 66 3 (.slice ad u.added.length cap) u.added.length xs::aV H2 ps u.s::aB nameQ q d::Fz H2::aA b4 cs 66::R)→Has 0 w0 W (eN H2 p q u::aB nameQ q d::Fz H2::R):=fun {W cs} g=>by
  have g:Has 0 w0 W (bK p q u.c (.slice ad u.added.length cap) ps::Sx.Own 66 3 (.slice ad u.added.length cap) u.added.length xs::aV H2 ps u.s::aB nameQ q d::Fz H2::aA b6 (aK b9 (.slice rad b9.l.length rcap)) 66::aA b4 cs 66::R):=g.pm;exact (lD g hc ho).sl
 refine sx hs hw fun a W hs hw=>?_;refine cle hs (aHh b9 hb9o hv2 (hH.trans hle2) hT inn hw) fun x a W hx hs hw=>?_;refine sv hs hw fun a hs=>?_;refine kR hs (c:=fun a hs=>?_);rw [hx] at hs;refine sv hs hw fun a hs=>?_;unfold tJ at h;rw [←hb9] at h;cases c1:dS b9 with
 |false=>
  rw [c1] at hs;rw [if_pos c1] at h;injection h with h;injection h with e1 h;injection h with e2 h;injection h with e3 e4;subst e1 e2 e3 e4;refine sx hs hw fun a W hs hw=>?_;exact rc2 hs rfl rfl hw inn rfl rfl ⟨_,H2,rfl,hle2,j6 H2,fin0 (hw.sl)⟩
 |true=>
 rw [c1] at hs;rw [if_neg (by rw [c1];simp)] at h;rw [if_pos rfl] at hs;rw [c1,if_pos rfl] at hw;obtain ⟨xad,xcap⟩:=x;refine sv hs hw fun a hs=>?_;have hw:Has 0 w0 W (bK p q u.c (.slice ad u.added.length cap) ps::Sx.Own 66 3 (.slice ad u.added.length cap) u.added.length xs::aV H2 ps u.s::bG (.slice xad (cR b9).length xcap) (cR b9)::aA b6 (aK b9 (.slice rad b9.l.length rcap)) 66::aB nameQ q d::Fz H2::aA b4 (aK zBq (.slice none 0 0)) 66::R):=hw.pm;refine cl hs (aH8 hf hw) fun a W hs hw=>?_;refine sv hs hw fun a hs=>?_;cases c2:decide (tH u≥30) with
 |true=>
  rw [c2] at hs;rw [if_pos (of_decide_eq_true c2)] at h;injection h with h;injection h with e1 h;injection h with e2 h;injection h with e3 e4;subst e1 e2 e3 e4;refine sx hs hw fun a W hs hw=>?_;exact rc2 hs rfl rfl hw inn rfl rfl ⟨_,H2,rfl,hle2,j6 H2,fin0 (hw.sl)⟩
 |false=>
 rw [c2] at hs;rw [if_neg (of_decide_eq_false c2),Option.map_eq_some_iff] at h;obtain ⟨⟨d2,u2⟩,h1,h2⟩:=h;obtain ⟨d3,h3,h4⟩:=Option.bind_eq_some_iff.1 h1;unfold tI at h4;have c3:gM {u with added:=u.added ++ [b9]}=true:=by
  cases hq:gM {u with added:=u.added ++ [b9]} with
  |true=>rfl
  |false=>rw [if_neg (by rw [hq];simp)] at h4;cases h4
 rw [if_pos c3] at h4;injection h4 with h4;injection h4 with e1 e2;subst e1;injection h2 with e3 h2;injection h2 with e4 h2;injection h2 with e5 e6;subst e3 e5 e6;rw [show (d3,u2).2=u2 from rfl] at e4;subst e4;subst e2;refine sx hs hw fun a W hs hw=>?_;have he12:(cR b9).length≤1200:=xU c1;refine cle hs (nK w0 W 1 (cR b9) _ _ (by decide) (by decide) (by omega) (fun g=>g.rd_own (In.tl (In.tl (In.tl In.hd)))) hw) fun f a W _ hs hw=>?_;have hw:Has 0 w0 W (aB nameQ q d::bK p q u.c (.slice ad u.added.length cap) ps::Sx.Own 66 3 (.slice ad u.added.length cap) u.added.length xs::aV H2 ps u.s::bG (.slice f.1 (frB 1 (cR b9)).length f.2) (frB 1 (cR b9))::aA b6 (aK b9 (.slice rad b9.l.length rcap)) 66::Fz H2::aA b4 (aK zBq (.slice none 0 0)) 66::R):=hw.sl;refine cl hs (aCE h3 (fun g=>g.rd_own (In.tl (In.tl In.hd))) hw) fun a W hs hw=>?_;refine sv hs hw fun a hs=>?_;have hw:Has 0 w0 W (bK p q u.c (.slice ad u.added.length cap) ps::Sx.Own 66 3 (.slice ad u.added.length cap) u.added.length xs::aV H2 ps u.s::aB nameQ q d3::Fz H2::aA b6 (aK b9 (.slice rad b9.l.length rcap)) 66::aA b4 (aK zBq (.slice none 0 0)) 66::R):=hw.sl;have hw:Has 0 w0 W (aA b6 (aK b9 (.slice rad b9.l.length rcap)) 66::bK p q u.c (.slice ad u.added.length cap) ps::Sx.Own 66 3 (.slice ad u.added.length cap) u.added.length xs::aV H2 ps u.s::aB nameQ q d3::Fz H2::aA b4 (aK zBq (.slice none 0 0)) 66::R):=hw.pm;have hin:BatIn H2 b9 (aK b9 (.slice rad b9.l.length rcap)):=⟨_,rfl,hv2⟩
 rw [show ((0:Int) !=0)=false from rfl] at hs;replace hs:Slots a 56 [(0,ptr p),(4,ptr b4),(6,ptr b6)]:=hs.ot;refine bB [6,7,10] [.f 0 2,.f 0 1,.f 0 1,.f 0 1,.f 0 1,.f 0 0,.m 0,.m 1,.f 2 2,.f 2 2,.m 2] [.c0 _,.c0 _,.c0 _,.c0 _,.c0 _,.c0 _,.c1 (fun x=> .slice (some ⟨x.n,0,none⟩) 1 1),.c2 (fun x y=> .slice y.ad (u.added ++ [b9]).length y.cap),.c2 _,.c2 _,.c3 (fun x y z=>undef)] (aA b6 (aK b9 (.slice rad b9.l.length rcap)) 66::bK p q u.c (.slice ad u.added.length cap) ps::Sx.Own 66 3 (.slice ad u.added.length cap) u.added.length xs::aV H2 ps u.s::aB nameQ q d3::Fz H2::aA b4 (aK zBq (.slice none 0 0)) 66::R) (fun x=>aA x.n (aK b9 (.slice rad b9.l.length rcap)) 66::aA b6 (aK b9 (.slice rad b9.l.length rcap)) 66::bK p q u.c (.slice ad u.added.length cap) ps::Sx.Own 66 3 (.slice ad u.added.length cap) u.added.length xs::aV H2 ps u.s::aB nameQ q d3::Fz H2::aA b4 (aK zBq (.slice none 0 0)) 66::R) (fun x y=>aA b6 (aK b9 (.slice rad b9.l.length rcap)) 66::bK p q u.c (.slice ad u.added.length cap) ps::Sx.Own 66 3 (.slice y.ad (u.added ++ [b9]).length y.cap) (u.added ++ [b9]).length (xs ++ aK b9 (.slice rad b9.l.length rcap))::aV H2 ps u.s::aB nameQ q d3::Fz H2::aA b4 (aK zBq (.slice none 0 0)) 66::R) (fun x y z=>aA b6 (aK b9 (.slice rad b9.l.length rcap)) 66::bK p q u.c (.slice y.ad (u.added ++ [b9]).length y.cap) ps::Sx.Own 66 3 (.slice y.ad (u.added ++ [b9]).length y.cap) (u.added ++ [b9]).length (xs ++ aK b9 (.slice rad b9.l.length rcap))::aV H2 ps u.s::aB nameQ q d3::Fz H2::aA b4 (aK zBq (.slice none 0 0)) 66::R) (fun x y z t=>[]) hs hw ?kk ⟨drs,drs,drs,drs,drs,drs,drn,?m1,drs,drs,drm,trivial⟩
 case m1=>
  intro x y z t LD a W hs hw;have hw:Has 0 w0 W (Sx.Own 66 3 (.slice ad u.added.length cap) u.added.length xs::aA x.n (aK b9 (.slice rad b9.l.length rcap)) 66::aA b6 (aK b9 (.slice rad b9.l.length rcap)) 66::bK p q u.c (.slice ad u.added.length cap) ps::aV H2 ps u.s::aB nameQ q d3::Fz H2::aA b4 (aK zBq (.slice none 0 0)) 66::R):=hw.pm;refine i6 hs hw In.hd hc hin rfl rfl (by omega) (by omega) (k:=fun a ad2 cap2 W hs hw _=>?_);exact ⟨{ad:=ad2,cap:=cap2},hs,hw.sl⟩
 case kk=>
 intro x y z a W hs hw;replace hs:Slots a 56 [(0,ptr p),(4,ptr b4),(6,ptr b6)]:=hs.ot;refine sx hs hw fun a W hs hw=>?_;have hw:Has 0 w0 W (Fz H2::bK p q u.c (.slice y.ad (u.added ++ [b9]).length y.cap) ps::Sx.Own 66 3 (.slice y.ad (u.added ++ [b9]).length y.cap) (u.added ++ [b9]).length (xs ++ aK b9 (.slice rad b9.l.length rcap))::aV H2 ps u.s::aB nameQ q d3::aA b6 (aK b9 (.slice rad b9.l.length rcap)) 66::aA b4 (aK zBq (.slice none 0 0)) 66::R):=hw.pm;refine aH hs (hc:=xT b9 _ hbl hv2 hw) (k:=?_);rintro e' W ⟨v',H3,rfl,hle3,hv3,hw⟩;refine ⟨_,rfl,fun a hs=>?_⟩;have hw:=hw.lz hle3;obtain ⟨tad,tcap,rfl⟩:=hv3.slice;refine sx hs hw fun a W hs hw=>?_;refine rc2 hs rfl rfl hw inn rfl rfl ⟨_,H3,rfl,hle2.trans hle3,hv3,?_⟩;have hw:Has 0 w0 W (bK p q u.c (.slice y.ad (u.added ++ [b9]).length y.cap) ps::Sx.Own 66 3 (.slice y.ad (u.added ++ [b9]).length y.cap) (u.added ++ [b9]).length (xs ++ aK b9 (.slice rad b9.l.length rcap))::aV H3 ps u.s::aB nameQ q d3::Fz H3::R):=hw.sl;exact lD (u:={u with added:=u.added ++ [b9]}) hw ((hc.app (Ch.unit hin)).mono (BatIn.le hle3)) c3
end
section
variable {H H':Fh} {p q ps:Nat} {w0 W:World} {R L:List Res} {u u':cZ} {s:fA} {d d':bM} {ad:Option Addr} {cap:Nat} {xs:List Value} {b:cT} {err:Int}
theorem aHj (s:fA) (r:cC):s.l.length≤(one s r).1.l.length:=by
 unfold one
 repeat (first|split|simp)
theorem aCH:∀{rows:List cC} {s:fA} {n:Nat},s.l.length≤(gG s n rows).1.l.length
 | [],s,n=>Nat.le_refl _
 |r::rows,s,n=>by
  have h1:=aHj s r;simp only [gG];split
  ·exact Nat.le_trans h1 aCH
  ·exact h1
theorem aCI {r:cC} (hm:dS r.b=true):(fP r).length≤1300:=by
 have p1:=Ph.putI_length_le r.place;have p2:=Ph.putI_length_le r.err;have p3:=xU hm;have:=mX 2 (Ph.putI r.place ++ Ph.putI r.err ++ cR r.b);unfold fP;simp only [List.length_append] at this⊢;omega
theorem aCJ:∀{l:List cC},(∀r∈l,dS r.b=true)→(l.flatMap fP).length≤l.length*1300
 | [],_=>by simp
 |r::l,h=>by
  have h1:=aCI (h r (by simp));have h2:=aCJ (l:=l) fun x hx=>h x (by simp [hx]);simp only [List.flatMap_cons,List.length_append,List.length_cons];omega
theorem aHk {sz m k:Nat} (r:RdH H sz (.slice ad k cap) k xs) (h1:m≤k):RdH H sz (loV ad sz k cap m) (k - m) (xs.drop (m*sz)):=by
 obtain ⟨hx,ad',cap',e,h3,h4,h5⟩:=r;injection e with e1 _ e3;subst e1 e3;refine ⟨by rw [List.length_drop,hx,Nat.sub_mul],_,_,rfl,by omega,by omega,?_⟩;rcases h5 with rfl|⟨b,o,cs,T,z,rfl,hb,hc⟩
 ·exact .inl (by omega)
 ·by_cases hci:cap=m
  ·exact .inl (by omega)
  ·refine .inr ⟨b,o+m*sz,cs,T,z,by rw [if_neg hci];simp [eF],hb,fun j u hu=>?_⟩;rw [List.getElem?_drop] at hu;rw [Nat.add_assoc];exact hc _ _ hu
theorem aHl (rows:List cC) {v:Value} {n:Nat} (hrl:rows.length≤1000) (hro:∀r∈rows,jT r) (hv:jB H v rows) (h:tL d u rows=some (d',u',n,err)) (hH:(fr w0).le H) (hT:Tabs w0) (hw:Has 0 w0 W (eN H p q u::aB nameQ q d::Fz H::R)):
  Calls prog 182 ⟨[ptr p,v]⟩ W fun e W'=>∃H':Fh,e= .returned (.tuple ⟨[.int .i64 (n:Int),.int .i64 err]⟩)∧H.le H'∧Has 0 w0 W' (eN H' p q u'::aB nameQ q d'::Fz H'::R):=by
 obtain ⟨ho,ps,ad,cap,xs,hc,hw⟩:=lE hw;have hf:=m9 ho;obtain ⟨ys,hr,hys⟩:=hv;obtain ⟨vad,vcap,rfl⟩:=hr.slice;have hsl:=hf.rows.1;obtain ⟨K,hK⟩:∃K,K=(rows.takeWhile (fG u)).length:=⟨_,rfl⟩
 have hKl:K≤rows.length:=by rw [hK];exact (List.takeWhile_prefix _).length_le
 have htk:rows.takeWhile (fG u)=rows.take K:=by rw [hK];exact List.prefix_iff_eq_take.1 (List.takeWhile_prefix _)
 refine en Tryz.func182 Tryz.ntmps182 fun a hs=>?_;refine sc hs ?_;refine sn hs hw fun b2 a W hs hw=>?_;refine sx hs hw fun a W hs hw=>?_;have hw:Has 0 w0 W (aV H ps u.s::bK p q u.c (.slice ad u.added.length cap) ps::Sx.Own 66 3 (.slice ad u.added.length cap) u.added.length xs::aA b2 [ptr p] 114::aB nameQ q d::Fz H::R):=hw.pm;refine cle hs (aH7 (by omega) hw) fun p2 a W _ hs hw=>?_;refine sv hs hw fun a hs=>?_;refine aEO hs (k:=fun a hs=>?_);have hw:Has 0 w0 W (bK p q u.c (.slice ad u.added.length cap) ps::Sx.Own 66 3 (.slice ad u.added.length cap) u.added.length xs::aV H ps u.s::aA b2 [ptr p] 114::aV H p2 u.s::aB nameQ q d::Fz H::R):=hw.pm;refine cl hs (aHb rows _ hr hys hf hc (In.tl (In.tl In.hd)) hw) fun a W hs hw=>?_;rw [←hK] at hs;replace hs:Slots a 78 ((23,.int .i64 (if K<rows.length then (K:Int) else -1)):: [(0,ptr p),(1,.slice vad rows.length vcap),(2,ptr b2),(6,ptr p2)]):=hs.ot;refine zE hs hw ?_;clear hs;intro a hs;refine sq ?_;refine fD (M:=fun a W=>Slots a 78 [(0,ptr p),(1,.slice vad rows.length vcap),(2,ptr b2),(6,ptr p2),(7,.int .i64 (K:Int))]∧Has 0 w0 W (bK p q u.c (.slice ad u.added.length cap) ps::Sx.Own 66 3 (.slice ad u.added.length cap) u.added.length xs::aV H ps u.s::aA b2 [ptr p] 114::aV H p2 u.s::aB nameQ q d::Fz H::R)) ?_ ?_
 ·refine sx hs hw fun a W hs hw=>?_
  by_cases c1:K<rows.length
  ·rw [if_pos c1] at hs;rw [show decide ((K:Int)<0)=false from decide_eq_false (by omega)] at hs;refine sc hs ?_;exact ⟨hs.ot,hw⟩
  ·rw [if_neg c1] at hs;rw [show decide ((-1:Int)<0)=true from rfl] at hs;have h9:rows.length=K:=by omega
   refine sv hs hw fun a hs=>?_;exact ⟨hs.of ⟨rfl,rfl,rfl,rfl,by rw [←h9];rfl,trivial⟩,hw⟩
 clear hs hw;rintro a W ⟨hs,hw⟩;obtain ⟨T,hTk⟩:∃T,T=gG u.s 0 (rows.take K):=⟨_,rfl⟩
 refine sv hs hw fun a hs=>?_;refine aEI hs (r:=hr) (z:=zrc) (i:=(K:Int)) (h0:=by omega) (h1:=by omega) (c:=fun a tv hr' hs=>?_);rw [Int.toNat_natCast] at hr';have hkl:(rows.take K).length=K:=by rw [List.length_take];omega
 have hv':jB H tv (rows.take K):=⟨_,by rw [hkl];exact hr',Ch.take RowIn.len K hys⟩
 have hw:Has 0 w0 W (aV H p2 u.s::Fz H::bK p q u.c (.slice ad u.added.length cap) ps::Sx.Own 66 3 (.slice ad u.added.length cap) u.added.length xs::aV H ps u.s::aA b2 [ptr p] 114::aB nameQ q d::R):=hw.pm;refine aH hs (hc:=aF0 w0 W H p2 u.s (rows.take K) tv _ (by omega) (fun r hr=>hro r (List.mem_of_mem_take hr)) hv' hH hT hw) (k:=?_);rintro e' W ⟨H3,rfl,hle3,hw⟩;refine ⟨_,rfl,fun a hs=>?_⟩;rw [←hTk] at hs hw;have hw:=hw.lz hle3;unfold tL at h;rw [htk,←hTk] at h;have hw:Has 0 w0 W (bK p q u.c (.slice ad u.added.length cap) ps::Sx.Own 66 3 (.slice ad u.added.length cap) u.added.length xs::aV H3 ps u.s::aA b2 [ptr p] 114::aV H3 p2 T.1::aB nameQ q d::Fz H3::R):=hw.pm;obtain ⟨E9,hE9⟩:∃E9,E9=tK (rows.take K) rows T.2.2:=⟨_,rfl⟩
 rw [←hE9] at h;unfold tK at hE9;rw [hkl] at hE9;refine zE hs hw ?_;clear hs;intro a hs;refine sq ?_;refine fD (M:=fun a W=>Slots a 78 [(0,ptr p),(2,ptr b2),(6,ptr p2),(8,.int .i64 (T.2.1:Int)),(9,.int .i64 E9)]∧Has 0 w0 W (bK p q u.c (.slice ad u.added.length cap) ps::Sx.Own 66 3 (.slice ad u.added.length cap) u.added.length xs::aV H3 ps u.s::aA b2 [ptr p] 114::aV H3 p2 T.1::aB nameQ q d::Fz H3::R)) ?_ ?_
 ·refine sv hs hw fun a hs=>?_;cases c2:T.2.2 == 0 with
  |false=>
   rw [c2] at hs;rw [if_neg (by rintro ⟨g,_⟩;rw [g] at c2;cases c2)] at hE9;refine sv hs hw fun a hs=>?_;subst hE9;exact ⟨hs.ot,hw⟩
  |true=>
  rw [c2] at hs;have g2:T.2.2=0:=by simpa using c2
  refine sv hs hw fun a hs=>?_;cases c3:decide ((K:Int)<(rows.length:Int)) with
  |false=>
   rw [c3] at hs;have g3:=of_decide_eq_false c3;rw [if_neg (by omega)] at hE9;refine sc hs ?_;subst hE9;exact ⟨hs.ot,hw⟩
  |true=>
   rw [c3] at hs;have g3:=of_decide_eq_true c3;rw [if_pos (by omega)] at hE9;refine sv hs hw fun a hs=>?_;subst hE9;exact ⟨hs.ot,hw⟩
 clear hs hw;rintro a W ⟨hs,hw⟩;refine sv hs hw fun a hs=>?_;have hc3:=hc.mono (BatIn.le hle3);cases c4:((T.2.1:Int) == 0) with
 |true=>
  rw [c4] at hs;rw [if_pos (by simpa using c4)] at h;injection h with h;injection h with e1 h;injection h with e2 h;injection h with e3 e4;subst e1 e2 e3 e4;refine sv hs hw fun a hs=>?_;refine rt2 hs rfl rfl rfl ⟨H3,rfl,hle3,?_⟩;have hw:Has 0 w0 W (bK p q u.c (.slice ad u.added.length cap) ps::Sx.Own 66 3 (.slice ad u.added.length cap) u.added.length xs::aV H3 ps u.s::aB nameQ q d::Fz H3::R):=hw.sl;exact lD hw hc3 ho
 |false=>
 rw [c4] at hs;rw [if_neg (by intro g;rw [g] at c4;cases c4),Option.map_eq_some_iff] at h;obtain ⟨⟨d2,u2⟩,h1,h2⟩:=h;obtain ⟨d3,h3,h4⟩:=Option.bind_eq_some_iff.1 h1;unfold tI at h4;have c5:gM {u with s:=T.1}=true:=by
  cases hq:gM {u with s:=T.1} with
  |true=>rfl
  |false=>rw [if_neg (by rw [hq];simp)] at h4;cases h4
 rw [if_pos c5] at h4;injection h4 with h4;injection h4 with e1 e2;subst e1;injection h2 with e3 h2;injection h2 with e4 h2;injection h2 with e5 e6;subst e3 e5 e6;rw [show (d3,u2).2=u2 from rfl] at e4;subst e4;subst e2;have hf5:=m9 c5;obtain ⟨m,hm⟩:∃m,m=u.s.l.length:=⟨_,rfl⟩
 have hmT:m≤T.1.l.length:=by rw [hm,hTk];exact aCH
 obtain ⟨l,hl⟩:∃l,l=T.1.l.drop m:=⟨_,rfl⟩
 have hll:l.length=T.1.l.length - m:=by rw [hl,List.length_drop]
 have hTl:T.1.l.length≤1000:=hf5.rows.1;have hTr:∀r∈T.1.l,(jT r∧r.b.l.length≤8)∧dS r.b=true:=hf5.rows.2;rw [←hm,←hl] at h3;replace hs:Slots a 78 [(0,ptr p),(2,ptr b2),(6,ptr p2),(8,.int .i64 (T.2.1:Int)),(9,.int .i64 E9),(45,.bool false)]:=hs.ot;refine zA hs hw ?_;clear hs;intro a hs;refine bB [1,6] [.f 0 0,.m 0,.f 0 1,.f 0 1,.f 0 1,.f 0 1,.m 1,.f 2 2,.f 2 2,.f 2 2,.f 0 2] [.c0 _,.c1 (fun x=> .slice x.ad T.1.l.length x.cap),.c0 _,.c0 _,.c0 _,.c0 _,.c2 (fun x y=> .int .i64 ((u.s.l.length:Int)+1)),.c2 (fun x y=> .int .i64 (m:Int)),.c2 (fun x y=>loV x.ad 5 T.1.l.length x.cap m),.c2 (fun x y=> .int .i64 (l.length:Int)),.c0 _] (bK p q u.c (.slice ad u.added.length cap) ps::Sx.Own 66 3 (.slice ad u.added.length cap) u.added.length xs::aV H3 ps u.s::aA b2 [ptr p] 114::aV H3 p2 T.1::aB nameQ q d::Fz H3::R) (fun x=>FzF x.H (Fh.le H3 x.H∧jB x.H (.slice x.ad T.1.l.length x.cap) T.1.l)::aV x.H p2 T.1::bK p q u.c (.slice ad u.added.length cap) ps::Sx.Own 66 3 (.slice ad u.added.length cap) u.added.length xs::aV H3 ps u.s::aA b2 [ptr p] 114::aB nameQ q d::R) (fun x y=>FzF x.H (Fh.le H3 x.H∧jB x.H (.slice x.ad T.1.l.length x.cap) T.1.l)::aV x.H p2 T.1::bK p q u.c (.slice ad u.added.length cap) ps::Sx.Own 66 3 (.slice ad u.added.length cap) u.added.length xs::aV H3 ps u.s::aA b2 [ptr p] 114::aB nameQ q d::R) (fun x y z=>[]) (fun x y z t=>[]) hs hw ?kk ⟨drs,?m0,drs,drs,drs,drs,?m1,?f7,?f8,?f9,drs,trivial⟩
 case m0=>
  intro x y z t LD a W hs hw;have hw:Has 0 w0 W (aV H3 p2 T.1::Fz H3::bK p q u.c (.slice ad u.added.length cap) ps::Sx.Own 66 3 (.slice ad u.added.length cap) u.added.length xs::aV H3 ps u.s::aA b2 [ptr p] 114::aB nameQ q d::R):=hw.pm;refine aH hs (hc:=aAe w0 W H3 p2 T.1 _ (by omega) (fun r hr=>by have:=(hTr r hr).1.2;omega) hw) (k:=?_);rintro e' W' ⟨rad,rcap,ys,H4,rfl,hle4,hch4,hw⟩;refine ⟨_,rfl,fun a hs=>?_⟩;have hw:Has 0 w0 W' (Sx.Own 68 5 (.slice rad T.1.l.length rcap) T.1.l.length ys::Fz H4::aV H4 p2 T.1::bK p q u.c (.slice ad u.added.length cap) ps::Sx.Own 66 3 (.slice ad u.added.length cap) u.added.length xs::aV H3 ps u.s::aA b2 [ptr p] 114::aB nameQ q d::R):=hw.pm;obtain ⟨H5,hle5,hw,hr5⟩:=hw.freeze_own;have hw:=hw.lz hle5;have hw:=hw.fzf (show Fh.le H3 H5∧jB H5 (.slice rad T.1.l.length rcap) T.1.l from ⟨hle4.trans hle5,ys,hr5,hch4.mono (RowIn.le hle5)⟩);exact ⟨{ad:=rad,cap:=rcap,H:=H5},hs,hw⟩
 case m1=>
  intro x y z t LD a W hs hw;have hw:Has 0 w0 W (aV H3 ps u.s::FzF x.H (Fh.le H3 x.H∧jB x.H (.slice x.ad T.1.l.length x.cap) T.1.l)::aV x.H p2 T.1::bK p q u.c (.slice ad u.added.length cap) ps::Sx.Own 66 3 (.slice ad u.added.length cap) u.added.length xs::aA b2 [ptr p] 114::aB nameQ q d::R):=hw.sl;refine cl hs (sA w0 W H3 ps u.s _ (by omega) hw) fun a W hs hw=>?_;exact ⟨{},hs,hw.sl⟩
 case f7=>
  refine ⟨trivial,trivial,?_,trivial,trivial⟩;intro x y z t LD a W hs hw;refine sv hs hw fun a hs=>?_;rw [show IntKind.i64.wrap ((u.s.l.length:Int)+1 - 1)=(m:Int) from by rw [IntWalk.i64_in _ (by omega)];omega] at hs;exact ⟨hs,hw⟩
 case f8=>
  refine ⟨trivial,trivial,?_,trivial,trivial⟩;intro x y z t LD a W hs hw;refine aCG (z:=zrc) hs hmT fun a hs=>?_;exact ⟨hs,hw⟩
 case f9=>
  refine ⟨trivial,trivial,?_,trivial,trivial⟩;intro x y z t LD a W hs hw;refine rK hs (k:=fun a hs=>?_);rw [←hll] at hs;exact ⟨hs,hw⟩
 case kk=>
 intro x y a W hs hw;obtain ⟨⟨hle4,hr4⟩,hw⟩:=hw.unfzf;have hw:=hw.lz hle4;obtain ⟨H4,hH4⟩:∃H4,H4=x.H:=⟨_,rfl⟩
 obtain ⟨lv,hlv⟩:∃lv,lv=loV x.ad 5 T.1.l.length x.cap m:=⟨_,rfl⟩
 obtain ⟨ys,hr5,hch5⟩:=hr4;have hrd:RdH x.H 5 lv l.length (ys.drop (m*5)):=by rw [hlv,hll];exact aHk hr5 hmT
 have hcl:Ch (RowIn x.H) l (ys.drop (m*5)):=by rw [hl];exact hch5.drop RowIn.len m
 replace hs:Slots a 78 [(0,ptr p),(2,ptr b2),(6,ptr p2),(8,.int .i64 (T.2.1:Int)),(9,.int .i64 E9),(10,.slice none 0 0),(55,lv),(56,.int .i64 (l.length:Int)),(57,.int .i64 0)]:=by rw [hlv];exact hs.ot
 rw [←hH4] at hrd hcl hle4 hw;clear hH4 hlv hr5 hch5;have hw:Has 0 w0 W (bK p q u.c (.slice ad u.added.length cap) ps::Sx.Own 66 3 (.slice ad u.added.length cap) u.added.length xs::aA b2 [ptr p] 114::aB nameQ q d::aV H4 p2 T.1::Fz H4::R):=hw.sl;have hw:Has 0 w0 W (bG (.slice none 0 0) []::bK p q u.c (.slice ad u.added.length cap) ps::Sx.Own 66 3 (.slice ad u.added.length cap) u.added.length xs::aA b2 [ptr p] 114::aB nameQ q d::aV H4 p2 T.1::Fz H4::R):=hw.nilB 5;have hH4:(fr w0).le H4:=hH.trans (hle3.trans hle4);have hlm:∀r∈l,(jT r∧r.b.l.length≤8)∧dS r.b=true:=fun r hr=>hTr r (by rw [hl] at hr;exact List.mem_of_mem_drop hr);have hfl:∀i:Nat,((l.take i).flatMap fP).length≤1000*1300:=fun i=>by
  have h1:=aCJ (l:=l.take i) fun r hr=>(hlm r (List.mem_of_mem_take hr)).2;have h2:(l.take i).length≤1000:=by rw [List.length_take];omega
  omega
 refine sc hs ?_;refine bX (σ:=Nat×Option Addr×Nat) (fun z=>[(0,ptr p),(2,ptr b2),(6,ptr p2),(8,.int .i64 (T.2.1:Int)),(9,.int .i64 E9),(10,.slice z.2.1 ((l.take z.1).flatMap fP).length z.2.2),(55,lv),(56,.int .i64 (l.length:Int)),(57,.int .i64 (z.1:Int))]) (fun z=>bG (.slice (z.2.1) ((l.take (z.1)).flatMap fP).length (z.2.2)) ((l.take (z.1)).flatMap fP)::bK p q u.c (.slice ad u.added.length cap) ps::Sx.Own 66 3 (.slice ad u.added.length cap) u.added.length xs::aA b2 [ptr p] 114::aB nameQ q d::aV H4 p2 T.1::Fz H4::R) (fun z=>z.1≤l.length) (fun z=>l.length - z.1) (0,none,0) (Nat.zero_le _) hs ⟨rfl,rfl,rfl,rfl,rfl,rfl,rfl,rfl,rfl,trivial⟩ hw ?_;clear hs hw;rintro ⟨i,gad,gcap⟩ a W hi hs hw;simp only at hi hs hw;refine sv hs hw fun a hs=>?_;refine cI hs (kt:=fun hcc=>?_) (kf:=fun hcc=>?_)
 ·have hi':i<l.length:=by simpa using hcc
  obtain ⟨o,ho9,hd⟩:=dP hi';obtain ⟨⟨hok,ho8⟩,hom⟩:=hlm o (List.mem_of_getElem? ho9);refine sc hs ?_;refine gT hs (r:=hw.rdH inn hrd) (hk:=RowIn.len) (ch:=hcl) (ho:=ho9) (hlen:=rfl) (c:=fun a g off c hmc hcl9 hpc hlt hs=>?_);obtain ⟨sv9,rfl,hsv⟩:=hmc;obtain ⟨oad,ocap,rfl⟩:=hsv.slice;refine eC hs (z:=zrc) (cs:=aI o _) (hc:=hpc) (hl:=by rfl) (c:=fun a hs=>?_);refine sn hs hw fun b12 a W hs hw=>?_;refine sx hs hw fun a W hs hw=>?_;refine cle hs (aHe o hok hom hsv hH4 hT inn hw) fun f a W _ hs hw=>?_;refine gQ hs (hw.pick (Pick.tl (Pick.tl Pick.hd))) (l:=(l.take i).flatMap fP) (m:=fP o) (hr:=eZ (hw.rd_own In.hd) (iY _)) (hb:=by have:=hfl i;have:=aCI hom;omega) (c:=fun a ad2 cap2 W hs hw=>?_);have e9:(l.take i).flatMap fP ++ fP o=(l.take (i+1)).flatMap fP:=by rw [fQ ho9,List.flatMap_append];simp
  rw [e9] at hs hw;refine sv hs hw fun a hs=>?_;refine bS (i+1,ad2,cap2) hs (hw.sl) hi' (by show l.length - (i+1)<l.length - i;omega) ⟨rfl,rfl,rfl,rfl,rfl,rfl,rfl,rfl,bU (i1 (by omega)),trivial⟩
 ·have h9:l.take i=l:=List.take_of_length_le (by simp at hcc;omega);have hfl9:=hfl i;rw [h9] at hs hw hfl9;refine sx hs hw fun a W hs hw=>?_;have hw:Has 0 w0 W (aB nameQ q d::bK p q u.c (.slice ad u.added.length cap) ps::bG (.slice gad (l.flatMap fP).length gcap) (l.flatMap fP)::Sx.Own 66 3 (.slice ad u.added.length cap) u.added.length xs::aA b2 [ptr p] 114::aV H4 p2 T.1::Fz H4::R):=hw.sl;refine cl hs (aCE h3 (fun g=>g.rd_own In.hd) hw) fun a W hs hw=>?_;refine sv hs hw fun a hs=>?_;rw [show ((0:Int) !=0)=false from rfl] at hs;refine sx hs hw fun a W hs hw=>?_;refine rt2 hs rfl rfl rfl ⟨H4,rfl,hle3.trans hle4,?_⟩;have hw:Has 0 w0 W (bK p q u.c (.slice ad u.added.length cap) p2::Sx.Own 66 3 (.slice ad u.added.length cap) u.added.length xs::aV H4 p2 T.1::aB nameQ q d3::Fz H4::R):=hw.sl;exact lD (u:={u with s:=T.1}) hw (hc3.mono (BatIn.le hle4)) c5
end
section
variable {H H':Fh} {p q ps:Nat} {w0 W:World} {R L:List Res}
theorem aHm (hw:Has 0 w0 W R):Calls prog 200 ⟨[.slice none 0 0]⟩ W fun e W'=>e= .returned (.tuple ⟨[.slice none 0 0,.int .i64 0]⟩)∧Has 0 w0 W' R:=by
 refine en Tryz.func200 Tryz.ntmps200 fun a hs=>?_;refine sv hs hw fun a hs=>?_;refine bX (σ:=Unit) (fun _=>[(0,.slice none 0 0),(4,.slice none 0 0),(5,.int .i64 0)]) (fun _=>R) (fun _=>True) (fun _=>0) () trivial hs ⟨rfl,rfl,rfl,trivial⟩ hw ?_;clear hs hw;intro _ a W _ hs hw;refine sv hs hw fun a hs=>?_;exact rt2 hs rfl rfl rfl ⟨rfl,hw⟩
def eI (c:Int):cZ:=⟨c,[],⟨fY,[]⟩⟩
theorem aHn (H:Fh) (c:Int) (ho:gM (eI c)=true) (hw:Has 0 w0 W (aB nameQ q none::R)):
  Calls prog 128 ⟨[ptr q,.int .i64 c]⟩ W fun e W'=>∃p:Nat,e= .returned (.tuple ⟨[ptr p,.int .i64 0]⟩)∧True∧Has 0 w0 W' (eN H p q (eI c)::aB nameQ q none::R):=by
 have hf:=m9 ho;have hc1:decide (c<1)=false:=decide_eq_false (by have:=hf.c.1;show¬(eI c).c<1;omega);have hc2:decide (c > 5)=false:=decide_eq_false (by have:=hf.c.2;show¬(eI c).c > 5;omega);refine en Tryz.func128 Tryz.ntmps128 fun a hs=>?_;refine sv hs hw fun a hs=>?_;rw [hc1] at hs;refine sv hs hw fun a hs=>?_;rw [hc2] at hs;refine sx hs hw fun a W hs hw=>?_;refine aH hs (hc:=aFX w0 W H _ hw) (k:=?_);rintro e' W' ⟨ps,rfl,hw⟩;refine ⟨_,rfl,fun a hs=>?_⟩;refine sv hs hw fun a hs=>?_;refine sn hs hw fun p a W hs hw=>?_;refine sx hs hw fun a W hs hw=>?_;have hw:Has 0 w0 W (aB nameQ q none::bK p q c (.slice none 0 0) ps::aV H ps ⟨fY,[]⟩::R):=hw.pm;refine cl hs (aBP w0 _ nameQ _ hw) fun a W hs hw=>?_;refine sv hs hw fun a hs=>?_;refine cl hs (aHm hw) fun a W hs hw=>?_;refine sv hs hw fun a hs=>?_;refine bX (σ:=Unit) (fun _=>[(6,ptr p),(7,.slice none 0 0),(10,.int .i64 0),(40,.int .i64 0),(41,.int .i64 0)]) (fun _=>aB nameQ q none::bK p q c (.slice none 0 0) ps::aV H ps ⟨fY,[]⟩::R) (fun _=>True) (fun _=>0) () trivial hs ⟨rfl,rfl,rfl,rfl,rfl,trivial⟩ hw ?_;clear hs hw;intro _ a W _ hs hw;refine sv hs hw fun a hs=>?_;refine rt2 hs rfl rfl rfl ⟨p,rfl,trivial,?_⟩;have hw:Has 0 w0 W (bK p q c (.slice none 0 0) ps::aV H ps ⟨fY,[]⟩::aB nameQ q none::R):=hw.pm;have hw:=hw.nilOwn 66 3;exact lD (u:=eI c) hw.swap2 rfl ho
end
end Go.Proofs.YtgpbngfehfbndaaGreatDoor.Sw
