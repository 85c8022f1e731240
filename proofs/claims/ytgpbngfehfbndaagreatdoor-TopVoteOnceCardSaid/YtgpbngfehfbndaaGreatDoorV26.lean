import Derived.Test.YtgpbngfehfbndaaGreatDoorV22
import Derived.Test.YtgpbngfehfbndaaGreatDoorV24
set_option maxHeartbeats 16000000
set_option linter.all false
set_option maxRecDepth 10000
namespace Go.Sx
open Go.RowKit
section
variable {P:Program} {ops:Array Oper} {rest:List Oper} {Q:Exit→Act→World→Prop} {a:Act} {n G:Nat} {L:List (Nat×Value)} {w W:World} {R:List Res} {d k m size cap:Nat} {ad:Option Addr} {T S E:TypeId} {p:String} {e:Array Edge} {x hi:Operand} {xs z:List Value} {q:IntKind}
theorem Has.own_at (h:Has G w W (Own E size (.slice ad k cap) k xs::R)):k≤cap∧(ad=none∨∃g,ad=some ⟨g,0,none⟩):=by
 rcases h.own_cases with ⟨e,rfl⟩|⟨g,cap',cur,e,ht,hcl,hkc,hcm,hw2⟩
 ·injection e with e1 e2 e3;exact ⟨Nat.zero_le _,.inl e1⟩
 ·injection e with e1 e2 e3;subst e3;exact ⟨hkc,.inr ⟨g,e1⟩⟩
theorem Has.own_hi (h:Has G w W (Own E size (.slice ad k cap) k xs::R)) (h1:m≤k):Has G w W (Own E size (.slice ad m cap) m (xs.take (m*size))::R):=by
 rcases h.own_cases with ⟨e,rfl⟩|⟨g,cap',cur,e,ht,hcl,hkc,hcm,hw2⟩
 ·obtain rfl:m=0:=by omega
  have hx0:xs= []:=by
   obtain ⟨F1,_,⟨hl0,_⟩,_⟩:=h.has;rw [Nat.zero_mul] at hl0;exact List.eq_nil_of_length_eq_zero hl0
  subst hx0;simpa using h
 ·injection e with e1 e2 e3;subst e1 e3;refine hw2.shut_own ?_ hcl (by omega) hcm;rw [←ht,List.take_take,Nat.min_eq_left (Nat.mul_le_mul_right size h1)]
theorem aI6 {agg:Bool} [sl:Sl P S E] [t:Ty P E agg z] (hs:Slots a n L) (h1:m≤k) (hc:k≤cap) (ha:ad=none∨∃g,ad=some ⟨g,0,none⟩) (c:∀a',Slots a' n ((d,.slice ad m cap)::L)→wpList P ops Q rest a' W) (hx:ev L x=some (.slice ad k cap):=by with_unfolding_all exact rfl) (hl:ev L hi=some (.int q (m:Int)):=by with_unfolding_all exact rfl) (hd:Nat.blt d n=true:=by with_unfolding_all exact rfl):
  wpList P ops Q (⟨some d,.slice S x none (some hi) none,T,p,e,none⟩::rest) a W:=by
 have hb:(Instr.sliceBound (.int q (m:Int)) cap .sliceAcap).run P W= .ok m W:=by
  have:(0:Int)≤(m:Int)∧(m:Int)≤(cap:Int):=⟨by omega,by omega⟩
  simp only [Instr.sliceBound,asIntOf,Sem.run_bind,Sem.run_pure,Result.andThen_ok];rw [if_pos this];simp
 have hbs:(Instr.sliceBounds true k cap none (some (.int q (m:Int))) none).run P W= .ok (0,m,cap) W:=by
  unfold Instr.sliceBounds;simp [hb]
 refine bP hs hd (v:= .slice ad m cap) (W':=W) ?_ c;simp only [execOp,Option.map_some,Option.map_none,hs.ev hx,hs.ev hl,Instr.sliceAt,Instr.slice,Sem.run_bind,run_underlying sl.out,Result.andThen_ok,hbs,t.sizeOf,Sem.run_pure];rcases ha with rfl|⟨g,rfl⟩
 ·simp
 ·by_cases h9:cap=0
  ·simp [h9]
  ·simp [h9,eF]
end
end Go.Sx
namespace Go.Proofs.YtgpbngfehfbndaaGreatDoor.Sw
open Go.RowKit Go.Sx
open Go.Proofs.Tryz (prog)
section
variable {w0 W:World} {R:List Res} {H:Fh} {p q b3 sz:Nat} {v:Value} {k k':dD} {d:bM}
theorem aC3 {rec:eE} (h:l9 k rec=some k') (hh:rec.hard=true):k'= {k with h:=rec.h}:=by
 unfold l9 at h;rw [if_pos hh] at h;injection h with h;exact h.symm
theorem aC4 {rec:eE} (h:l9 k rec=some k') (hh:rec.hard=false):∃A:Nat,rec.e.ix - k.s.ix - 1=(A:Int)∧A≤k.log.length∧A<200∧k'= {k with log:=k.log.take A ++ [rec.e]}:=by
 unfold l9 at h;rw [hh,if_neg (by decide)] at h;split at h
 ·cases h
 ·injection h with h;exact ⟨(rec.e.ix - k.s.ix - 1).toNat,by omega,by omega,by omega,h.symm⟩
theorem aI7 {rec:eE} {ad:Option Addr} {cap:Nat} (h:l9 k rec=some k') (hl:k.log.length≤200) (hsi:0≤k.s.ix∧k.s.ix≤1099511627776) (hri:rec.hard=false→0≤rec.e.ix∧rec.e.ix≤1099511627776) (hw:Has 0 w0 W (bO p q k.h k.s (.slice ad k.log.length cap) sz::bE (.slice ad k.log.length cap) k.log::R)):
  Calls prog 151 ⟨[.pointer (some ⟨p,1,none⟩),.agg ⟨eB rec⟩]⟩ W fun e W'=>∃x:Option Addr×Nat,e= .returned (.bool true)∧True∧Has 0 w0 W' (bO p q k'.h k'.s (.slice x.1 k'.log.length x.2) sz::bE (.slice x.1 k'.log.length x.2) k'.log::R):=by
 refine en Tryz.func151 Tryz.ntmps151 fun a hs=>?_;refine sc hs ?_;refine sn hs hw fun b3 a W hs hw=>?_;refine sv hs hw fun a hs=>?_;cases hh:rec.hard with
 |true=>
  obtain rfl:=aC3 h hh;rw [hh] at hs;refine sx hs hw fun a W hs hw=>?_;refine rt1 hs rfl rfl ⟨(ad,cap),rfl,trivial,hw.sl⟩
 |false=>
  obtain ⟨A,hA,hAl,hA2,rfl⟩:=aC4 h hh;have hri:=hri hh;rw [hh] at hs;refine sc hs ?_;have hw:Has 0 w0 W (bE (.slice ad k.log.length cap) k.log::bO p q k.h k.s (.slice ad k.log.length cap) sz::aA b3 (eB rec) 238::R):=hw.pm;obtain ⟨hcap,had⟩:=hw.own_at;refine bB [] [.f 0 0,.f 0 0,.f 0 0,.f 0 0,.f 0 0,.f 0 0,.f 0 0,.f 0 0,.f 0 0,.f 0 0,.f 0 0] [.c0 _,.c0 _,.c0 _,.c0 _,.c0 _,.c0 _,.c0 _,.c0 _,.c0 _,.c0 _,.c0 _] (bE (.slice ad k.log.length cap) k.log::bO p q k.h k.s (.slice ad k.log.length cap) sz::aA b3 (eB rec) 238::R) (fun x=>[]) (fun x y=>[]) (fun x y z=>[]) (fun x y z t=>[]) hs hw ?kk ⟨drs,drs,drs,drs,drs,drs,drs,drs,drs,drs,drs,trivial⟩
  case kk=>
  intro a W hs hw;rw [show IntKind.i64.wrap (IntKind.i64.wrap (rec.e.ix - k.s.ix) - 1)=(A:Int) by rw [IntWalk.i64_in (rec.e.ix - k.s.ix) (by omega),IntWalk.i64_in _ (by omega)];exact hA] at hs;replace hs:Slots a 51 [(0,.pointer (some ⟨p,1,none⟩)),(3,ptr b3),(5,.int .i64 (A:Int))]:=hs.ot;refine sv hs hw fun a hs=>?_;rw [show decide ((A:Int)<0)=false from decide_eq_false (by omega)] at hs;refine sv hs hw fun a hs=>?_;rw [show decide ((A:Int) > (k.log.length:Int))=false from decide_eq_false (by omega)] at hs;refine sv hs hw fun a hs=>?_;rw [show decide ((A:Int)≥200)=false from decide_eq_false (by omega)] at hs;refine sc hs ?_;replace hs:Slots a 51 [(0,.pointer (some ⟨p,1,none⟩)),(3,ptr b3),(5,.int .i64 (A:Int))]:=hs.ot;have htl:(k.log.take A).length=A:=by rw [List.length_take];omega
  refine bB [9,10,13] [.f 0 2,.f 0 1,.f 0 1,.f 0 1,.f 0 1,.f 0 1,.f 0 1,.f 0 0,.f 0 0,.m 0,.m 1,.f 2 2,.f 2 2,.m 2] [.c0 _,.c0 _,.c0 _,.c0 _,.c0 _,.c0 _,.c0 (.slice ad (k.log.take A).length cap),.c0 _,.c0 _,.c1 (fun x=> .slice (some ⟨x.n,0,none⟩) 1 1),.c2 (fun x y=> .slice y.ad (k.log.take A ++ [rec.e]).length y.cap),.c2 _,.c2 _,.c3 (fun x y z=>undef)] (bE (.slice ad k.log.length cap) k.log::bO p q k.h k.s (.slice ad k.log.length cap) sz::aA b3 (eB rec) 238::R) (fun x=>aA x.n (bA rec.e) 137::bE (.slice ad k.log.length cap) k.log::bO p q k.h k.s (.slice ad k.log.length cap) sz::aA b3 (eB rec) 238::R) (fun x y=>bE (.slice y.ad (k.log.take A ++ [rec.e]).length y.cap) (k.log.take A ++ [rec.e])::bO p q k.h k.s (.slice ad k.log.length cap) sz::aA b3 (eB rec) 238::R) (fun x y z=>bE (.slice y.ad (k.log.take A ++ [rec.e]).length y.cap) (k.log.take A ++ [rec.e])::bO p q k.h k.s (.slice y.ad (k.log.take A ++ [rec.e]).length y.cap) sz::aA b3 (eB rec) 238::R) (fun x y z t=>[]) hs hw ?kk ⟨drs,drs,drs,drs,drs,drs,?f6,drs,drs,drn,?m1,drs,drs,drm,trivial⟩
  case f6=>
   refine ⟨?_,?_,trivial,trivial,trivial⟩ <;>
   ·intro x y z u LD a W hs hw;refine aI6 (z:=zEnt) (m:=(k.log.take A).length) hs (by rw [htl];exact hAl) hcap had (fun a hs=>?_) (hl:=by rw [htl];with_unfolding_all exact rfl);exact ⟨hs,hw⟩
  case m1=>
   intro x y z u LD a W hs hw;have hw:Has 0 w0 W (bE (.slice ad k.log.length cap) k.log::aA x.n (bA rec.e) 137::bO p q k.h k.s (.slice ad k.log.length cap) sz::aA b3 (eB rec) 238::R):=hw.pm;have hw:=hw.own_hi hAl;have hw:Has 0 w0 W (bE (.slice ad (k.log.take A).length cap) (k.log.take A)::aA x.n (bA rec.e) 137::bO p q k.h k.s (.slice ad k.log.length cap) sz::aA b3 (eB rec) 238::R):=by
    unfold bE;rw [htl,p8];exact hw
   refine i6 hs (hw:=hw) (hi:=In.hd) (ch:=nZ _) (ha:=(rfl:EE rec.e (bA rec.e))) (hl:=rfl) (h1:=rfl) (hb:=by omega) (h63:=by omega) (k:=fun a ad2 cap2 W hs hw _=>?_);have hw:Has 0 w0 W (bE (.slice ad2 (k.log.take A ++ [rec.e]).length cap2) (k.log.take A ++ [rec.e])::aA x.n (bA rec.e) 137::bO p q k.h k.s (.slice ad k.log.length cap) sz::aA b3 (eB rec) 238::R):=by
    have e9:(k.log.take A).flatMap bA ++ bA rec.e=(k.log.take A ++ [rec.e]).flatMap bA:=by simp
    unfold bE;rw [←e9];exact hw
   exact ⟨{ad:=ad2,cap:=cap2},hs,hw.sl⟩
  case kk=>
  intro x y z a W hs hw;refine sv hs hw fun a hs=>?_;exact rt1 hs rfl rfl ⟨(y.ad,y.cap),rfl,trivial,hw.sl⟩
theorem aI8 {rec:eE} (h:l9 k rec=some k'):k'.s=k.s∧(k.log.length≤200→k'.log.length≤200)∧k'.size=k.size:=by
 cases hh:rec.hard with
 |true=>rw [aC3 h hh];exact ⟨rfl,id,rfl⟩
 |false=>
  obtain ⟨A,hA,hAl,hA2,rfl⟩:=aC4 h hh;refine ⟨rfl,fun _=>?_,rfl⟩;show (k.log.take A ++ [rec.e]).length≤200;rw [List.length_append,List.length_take];simp only [List.length_cons,List.length_nil];omega
theorem aC5:∀{m:Nat} {b:List UInt8} {l:List eE},jJ m b=some l→∀r∈l,r.hard=false→0≤r.e.ix∧r.e.ix≤1099511627776
 |0,_,_,h=>by cases h
 |m+1,[],l,h=>by
  unfold jJ at h;injection h with h;subst h;intro r hr;cases hr
 |m+1,c::b,l,h=>by
  have h:((nE (c::b)).bind fun x=>(jJ m ((c::b).drop x.2)).map fun l=>x.1::l)=some l:=h;obtain ⟨⟨rec,n⟩,h1,h⟩:=Option.bind_eq_some_iff.1 h;obtain ⟨l2,h2,h3⟩:=Option.map_eq_some_iff.1 h;have ih:=aC5 h2;subst h3;intro r hr hh;rcases List.mem_cons.1 hr with rfl|hr
  ·obtain ⟨body,⟨_,h4⟩|⟨_,h4⟩⟩:=x7 h1
   ·obtain ⟨t,vt,s1,_,_,_,e⟩:=aCZ h4;rw [e] at hh;cases hh
   ·obtain ⟨i,t,kd,d,s1,s2,s3,_,_,_,_,hm,e⟩:=aC0 h4;rw [e];unfold eH in1 at hm;simp at hm;show 0≤i∧i≤1099511627776;omega
  ·exact ih r hr hh
theorem aI9 {b:List UInt8} (h:rC b=some k):∃(s:dI) (n:Nat) (l:List eE) (k0:dD),nF b=some (s,n)∧jJ 700 (b.drop n)=some l∧oJ ⟨⟨0,0⟩,s,[],0⟩ l=some k0∧k= {k0 with size:=b.length}:=by
 unfold rC at h;obtain ⟨⟨s,n⟩,h1,h⟩:=Option.bind_eq_some_iff.1 h;obtain ⟨l,h2,h⟩:=Option.bind_eq_some_iff.1 h;obtain ⟨k0,h3,h4⟩:=Option.map_eq_some_iff.1 h;exact ⟨s,n,l,k0,h1,h2,h3,h4.symm⟩
theorem aIa {b:List UInt8} {s:dI} {n:Nat} (h:nF b=some (s,n)):0≤s.ix∧s.ix≤1099511627776:=by
 obtain ⟨body,n1,s0,left,all,n2,_,h2,_,rfl,_⟩:=uC h;obtain ⟨i,t,c,s1,s2,s3,_,_,_,_,hm,_,rfl⟩:=aC1 h2;unfold eK cV at hm;simp at hm;show 0≤i∧i≤1099511627776;omega
end
section
variable {w0 W:World} {R:List Res} {H:Fh} {p q b3 sz:Nat} {v:Value} {k k':dD} {d:bM}
theorem aIb {l:List eE} {i:Nat} {r:eE} (h:oJ k (l.drop i)=some k') (hi:l[i]? =some r):∃k2,l9 k r=some k2∧oJ k2 (l.drop (i+1))=some k':=by
 rw [List.drop_eq_getElem_cons (List.getElem?_eq_some_iff.1 hi).1,(List.getElem?_eq_some_iff.1 hi).2] at h;exact Option.bind_eq_some_iff.1 h
theorem aIc {fd:jD} (h:rC fd.b=some k) (hl:fd.b.length≤1048576) (hw:Has 0 w0 W (aB nameS q (some fd)::Fz H::R)):
  Calls prog 86 ⟨[ptr q]⟩ W fun e W'=>∃(p:Nat) (H':Fh),e= .returned (.tuple ⟨[ptr p,.int .i64 0]⟩)∧H.le H'∧Has 0 w0 W' (aW p q k::aB nameS q (some fd)::Fz H'::R):=by
 obtain ⟨s,n,l,k0,hsn,hsc,htk,rfl⟩:=aI9 h;have hix:=aIa hsn;have hn:=aI4 hsn;have hrix:=aC5 hsc;have hpos:0<fd.b.length:=by
  obtain ⟨body,n1,s0,left,all,n2,h1,_⟩:=uC hsn;obtain ⟨c,t,g1,g2,h2,_⟩:=x4 h1;rw [h2,List.length_cons];omega
 clear h;refine en Tryz.func86 Tryz.ntmps86 fun a hs=>?_;refine sv hs hw fun a hs=>?_;refine sn hs hw fun p a W hs hw=>?_;refine sv hs hw fun a hs=>?_;have hw:Has 0 w0 W (aB nameS q (some fd)::bO p q ⟨0,0⟩ zeroSnap (.slice none 0 0) 0::Fz H::R):=hw.pm;refine cle hs (aGR w0 W nameS fd (by omega) _ hw) fun x a W _ hs hw=>?_;have hw:Has 0 w0 W (bG (.slice x.1 fd.b.length x.2) fd.b::Fz H::bO p q ⟨0,0⟩ zeroSnap (.slice none 0 0) 0::aB nameS q (some fd)::R):=hw.pm;obtain ⟨H2,hle,hw,rb⟩:=hw.freeze_own;obtain ⟨b,hb⟩:∃b,b=fd.b:=⟨_,rfl⟩
 rw [←hb] at hs rb hsn hsc hn hpos hl⊢;have hcap:=rb.caps;refine sv hs hw fun a hs=>?_;refine aH hs (hc:=aI5 hsn (by omega) rb hw) (k:=?_);rintro e' W ⟨H3,rfl,hle3,hw⟩;refine ⟨_,rfl,fun a hs=>?_⟩;refine sv hs hw fun a hs=>?_;refine sn hs hw fun b7 a W hs hw=>?_;refine sx hs hw fun a W hs hw=>?_;refine oL hs hn hcap (fun a hs=>?_);have rd:=(rE rb hn).le hle3;have hdl:(b.drop n).length=b.length - n:=List.length_drop;obtain ⟨sad,hsad⟩:∃u,u=(if x.2=n then x.1 else x.1.map (·.add (n*1))):=⟨_,rfl⟩
 have hsv:slV x.1 x.2 n b.length= .slice sad (b.drop n).length (x.2 - n):=by unfold slV;rw [←hsad,hdl]
 rw [hsv] at hs rd;have hw:Has 0 w0 W (Fz H3::bO p q ⟨0,0⟩ s (.slice none 0 0) 0::aA b7 (dM s) 36::aB nameS q (some fd)::R):=hw.pm;refine aH hs (hc:=aI3 hsc (by decide) (by omega) rd hw) (k:=?_);rintro e' W ⟨lv,H4,rfl,hle4,hw⟩;refine ⟨_,rfl,fun a hs=>?_⟩;obtain ⟨lad,lcap,rfl⟩:=Has.own_slice hw;refine sv hs hw fun a hs=>?_;have hlb:=(hw.rd_own In.hd).len;have hw:Has 0 w0 W (bO p q ⟨0,0⟩ s (.slice none 0 0) 0::bE (.slice none 0 0) []::j1 (.slice lad l.length lcap) l::Fz H4::aA b7 (dM s) 36::aB nameS q (some fd)::R):=(show Has 0 w0 W (bE (.slice none 0 0) []::_) from hw.nilOwn 137 4).pm;refine Code.wp_mono (fun e a W (q9:e= .exit 0∧∃(kad:Option Addr) (kcap:Nat),Slots a 87 [(4,ptr p),(5,.slice x.1 b.length x.2),(8,.int .i64 (n:Int)),(10,.int .i64 ((b.drop n).length:Int)),(0,ptr q)]∧Has 0 w0 W (bO p q k0.h k0.s (.slice kad k0.log.length kcap) 0::bE (.slice kad k0.log.length kcap) k0.log::j1 (.slice lad l.length lcap) l::Fz H4::aA b7 (dM s) 36::aB nameS q (some fd)::R)∧k0.s.ix=s.ix∧k0.log.length≤200)=>?_) ?_
 case refine_1=>
  obtain ⟨rfl,kad,kcap,hs,hw,hk0s,hk0l⟩:=q9;refine sc hs ?_;refine sx hs hw fun a W hs hw=>?_;rw [show IntKind.i64.wrap ((n:Int)+((b.drop n).length:Int))=(b.length:Int) by rw [hdl,IntWalk.i64_in _ (by omega)];omega] at hs hw;rw [show decide ((b.length:Int)<(b.length:Int))=false from decide_eq_false (by omega)] at hs;refine sv hs hw fun a hs=>?_;refine rt2 hs rfl rfl rfl ⟨p,H4,rfl,(hle.trans hle3).trans hle4,?_⟩;have hw:Has 0 w0 W (bO p q k0.h k0.s (.slice kad k0.log.length kcap) b.length::bE (.slice kad k0.log.length kcap) k0.log::aB nameS q (some fd)::Fz H4::R):=hw.sl;exact qD (k:={k0 with size:=b.length}) hw ⟨hk0l,hpos,by show 0≤k0.s.ix;omega,by show k0.s.ix≤1099511627776;omega⟩
 refine bX (σ:=Nat×dD×Option Addr×Nat) (fun z=>[(0,ptr q),(4,ptr p),(5,.slice x.1 b.length x.2),(8,.int .i64 (n:Int)),(10,.int .i64 ((b.drop n).length:Int)),(49,.slice lad l.length lcap),(50,.int .i64 (l.length:Int)),(51,.int .i64 (z.1:Int))]) (fun z=>bO p q z.2.1.h z.2.1.s (.slice z.2.2.1 z.2.1.log.length z.2.2.2) 0::bE (.slice z.2.2.1 z.2.1.log.length z.2.2.2) z.2.1.log::j1 (.slice lad l.length lcap) l::Fz H4::aA b7 (dM s) 36::aB nameS q (some fd)::R) (fun z=>z.1≤l.length∧oJ z.2.1 (l.drop z.1)=some k0∧z.2.1.s.ix=s.ix∧z.2.1.log.length≤200) (fun z=>l.length - z.1) (0,⟨⟨0,0⟩,s,[],0⟩,none,0) ⟨Nat.zero_le _,htk,rfl,Nat.zero_le _⟩ hs ⟨rfl,rfl,rfl,rfl,rfl,rfl,rfl,rfl,trivial⟩ hw ?_;clear hs hw htk;rintro ⟨i,k1,kad,kcap⟩ a W ⟨hi,htk,hk1s,hk1l⟩ hs hw;simp only at hi htk hk1s hk1l hs hw;refine sv hs hw fun a hs=>?_;refine cI hs (kt:=fun hcc=>?_) (kf:=fun hcc=>?_)
 ·have hi':i<l.length:=by simpa using hcc
  obtain ⟨rec,hri,_⟩:=dP hi';obtain ⟨k2,ht2,htk2⟩:=aIb htk hri;obtain ⟨hs2,hl2,_⟩:=aI8 ht2;refine sc hs ?_;refine gT hs (r:=hw.rd_own (In.tl (In.tl In.hd))) (hk:=RecIn.len) (ch:=x8 l) (ho:=hri) (hlen:=rfl) (c:=fun a g off c hmc hcl9 hpc hlt hs=>?_);obtain rfl:c=eB rec:=hmc;refine eC hs (z:=eM false ⟨0,0⟩ fF) (cs:=eB rec) (hc:=hpc) (hl:=by rfl) (c:=fun a hs=>?_);refine sn hs hw fun b13 a W hs hw=>?_;refine sx hs hw fun a W hs hw=>?_;replace hs:Slots a 87 [(0,ptr q),(4,ptr p),(5,.slice x.1 b.length x.2),(8,.int .i64 (n:Int)),(10,.int .i64 ((b.drop n).length:Int)),(13,ptr b13),(49,.slice lad l.length lcap),(50,.int .i64 (l.length:Int)),(51,.int .i64 (i:Int))]:=hs.ot;have hw:Has 0 w0 W (bO p q k1.h k1.s (.slice kad k1.log.length kcap) 0::bE (.slice kad k1.log.length kcap) k1.log::aA b13 (eB rec) 238::j1 (.slice lad l.length lcap) l::Fz H4::aA b7 (dM s) 36::aB nameS q (some fd)::R):=hw.pm;refine zG hs ?_;refine bB [4] [.f 0 0,.f 0 0,.f 0 0,.f 0 0,.m 0,.f 1 1] [.c0 _,.c0 _,.c0 _,.c0 _,.c1 (fun x=> .bool true),.c1 _] (bO p q k1.h k1.s (.slice kad k1.log.length kcap) 0::bE (.slice kad k1.log.length kcap) k1.log::aA b13 (eB rec) 238::j1 (.slice lad l.length lcap) l::Fz H4::aA b7 (dM s) 36::aB nameS q (some fd)::R) (fun x=>bO p q k2.h k2.s (.slice x.ad k2.log.length x.cap) 0::bE (.slice x.ad k2.log.length x.cap) k2.log::aA b13 (eB rec) 238::j1 (.slice lad l.length lcap) l::Fz H4::aA b7 (dM s) 36::aB nameS q (some fd)::R) (fun x y=>[]) (fun x y z=>[]) (fun x y z t=>[]) hs hw ?kk ⟨drs,drs,drs,drs,?m0,drs,trivial⟩
  case m0=>
   intro x1 y z u LD a W hs hw;refine cle hs (aI7 ht2 hk1l (by rw [hk1s];exact hix) (hrix rec (List.mem_of_getElem? hri)) hw) fun s9 a W _ hs hw=>?_;exact ⟨{ad:=s9.1,cap:=s9.2},hs,hw⟩
  case kk=>
  intro xx a W hs hw;refine sv hs hw fun a hs=>?_;refine bS (i+1,k2,xx.ad,xx.cap) hs (hw.sl) ⟨hi',htk2,by show k2.s.ix=s.ix;rw [hs2];exact hk1s,hl2 hk1l⟩ (by show l.length - (i+1)<l.length - i;omega) ⟨rfl,rfl,rfl,rfl,rfl,rfl,rfl,bU (i1 (by omega)),trivial⟩
 ·have hi':i=l.length:=by simp at hcc;omega
  rw [hi',List.drop_length] at htk;injection htk with htk;subst htk;refine sc hs ?_;exact ⟨rfl,kad,kcap,hs.ot,hw,hk1s,hk1l⟩
end
section
variable {nm:ByteArray} {p m f:Nat} {c n:Int} {v:Value} {w w0 W:World} {R L:List Res} {fd:jD} {d:bM}
def uD (fd:jD):Nat:=fd.b.length - fd.lasts
def g0 (fd:jD) (n:Int):Nat:=fd.lasts+(if 0≤n then (n.tmod ((fd.b.length - fd.lasts:Nat)+1:Int)).toNat else 0)
theorem aIf {ad:Option Addr} {cap:Nat} (hl:fd.lasts≤fd.b.length) (hm:fd.b.length≤1048576) (hw:Has 0 w0 W (dJ p m c::bN m [(nm,ptr f)]::eX f (.slice ad fd.b.length cap) fd.lasts fd.there::bG (.slice ad fd.b.length cap) fd.b::R)):
  Calls prog 83 ⟨[ptr p,.string nm]⟩ W fun e W'=>e= .returned (.int .i64 (uD fd:Int))∧Has 0 w0 W' (dJ p m c::bN m [(nm,ptr f)]::eX f (.slice ad fd.b.length cap) fd.lasts fd.there::bG (.slice ad fd.b.length cap) fd.b::R):=by
 refine en Tryz.func83 Tryz.ntmps83 fun a hs=>?_;refine sv hs hw fun a hs=>?_;refine i5 hs (hw:=hw) (hz:=kF) (c:=fun a hs=>?_);rw [lY] at hs;refine sv hs hw fun a hs=>?_;refine bB [] [.f 0 0,.f 0 0,.f 0 0,.f 0 0,.f 0 0,.f 0 0,.f 0 0,.f 0 0,.f 0 0,.f 0 0,.f 0 0,.f 0 0,.f 0 0,.f 0 0,.f 0 0,.f 0 0,.f 0 0,.f 0 0,.f 0 0,.f 0 0,.f 0 0] [.c0 _,.c0 _,.c0 _,.c0 _,.c0 _,.c0 (ptr f),.c0 _,.c0 _,.c0 _,.c0 _,.c0 _,.c0 _,.c0 _,.c0 _,.c0 _,.c0 (ptr f),.c0 _,.c0 _,.c0 _,.c0 _,.c0 _] (dJ p m c::bN m [(nm,ptr f)]::eX f (.slice ad fd.b.length cap) fd.lasts fd.there::bG (.slice ad fd.b.length cap) fd.b::R) (fun x=>[]) (fun x y=>[]) (fun x y z=>[]) (fun x y z t=>[]) hs hw ?kk ⟨drs,drs,drs,drs,drs,?f5,drs,drs,drs,drs,drs,drs,drs,drs,drs,?f15,drs,drs,drs,drs,drs,trivial⟩
 case f5=>
  refine ⟨?_,trivial,trivial,trivial,trivial⟩;intro x y z t LD a W hs hw;refine i5 hs (hw:=hw) (hz:=kF) (c:=fun a hs=>?_);rw [lY] at hs;exact ⟨hs,hw⟩
 case f15=>
  refine ⟨?_,trivial,trivial,trivial,trivial⟩;intro x y z t LD a W hs hw;refine i5 hs (hw:=hw) (hz:=kF) (c:=fun a hs=>?_);rw [lY] at hs;exact ⟨hs,hw⟩
 case kk=>
 intro a W hs hw;rw [show IntKind.i64.wrap ((fd.b.length:Int) - (fd.lasts:Int))=(uD fd:Int) by unfold uD;rw [IntWalk.i64_in _ (by omega)];omega] at hs;refine sc hs ?_;exact rt1 hs rfl rfl ⟨rfl,hw⟩
theorem aIg (l:List ByteArray):Ch (fun (x:ByteArray) c=>c= [Value.string x]) l (l.map Value.string):=by
 induction l with
 |nil=>rfl
 |cons x l ih=>exact ⟨[.string x],l.map Value.string,rfl,rfl,ih⟩
def oN (fd:jD):Bool:=decide (0<fd.lasts) && decide (fd.lasts≤fd.b.length) && decide (fd.b.length≤1048576)
theorem aIh (h:oN fd=true) (hn: -9223372036854775808≤n∧n≤9223372036854775807):0<g0 fd n∧g0 fd n≤fd.b.length∧gO (some fd) n=some ⟨fd.b.take (g0 fd n),g0 fd n,true⟩:=by
 unfold oN at h;simp only [Bool.and_eq_true,decide_eq_true_eq] at h;have h1:g0 fd n≤fd.b.length:=by
  unfold g0;split
  ·rename_i h0;have h2:=Int.tmod_lt_of_pos n (show (0:Int)<((fd.b.length - fd.lasts:Nat)+1:Int) by omega);omega
  ·omega
 have h0:0<g0 fd n:=by unfold g0;omega
 refine ⟨h0,h1,?_⟩;show (if 0<g0 fd n∨fd.there=true then _ else _)=_;rw [if_pos (Or.inl h0)];rfl
theorem aIi {l:List UInt8} {ad:Option Addr} {cap k:Nat} (h:RdB W (.slice ad l.length cap) l) (hk:k≤l.length):RdB W (.slice ad (l.take k).length cap) (l.take k):=by
 obtain ⟨h0,ad',cap',e,h2,h3,h4⟩:=h;injection e with e1 e2 e3;subst e1 e3;have hl:(l.take k).length=k:=by rw [List.length_take];omega
 refine ⟨by simp [bys],ad,cap,rfl,by omega,h3,?_⟩;rcases h4 with h4|⟨b,o,e4,h5,h6⟩
 ·left;omega
 ·right;refine ⟨b,o,e4,h5,fun j x hx=>h6 j x ?_⟩;have e9:bys (l.take k)=(bys l).take k:=by simp [bys]
  rw [e9,List.getElem?_take] at hx;split at hx
  ·exact hx
  ·cases hx
theorem aIj {l:List UInt8} {v:Value} {k:Nat} (hk:l.length=k) (hl:l.length≤1000000000) (hr:∀{W},Has 0 w0 W R→RdB W v l) (hw:Has 0 w0 W R):
  Calls prog 84 ⟨[v]⟩ W fun e W'=>∃s:Option Addr×Nat,e= .returned (.slice s.1 k s.2)∧True∧Has 0 w0 W' (bG (.slice s.1 k s.2) l::R):=by
 subst hk;exact wX w0 W l v R hl hr hw
theorem aIk (hns:nm.size≤1000) (hd:∀fd,d=some fd→oN fd=true) (hn: -9223372036854775808≤n∧n≤9223372036854775807) (hw:Has 0 w0 W (aB nm p d::R)):
  Calls prog 50 ⟨[ptr p,.int .i64 n]⟩ W fun e W'=>∃b:Nat,e= .returned (ptr b)∧True∧Has 0 w0 W' (aB nm b (gO d n)::R):=by
 refine en Tryz.func50 Tryz.ntmps50 fun a hs=>?_;refine sv hs hw fun a hs=>?_;refine sg hs hw (fun b a W hs hw=>?_) (g:=wV (nm:=nm));refine sv hs hw fun a hs=>?_;refine cle hs (xA hns hw.swap2) fun nx a W _ hs hw=>?_;refine sv hs hw fun a hs=>?_;have hll:(eY nm d).length≤1:=by cases d <;> simp [eY]
 refine bX (σ:=Nat) (fun j=>[(0,ptr p),(1,.int .i64 n),(5,ptr b),(14,.slice nx.1 (eY nm d).length nx.2),(15,.int .i64 ((eY nm d).length:Nat)),(16,.int .i64 (j:Int))]) (fun j=>Sx.Own 9 1 (.slice nx.1 (eY nm d).length nx.2) (eY nm d).length ((eY nm d).map Value.string)::aB nm p d::aB nm b (if j=0 then none else gO d n)::R) (fun j=>j≤(eY nm d).length) (fun j=>(eY nm d).length - j) 0 (Nat.zero_le _) hs ⟨rfl,rfl,rfl,rfl,rfl,rfl,trivial⟩ hw ?_;clear hs hw;rintro j a W hj hs hw;refine sv hs hw fun a hs=>?_;refine cI hs (kt:=fun hcc=>?_) (kf:=fun hcc=>?_)
 ·have hj':j<(eY nm d).length:=by simpa using hcc
  have hj0:j=0:=by omega
  subst hj0;cases d with
  |none=>simp [eY] at hj'
  |some fd=>
  have hfb:=hd fd rfl;obtain ⟨h0,h1,hcr⟩:=aIh hfb hn;have hfb2:=hfb;unfold oN at hfb2;simp only [Bool.and_eq_true,decide_eq_true_eq] at hfb2;obtain ⟨⟨b1,b2⟩,b3⟩:=hfb2;have hw:Has 0 w0 W (Sx.Own 9 1 (.slice nx.1 1 nx.2) 1 [Value.string nm]::aB nm p (some fd)::aB nm b none::R):=hw;refine sc hs ?_;refine gT hs (r:=hw.rd_own In.hd) (hk:=fun x c h=>by rw [h];rfl) (ch:=aIg [nm]) (i:=0) (ho:=rfl) (hlen:=rfl) (c:=fun a g off c hmc hcl hpc hlt hs=>?_);subst hmc;refine eQ hs (hc:=hpc 0 _ rfl) (c:=fun a hs=>?_);obtain ⟨m,c,f,ad,cap,hw⟩:=nY hw.swap2;obtain ⟨g,off,cap',hvv,hcap⟩:=jX (hw.rd_own (In.tl (In.tl (In.tl In.hd)))) (show 0<fd.b.length by omega);injection hvv with hv1 _ hv2;subst hv1 hv2;have hw:Has 0 w0 W (dJ p m c::bN m [(nm,ptr f)]::eX f (.slice (some ⟨g,off,none⟩) fd.b.length cap) fd.lasts fd.there::bG (.slice (some ⟨g,off,none⟩) fd.b.length cap) fd.b::Sx.Own 9 1 (.slice nx.1 1 nx.2) 1 [Value.string nm]::aB nm b none::R):=hw;refine sv hs hw fun a hs=>?_;refine i5 hs (hw:=hw) (hz:=kF) (c:=fun a hs=>?_);rw [lY] at hs;refine sv hs hw fun a hs=>?_;refine fD (M:=fun a W=>Slots a 65 ([(7,.string nm),(8,ptr f),(9,.int .i64 (g0 fd n:Int))] ++ [(0,ptr p),(1,.int .i64 n),(5,ptr b),(14,.slice nx.1 1 nx.2),(15,.int .i64 ((1:Nat):Int)),(16,.int .i64 ((0:Nat):Int))])∧Has 0 w0 W (dJ p m c::bN m [(nm,ptr f)]::eX f (.slice (some ⟨g,off,none⟩) fd.b.length cap) fd.lasts fd.there::bG (.slice (some ⟨g,off,none⟩) fd.b.length cap) fd.b::Sx.Own 9 1 (.slice nx.1 1 nx.2) 1 [Value.string nm]::aB nm b none::R)) ?_ ?_
  ·refine cI hs (kt:=fun hcc=>?_) (kf:=fun hcc=>?_)
   ·have h9:0≤n:=by have:=of_decide_eq_true hcc;omega
    have h2:=Int.tmod_lt_of_pos n (show (0:Int)<((fd.b.length - fd.lasts:Nat)+1:Int) by omega);have h3:=Int.tmod_nonneg ((fd.b.length - fd.lasts:Nat)+1:Int) h9;refine sv hs hw fun a hs=>?_;refine cl hs (aIf b2 b3 hw) fun a W hs hw=>?_;rw [show uD fd=fd.b.length - fd.lasts from rfl] at hs;refine sv hs hw fun a hs=>?_;rw [show IntKind.i64.wrap (((fd.b.length - fd.lasts:Nat):Int)+1)=((fd.b.length - fd.lasts:Nat)+1:Int) from IntWalk.i64_in _ (by omega)] at hs;refine zN hs (hne:=by simp;omega) (k:=fun a hs=>?_);refine sv hs hw fun a hs=>?_;rw [show IntKind.i64.wrap ((fd.lasts:Int)+n.tmod ((fd.b.length - fd.lasts:Nat)+1:Int))=(g0 fd n:Int) by unfold g0;rw [if_pos h9,IntWalk.i64_in _ (by omega)];omega] at hs;exact ⟨hs.ot,hw⟩
   ·have h9:¬0≤n:=by have:=of_decide_eq_false hcc;omega
    rw [show (fd.lasts:Int)=(g0 fd n:Int) by unfold g0;rw [if_neg h9];rfl] at hs;refine sc hs ?_;exact ⟨hs.ot,hw⟩
  clear hs hw;rintro a W ⟨hs,hw⟩;generalize g0 fd n=K at *;have hKl:(fd.b.take K).length=K:=by rw [List.length_take];omega
  obtain ⟨m2,c2,hw⟩:=p0 (hw.pm:Has 0 w0 W (aB nm b none::dJ p m c::bN m [(nm,ptr f)]::eX f (.slice (some ⟨g,off,none⟩) fd.b.length cap) fd.lasts fd.there::bG (.slice (some ⟨g,off,none⟩) fd.b.length cap) fd.b::Sx.Own 9 1 (.slice nx.1 1 nx.2) 1 [Value.string nm]::R));refine sv hs hw fun a hs=>?_;rw [show decide ((K:Int) > 0)=true from decide_eq_true (by omega)] at hs;refine sv hs hw fun a hs=>?_;refine bB [11,14,15] [.f 0 2,.f 0 2,.f 0 2,.f 0 2,.f 0 2,.f 0 0,.f 0 0,.f 0 0,.f 0 0,.f 0 0,.f 0 0,.m 0,.f 0 1,.f 1 1,.m 1,.m 2] [.c0 _,.c0 _,.c0 _,.c0 _,.c0 _,.c0 _,.c0 _,.c0 _,.c0 _,.c0 _,.c0 (.slice (some ⟨g,off,none⟩) K cap),.c1 (fun x=> .slice x.ad K x.cap),.c0 _,.c1 _,.c2 (fun x y=> .pointer (some ⟨y.n,0,none⟩)),.c3 (fun x y z=>undef)] (dJ b m2 c2::bN m2 []::dJ p m c::bN m [(nm,ptr f)]::eX f (.slice (some ⟨g,off,none⟩) fd.b.length cap) fd.lasts fd.there::bG (.slice (some ⟨g,off,none⟩) fd.b.length cap) fd.b::Sx.Own 9 1 (.slice nx.1 1 nx.2) 1 [Value.string nm]::R) (fun x=>bG (.slice x.ad K x.cap) (fd.b.take K)::dJ b m2 c2::bN m2 []::dJ p m c::bN m [(nm,ptr f)]::eX f (.slice (some ⟨g,off,none⟩) fd.b.length cap) fd.lasts fd.there::bG (.slice (some ⟨g,off,none⟩) fd.b.length cap) fd.b::Sx.Own 9 1 (.slice nx.1 1 nx.2) 1 [Value.string nm]::R) (fun x y=>eX y.n (.slice x.ad K x.cap) K true::bG (.slice x.ad K x.cap) (fd.b.take K)::dJ b m2 c2::bN m2 []::dJ p m c::bN m [(nm,ptr f)]::eX f (.slice (some ⟨g,off,none⟩) fd.b.length cap) fd.lasts fd.there::bG (.slice (some ⟨g,off,none⟩) fd.b.length cap) fd.b::Sx.Own 9 1 (.slice nx.1 1 nx.2) 1 [Value.string nm]::R) (fun x y z=>eX y.n (.slice x.ad K x.cap) K true::bG (.slice x.ad K x.cap) (fd.b.take K)::dJ b m2 c2::bN m2 [(nm,ptr y.n)]::dJ p m c::bN m [(nm,ptr f)]::eX f (.slice (some ⟨g,off,none⟩) fd.b.length cap) fd.lasts fd.there::bG (.slice (some ⟨g,off,none⟩) fd.b.length cap) fd.b::Sx.Own 9 1 (.slice nx.1 1 nx.2) 1 [Value.string nm]::R) (fun x y z t=>[]) hs hw ?kk ⟨drs,drs,drs,drs,drs,drs,drs,drs,drs,drs,?f10,?m0,drs,drs,drn,?m2,trivial⟩
  case f10=>
   refine ⟨?_,trivial,trivial,trivial,trivial⟩;intro x y z t LD a W hs hw;refine pP (z:=[.int .u8 0]) (g:=g) (o:=off) (m:=K) (k:=fd.b.length) (cap:=cap) hs h1 hcap (by omega) (c:=fun a hs=>?_);exact ⟨hs,hw⟩
  case m0=>
   intro x y z t LD a W hs hw;refine aH hs (hc:=aIj (v:= .slice (some ⟨g,off,none⟩) K cap) hKl (by omega) (fun h=>by have:=aIi (h.rd_own (In.tl (In.tl (In.tl (In.tl (In.tl In.hd)))))) h1;rwa [hKl] at this) hw) (k:=?_);rintro e' W' ⟨s,rfl,_,hw⟩;exact ⟨_,rfl,fun a hs=>⟨{ad:=s.1,cap:=s.2},hs,hw⟩⟩
  case m2=>
   intro x y z t LD a W hs hw;refine nI hs (hw:=hw) (v:=ptr y.n) (c:=fun W hs hw=>?_);exact ⟨{},hs,hw⟩
  case kk=>
  intro x1 y1 _ a W hs hw;have hw:Has 0 w0 W (aB nm b (some ⟨fd.b.take K,K,true⟩)::dJ p m c::bN m [(nm,ptr f)]::eX f (.slice (some ⟨g,off,none⟩) fd.b.length cap) fd.lasts fd.there::bG (.slice (some ⟨g,off,none⟩) fd.b.length cap) fd.b::Sx.Own 9 1 (.slice nx.1 1 nx.2) 1 [Value.string nm]::R):=lZ (f:=y1.n) (fd:=⟨fd.b.take K,K,true⟩) (hw.pm);have hw:Has 0 w0 W (aB nm p (some fd)::aB nm b (some ⟨fd.b.take K,K,true⟩)::Sx.Own 9 1 (.slice nx.1 1 nx.2) 1 [Value.string nm]::R):=lZ (f:=f) (fd:=fd) (hw.pm);refine sv hs hw fun a hs=>?_;refine bS 1 hs (by show Has 0 w0 W (Sx.Own 9 1 (.slice nx.1 1 nx.2) 1 [Value.string nm]::aB nm p (some fd)::aB nm b (gO (some fd) n)::R);rw [hcr];exact hw.pm) (Nat.le_refl _) (by show 1 - 1<1 - 0;omega) ⟨rfl,rfl,rfl,rfl,rfl,bU (by show IntKind.i64.wrap (((0:Nat):Int)+1)=((1:Nat):Int);rfl),trivial⟩
 ·have hj9:j=(eY nm d).length:=by simp at hcc;omega
  have hw:Has 0 w0 W (aB nm b (gO d n)::R):=by
   cases d with
   |none=>
    have hw:Has 0 w0 W (Sx.Own 9 1 (.slice nx.1 0 nx.2) 0 []::aB nm p none::aB nm b (if j=0 then none else none)::R):=hw;rw [ite_self] at hw;exact hw.sl
   |some fd=>
    rw [if_neg (by rw [hj9];simp [eY])] at hw;exact hw.sl
  refine sv hs hw fun a hs=>?_;exact rt1 hs rfl rfl ⟨b,rfl,trivial,hw⟩
end
end Go.Proofs.YtgpbngfehfbndaaGreatDoor.Sw
