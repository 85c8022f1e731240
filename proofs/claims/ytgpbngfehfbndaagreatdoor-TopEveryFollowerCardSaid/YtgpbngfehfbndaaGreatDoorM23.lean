/-
  Texts of the proof, one behind the other (part 23).
-/
import Derived.Test.YtgpbngfehfbndaaGreatDoorM20
import Derived.Test.YtgpbngfehfbndaaGreatDoorChecked
import Derived.Test.YtgpbngfehfbndaaGreatDoorProg
set_option maxHeartbeats 16000000
set_option linter.unusedVariables false
set_option maxRecDepth 10000
namespace Go.Proofs.YtgpbngfehfbndaaGreatDoor.Sw
open Go.RowKit Go.Sx
section
variable {p q:Nat} {h h2:fV} {s s2:eC} {v v2:Value} {log:List cD} {size:Nat} {w0 W:World} {R L:List Res} {d d':bF}
theorem tQ (hl:log.length≤1000) (hr:∀{W},Has 0 w0 W R→Rd W 4 v log.length (log.flatMap bD)) (hw:Has 0 w0 W (cQ p q h s v size::R)):
  Calls Tryz.prog 90 ⟨[ptr p]⟩ W fun e W'=>∃x:Option Addr×Nat,e= .returned (.agg ⟨dH h s (.slice x.1 log.length x.2)⟩)∧True∧Has 0 w0 W' (bV (.slice x.1 log.length x.2) log::cQ p q h s v size::R):=by
 obtain ⟨vad,vcap,rfl⟩:∃ad cap,v= .slice ad log.length cap:=by
  obtain ⟨_,ad,cap,e,_⟩:=hr (hw.d1);exact ⟨ad,cap,e⟩
 refine enter Tryz.func90 Tryz.ntmps90 rfl rfl fun a hs=>?_;refine sc hs ?_;refine sn hs hw fun b2 a W hs hw=>?_;refine sv hs hw fun a hs=>?_;refine sn hs hw fun b3 a W hs hw=>?_;refine sx hs hw fun a W hs hw=>?_;refine cle hs (tN w0 W log _ _ hl (fun h=>hr (h.sub (List.Sublist.cons _ (List.Sublist.cons _ (List.Sublist.cons _ (List.Sublist.refl _)))))) hw) fun x a W _ hs hw=>?_;refine sx hs hw fun a W hs hw=>?_;refine rc1 hs rfl rfl hw inn rfl ⟨x,rfl,trivial,?_⟩;exact hw.sl
theorem aHP (h1:jH h2=true) (hsm:fA s2=true) (hl:log.length≤200) (he:∀e∈log,eS e=true) (hd:nE (dC s2 ++ cW h2 ++ log.flatMap cM)=some d') (hr:∀{W},Has 0 w0 W R→Rd W 4 v2 log.length (log.flatMap bD)) (hw:Has 0 w0 W (cQ p q h s v size::aB nameS q d::R)):
  Calls Tryz.prog 154 ⟨[ptr p,.agg ⟨dH h2 s2 v2⟩]⟩ W fun e W'=>e= .returned (.int .i64 0)∧Has 0 w0 W' (cQ p q h s v (dC s2 ++ cW h2 ++ log.flatMap cM).length::aB nameS q d'::R):=by
 obtain ⟨vad,vcap,rfl⟩:∃ad cap,v2= .slice ad log.length cap:=by
  obtain ⟨_,ad,cap,e,_⟩:=hr (hw.d2);exact ⟨ad,cap,e⟩
 refine enter Tryz.func154 Tryz.ntmps154 rfl rfl fun a hs=>?_;refine sc hs ?_;refine sn hs hw fun b a W hs hw=>?_;refine sv hs hw fun a hs=>?_;refine cle hs (aHO w0 W h2 s2 log _ _ h1 hsm hl he (fun h=>hr (h.sub (List.Sublist.cons _ (List.Sublist.cons _ (List.Sublist.cons _ (List.Sublist.refl _)))))) hw) fun x a W _ hs hw=>?_;refine sv hs hw fun a hs=>?_;have hw:Has 0 w0 W (aB nameS q d::bP (.slice x.1 (dC s2 ++ cW h2 ++ log.flatMap cM).length x.2) (dC s2 ++ cW h2 ++ log.flatMap cM)::aA b (dH h2 s2 (.slice vad log.length vcap)) 158::cQ p q h s v size::R):=hw.pm;refine cl hs (aHG w0 W nameS yJ aCF d d' (dC s2 ++ cW h2 ++ log.flatMap cM) _ _ hd (fun h=>h.rd_own In.hd) hw) fun a W hs hw=>?_;generalize dC s2 ++ cW h2 ++ log.flatMap cM=B at *;refine sx hs hw fun a W hs hw=>?_;exact rt1 hs rfl rfl ⟨rfl,hw.sl⟩
theorem aCI {sa:Option Addr} {sm sk:Nat} (b:List UInt8) (bv:Value) (h0:size≠0) (h9:size+b.length≤1048576) (hd:kQ d b=some d') (hr:∀{W},Has 0 w0 W R→RdB W bv b) (hw:Has 0 w0 W (cQ p q h s v size::aB nameS q d::R)):
  Calls Tryz.prog 259 ⟨[ptr p,bv,.agg ⟨dH h2 s2 (.slice sa sm sk)⟩]⟩ W fun e W'=>e= .returned (.int .i64 0)∧Has 0 w0 W' (cQ p q h2 s2 (.slice sa sm sk) (size+b.length)::aB nameS q d'::R):=by
 obtain ⟨vad,vcap,rfl⟩:∃ad cap,bv= .slice ad b.length cap:=by
  obtain ⟨_,ad,cap,e,_⟩:=hr (hw.d2);exact ⟨ad,cap,e⟩
 have hz:((size:Int) == 0)=false:=by simp;omega
 have hg:decide (IntKind.i64.wrap ((size:Int)+(b.length:Int)) > 1048576)=false:=decide_eq_false (by rw [IntWalk.i64_in _ (by omega)];omega);refine enter Tryz.func259 Tryz.ntmps259 rfl rfl fun a hs=>?_;refine sc hs ?_;refine sn hs hw fun b2 a W hs hw=>?_;refine sv hs hw fun a hs=>?_;rw [hz] at hs;refine sv hs hw fun a hs=>?_;rw [hg] at hs;refine sv hs hw fun a hs=>?_;have hw:Has 0 w0 W (aB nameS q d::aA b2 (dH h2 s2 (.slice sa sm sk)) 158::cQ p q h s v size::R):=hw.pm;refine cl hs (aBz w0 W nameS yJ aCF d d' b _ _ hd (fun h=>hr (h.d2)) hw) fun a W hs hw=>?_;refine sx hs hw fun a W hs hw=>?_;rw [show IntKind.i64.wrap ((size:Int)+(b.length:Int))=((size+b.length:Nat):Int) by rw [IntWalk.i64_in _ (by omega)];omega] at hw;have hw:Has 0 w0 W (aB nameS q d'::aA b2 (dH h2 s2 (.slice sa sm sk)) 158::cQ p q h2 s2 (.slice sa sm sk) (size+b.length)::R):=hw;exact rt1 hs rfl rfl ⟨rfl,hw.sl⟩
theorem aHQ (h0:size≠0) (hd:qI d=some d') (hw:Has 0 w0 W (cQ p q h s v size::aB nameS q d::R)):
  Calls Tryz.prog 197 ⟨[ptr p]⟩ W fun e W'=>e= .returned (.int .i64 0)∧Has 0 w0 W' (cQ p q h s v size::aB nameS q d'::R):=by
 have hz:((size:Int) == 0)=false:=by simp;omega
 refine enter Tryz.func197 Tryz.ntmps197 rfl rfl fun a hs=>?_;refine sv hs hw fun a hs=>?_;rw [hz] at hs;refine sv hs hw fun a hs=>?_;refine cl hs (aCA w0 W nameS d d' _ hd hw.swap2) fun a W hs hw=>?_;refine sv hs hw fun a hs=>?_;exact rt1 hs rfl rfl ⟨rfl,hw.swap2⟩
end
end Go.Proofs.YtgpbngfehfbndaaGreatDoor.Sw
namespace Go.Sx
open Go.RowKit
def aHT (F:Nat→Prop) (W:World) (E:TypeId) (size:Nat) (v:Value) (n:Nat) (xs:List Value):Prop:=
 xs.length=n*size∧∃ad cap,v= .slice ad n cap∧n≤cap∧cap≤9223372036854775807∧(n=0∨∃g o cs,ad=some ⟨g,o,none⟩∧F g∧W.heap[g]? =some (.cells ⟨cs⟩ E (0,0))∧∀(j:Nat) (x:Value),xs[j]? =some x→cs[o+j]? =some x)
def Sub (E:TypeId) (size:Nat) (v:Value) (n:Nat) (xs:List Value):Res where
 ok F W:=aHT F W E size v n xs
 loc F W W' h:=fun ⟨h1,ad,cap,h2,h3,h4,h5⟩=>⟨h1,ad,cap,h2,h3,h4,h5.imp id fun ⟨g,o,cs,e,hF,hg,hc⟩=>⟨g,o,cs,e,hF,(h g hF).trans hg,hc⟩⟩
section
variable {G:Nat} {w W:World} {R L:List Res} {E:TypeId} {size n k m cap g:Nat} {v:Value} {xs cur:List Value}
theorem Has.rd_sub (h:Has G w W L) (i:In (Sub E size v n xs) L):Rd W size v n xs:=by
 obtain ⟨F,_,h1,ad,cap,h2,h3,h4,h5⟩:=h.of_in i;refine ⟨h1,ad,cap,h2,h3,h4,h5.imp id ?_⟩;rintro ⟨g,o,cs,e,hF,hg,hc⟩;exact ⟨g,o,e,jN hg,fun j x hx=>by rw [iJ hg];simpa using hc j x hx⟩
theorem Has.to_sub (h:Has G w W (Own E size v n xs::R)):Has G w W (Sub E size v n xs::R):=by
 obtain ⟨F1,a1,⟨h1,h2⟩,a3⟩:=h.has;refine ⟨h.ext,h.glob,F1,a1,⟨h1,?_⟩,a3⟩;rcases h2 with ⟨rfl,rfl⟩|⟨g,cap,cur,rfl,hF,hg,hnc,hcm,hcs,ht⟩
 ·exact ⟨none,0,rfl,Nat.le_refl _,by omega,.inl rfl⟩
 ·refine ⟨_,cap,rfl,hnc,by unfold maxLen at hcm;omega,.inr ⟨g,0,cur,rfl,hF,hg,fun j x hx=>?_⟩⟩;rw [←ht,List.getElem?_take] at hx;split at hx
  ·simpa using hx
  ·cases hx
theorem Has.sub_slice (h:Has G w W (Sub E size v n xs::R)):∃ad cap,v= .slice ad n cap:=by
 obtain ⟨F1,_,⟨_,ad,cap,e,_⟩,_⟩:=h.has;exact ⟨ad,cap,e⟩
end
section
variable {P:Program} {ops:Array Oper} {aE:List Oper} {Q:Exit→Act→World→Prop} {a:Act} {n G:Nat} {L:List (Nat×Value)} {w W:World} {R:List Res} {d k m size:Nat} {T S E:TypeId} {p:String} {e:Array Edge} {x hi:Operand} {v:Value} {xs z:List Value} {q:IntKind}
theorem aHU {agg:Bool} [sl:Sl P S E] [t:Ty P E agg z] (hs:Slots a n L) (hw:Has G w W (Own E size v k xs::R)) (h1:m≤k) (c:∀a' ad cap,Slots a' n ((d,.slice ad m cap)::L)→Has G w W (Own E size (.slice ad m cap) m (xs.take (m*size))::R)→wpList P ops Q aE a' W) (hx:ev L x=some v:=by with_unfolding_all exact rfl) (hl:ev L hi=some (.int q (m:Int)):=by with_unfolding_all exact rfl) (hd:Nat.blt d n=true:=by with_unfolding_all exact rfl):
  wpList P ops Q (⟨some d,.slice S x none (some hi) none,T,p,e,none⟩::aE) a W:=by
 have hb:∀{cap:Nat},k≤cap→(Instr.sliceBound (.int q (m:Int)) cap .sliceAcap).run P W= .ok m W:=fun {cap} hc=>by
  have:(0:Int)≤(m:Int)∧(m:Int)≤(cap:Int):=⟨by omega,by omega⟩
  simp only [Instr.sliceBound,asIntOf,Sem.run_bind,Sem.run_pure,Result.andThen_ok];rw [if_pos this];simp
 have hbs:∀{cap:Nat},k≤cap→(Instr.sliceBounds true k cap none (some (.int q (m:Int))) none).run P W= .ok (0,m,cap) W:=fun {cap} hc=>by
  unfold Instr.sliceBounds;simp [hb hc]
 rcases hw.own_cases with ⟨rfl,rfl⟩|⟨g,cap,cur,rfl,ht,hcl,hkc,hcm,hw2⟩
 ·obtain rfl:m=0:=by omega
  have hx0:xs= []:=by
   obtain ⟨F1,_,⟨hl0,_⟩,_⟩:=hw.has;rw [Nat.zero_mul] at hl0;exact List.eq_nil_of_length_eq_zero hl0
  subst hx0;refine bW hs hd (v:= .slice none 0 0) (W':=W) ?_ fun a hs=>c a none 0 hs (by simpa using hw);simp only [execOp,Option.map_some,Option.map_none,hs.ev hx,hs.ev hl,Instr.sliceAt,Instr.slice,Sem.run_bind,run_underlying sl.out,Result.andThen_ok,hbs (Nat.le_refl 0),t.sizeOf,Sem.run_pure];simp
 ·refine bW hs hd (v:= .slice (some ⟨g,0,none⟩) m cap) (W':=W) ?_ fun a hs=>c a (some ⟨g,0,none⟩) cap hs (hw2.shut_own ?_ hcl (by omega) hcm)
  ·simp only [execOp,Option.map_some,Option.map_none,hs.ev hx,hs.ev hl,Instr.sliceAt,Instr.slice,Sem.run_bind,run_underlying sl.out,Result.andThen_ok,hbs hkc,t.sizeOf,Sem.run_pure]
   by_cases h9:cap=0
   ·simp [h9]
   ·simp [h9,eK]
  ·rw [←ht,List.take_take,Nat.min_eq_left (Nat.mul_le_mul_right size h1)]
end
end Go.Sx
namespace Go.Proofs.YtgpbngfehfbndaaGreatDoor.Sw
open Go.RowKit Go.Sx
section
variable {p q:Nat} {h2:fV} {k k':dX} {v v2:Value} {w0 W:World} {R L:List Res} {d d':bF}
def qV (k:dX):Prop:=k.log.length≤200∧0<k.size∧0≤k.s.ix∧k.s.ix≤1099511627776
abbrev fB (v:Value) (l:List cD):Res:=Sub 137 4 v l.length (l.flatMap bD)
def aV (p q:Nat) (k:dX):Res:=Ex fun v:Value=>cQ p q k.h k.s v k.size::fB v k.log::bO (qV k):: []
theorem aHV (h:Has 0 w0 W (cQ p q k.h k.s v k.size::fB v k.log::R)) (hk:qV k):Has 0 w0 W (aV p q k::R):=Has.shut v ((h.fact hk).pm)
theorem qW (h:Has 0 w0 W (cQ p q k.h k.s v k.size::bV v k.log::R)) (hk:qV k):Has 0 w0 W (aV p q k::R):=aHV (Has.to_sub h.swap2).swap2 hk
theorem tS (h:Has 0 w0 W (aV p q k::R)):qV k∧∃ad cap,Has 0 w0 W (cQ p q k.h k.s (.slice ad k.log.length cap) k.size::fB (.slice ad k.log.length cap) k.log::R):=by
 obtain ⟨v,h⟩:=Has.open h;have h:Has 0 w0 W (cQ p q k.h k.s v k.size::fB v k.log::bO (qV k)::R):=h;have h2:Has 0 w0 W (fB v k.log::cQ p q k.h k.s v k.size::R):=h.sl;obtain ⟨ad,cap,rfl⟩:=Has.sub_slice h2;exact ⟨h.told (In.tl (In.tl In.hd)),ad,cap,h2.swap2⟩
theorem aHW (hk:oJ d k h2=some (d',k')) (hw:Has 0 w0 W (aV p q k::aB nameS q d::R)):
  Calls Tryz.prog 195 ⟨[ptr p,.agg ⟨[.int .i64 h2.term,.int .i64 h2.vote]⟩]⟩ W fun e W'=>e= .returned (.int .i64 0)∧Has 0 w0 W' (aV p q k'::aB nameS q d'::R):=by
 obtain ⟨⟨hl,hp,hs1,hs2⟩,ad,cap,hw⟩:=tS hw;have hm:jH h2=true:=by
  unfold oJ at hk;split at hk
  ·assumption
  ·cases hk
 obtain ⟨h0,h9,hd,rfl⟩:k.size≠0∧k.size+(cW h2).length≤1048576∧kQ d (cW h2)=some d'∧k'= {k with h:=h2,size:=k.size+(cW h2).length}:=by
  unfold oJ qJ at hk;rw [if_pos hm] at hk;split at hk
  ·cases hk
  ·rename_i hn;rw [Option.map_eq_some_iff] at hk;obtain ⟨x,h1,h2⟩:=hk;injection h2 with h3 h4;exact ⟨by omega,by omega,h3▸h1,h4.symm⟩
 refine enter Tryz.func195 Tryz.ntmps195 rfl rfl fun a hs=>?_;refine sc hs ?_;refine sn hs hw fun b3 a W hs hw=>?_;refine sv hs hw fun a hs=>?_;refine sn hs hw fun b5 a W hs hw=>?_;refine sx hs hw fun a W hs hw=>?_;refine cl hs ((wal_May_hard (h:=h2)).ok hw) fun a W hs hw=>?_;rw [hm] at hs;refine sv hs hw fun a hs=>?_;have hw:Has 0 w0 W (cQ p q k.h k.s (.slice ad k.log.length cap) k.size::fB (.slice ad k.log.length cap) k.log::aA b5 (fR true h2 gW) 238::aA b3 [.int .i64 h2.term,.int .i64 h2.vote] 44::aB nameS q d::R):=hw.pm;refine cle hs (tQ (by omega) (fun h=>h.rd_sub In.hd) hw) fun xx a W _ hs hw=>?_;refine sn hs hw fun b6 a W hs hw=>?_;refine sx hs hw fun a W hs hw=>?_;have hw:Has 0 w0 W (aA b5 (fR true h2 gW) 238::cQ p q k.h k.s (.slice ad k.log.length cap) k.size::aB nameS q d::aA b6 (dH h2 k.s (.slice xx.1 k.log.length xx.2)) 158::bV (.slice xx.1 k.log.length xx.2) k.log::fB (.slice ad k.log.length cap) k.log::aA b3 [.int .i64 h2.term,.int .i64 h2.vote] 44::R):=hw.pm;refine bG [2,4] [.f 0 1,.f 0 0,.m 0,.f 0 1,.m 1,.f 2 2] [.c0 _,.c0 _,.c1 (fun x=> .slice x.ad (cW h2).length x.cap),.c0 _,.c2 (fun x y=> .int .i64 0),.c2 _] (aA b5 (fR true h2 gW) 238::cQ p q k.h k.s (.slice ad k.log.length cap) k.size::aB nameS q d::aA b6 (dH h2 k.s (.slice xx.1 k.log.length xx.2)) 158::bV (.slice xx.1 k.log.length xx.2) k.log::fB (.slice ad k.log.length cap) k.log::aA b3 [.int .i64 h2.term,.int .i64 h2.vote] 44::R) (fun x=>bP (.slice x.ad (cW h2).length x.cap) (cW h2)::aA b5 (fR true h2 gW) 238::cQ p q k.h k.s (.slice ad k.log.length cap) k.size::aB nameS q d::aA b6 (dH h2 k.s (.slice xx.1 k.log.length xx.2)) 158::bV (.slice xx.1 k.log.length xx.2) k.log::fB (.slice ad k.log.length cap) k.log::aA b3 [.int .i64 h2.term,.int .i64 h2.vote] 44::R) (fun x y=>cQ p q h2 k.s (.slice xx.1 k.log.length xx.2) (k.size+(cW h2).length)::aB nameS q d'::bV (.slice xx.1 k.log.length xx.2) k.log::R) (fun x y z=>[]) (fun x y z t=>[]) hs hw ?kk ⟨drs,drs,?m0,drs,?m1,drs,trivial⟩
 case m0=>
  intro x y z t LD a W hs hw;refine sg hs hw (fun s a W hs hw=>?_) (g:=aBq hm);exact ⟨{ad:=s.1,cap:=s.2},hs,hw⟩
 case m1=>
  intro x y z t LD a W hs hw;have hw:Has 0 w0 W (cQ p q k.h k.s (.slice ad k.log.length cap) k.size::aB nameS q d::bP (.slice x.ad (cW h2).length x.cap) (cW h2)::aA b5 (fR true h2 gW) 238::aA b6 (dH h2 k.s (.slice xx.1 k.log.length xx.2)) 158::bV (.slice xx.1 k.log.length xx.2) k.log::fB (.slice ad k.log.length cap) k.log::aA b3 [.int .i64 h2.term,.int .i64 h2.vote] 44::R):=hw.pm;refine cl hs (aCI (h2:=h2) (s2:=k.s) (cW h2) _ h0 h9 hd (fun h=>h.rd_own In.hd) hw) fun a W hs hw=>?_;exact ⟨{},hs,hw.sl⟩
 case kk=>
  intro x y a W hs hw;refine sc hs ?_;refine rt1 hs rfl rfl ⟨rfl,?_⟩;exact qW (k:={k with h:=h2,size:=k.size+(cW h2).length}) (hw.sl) ⟨hl,(by show 0<k.size+_;omega),hs1,hs2⟩
end
section
variable {p q:Nat} {k k':dX} {v v2:Value} {w0 W:World} {R L:List Res} {d d':bF}
theorem aCL:∀{l:List cD} {i:Int},mF i l=true→∀(j:Nat) (x:cD),l[j]? =some x→eS x=true∧x.ix=i+(j:Int)
 | [],_,_=>fun j x h=>by simp at h
 |y::l,i,h=>by
  have h:(eS y && (y.ix == i) && mF (i+1) l)=true:=h;simp only [Bool.and_eq_true,beq_iff_eq] at h;intro j x hx;cases j with
  |zero=>
   obtain rfl:y=x:=by simpa using hx
   exact ⟨h.1.1,by rw [h.1.2];simp⟩
  |succ j=>
   have:=aCL h.2 j x (by simpa using hx);exact ⟨this.1,by rw [this.2];omega⟩
theorem aHX (es:List cD) (v:Value) (hn:es.length≤1000) (hr:∀{W},Has 0 w0 W R→Rd W 4 v es.length (es.flatMap bD)) (hk:yA d k es=some (d',k')) (hw:Has 0 w0 W (aV p q k::aB nameS q d::R)):
  Calls Tryz.prog 196 ⟨[ptr p,v]⟩ W fun e W'=>e= .returned (.int .i64 0)∧Has 0 w0 W' (aV p q k'::aB nameS q d'::R):=by
 have sub0:∀{W A B},Has 0 w0 W (A::B::R)→Has 0 w0 W R:=fun h=>h.d2;obtain ⟨vad,vcap,rfl⟩:∃ad cap,v= .slice ad es.length cap:=by obtain ⟨_,ad,cap,e,_⟩:=hr (sub0 hw);exact ⟨ad,cap,e⟩
 have hw0:=hw;obtain ⟨⟨hl,hp,hs1,hs2⟩,ad,cap,hw⟩:=tS hw;refine enter Tryz.func196 Tryz.ntmps196 rfl rfl fun a hs=>?_;refine sv hs hw fun a hs=>?_;cases h0:((es.length:Int) == 0) with
 |true=>
  rw [h0] at hs;refine sv hs hw fun a hs=>?_;obtain rfl:es= []:=List.eq_nil_of_length_eq_zero (by simpa using h0);have hk:some (d,k)=some (d',k'):=hk;injection hk with hk;injection hk with hk1 hk2;subst hk1 hk2;exact rt1 hs rfl rfl ⟨rfl,hw0⟩
 |false=>
 rw [h0] at hs;clear hw0;have hpos:0<es.length:=by
  rcases Nat.eq_zero_or_pos es.length with h|h
  ·rw [h] at h0;cases h0
  ·exact h
 obtain ⟨e,r,hE⟩:∃e r,es=e::r:=by cases es with|nil=>simp at hpos|cons e r=>exact ⟨e,r,rfl⟩
 obtain ⟨A,hA,hAl,hem,h200,h0s,h9,hd,hk'⟩:∃A:Nat,e.ix - k.s.ix - 1=(A:Int)∧A≤k.log.length∧mF e.ix es=true∧A+es.length≤200∧k.size≠0∧k.size+(es.flatMap cM).length≤1048576∧kQ d (es.flatMap cM)=some d'∧k'= {k with log:=k.log.take A ++ es,size:=k.size+(es.flatMap cM).length}:=by
  rw [hE] at hk⊢
  have hk:(if e.ix - k.s.ix - 1<0∨(k.log.length:Int)<e.ix - k.s.ix - 1∨mF e.ix (e::r)=false∨200<e.ix - k.s.ix - 1+((e::r).length:Int) then none
   else qJ d k ((e::r).flatMap cM) {k with log:=k.log.take (e.ix - k.s.ix - 1).toNat ++ (e::r)})=some (d',k'):=hk
  split at hk
  ·cases hk
  ·rename_i hn;unfold qJ at hk;split at hk
   ·cases hk
   ·rename_i hn2;rw [Option.map_eq_some_iff] at hk;obtain ⟨x,h1,h2⟩:=hk;injection h2 with h3 h4;have h5:mF e.ix (e::r)=true:=by cases hh:mF e.ix (e::r) with|true=>rfl|false=>exact absurd (.inr (.inr (.inl hh))) hn
    refine ⟨(e.ix - k.s.ix - 1).toNat,by omega,by omega,h5,by omega,by omega,by omega,h3▸h1,h4.symm⟩
 have hat:=aCL hem;have he0:=(hat 0 e (by rw [hE];rfl)).1;have hix:1≤e.ix∧e.ix≤1099511627776:=by
  unfold eS in1 at he0;simp at he0;omega
 have hA64:IntKind.i64.wrap (IntKind.i64.wrap (e.ix - k.s.ix) - 1)=(A:Int):=by rw [IntWalk.i64_in (e.ix - k.s.ix) (by omega),IntWalk.i64_in _ (by omega)];exact hA
 obtain ⟨b,o,cap3,hv,hcap⟩:=jZ (hr (sub0 (hw.d1))) hpos;injection hv with hv1 _ hv2;subst hv1 hv2;have hcell:∀{W},Has 0 w0 W R→_:=fun h=>mI (hr h) hpos;have hfh:=qT hE;have hk0:(0:Int)≤0:=by omega
 have hk1:(0:Int)<((es.length:Nat):Int):=by omega
 refine sv hs hw fun a hs=>?_;have hw:Has 0 w0 W (cQ p q k.h k.s (.slice ad k.log.length cap) k.size::fB (.slice ad k.log.length cap) k.log::aB nameS q d::R):=hw;refine cle hs (tQ (by omega) (fun h=>h.rd_sub In.hd) hw) fun xx a W _ hs hw=>?_;refine sn hs hw fun b5 a W hs hw=>?_;refine sx hs hw fun a W hs hw=>?_;have hw:Has 0 w0 W (cQ p q k.h k.s (.slice ad k.log.length cap) k.size::fB (.slice ad k.log.length cap) k.log::aB nameS q d::aA b5 (dH k.h k.s (.slice xx.1 k.log.length xx.2)) 158::bV (.slice xx.1 k.log.length xx.2) k.log::R):=hw.pm;have subS:∀{W},Has 0 w0 W (cQ p q k.h k.s (.slice ad k.log.length cap) k.size::fB (.slice ad k.log.length cap) k.log::aB nameS q d::aA b5 (dH k.h k.s (.slice xx.1 k.log.length xx.2)) 158::bV (.slice xx.1 k.log.length xx.2) k.log::R)→Has 0 w0 W R:=fun h=>h.sub (List.Sublist.cons _ (List.Sublist.cons _ (List.Sublist.cons _ (List.Sublist.cons _ (List.Sublist.cons _ (List.Sublist.refl _))))));refine bG [] [.f 0 0,.f 0 0,.f 0 0,.f 0 0,.f 0 0,.f 0 0,.f 0 0,.f 0 0,.f 0 0,.f 0 0] [.c0 _,.c0 _,.c0 _,.c0 (.int .i64 e.ix),.c0 _,.c0 _,.c0 _,.c0 _,.c0 (.int .i64 (A:Int)),.c0 _] (cQ p q k.h k.s (.slice ad k.log.length cap) k.size::fB (.slice ad k.log.length cap) k.log::aB nameS q d::aA b5 (dH k.h k.s (.slice xx.1 k.log.length xx.2)) 158::bV (.slice xx.1 k.log.length xx.2) k.log::R) (fun x=>[]) (fun x y=>[]) (fun x y z=>[]) (fun x y z t=>[]) hs hw ?kk ⟨drs,drs,drs,?f3,drs,drs,drs,drs,?f8,drs,trivial⟩
 case f3=>
  refine ⟨?_,trivial,trivial,trivial,trivial⟩;intro x y z t LD a W hs hw;refine eN hs (hc:=hcell (subS hw) 0 _ hfh.1) (c:=fun a hs=>?_);exact ⟨hs,hw⟩
 case f8=>
  refine ⟨?_,trivial,trivial,trivial,trivial⟩;intro x y z t LD a W hs hw;refine sv hs hw fun a hs=>?_;rw [hA64] at hs;exact ⟨hs,hw⟩
 case kk=>
 intro a W hs hw;replace hs:Slots a 79 [(0,ptr p),(1,.slice (some ⟨b,o,none⟩) es.length vcap),(5,ptr b5),(6,.int .i64 (A:Int))]:=hs.ot;refine sx hs hw fun a W hs hw=>?_;rw [show decide ((A:Int)<0)=false from decide_eq_false (by omega)] at hs;refine sx hs hw fun a W hs hw=>?_;rw [show decide ((A:Int) > (k.log.length:Int))=false from decide_eq_false (by omega)] at hs;refine sv hs hw fun a hs=>?_;have hw:Has 0 w0 W (bP (.slice none 0 0) []::cQ p q k.h k.s (.slice ad k.log.length cap) k.size::fB (.slice ad k.log.length cap) k.log::aB nameS q d::aA b5 (dH k.h k.s (.slice xx.1 k.log.length xx.2)) 158::bV (.slice xx.1 k.log.length xx.2) k.log::R):=hw.nilB 5
 have hbl:∀i,((es.take i).flatMap cM).length≤2560*1000:=fun i=>Nat.le_trans (tP fun e h=>by
  obtain ⟨j,hj⟩:=List.mem_iff_getElem?.1 (List.mem_of_mem_take h)
  exact (hat j e hj).1) (by rw [List.length_take];omega)
 refine bY (σ:=Nat×Option Addr×Nat) (fun u=>[(0,ptr p),(1,.slice (some ⟨b,o,none⟩) es.length vcap),(5,ptr b5),(6,.int .i64 (A:Int)),(7,.slice u.2.1 ((es.take u.1).flatMap cM).length u.2.2),(35,.slice (some ⟨b,o,none⟩) es.length vcap),(36,.int .i64 (es.length:Int)),(37,.int .i64 (u.1:Int))]) (fun u=>bP (.slice u.2.1 ((es.take u.1).flatMap cM).length u.2.2) ((es.take u.1).flatMap cM)::cQ p q k.h k.s (.slice ad k.log.length cap) k.size::fB (.slice ad k.log.length cap) k.log::aB nameS q d::aA b5 (dH k.h k.s (.slice xx.1 k.log.length xx.2)) 158::bV (.slice xx.1 k.log.length xx.2) k.log::R) (fun u=>u.1≤es.length) (fun u=>es.length - u.1) (0,none,0) (Nat.zero_le _) hs ⟨rfl,rfl,rfl,rfl,rfl,rfl,rfl,rfl,trivial⟩ hw ?_;clear hs hw;rintro ⟨i,uad,ucap⟩ a W hi hs hw;have hi:i≤es.length:=hi;simp only at hs hw;refine sv hs hw fun a hs=>?_;refine cI hs (kt:=fun hc=>?_) (kf:=fun hc=>?_)
 ·have hi':i<es.length:=by simpa using hc
  obtain ⟨xe,hx,hdx⟩:=dR hi';obtain ⟨he,hxi⟩:=hat i xe hx;have hsn:=aCH hx;have l6:=yK he;have l5:=hbl i;refine sv hs hw fun a hs=>?_;refine qS hs (hr (subS (hw.d1))) hx fun a g o2 hpc hs=>?_;refine eE hs (z:=zEnt) (cs:=bD xe) (hc:=hpc) (hl:=by rfl) (c:=fun a hs=>?_);refine sn hs hw fun b9 a W hs hw=>?_;refine sx hs hw fun a W hs hw=>?_;have hw:Has 0 w0 W (aA b9 (bD xe) 137::bP (.slice uad ((es.take i).flatMap cM).length ucap) ((es.take i).flatMap cM)::cQ p q k.h k.s (.slice ad k.log.length cap) k.size::fB (.slice ad k.log.length cap) k.log::aB nameS q d::aA b5 (dH k.h k.s (.slice xx.1 k.log.length xx.2)) 158::bV (.slice xx.1 k.log.length xx.2) k.log::R):=hw;replace hs:Slots a 79 [(0,ptr p),(1,.slice (some ⟨b,o,none⟩) es.length vcap),(5,ptr b5),(6,.int .i64 (A:Int)),(7,.slice uad ((es.take i).flatMap cM).length ucap),(8,.int .i64 (i:Int)),(9,ptr b9),(35,.slice (some ⟨b,o,none⟩) es.length vcap),(36,.int .i64 (es.length:Int)),(37,.int .i64 (i:Int))]:=hs.ot;have hxw:(xe.ix !=IntKind.i64.wrap (e.ix+(i:Int)))=false:=by rw [IntWalk.i64_in _ (by omega),←hxi];simp
  refine bG [2] [.f 0 0,.f 0 0,.m 0,.f 1 1,.f 1 1,.f 1 1,.f 1 1,.f 1 1,.f 1 1,.f 1 1,.f 1 1,.f 1 1,.f 1 1,.f 1 1,.f 1 1] [.c0 _,.c0 _,.c1 (fun x=> .bool true),.c1 _,.c1 _,.c1 _,.c1 _,.c1 _,.c1 _,.c1 _,.c1 (fun x=> .int .i64 e.ix),.c1 _,.c1 _,.c1 (fun x=> .bool false),.c1 _] (aA b9 (bD xe) 137::bP (.slice uad ((es.take i).flatMap cM).length ucap) ((es.take i).flatMap cM)::cQ p q k.h k.s (.slice ad k.log.length cap) k.size::fB (.slice ad k.log.length cap) k.log::aB nameS q d::aA b5 (dH k.h k.s (.slice xx.1 k.log.length xx.2)) 158::bV (.slice xx.1 k.log.length xx.2) k.log::R) (fun x=>aA b9 (bD xe) 137::bP (.slice uad ((es.take i).flatMap cM).length ucap) ((es.take i).flatMap cM)::cQ p q k.h k.s (.slice ad k.log.length cap) k.size::fB (.slice ad k.log.length cap) k.log::aB nameS q d::aA b5 (dH k.h k.s (.slice xx.1 k.log.length xx.2)) 158::bV (.slice xx.1 k.log.length xx.2) k.log::R) (fun x y=>[]) (fun x y z=>[]) (fun x y z t=>[]) hs hw ?kk ⟨drs,drs,?m0,drs,drs,drs,drs,drs,drs,drs,?f10,drs,drs,?f13,drs,trivial⟩
  case m0=>
   intro x y z t LD a W hs hw;refine cl hs ((wal_May_ent (e:=xe)).ok hw) fun a W hs hw=>?_;rw [he] at hs;exact ⟨{},hs,hw⟩
  case f10=>
   refine ⟨trivial,?_,trivial,trivial,trivial⟩;intro x y z t LD a W hs hw;refine sc hs ?_;refine eN hs (hc:=hcell (subS (hw.d2)) 0 _ hfh.1) (c:=fun a hs=>?_);exact ⟨hs,hw⟩
  case f13=>
   refine ⟨trivial,?_,trivial,trivial,trivial⟩;intro x y z t LD a W hs hw;refine sv hs hw fun a hs=>?_;rw [hxw] at hs;exact ⟨hs,hw⟩
  case kk=>
  intro _ a W hs hw;refine sx hs hw fun a W hs hw=>?_;refine sg hs hw (fun s a W hs hw=>?_) (g:=aBr (e:=xe) he);refine iK hs hw (l:=(es.take i).flatMap cM) (m:=cM xe) (hr:=fK (hw.rd_own In.hd) (kD _)) (hb:=by omega) (c:=fun a ad2 cap2 W hs hw=>?_);rw [←hsn] at hs hw;refine sv hs hw fun a hs=>?_;exact bQ (i+1,ad2,cap2) hs (hw.sl) hi' (by show es.length - (i+1)<es.length - i;omega) ⟨rfl,rfl,rfl,rfl,rfl,rfl,rfl,bR (i1 (by omega)),trivial⟩
 ·have htk:es.take i=es:=List.take_of_length_le (by simp at hc;omega);rw [htk] at hs hw;have hbl0:=hbl es.length;rw [List.take_length] at hbl0;replace hs:Slots a 79 [(38,.bool (decide ((i:Int)<(es.length:Int)))),(0,ptr p),(1,.slice (some ⟨b,o,none⟩) es.length vcap),(5,ptr b5),(6,.int .i64 (A:Int)),(7,.slice uad (es.flatMap cM).length ucap)]:=hs.ot;refine sv hs hw fun a hs=>?_;rw [IntWalk.i64_in ((A:Int)+(es.length:Int)) (by omega),show decide ((A:Int)+(es.length:Int) > 200)=false from decide_eq_false (by omega)] at hs;refine sx hs hw fun a W hs hw=>?_;have hw:Has 0 w0 W (bV (.slice xx.1 k.log.length xx.2) k.log::bP (.slice uad (es.flatMap cM).length ucap) (es.flatMap cM)::cQ p q k.h k.s (.slice ad k.log.length cap) k.size::fB (.slice ad k.log.length cap) k.log::aB nameS q d::aA b5 (dH k.h k.s (.slice xx.1 k.log.length xx.2)) 158::R):=hw.pm;refine aHU (z:=zEnt) hs hw hAl fun a ad2 cap2 hs hw=>?_;refine sv hs hw fun a hs=>?_;refine kZ hs (hw:=hw) (k:=A) (m:=es.length) (xs:=(k.log.flatMap bD).take (A*4)) (news:=es.flatMap bD) (hsrc:=fK (hr (hw.sub (by repeat (first|exact List.Sublist.refl _|apply List.Sublist.cons)))) (tM _)) (h63:=by omega) (hb:=by omega) (c:=fun a ad3 cap3 W hs hw=>?_);have hfl:(k.log.flatMap bD).take (A*4) ++ es.flatMap bD=(k.log.take A ++ es).flatMap bD:=by rw [List.flatMap_append,tO]
  have hln:A+es.length=(k.log.take A ++ es).length:=by rw [List.length_append,List.length_take];omega
  rw [hfl,hln] at hw;rw [hln] at hs;refine sx hs hw fun a W hs hw=>?_;have hw:Has 0 w0 W (cQ p q k.h k.s (.slice ad k.log.length cap) k.size::aB nameS q d::bP (.slice uad (es.flatMap cM).length ucap) (es.flatMap cM)::bV (.slice ad3 (k.log.take A ++ es).length cap3) (k.log.take A ++ es)::aA b5 (dH k.h k.s (.slice ad3 (k.log.take A ++ es).length cap3)) 158::fB (.slice ad k.log.length cap) k.log::R):=hw.pm;refine cl hs (aCI (h2:=k.h) (s2:=k.s) (es.flatMap cM) _ h0s h9 hd (fun h=>h.rd_own In.hd) hw) fun a W hs hw=>?_;refine sv hs hw fun a hs=>?_;refine rt1 hs rfl rfl ⟨rfl,?_⟩;rw [hk'];exact qW (k:={k with log:=k.log.take A ++ es,size:=k.size+(es.flatMap cM).length}) (hw.sl) ⟨by rw [←hln];omega,(by show 0<k.size+_;omega),hs1,hs2⟩
end
end Go.Proofs.YtgpbngfehfbndaaGreatDoor.Sw
