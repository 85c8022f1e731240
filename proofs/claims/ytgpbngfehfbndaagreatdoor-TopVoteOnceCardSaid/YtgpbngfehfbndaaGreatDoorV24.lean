import Derived.Test.YtgpbngfehfbndaaGreatDoorV20
import Derived.Test.YtgpbngfehfbndaaGreatDoorV21
set_option maxHeartbeats 16000000
set_option linter.all false
set_option maxRecDepth 10000
namespace Go.Proofs.YtgpbngfehfbndaaGreatDoor.Sw
open Go.RowKit Go.Sx
section
variable {p q:Nat} {h h2:fM} {s s2:dI} {v v2:Value} {log:List bY} {size:Nat} {w0 W:World} {R L:List Res} {d d':bM}
theorem p9 (hl:log.length≤1000) (hr:∀{W},Has 0 w0 W R→Rd W 4 v log.length (log.flatMap bA)) (hw:Has 0 w0 W (bO p q h s v size::R)):
  Calls Tryz.prog 90 ⟨[ptr p]⟩ W fun e W'=>∃x:Option Addr×Nat,e= .returned (.agg ⟨cX h s (.slice x.1 log.length x.2)⟩)∧True∧Has 0 w0 W' (bE (.slice x.1 log.length x.2) log::bO p q h s v size::R):=by
 obtain ⟨vad,vcap,rfl⟩:∃ad cap,v= .slice ad log.length cap:=by
  obtain ⟨_,ad,cap,e,_⟩:=hr (hw.d1);exact ⟨ad,cap,e⟩
 refine en Tryz.func90 Tryz.ntmps90 fun a hs=>?_;refine sc hs ?_;refine sn hs hw fun b2 a W hs hw=>?_;refine sv hs hw fun a hs=>?_;refine sn hs hw fun b3 a W hs hw=>?_;refine sx hs hw fun a W hs hw=>?_;refine cle hs (sT w0 W log _ _ hl (fun h=>hr (h.sub (List.Sublist.cons _ (List.Sublist.cons _ (List.Sublist.cons _ (List.Sublist.refl _)))))) hw) fun x a W _ hs hw=>?_;refine sx hs hw fun a W hs hw=>?_;refine rc1 hs rfl rfl hw inn rfl ⟨x,rfl,trivial,?_⟩;exact hw.sl
theorem aG0 (h1:iA h2=true) (hsm:eK s2=true) (hl:log.length≤200) (he:∀e∈log,eH e=true) (hd:mS (cY s2 ++ cP h2 ++ log.flatMap cJ)=some d') (hr:∀{W},Has 0 w0 W R→Rd W 4 v2 log.length (log.flatMap bA)) (hw:Has 0 w0 W (bO p q h s v size::aB nameS q d::R)):
  Calls Tryz.prog 154 ⟨[ptr p,.agg ⟨cX h2 s2 v2⟩]⟩ W fun e W'=>e= .returned (.int .i64 0)∧Has 0 w0 W' (bO p q h s v (cY s2 ++ cP h2 ++ log.flatMap cJ).length::aB nameS q d'::R):=by
 obtain ⟨vad,vcap,rfl⟩:∃ad cap,v2= .slice ad log.length cap:=by
  obtain ⟨_,ad,cap,e,_⟩:=hr (hw.d2);exact ⟨ad,cap,e⟩
 refine en Tryz.func154 Tryz.ntmps154 fun a hs=>?_;refine sc hs ?_;refine sn hs hw fun b a W hs hw=>?_;refine sv hs hw fun a hs=>?_;refine cle hs (aGZ w0 W h2 s2 log _ _ h1 hsm hl he (fun h=>hr (h.sub (List.Sublist.cons _ (List.Sublist.cons _ (List.Sublist.cons _ (List.Sublist.refl _)))))) hw) fun x a W _ hs hw=>?_;refine sv hs hw fun a hs=>?_;have hw:Has 0 w0 W (aB nameS q d::bG (.slice x.1 (cY s2 ++ cP h2 ++ log.flatMap cJ).length x.2) (cY s2 ++ cP h2 ++ log.flatMap cJ)::aA b (cX h2 s2 (.slice vad log.length vcap)) 158::bO p q h s v size::R):=hw.pm;refine cl hs (aGQ w0 W nameS sU aBS d d' (cY s2 ++ cP h2 ++ log.flatMap cJ) _ _ hd (fun h=>h.rd_own In.hd) hw) fun a W hs hw=>?_;generalize cY s2 ++ cP h2 ++ log.flatMap cJ=B at *;refine sx hs hw fun a W hs hw=>?_;exact rt1 hs rfl rfl ⟨rfl,hw.sl⟩
theorem aBV {sa:Option Addr} {sm sk:Nat} (b:List UInt8) (bv:Value) (h0:size≠0) (h9:size+b.length≤1048576) (hd:kA d b=some d') (hr:∀{W},Has 0 w0 W R→RdB W bv b) (hw:Has 0 w0 W (bO p q h s v size::aB nameS q d::R)):
  Calls Tryz.prog 259 ⟨[ptr p,bv,.agg ⟨cX h2 s2 (.slice sa sm sk)⟩]⟩ W fun e W'=>e= .returned (.int .i64 0)∧Has 0 w0 W' (bO p q h2 s2 (.slice sa sm sk) (size+b.length)::aB nameS q d'::R):=by
 obtain ⟨vad,vcap,rfl⟩:∃ad cap,bv= .slice ad b.length cap:=by
  obtain ⟨_,ad,cap,e,_⟩:=hr (hw.d2);exact ⟨ad,cap,e⟩
 have hz:((size:Int) == 0)=false:=by simp;omega
 have hg:decide (IntKind.i64.wrap ((size:Int)+(b.length:Int)) > 1048576)=false:=decide_eq_false (by rw [IntWalk.i64_in _ (by omega)];omega);refine en Tryz.func259 Tryz.ntmps259 fun a hs=>?_;refine sc hs ?_;refine sn hs hw fun b2 a W hs hw=>?_;refine sv hs hw fun a hs=>?_;rw [hz] at hs;refine sv hs hw fun a hs=>?_;rw [hg] at hs;refine sv hs hw fun a hs=>?_;have hw:Has 0 w0 W (aB nameS q d::aA b2 (cX h2 s2 (.slice sa sm sk)) 158::bO p q h s v size::R):=hw.pm;refine cl hs (aBN w0 W nameS sU aBS d d' b _ _ hd (fun h=>hr (h.d2)) hw) fun a W hs hw=>?_;refine sx hs hw fun a W hs hw=>?_;rw [show IntKind.i64.wrap ((size:Int)+(b.length:Int))=((size+b.length:Nat):Int) by rw [IntWalk.i64_in _ (by omega)];omega] at hw;have hw:Has 0 w0 W (aB nameS q d'::aA b2 (cX h2 s2 (.slice sa sm sk)) 158::bO p q h2 s2 (.slice sa sm sk) (size+b.length)::R):=hw;exact rt1 hs rfl rfl ⟨rfl,hw.sl⟩
theorem aG1 (h0:size≠0) (hd:pU d=some d') (hw:Has 0 w0 W (bO p q h s v size::aB nameS q d::R)):
  Calls Tryz.prog 197 ⟨[ptr p]⟩ W fun e W'=>e= .returned (.int .i64 0)∧Has 0 w0 W' (bO p q h s v size::aB nameS q d'::R):=by
 have hz:((size:Int) == 0)=false:=by simp;omega
 refine en Tryz.func197 Tryz.ntmps197 fun a hs=>?_;refine sv hs hw fun a hs=>?_;rw [hz] at hs;refine sv hs hw fun a hs=>?_;refine cl hs (aBO w0 W nameS d d' _ hd hw.swap2) fun a W hs hw=>?_;refine sv hs hw fun a hs=>?_;exact rt1 hs rfl rfl ⟨rfl,hw.swap2⟩
end
end Go.Proofs.YtgpbngfehfbndaaGreatDoor.Sw
namespace Go.Sx
open Go.RowKit
def aG4 (F:Nat→Prop) (W:World) (E:TypeId) (size:Nat) (v:Value) (n:Nat) (xs:List Value):Prop:=
 xs.length=n*size∧∃ad cap,v= .slice ad n cap∧n≤cap∧cap≤9223372036854775807∧(n=0∨∃g o cs,ad=some ⟨g,o,none⟩∧F g∧W.heap[g]? =some (.cells ⟨cs⟩ E (0,0))∧∀(j:Nat) (x:Value),xs[j]? =some x→cs[o+j]? =some x)
def Sub (E:TypeId) (size:Nat) (v:Value) (n:Nat) (xs:List Value):Res where
 ok F W:=aG4 F W E size v n xs
 loc F W W' h:=fun ⟨h1,ad,cap,h2,h3,h4,h5⟩=>⟨h1,ad,cap,h2,h3,h4,h5.imp id fun ⟨g,o,cs,e,hF,hg,hc⟩=>⟨g,o,cs,e,hF,(h g hF).trans hg,hc⟩⟩
section
variable {G:Nat} {w W:World} {R L:List Res} {E:TypeId} {size n k m cap g:Nat} {v:Value} {xs cur:List Value}
theorem Has.rd_sub (h:Has G w W L) (i:In (Sub E size v n xs) L):Rd W size v n xs:=by
 obtain ⟨F,_,h1,ad,cap,h2,h3,h4,h5⟩:=h.of_in i;refine ⟨h1,ad,cap,h2,h3,h4,h5.imp id ?_⟩;rintro ⟨g,o,cs,e,hF,hg,hc⟩;exact ⟨g,o,e,iX hg,fun j x hx=>by rw [hC hg];simpa using hc j x hx⟩
theorem Has.to_sub (h:Has G w W (Own E size v n xs::R)):Has G w W (Sub E size v n xs::R):=by
 obtain ⟨F1,a1,⟨h1,h2⟩,a3⟩:=h.has;refine ⟨h.ext,h.glob,F1,a1,⟨h1,?_⟩,a3⟩;rcases h2 with ⟨rfl,rfl⟩|⟨g,cap,cur,rfl,hF,hg,hnc,hcm,hcs,ht⟩
 ·exact ⟨none,0,rfl,Nat.le_refl _,by omega,.inl rfl⟩
 ·refine ⟨_,cap,rfl,hnc,by unfold maxLen at hcm;omega,.inr ⟨g,0,cur,rfl,hF,hg,fun j x hx=>?_⟩⟩;rw [←ht,List.getElem?_take] at hx;split at hx
  ·simpa using hx
  ·cases hx
theorem Has.sub_slice (h:Has G w W (Sub E size v n xs::R)):∃ad cap,v= .slice ad n cap:=by
 obtain ⟨F1,_,⟨_,ad,cap,e,_⟩,_⟩:=h.has;exact ⟨ad,cap,e⟩
end
section
variable {P:Program} {ops:Array Oper} {rest:List Oper} {Q:Exit→Act→World→Prop} {a:Act} {n G:Nat} {L:List (Nat×Value)} {w W:World} {R:List Res} {d k m size:Nat} {T S E:TypeId} {p:String} {e:Array Edge} {x hi:Operand} {v:Value} {xs z:List Value} {q:IntKind}
theorem aG5 {agg:Bool} [sl:Sl P S E] [t:Ty P E agg z] (hs:Slots a n L) (hw:Has G w W (Own E size v k xs::R)) (h1:m≤k) (c:∀a' ad cap,Slots a' n ((d,.slice ad m cap)::L)→Has G w W (Own E size (.slice ad m cap) m (xs.take (m*size))::R)→wpList P ops Q rest a' W) (hx:ev L x=some v:=by with_unfolding_all exact rfl) (hl:ev L hi=some (.int q (m:Int)):=by with_unfolding_all exact rfl) (hd:Nat.blt d n=true:=by with_unfolding_all exact rfl):
  wpList P ops Q (⟨some d,.slice S x none (some hi) none,T,p,e,none⟩::rest) a W:=by
 have hb:∀{cap:Nat},k≤cap→(Instr.sliceBound (.int q (m:Int)) cap .sliceAcap).run P W= .ok m W:=fun {cap} hc=>by
  have:(0:Int)≤(m:Int)∧(m:Int)≤(cap:Int):=⟨by omega,by omega⟩
  simp only [Instr.sliceBound,asIntOf,Sem.run_bind,Sem.run_pure,Result.andThen_ok];rw [if_pos this];simp
 have hbs:∀{cap:Nat},k≤cap→(Instr.sliceBounds true k cap none (some (.int q (m:Int))) none).run P W= .ok (0,m,cap) W:=fun {cap} hc=>by
  unfold Instr.sliceBounds;simp [hb hc]
 rcases hw.own_cases with ⟨rfl,rfl⟩|⟨g,cap,cur,rfl,ht,hcl,hkc,hcm,hw2⟩
 ·obtain rfl:m=0:=by omega
  have hx0:xs= []:=by
   obtain ⟨F1,_,⟨hl0,_⟩,_⟩:=hw.has;rw [Nat.zero_mul] at hl0;exact List.eq_nil_of_length_eq_zero hl0
  subst hx0;refine bP hs hd (v:= .slice none 0 0) (W':=W) ?_ fun a hs=>c a none 0 hs (by simpa using hw);simp only [execOp,Option.map_some,Option.map_none,hs.ev hx,hs.ev hl,Instr.sliceAt,Instr.slice,Sem.run_bind,run_underlying sl.out,Result.andThen_ok,hbs (Nat.le_refl 0),t.sizeOf,Sem.run_pure];simp
 ·refine bP hs hd (v:= .slice (some ⟨g,0,none⟩) m cap) (W':=W) ?_ fun a hs=>c a (some ⟨g,0,none⟩) cap hs (hw2.shut_own ?_ hcl (by omega) hcm)
  ·simp only [execOp,Option.map_some,Option.map_none,hs.ev hx,hs.ev hl,Instr.sliceAt,Instr.slice,Sem.run_bind,run_underlying sl.out,Result.andThen_ok,hbs hkc,t.sizeOf,Sem.run_pure]
   by_cases h9:cap=0
   ·simp [h9]
   ·simp [h9,eF]
  ·rw [←ht,List.take_take,Nat.min_eq_left (Nat.mul_le_mul_right size h1)]
end
end Go.Sx
namespace Go.Proofs.YtgpbngfehfbndaaGreatDoor.Sw
open Go.RowKit Go.Sx
open Go.Proofs.Tryz (prog)
section
variable {p q:Nat} {h2:fM} {k k':dD} {v v2:Value} {w0 W:World} {R L:List Res} {d d':bM}
def qC (k:dD):Prop:=k.log.length≤200∧0<k.size∧0≤k.s.ix∧k.s.ix≤1099511627776
abbrev dE (v:Value) (l:List bY):Res:=Sub 137 4 v l.length (l.flatMap bA)
def aW (p q:Nat) (k:dD):Res:=Ex fun v:Value=>bO p q k.h k.s v k.size::dE v k.log::bQ (qC k):: []
theorem wZ (h:Has 0 w0 W (bO p q k.h k.s v k.size::dE v k.log::R)) (hk:qC k):Has 0 w0 W (aW p q k::R):=Has.shut v ((h.fact hk).pm)
theorem qD (h:Has 0 w0 W (bO p q k.h k.s v k.size::bE v k.log::R)) (hk:qC k):Has 0 w0 W (aW p q k::R):=wZ (Has.to_sub h.swap2).swap2 hk
theorem qE (h:Has 0 w0 W (aW p q k::R)):qC k∧∃ad cap,Has 0 w0 W (bO p q k.h k.s (.slice ad k.log.length cap) k.size::dE (.slice ad k.log.length cap) k.log::R):=by
 obtain ⟨v,h⟩:=Has.open h;have h:Has 0 w0 W (bO p q k.h k.s v k.size::dE v k.log::bQ (qC k)::R):=h;have h2:Has 0 w0 W (dE v k.log::bO p q k.h k.s v k.size::R):=h.sl;obtain ⟨ad,cap,rfl⟩:=Has.sub_slice h2;exact ⟨h.told (In.tl (In.tl In.hd)),ad,cap,h2.swap2⟩
theorem aG6 (hk:nV d k h2=some (d',k')) (hw:Has 0 w0 W (aW p q k::aB nameS q d::R)):
  Calls prog 195 ⟨[ptr p,.agg ⟨[.int .i64 h2.term,.int .i64 h2.vote]⟩]⟩ W fun e W'=>e= .returned (.int .i64 0)∧Has 0 w0 W' (aW p q k'::aB nameS q d'::R):=by
 obtain ⟨⟨hl,hp,hs1,hs2⟩,ad,cap,hw⟩:=qE hw;have hm:iA h2=true:=by
  unfold nV at hk;split at hk
  ·assumption
  ·cases hk
 obtain ⟨h0,h9,hd,rfl⟩:k.size≠0∧k.size+(cP h2).length≤1048576∧kA d (cP h2)=some d'∧k'= {k with h:=h2,size:=k.size+(cP h2).length}:=by
  unfold nV pV at hk;rw [if_pos hm] at hk;split at hk
  ·cases hk
  ·rename_i hn;rw [Option.map_eq_some_iff] at hk;obtain ⟨x,h1,h2⟩:=hk;injection h2 with h3 h4;exact ⟨by omega,by omega,h3▸h1,h4.symm⟩
 refine en Tryz.func195 Tryz.ntmps195 fun a hs=>?_;refine sc hs ?_;refine sn hs hw fun b3 a W hs hw=>?_;refine sv hs hw fun a hs=>?_;refine sn hs hw fun b5 a W hs hw=>?_;refine sx hs hw fun a W hs hw=>?_;refine cl hs ((wal_May_hard (h:=h2)).ok hw) fun a W hs hw=>?_;rw [hm] at hs;refine sv hs hw fun a hs=>?_;have hw:Has 0 w0 W (bO p q k.h k.s (.slice ad k.log.length cap) k.size::dE (.slice ad k.log.length cap) k.log::aA b5 (eM true h2 fF) 238::aA b3 [.int .i64 h2.term,.int .i64 h2.vote] 44::aB nameS q d::R):=hw.pm;refine cle hs (p9 (by omega) (fun h=>h.rd_sub In.hd) hw) fun xx a W _ hs hw=>?_;refine sn hs hw fun b6 a W hs hw=>?_;refine sx hs hw fun a W hs hw=>?_;have hw:Has 0 w0 W (aA b5 (eM true h2 fF) 238::bO p q k.h k.s (.slice ad k.log.length cap) k.size::aB nameS q d::aA b6 (cX h2 k.s (.slice xx.1 k.log.length xx.2)) 158::bE (.slice xx.1 k.log.length xx.2) k.log::dE (.slice ad k.log.length cap) k.log::aA b3 [.int .i64 h2.term,.int .i64 h2.vote] 44::R):=hw.pm;refine bB [2,4] [.f 0 1,.f 0 0,.m 0,.f 0 1,.m 1,.f 2 2] [.c0 _,.c0 _,.c1 (fun x=> .slice x.ad (cP h2).length x.cap),.c0 _,.c2 (fun x y=> .int .i64 0),.c2 _] (aA b5 (eM true h2 fF) 238::bO p q k.h k.s (.slice ad k.log.length cap) k.size::aB nameS q d::aA b6 (cX h2 k.s (.slice xx.1 k.log.length xx.2)) 158::bE (.slice xx.1 k.log.length xx.2) k.log::dE (.slice ad k.log.length cap) k.log::aA b3 [.int .i64 h2.term,.int .i64 h2.vote] 44::R) (fun x=>bG (.slice x.ad (cP h2).length x.cap) (cP h2)::aA b5 (eM true h2 fF) 238::bO p q k.h k.s (.slice ad k.log.length cap) k.size::aB nameS q d::aA b6 (cX h2 k.s (.slice xx.1 k.log.length xx.2)) 158::bE (.slice xx.1 k.log.length xx.2) k.log::dE (.slice ad k.log.length cap) k.log::aA b3 [.int .i64 h2.term,.int .i64 h2.vote] 44::R) (fun x y=>bO p q h2 k.s (.slice xx.1 k.log.length xx.2) (k.size+(cP h2).length)::aB nameS q d'::bE (.slice xx.1 k.log.length xx.2) k.log::R) (fun x y z=>[]) (fun x y z t=>[]) hs hw ?kk ⟨drs,drs,?m0,drs,?m1,drs,trivial⟩
 case m0=>
  intro x y z t LD a W hs hw;refine sg hs hw (fun s a W hs hw=>?_) (g:=aBE hm);exact ⟨{ad:=s.1,cap:=s.2},hs,hw⟩
 case m1=>
  intro x y z t LD a W hs hw;have hw:Has 0 w0 W (bO p q k.h k.s (.slice ad k.log.length cap) k.size::aB nameS q d::bG (.slice x.ad (cP h2).length x.cap) (cP h2)::aA b5 (eM true h2 fF) 238::aA b6 (cX h2 k.s (.slice xx.1 k.log.length xx.2)) 158::bE (.slice xx.1 k.log.length xx.2) k.log::dE (.slice ad k.log.length cap) k.log::aA b3 [.int .i64 h2.term,.int .i64 h2.vote] 44::R):=hw.pm;refine cl hs (aBV (h2:=h2) (s2:=k.s) (cP h2) _ h0 h9 hd (fun h=>h.rd_own In.hd) hw) fun a W hs hw=>?_;exact ⟨{},hs,hw.sl⟩
 case kk=>
  intro x y a W hs hw;refine sc hs ?_;refine rt1 hs rfl rfl ⟨rfl,?_⟩;exact qD (k:={k with h:=h2,size:=k.size+(cP h2).length}) (hw.sl) ⟨hl,(by show 0<k.size+_;omega),hs1,hs2⟩
end
section
variable {p q:Nat} {k k':dD} {v v2:Value} {w0 W:World} {R L:List Res} {d d':bM}
theorem aBY:∀{l:List bY} {i:Int},lV i l=true→∀(j:Nat) (x:bY),l[j]? =some x→eH x=true∧x.ix=i+(j:Int)
 | [],_,_=>fun j x h=>by simp at h
 |y::l,i,h=>by
  have h:(eH y && (y.ix == i) && lV (i+1) l)=true:=h;simp only [Bool.and_eq_true,beq_iff_eq] at h;intro j x hx;cases j with
  |zero=>
   obtain rfl:y=x:=by simpa using hx
   exact ⟨h.1.1,by rw [h.1.2];simp⟩
  |succ j=>
   have:=aBY h.2 j x (by simpa using hx);exact ⟨this.1,by rw [this.2];omega⟩
theorem aG7 (es:List bY) (v:Value) (hn:es.length≤1000) (hr:∀{W},Has 0 w0 W R→Rd W 4 v es.length (es.flatMap bA)) (hk:wO d k es=some (d',k')) (hw:Has 0 w0 W (aW p q k::aB nameS q d::R)):
  Calls prog 196 ⟨[ptr p,v]⟩ W fun e W'=>e= .returned (.int .i64 0)∧Has 0 w0 W' (aW p q k'::aB nameS q d'::R):=by
 have sub0:∀{W A B},Has 0 w0 W (A::B::R)→Has 0 w0 W R:=fun h=>h.d2;obtain ⟨vad,vcap,rfl⟩:∃ad cap,v= .slice ad es.length cap:=by obtain ⟨_,ad,cap,e,_⟩:=hr (sub0 hw);exact ⟨ad,cap,e⟩
 have hw0:=hw;obtain ⟨⟨hl,hp,hs1,hs2⟩,ad,cap,hw⟩:=qE hw;refine en Tryz.func196 Tryz.ntmps196 fun a hs=>?_;refine sv hs hw fun a hs=>?_;cases h0:((es.length:Int) == 0) with
 |true=>
  rw [h0] at hs;refine sv hs hw fun a hs=>?_;obtain rfl:es= []:=List.eq_nil_of_length_eq_zero (by simpa using h0);have hk:some (d,k)=some (d',k'):=hk;injection hk with hk;injection hk with hk1 hk2;subst hk1 hk2;exact rt1 hs rfl rfl ⟨rfl,hw0⟩
 |false=>
 rw [h0] at hs;clear hw0;have hpos:0<es.length:=by
  rcases Nat.eq_zero_or_pos es.length with h|h
  ·rw [h] at h0;cases h0
  ·exact h
 obtain ⟨e,r,hE⟩:∃e r,es=e::r:=by cases es with|nil=>simp at hpos|cons e r=>exact ⟨e,r,rfl⟩
 obtain ⟨A,hA,hAl,hem,h200,h0s,h9,hd,hk'⟩:∃A:Nat,e.ix - k.s.ix - 1=(A:Int)∧A≤k.log.length∧lV e.ix es=true∧A+es.length≤200∧k.size≠0∧k.size+(es.flatMap cJ).length≤1048576∧kA d (es.flatMap cJ)=some d'∧k'= {k with log:=k.log.take A ++ es,size:=k.size+(es.flatMap cJ).length}:=by
  rw [hE] at hk⊢
  have hk:(if e.ix - k.s.ix - 1<0∨(k.log.length:Int)<e.ix - k.s.ix - 1∨lV e.ix (e::r)=false∨200<e.ix - k.s.ix - 1+((e::r).length:Int) then none
   else pV d k ((e::r).flatMap cJ) {k with log:=k.log.take (e.ix - k.s.ix - 1).toNat ++ (e::r)})=some (d',k'):=hk
  split at hk
  ·cases hk
  ·rename_i hn;unfold pV at hk;split at hk
   ·cases hk
   ·rename_i hn2;rw [Option.map_eq_some_iff] at hk;obtain ⟨x,h1,h2⟩:=hk;injection h2 with h3 h4;have h5:lV e.ix (e::r)=true:=by cases hh:lV e.ix (e::r) with|true=>rfl|false=>exact absurd (.inr (.inr (.inl hh))) hn
    refine ⟨(e.ix - k.s.ix - 1).toNat,by omega,by omega,h5,by omega,by omega,by omega,h3▸h1,h4.symm⟩
 have hat:=aBY hem;have he0:=(hat 0 e (by rw [hE];rfl)).1;have hix:1≤e.ix∧e.ix≤1099511627776:=by
  unfold eH in1 at he0;simp at he0;omega
 have hA64:IntKind.i64.wrap (IntKind.i64.wrap (e.ix - k.s.ix) - 1)=(A:Int):=by rw [IntWalk.i64_in (e.ix - k.s.ix) (by omega),IntWalk.i64_in _ (by omega)];exact hA
 obtain ⟨b,o,cap3,hv,hcap⟩:=jX (hr (sub0 (hw.d1))) hpos;injection hv with hv1 _ hv2;subst hv1 hv2;have hcell:∀{W},Has 0 w0 W R→_:=fun h=>kG (hr h) hpos;have hfh:=qA hE;have hk0:(0:Int)≤0:=by omega
 have hk1:(0:Int)<((es.length:Nat):Int):=by omega
 refine sv hs hw fun a hs=>?_;have hw:Has 0 w0 W (bO p q k.h k.s (.slice ad k.log.length cap) k.size::dE (.slice ad k.log.length cap) k.log::aB nameS q d::R):=hw;refine cle hs (p9 (by omega) (fun h=>h.rd_sub In.hd) hw) fun xx a W _ hs hw=>?_;refine sn hs hw fun b5 a W hs hw=>?_;refine sx hs hw fun a W hs hw=>?_;have hw:Has 0 w0 W (bO p q k.h k.s (.slice ad k.log.length cap) k.size::dE (.slice ad k.log.length cap) k.log::aB nameS q d::aA b5 (cX k.h k.s (.slice xx.1 k.log.length xx.2)) 158::bE (.slice xx.1 k.log.length xx.2) k.log::R):=hw.pm;have subS:∀{W},Has 0 w0 W (bO p q k.h k.s (.slice ad k.log.length cap) k.size::dE (.slice ad k.log.length cap) k.log::aB nameS q d::aA b5 (cX k.h k.s (.slice xx.1 k.log.length xx.2)) 158::bE (.slice xx.1 k.log.length xx.2) k.log::R)→Has 0 w0 W R:=fun h=>h.sub (List.Sublist.cons _ (List.Sublist.cons _ (List.Sublist.cons _ (List.Sublist.cons _ (List.Sublist.cons _ (List.Sublist.refl _))))));refine bB [] [.f 0 0,.f 0 0,.f 0 0,.f 0 0,.f 0 0,.f 0 0,.f 0 0,.f 0 0,.f 0 0,.f 0 0] [.c0 _,.c0 _,.c0 _,.c0 (.int .i64 e.ix),.c0 _,.c0 _,.c0 _,.c0 _,.c0 (.int .i64 (A:Int)),.c0 _] (bO p q k.h k.s (.slice ad k.log.length cap) k.size::dE (.slice ad k.log.length cap) k.log::aB nameS q d::aA b5 (cX k.h k.s (.slice xx.1 k.log.length xx.2)) 158::bE (.slice xx.1 k.log.length xx.2) k.log::R) (fun x=>[]) (fun x y=>[]) (fun x y z=>[]) (fun x y z t=>[]) hs hw ?kk ⟨drs,drs,drs,?f3,drs,drs,drs,drs,?f8,drs,trivial⟩
 case f3=>
  refine ⟨?_,trivial,trivial,trivial,trivial⟩;intro x y z t LD a W hs hw;refine eQ hs (hc:=hcell (subS hw) 0 _ hfh.1) (c:=fun a hs=>?_);exact ⟨hs,hw⟩
 case f8=>
  refine ⟨?_,trivial,trivial,trivial,trivial⟩;intro x y z t LD a W hs hw;refine sv hs hw fun a hs=>?_;rw [hA64] at hs;exact ⟨hs,hw⟩
 case kk=>
 intro a W hs hw;replace hs:Slots a 79 [(0,ptr p),(1,.slice (some ⟨b,o,none⟩) es.length vcap),(5,ptr b5),(6,.int .i64 (A:Int))]:=hs.ot;refine sx hs hw fun a W hs hw=>?_;rw [show decide ((A:Int)<0)=false from decide_eq_false (by omega)] at hs;refine sx hs hw fun a W hs hw=>?_;rw [show decide ((A:Int) > (k.log.length:Int))=false from decide_eq_false (by omega)] at hs;refine sv hs hw fun a hs=>?_;have hw:Has 0 w0 W (bG (.slice none 0 0) []::bO p q k.h k.s (.slice ad k.log.length cap) k.size::dE (.slice ad k.log.length cap) k.log::aB nameS q d::aA b5 (cX k.h k.s (.slice xx.1 k.log.length xx.2)) 158::bE (.slice xx.1 k.log.length xx.2) k.log::R):=hw.nilB 5
 have hbl:∀i,((es.take i).flatMap cJ).length≤2560*1000:=fun i=>Nat.le_trans (sV fun e h=>by
  obtain ⟨j,hj⟩:=List.mem_iff_getElem?.1 (List.mem_of_mem_take h)
  exact (hat j e hj).1) (by rw [List.length_take];omega)
 refine bX (σ:=Nat×Option Addr×Nat) (fun u=>[(0,ptr p),(1,.slice (some ⟨b,o,none⟩) es.length vcap),(5,ptr b5),(6,.int .i64 (A:Int)),(7,.slice u.2.1 ((es.take u.1).flatMap cJ).length u.2.2),(35,.slice (some ⟨b,o,none⟩) es.length vcap),(36,.int .i64 (es.length:Int)),(37,.int .i64 (u.1:Int))]) (fun u=>bG (.slice u.2.1 ((es.take u.1).flatMap cJ).length u.2.2) ((es.take u.1).flatMap cJ)::bO p q k.h k.s (.slice ad k.log.length cap) k.size::dE (.slice ad k.log.length cap) k.log::aB nameS q d::aA b5 (cX k.h k.s (.slice xx.1 k.log.length xx.2)) 158::bE (.slice xx.1 k.log.length xx.2) k.log::R) (fun u=>u.1≤es.length) (fun u=>es.length - u.1) (0,none,0) (Nat.zero_le _) hs ⟨rfl,rfl,rfl,rfl,rfl,rfl,rfl,rfl,trivial⟩ hw ?_;clear hs hw;rintro ⟨i,uad,ucap⟩ a W hi hs hw;have hi:i≤es.length:=hi;simp only at hs hw;refine sv hs hw fun a hs=>?_;refine cI hs (kt:=fun hc=>?_) (kf:=fun hc=>?_)
 ·have hi':i<es.length:=by simpa using hc
  obtain ⟨xe,hx,hdx⟩:=dP hi';obtain ⟨he,hxi⟩:=hat i xe hx;have hsn:=aBU hx;have l6:=wY he;have l5:=hbl i;refine sv hs hw fun a hs=>?_;refine p7 hs (hr (subS (hw.d1))) hx fun a g o2 hpc hs=>?_;refine eC hs (z:=zEnt) (cs:=bA xe) (hc:=hpc) (hl:=by rfl) (c:=fun a hs=>?_);refine sn hs hw fun b9 a W hs hw=>?_;refine sx hs hw fun a W hs hw=>?_;have hw:Has 0 w0 W (aA b9 (bA xe) 137::bG (.slice uad ((es.take i).flatMap cJ).length ucap) ((es.take i).flatMap cJ)::bO p q k.h k.s (.slice ad k.log.length cap) k.size::dE (.slice ad k.log.length cap) k.log::aB nameS q d::aA b5 (cX k.h k.s (.slice xx.1 k.log.length xx.2)) 158::bE (.slice xx.1 k.log.length xx.2) k.log::R):=hw;replace hs:Slots a 79 [(0,ptr p),(1,.slice (some ⟨b,o,none⟩) es.length vcap),(5,ptr b5),(6,.int .i64 (A:Int)),(7,.slice uad ((es.take i).flatMap cJ).length ucap),(8,.int .i64 (i:Int)),(9,ptr b9),(35,.slice (some ⟨b,o,none⟩) es.length vcap),(36,.int .i64 (es.length:Int)),(37,.int .i64 (i:Int))]:=hs.ot;have hxw:(xe.ix !=IntKind.i64.wrap (e.ix+(i:Int)))=false:=by rw [IntWalk.i64_in _ (by omega),←hxi];simp
  refine bB [2] [.f 0 0,.f 0 0,.m 0,.f 1 1,.f 1 1,.f 1 1,.f 1 1,.f 1 1,.f 1 1,.f 1 1,.f 1 1,.f 1 1,.f 1 1,.f 1 1,.f 1 1] [.c0 _,.c0 _,.c1 (fun x=> .bool true),.c1 _,.c1 _,.c1 _,.c1 _,.c1 _,.c1 _,.c1 _,.c1 (fun x=> .int .i64 e.ix),.c1 _,.c1 _,.c1 (fun x=> .bool false),.c1 _] (aA b9 (bA xe) 137::bG (.slice uad ((es.take i).flatMap cJ).length ucap) ((es.take i).flatMap cJ)::bO p q k.h k.s (.slice ad k.log.length cap) k.size::dE (.slice ad k.log.length cap) k.log::aB nameS q d::aA b5 (cX k.h k.s (.slice xx.1 k.log.length xx.2)) 158::bE (.slice xx.1 k.log.length xx.2) k.log::R) (fun x=>aA b9 (bA xe) 137::bG (.slice uad ((es.take i).flatMap cJ).length ucap) ((es.take i).flatMap cJ)::bO p q k.h k.s (.slice ad k.log.length cap) k.size::dE (.slice ad k.log.length cap) k.log::aB nameS q d::aA b5 (cX k.h k.s (.slice xx.1 k.log.length xx.2)) 158::bE (.slice xx.1 k.log.length xx.2) k.log::R) (fun x y=>[]) (fun x y z=>[]) (fun x y z t=>[]) hs hw ?kk ⟨drs,drs,?m0,drs,drs,drs,drs,drs,drs,drs,?f10,drs,drs,?f13,drs,trivial⟩
  case m0=>
   intro x y z t LD a W hs hw;refine cl hs ((wal_May_ent (e:=xe)).ok hw) fun a W hs hw=>?_;rw [he] at hs;exact ⟨{},hs,hw⟩
  case f10=>
   refine ⟨trivial,?_,trivial,trivial,trivial⟩;intro x y z t LD a W hs hw;refine sc hs ?_;refine eQ hs (hc:=hcell (subS (hw.d2)) 0 _ hfh.1) (c:=fun a hs=>?_);exact ⟨hs,hw⟩
  case f13=>
   refine ⟨trivial,?_,trivial,trivial,trivial⟩;intro x y z t LD a W hs hw;refine sv hs hw fun a hs=>?_;rw [hxw] at hs;exact ⟨hs,hw⟩
  case kk=>
  intro _ a W hs hw;refine sx hs hw fun a W hs hw=>?_;refine sg hs hw (fun s a W hs hw=>?_) (g:=aBF (e:=xe) he);refine gQ hs hw (l:=(es.take i).flatMap cJ) (m:=cJ xe) (hr:=eZ (hw.rd_own In.hd) (iY _)) (hb:=by omega) (c:=fun a ad2 cap2 W hs hw=>?_);rw [←hsn] at hs hw;refine sv hs hw fun a hs=>?_;exact bS (i+1,ad2,cap2) hs (hw.sl) hi' (by show es.length - (i+1)<es.length - i;omega) ⟨rfl,rfl,rfl,rfl,rfl,rfl,rfl,bU (i1 (by omega)),trivial⟩
 ·have htk:es.take i=es:=List.take_of_length_le (by simp at hc;omega);rw [htk] at hs hw;have hbl0:=hbl es.length;rw [List.take_length] at hbl0;replace hs:Slots a 79 [(38,.bool (decide ((i:Int)<(es.length:Int)))),(0,ptr p),(1,.slice (some ⟨b,o,none⟩) es.length vcap),(5,ptr b5),(6,.int .i64 (A:Int)),(7,.slice uad (es.flatMap cJ).length ucap)]:=hs.ot;refine sv hs hw fun a hs=>?_;rw [IntWalk.i64_in ((A:Int)+(es.length:Int)) (by omega),show decide ((A:Int)+(es.length:Int) > 200)=false from decide_eq_false (by omega)] at hs;refine sx hs hw fun a W hs hw=>?_;have hw:Has 0 w0 W (bE (.slice xx.1 k.log.length xx.2) k.log::bG (.slice uad (es.flatMap cJ).length ucap) (es.flatMap cJ)::bO p q k.h k.s (.slice ad k.log.length cap) k.size::dE (.slice ad k.log.length cap) k.log::aB nameS q d::aA b5 (cX k.h k.s (.slice xx.1 k.log.length xx.2)) 158::R):=hw.pm;refine aG5 (z:=zEnt) hs hw hAl fun a ad2 cap2 hs hw=>?_;refine sv hs hw fun a hs=>?_;refine lL hs (hw:=hw) (k:=A) (m:=es.length) (xs:=(k.log.flatMap bA).take (A*4)) (news:=es.flatMap bA) (hsrc:=eZ (hr (hw.sub (by repeat (first|exact List.Sublist.refl _|apply List.Sublist.cons)))) (sS _)) (h63:=by omega) (hb:=by omega) (c:=fun a ad3 cap3 W hs hw=>?_);have hfl:(k.log.flatMap bA).take (A*4) ++ es.flatMap bA=(k.log.take A ++ es).flatMap bA:=by rw [List.flatMap_append,p8]
  have hln:A+es.length=(k.log.take A ++ es).length:=by rw [List.length_append,List.length_take];omega
  rw [hfl,hln] at hw;rw [hln] at hs;refine sx hs hw fun a W hs hw=>?_;have hw:Has 0 w0 W (bO p q k.h k.s (.slice ad k.log.length cap) k.size::aB nameS q d::bG (.slice uad (es.flatMap cJ).length ucap) (es.flatMap cJ)::bE (.slice ad3 (k.log.take A ++ es).length cap3) (k.log.take A ++ es)::aA b5 (cX k.h k.s (.slice ad3 (k.log.take A ++ es).length cap3)) 158::dE (.slice ad k.log.length cap) k.log::R):=hw.pm;refine cl hs (aBV (h2:=k.h) (s2:=k.s) (es.flatMap cJ) _ h0s h9 hd (fun h=>h.rd_own In.hd) hw) fun a W hs hw=>?_;refine sv hs hw fun a hs=>?_;refine rt1 hs rfl rfl ⟨rfl,?_⟩;rw [hk'];exact qD (k:={k with log:=k.log.take A ++ es,size:=k.size+(es.flatMap cJ).length}) (hw.sl) ⟨by rw [←hln];omega,(by show 0<k.size+_;omega),hs1,hs2⟩
end
section
variable {p q:Nat} {k k':dD} {v v2:Value} {w0 W:World} {R L:List Res} {d d':bM}
theorem aGe (hw:Has 0 w0 W (aB nameS q none::R)):
  Calls prog 86 ⟨[ptr q]⟩ W fun e W'=>∃p:Nat,e= .returned (.tuple ⟨[ptr p,.int .i64 0]⟩)∧True∧Has 0 w0 W' (bO p q ⟨0,0⟩ zeroSnap (.slice none 0 0) 0::aB nameS q none::R):=by
 refine en Tryz.func86 Tryz.ntmps86 fun a hs=>?_;refine sv hs hw fun a hs=>?_;refine sn hs hw fun p a W hs hw=>?_;refine sv hs hw fun a hs=>?_;refine cl hs (aBP w0 W nameS _ hw.swap2) fun a W hs hw=>?_;refine sv hs hw fun a hs=>?_;exact rt2 hs rfl rfl rfl ⟨p,rfl,trivial,hw.swap2⟩
theorem aGf (conf data:ByteArray) (hk:pW none ⟨⟨0,0⟩,zeroSnap,[],0⟩ ⟨0,0,conf,data⟩=some (d',k')) (hw:Has 0 w0 W (bO p q ⟨0,0⟩ zeroSnap (.slice none 0 0) 0::aB nameS q none::R)):
  Calls prog 87 ⟨[ptr p,.agg ⟨dM ⟨0,0,conf,data⟩⟩]⟩ W fun e W'=>e= .returned (.int .i64 0)∧Has 0 w0 W' (aW p q k'::aB nameS q d'::R):=by
 obtain ⟨hsm,hd,rfl⟩:eK ⟨0,0,conf,data⟩=true∧mS (cY ⟨0,0,conf,data⟩ ++ cP ⟨0,0⟩ ++ ([]:List bY).flatMap cJ)=some d'∧k'=⟨⟨0,0⟩,⟨0,0,conf,data⟩,[],(cY ⟨0,0,conf,data⟩ ++ cP ⟨0,0⟩ ++ ([]:List bY).flatMap cJ).length⟩:=by
  unfold pW at hk;split at hk
  ·cases hk
  ·rename_i hn;have hm:eK ⟨0,0,conf,data⟩=true:=by cases hh:eK ⟨0,0,conf,data⟩ with|true=>rfl|false=>exact absurd (.inl hh) hn
   have hk:((mS (cY ⟨0,0,conf,data⟩ ++ cP ⟨0,0⟩ ++ ([]:List bY).flatMap cJ)).map fun d=>(d,(⟨⟨0,0⟩,⟨0,0,conf,data⟩,[],(cY ⟨0,0,conf,data⟩ ++ cP ⟨0,0⟩ ++ ([]:List bY).flatMap cJ).length⟩:dD)))=some (d',k'):=hk;rw [Option.map_eq_some_iff] at hk;obtain ⟨x,h1,h2⟩:=hk;injection h2 with h3 h4;exact ⟨hm,h3▸h1,h4.symm⟩
 have hpos:0<(cY ⟨0,0,conf,data⟩).length:=by unfold cY frB;simp
 obtain ⟨B,hB⟩:∃B,B=cY ⟨0,0,conf,data⟩:=⟨_,rfl⟩
 have hput:∀{W L},Has 0 w0 W L→Calls prog 153 ⟨[.agg ⟨dM ⟨0,0,conf,data⟩⟩]⟩ W fun e W'=>∃x:Option Addr×Nat,e= .returned (.slice x.1 B.length x.2)∧True∧Has 0 w0 W' (bG (.slice x.1 B.length x.2) B::L):=fun {W L} h=>((wR hsm).ok h).mono fun e W' ⟨x,h1,h2⟩=>⟨x,by rw [hB];exact h1,trivial,by rw [hB];exact h2⟩
 rw [←hB] at hpos hd⊢;refine en Tryz.func87 Tryz.ntmps87 fun a hs=>?_;refine sc hs ?_;refine sn hs hw fun b3 a W hs hw=>?_;have hw:Has 0 w0 W (bO p q ⟨0,0⟩ zeroSnap (.slice none 0 0) 0::aB nameS q none::aA b3 (dM ⟨0,0,conf,data⟩) 36::R):=hw.pm;refine sv hs hw fun a hs=>?_;refine bB [1] [.f 0 0,.m 0,.f 1 1,.f 1 1,.f 1 1,.f 1 1,.f 1 1,.f 1 1,.f 1 1,.f 1 1,.f 1 1,.f 1 1,.f 1 1,.f 1 1] [.c0 _,.c1 (fun x=> .slice x.ad B.length x.cap),.c1 (fun x=> .bool false),.c1 _,.c1 _,.c1 _,.c1 _,.c1 _,.c1 _,.c1 _,.c1 _,.c1 _,.c1 _,.c1 _] (bO p q ⟨0,0⟩ zeroSnap (.slice none 0 0) 0::aB nameS q none::aA b3 (dM ⟨0,0,conf,data⟩) 36::R) (fun x=>bG (.slice x.ad B.length x.cap) B::bO p q ⟨0,0⟩ zeroSnap (.slice none 0 0) 0::aB nameS q none::aA b3 (dM ⟨0,0,conf,data⟩) 36::R) (fun x y=>[]) (fun x y z=>[]) (fun x y z t=>[]) hs hw ?kk ⟨drs,?m0,?f2,drs,drs,drs,drs,drs,drs,drs,drs,drs,drs,drs,trivial⟩
 case m0=>
  intro x y z t LD a W hs hw;refine cle hs (hput hw) fun s a W _ hs hw=>?_;exact ⟨{ad:=s.1,cap:=s.2},hs,hw⟩
 case f2=>
  refine ⟨trivial,?_,trivial,trivial,trivial⟩;intro x y z t LD a W hs hw;have hne:x.ad.isNone=false:=by
   obtain ⟨b,o,cap,hv,_⟩:=jX (hw.rd_own In.hd) hpos;injection hv with hv1 _ _;rw [hv1];rfl
  refine kR hs (c:=fun a hs=>?_);rw [hne] at hs;exact ⟨hs,hw⟩
 case kk=>
 intro xx a W hs hw;replace hs:Slots a 84 [(0,ptr p),(3,ptr b3),(23,.bool false)]:=hs.ot;have hw:Has 0 w0 W (bE (.slice none 0 0) []::bG (.slice xx.ad B.length xx.cap) B::bO p q ⟨0,0⟩ zeroSnap (.slice none 0 0) 0::aB nameS q none::aA b3 (dM ⟨0,0,conf,data⟩) 36::R):=hw.nilOwn 137 4;have hw:Has 0 w0 W (bO p q ⟨0,0⟩ zeroSnap (.slice none 0 0) 0::bE (.slice none 0 0) []::aB nameS q none::aA b3 (dM ⟨0,0,conf,data⟩) 36::R):=hw.sl;refine sv hs hw fun a hs=>?_;refine cle hs (p9 (log:=[]) (by decide) (fun h=>h.rd_own In.hd) hw) fun s a W _ hs hw=>?_;refine sn hs hw fun b5 a W hs hw=>?_;refine sx hs hw fun a W hs hw=>?_;rw [show decide (IntKind.i64.wrap (IntKind.i64.wrap ((⟨0,0,conf,data⟩:dI).ix - zeroSnap.ix) - 1)<0)=true from rfl] at hs;refine sx hs hw fun a W hs hw=>?_;rw [show ((⟨0,0,conf,data⟩:dI).term == zeroSnap.term)=true from rfl] at hs;refine sx hs hw fun a W hs hw=>?_;have hw:Has 0 w0 W (bO p q ⟨0,0⟩ zeroSnap (.slice none 0 0) 0::aB nameS q none::bE (.slice s.1 0 s.2) []::aA b5 (cX ⟨0,0⟩ ⟨0,0,conf,data⟩ (.slice s.1 0 s.2)) 158::aA b3 (dM ⟨0,0,conf,data⟩) 36::R):=hw.sl;refine cl hs (aG0 (h2:=⟨0,0⟩) (s2:=⟨0,0,conf,data⟩) (log:=[]) (by decide) hsm (by decide) (fun e he=>by cases he) (d':=d') (by rw [←hB];exact hd) (fun h=>h.rd_own In.hd) hw) fun a W hs hw=>?_;refine sx hs hw fun a W hs hw=>?_;refine rt1 hs rfl rfl ⟨rfl,?_⟩;rw [←hB] at hw;have hw:Has 0 w0 W (bO p q ⟨0,0⟩ ⟨0,0,conf,data⟩ (.slice s.1 0 s.2) (B ++ cP ⟨0,0⟩ ++ ([]:List bY).flatMap cJ).length::aB nameS q d'::bE (.slice s.1 0 s.2) []::aA b5 (cX ⟨0,0⟩ ⟨0,0,conf,data⟩ (.slice s.1 0 s.2)) 158::aA b3 (dM ⟨0,0,conf,data⟩) 36::R):=hw;exact qD (k:=⟨⟨0,0⟩,⟨0,0,conf,data⟩,[],(B ++ cP ⟨0,0⟩ ++ ([]:List bY).flatMap cJ).length⟩) (hw.sl) ⟨by show (0:Nat)≤200;omega,by show 0<(B ++ _ ++ _).length;rw [List.length_append,List.length_append];omega,Int.le_refl 0,by show (0:Int)≤1099511627776;omega⟩
end
section
variable {H H':Fh} {w0 W:World} {R L:List Res}
theorem aGk (m:bF) (v:Value) (hm:fN H v m.es) (i:In (Fz H) L) (hw:Has 0 w0 W L):
  Calls prog 205 ⟨[.agg ⟨aF m v⟩]⟩ W fun e W'=>e= .returned (.bool (nU m))∧Has 0 w0 W' L:=by
 obtain ⟨ad,cap,rfl⟩:=hm.slice;have hlen:=hm.len;have hq0:nU m=(j9 m m.ix m.lterm m.es && decide ((m.es.length:Int)≤8) && (decide ((m.es.length:Int)=0) || m.kind == 3)):=rfl;refine en Tryz.func205 Tryz.ntmps205 fun a hs=>?_;refine sc hs ?_;refine sn hs hw fun b a W hs hw=>?_;refine zA hs hw ?_;clear hs;intro a hs;refine rgp [_,_,_,_,_,_] hs hw fun a W hs hw=>?_;refine sv hs hw fun a hs=>?_;refine bX (σ:=Nat×Int×Int) (fun q=>[(1,ptr b),(3,.int .i64 q.2.1),(4,.int .i64 q.2.2),(12,.slice ad m.es.length cap),(13,.int .i64 (m.es.length:Int)),(14,.int .i64 (q.1:Int))]) (fun _=>aA b (aF m (.slice ad m.es.length cap)) 38::L) (fun q=>q.1≤m.es.length∧j9 m m.ix m.lterm m.es=j9 m q.2.1 q.2.2 (m.es.drop q.1)) (fun q=>m.es.length - q.1) (0,m.ix,m.lterm) ⟨Nat.zero_le _,rfl⟩ hs ⟨rfl,rfl,rfl,rfl,rfl,rfl,trivial⟩ hw ?_;clear hs hw;rintro ⟨j,x,y⟩ a W ⟨hj,hh⟩ hs hw;simp only at hj hh hs hw;have sub1:∀{W A},Has 0 w0 W (A::aA b (aF m (.slice ad m.es.length cap)) 38::L)→Has 0 w0 W (aA b (aF m (.slice ad m.es.length cap)) 38::L):=fun h=>h.d1;have sub2:∀{W A},Has 0 w0 W (A::aA b (aF m (.slice ad m.es.length cap)) 38::L)→Has 0 w0 W L:=fun h=>h.d2;refine sv hs hw fun a hs=>?_;refine cI hs (kt:=fun hc=>?_) (kf:=fun hc=>?_)
 ·have hj':j<m.es.length:=by simpa using hc
  obtain ⟨e,he,hd⟩:=dP hj';rw [hd] at hh;refine sc hs ?_;refine p7 hs (hw.rdH (In.tl i) hm) he fun a g o hpc hs=>?_;refine eC hs (z:=zEnt) (cs:=bA e) (hc:=hpc) (hl:=by rfl) (c:=fun a hs=>?_);refine sn hs hw fun b8 a W hs hw=>?_;refine sx hs hw fun a W hs hw=>?_;rw [show IntKind.i64.wrap (x+1)=w64 (x+1) from rfl] at hs;have hq:j9 m x y (e::m.es.drop (j+1))=(!(e.ix !=w64 (x+1)) && !decide (e.term<y) && !decide (e.term > m.term) && eH e && j9 m e.ix e.term (m.es.drop (j+1))):=rfl;cases c1:(e.ix !=w64 (x+1)) with
  |true=>
   rw [c1] at hs hq;refine sv hs hw fun a hs=>?_;exact rt1 hs rfl rfl ⟨by rw [hq0,hh,hq];rfl,sub2 hw⟩
  |false=>
  rw [c1] at hs hq;refine sx hs hw fun a W hs hw=>?_;cases c2:decide (e.term<y) with
  |true=>
   rw [c2] at hs hq;refine sv hs hw fun a hs=>?_;exact rt1 hs rfl rfl ⟨by rw [hq0,hh,hq];rfl,sub2 hw⟩
  |false=>
  rw [c2] at hs hq;refine sx hs hw fun a W hs hw=>?_;cases c3:decide (e.term > m.term) with
  |true=>
   rw [c3] at hs hq;refine sv hs hw fun a hs=>?_;exact rt1 hs rfl rfl ⟨by rw [hq0,hh,hq];rfl,sub2 hw⟩
  |false=>
  rw [c3] at hs hq;refine sv hs hw fun a hs=>?_;refine cl hs ((wal_May_ent (e:=e)).ok hw) fun a W hs hw=>?_;cases c4:eH e with
  |false=>
   rw [c4] at hs hq;refine sv hs hw fun a hs=>?_;exact rt1 hs rfl rfl ⟨by rw [hq0,hh,hq];rfl,sub2 hw⟩
  |true=>
   rw [c4] at hs hq;refine zA hs hw ?_;clear hs;intro a hs;refine rgp [_,_,_,_,_,_] hs hw fun a W hs hw=>?_;refine sv hs hw fun a hs=>?_;exact bS (j+1,e.ix,e.term) hs (sub1 hw) ⟨hj',by rw [hh,hq];rfl⟩ (by show m.es.length - (j+1)<m.es.length - j;omega) ⟨rfl,rfl,rfl,rfl,rfl,bU (i1 (by omega)),trivial⟩
 ·have:m.es.drop j= []:=List.drop_eq_nil_of_le (by simp at hc;omega);have hh:j9 m m.ix m.lterm m.es=true:=by rw [hh,this];rfl
  have sub0:∀{W},Has 0 w0 W (aA b (aF m (.slice ad m.es.length cap)) 38::L)→Has 0 w0 W L:=fun h=>h.d1;refine sv hs hw fun a hs=>?_;cases c1:decide ((m.es.length:Int)≤8) with
  |false=>
   rw [c1] at hs;refine sv hs hw fun a hs=>?_;exact rt1 hs rfl rfl ⟨by rw [hq0,hh,c1];rfl,sub0 hw⟩
  |true=>
  rw [c1] at hs;refine sv hs hw fun a hs=>?_;have he:((m.es.length:Int) == 0)=decide ((m.es.length:Int)=0):=by rw [Bool.eq_iff_iff];simp
  rw [he] at hs;cases c2:decide ((m.es.length:Int)=0) with
  |true=>
   rw [c2] at hs;refine sv hs hw fun a hs=>?_;exact rt1 hs rfl rfl ⟨by rw [hq0,hh,c1,c2];rfl,sub0 hw⟩
  |false=>
   rw [c2] at hs;refine sv hs hw fun a hs=>?_;exact rt1 hs rfl rfl ⟨by rw [hq0,hh,c1,c2];rfl,sub0 hw⟩
theorem aGl (lo hi x y z:Int):inR lo hi [x,y,z]=((!decide (x<lo) && !decide (x > hi)) && ((!decide (y<lo) && !decide (y > hi)) && (!decide (z<lo) && !decide (z > hi)))):=by simp [inR]
theorem aGm (b:ByteArray):(b.toList == (⟨#[]⟩:ByteArray).toList)=(b.size == 0):=by
 have h:b.data.toList.length=b.size:=by rw [Array.length_toList];rfl
 rw [Go.ByteArray.toList_eq,Go.ByteArray.toList_eq];cases hb:b.data.toList with
 |nil=>rw [hb] at h;rw [←h];rfl
 |cons x l=>rw [hb] at h;rw [←h];rfl
theorem aB1 (m:bF) (v:Value) (hm:fN H v m.es) (hc:m.snap.conf.size≤1000000) (i:In (Fz H) L) (hw:Has 0 w0 W L):
  Calls prog 129 ⟨[.agg ⟨aF m v⟩]⟩ W fun e W'=>e= .returned (.bool (iO m))∧Has 0 w0 W' L:=by
 obtain ⟨ad,cap,rfl⟩:=hm.slice;have hlen:=hm.len
 have hq:iO m=(!decide (m.kind<1) && (!decide (m.kind > 5) && (srv m.from_ && (srv m.to_ && (in1 m.term && ((cV m.ix && (cV m.lterm && cV m.commit)) && (nU m &&
  ((!(m.yes && m.kind !=2 && m.kind !=4)) && (match m.kind == 5 with|false=>pT m.snap|true=>(dL m.snap.conf.data.toList).2 && eK m.snap))))))))):=by unfold iO;simp only [Bool.and_assoc];rfl
 refine en Tryz.func129 Tryz.ntmps129 fun a hs=>?_;refine sc hs ?_;refine sn hs hw fun b a W hs hw=>?_;have sub1:∀{W A B},Has 0 w0 W (A::B::aA b (aF m (.slice ad m.es.length cap)) 38::L)→Has 0 w0 W L:=fun h=>h.sub (List.Sublist.cons _ (List.Sublist.cons _ (List.Sublist.cons _ (List.Sublist.refl _))));have sub2:∀{W},Has 0 w0 W (aA b (aF m (.slice ad m.es.length cap)) 38::L)→Has 0 w0 W L:=fun h=>h.d1;refine sv hs hw fun a hs=>?_;cases c1:decide (m.kind<1) with
 |true=>
  rw [c1] at hs hq;refine sv hs hw fun a hs=>?_;exact rt1 hs rfl rfl ⟨by rw [hq];rfl,sub2 hw⟩
 |false=>
 rw [c1] at hs hq;refine sv hs hw fun a hs=>?_;cases c2:decide (m.kind > 5) with
 |true=>
  rw [c2] at hs hq;refine sv hs hw fun a hs=>?_;exact rt1 hs rfl rfl ⟨by rw [hq];rfl,sub2 hw⟩
 |false=>
 rw [c2] at hs hq;refine sv hs hw fun a hs=>?_;refine cl hs ((raft_server (x:=m.from_)).ok hw) fun a W hs hw=>?_;cases c3:srv m.from_ with
 |false=>
  rw [c3] at hs hq;refine sv hs hw fun a hs=>?_;exact rt1 hs rfl rfl ⟨by rw [hq];rfl,sub2 hw⟩
 |true=>
 rw [c3] at hs hq;refine sv hs hw fun a hs=>?_;refine cl hs ((raft_server (x:=m.to_)).ok hw) fun a W hs hw=>?_;cases c4:srv m.to_ with
 |false=>
  rw [c4] at hs hq;refine sv hs hw fun a hs=>?_;exact rt1 hs rfl rfl ⟨by rw [hq];rfl,sub2 hw⟩
 |true=>
 rw [c4] at hs hq;refine sv hs hw fun a hs=>?_;refine sn hs hw fun b2 a W hs hw=>?_;refine sc hs ?_;refine cl hs ((aB0 (l:=[m.term]) (by simp) (c:=⟨Pick.hd⟩)).ok hw) fun a W hs hw=>?_;rw [wP,show (!decide (m.term<1) && !decide (m.term > 1099511627776))=in1 m.term from rfl] at hs;have hw:Has 0 w0 W (aA b (aF m (.slice ad m.es.length cap)) 38::L):=hw.d1;cases c5:in1 m.term with
 |false=>
  rw [c5] at hs hq;refine sv hs hw fun a hs=>?_;exact rt1 hs rfl rfl ⟨by rw [hq];rfl,sub2 hw⟩
 |true=>
 rw [c5] at hs hq;refine sv hs hw fun a hs=>?_;refine sn hs hw fun b3 a W hs hw=>?_;refine sc hs ?_;refine cl hs ((aB0 (l:=[m.ix,m.lterm,m.commit]) (by simp) (c:=⟨Pick.hd⟩)).ok hw) fun a W hs hw=>?_;rw [aGl,show ((!decide (m.ix<0) && !decide (m.ix > 1099511627776)) && ((!decide (m.lterm<0) && !decide (m.lterm > 1099511627776)) && (!decide (m.commit<0) && !decide (m.commit > 1099511627776))))=(cV m.ix && (cV m.lterm && cV m.commit)) from rfl] at hs;have hw:Has 0 w0 W (aA b (aF m (.slice ad m.es.length cap)) 38::L):=hw.d1;cases c6:(cV m.ix && (cV m.lterm && cV m.commit)) with
 |false=>
  rw [c6] at hs hq;refine sv hs hw fun a hs=>?_;exact rt1 hs rfl rfl ⟨by rw [hq];rfl,sub2 hw⟩
 |true=>
 rw [c6] at hs hq;refine sv hs hw fun a hs=>?_;refine cl hs (aGk m _ hm (In.tl i) hw) fun a W hs hw=>?_;cases c7:nU m with
 |false=>
  rw [c7] at hs hq;refine sv hs hw fun a hs=>?_;exact rt1 hs rfl rfl ⟨by rw [hq];rfl,sub2 hw⟩
 |true=>
 rw [c7] at hs hq;have hq:iO m=((!(m.yes && m.kind !=2 && m.kind !=4)) && (match m.kind == 5 with|false=>pT m.snap|true=>(dL m.snap.conf.data.toList).2 && eK m.snap)):=hq;refine zE hs hw ?_;clear hs;intro a hs;refine sq ?_;cases c8:(m.yes && m.kind !=2 && m.kind !=4) with
 |true=>
  rw [c8] at hq;rw [Bool.and_eq_true,Bool.and_eq_true] at c8;refine sv hs hw fun a hs=>?_;rw [c8.1.1] at hs;refine sv hs hw fun a hs=>?_;rw [c8.1.2] at hs;refine sv hs hw fun a hs=>?_;rw [c8.2] at hs;refine sv hs hw fun a hs=>?_;exact rt1 hs rfl rfl ⟨by rw [hq];rfl,sub2 hw⟩
 |false=>
 rw [c8] at hq;refine fD (M:=fun a W=>Slots a 81 [(1,ptr b)]∧Has 0 w0 W (aA b (aF m (.slice ad m.es.length cap)) 38::L)) ?_ ?_
 ·refine sv hs hw fun a hs=>?_;cases y1:m.yes with
  |false=>
   rw [y1] at hs;refine sv hs hw fun a hs=>?_;exact ⟨hs.ot,hw⟩
  |true=>
  rw [y1] at hs;refine sv hs hw fun a hs=>?_;cases y2:m.kind !=2 with
  |false=>
   rw [y2] at hs;refine sv hs hw fun a hs=>?_;exact ⟨hs.ot,hw⟩
  |true=>
  rw [y2] at hs;refine sv hs hw fun a hs=>?_;have y3:(m.kind !=4)=false:=by rw [y1,y2] at c8;exact c8
  rw [y3] at hs;refine sc hs ?_;exact ⟨hs.ot,hw⟩
 clear hs hw;rintro a W ⟨hs,hw⟩;refine sv hs hw fun a hs=>?_;rw [show (m.kind !=5)=!(m.kind == 5) from rfl] at hs;cases c9:m.kind == 5 with
 |false=>
  rw [c9] at hs hq;refine sx hs hw fun a W hs hw=>?_;refine vS [(2,.i m.snap.ix,.i 0),(2,.i m.snap.term,.i 0),(9,.s m.snap.conf,.s ⟨#[]⟩),(9,.s m.snap.data,.s ⟨#[]⟩)] (pT m.snap) (by simp only [List.all_cons,List.all_nil,FV.eqv,aGm,pT,Bool.and_true,Bool.and_assoc]) hs (by simp only [List.mem_cons,List.not_mem_nil,or_false];rintro v (rfl|rfl|rfl|rfl) <;> first|exact rW _ _|exact aAL _ _) fun a hs=>?_;refine sv hs hw fun a hs=>?_;exact rt1 hs rfl rfl ⟨by rw [hq];rfl,sub2 hw⟩
 |true=>
  rw [c9] at hs hq;refine sx hs hw fun a W hs hw=>?_;refine sg hs hw (fun s a W hs hw=>?_) (g:=sP hc);refine sv hs hw fun a hs=>?_;cases d1:(dL m.snap.conf.data.toList).2 with
  |false=>
   rw [d1] at hs hq;refine sv hs hw fun a hs=>?_;exact rt1 hs rfl rfl ⟨by rw [hq];rfl,sub2 (hw.d1)⟩
  |true=>
  rw [d1] at hs hq;refine sx hs hw fun a W hs hw=>?_;cases d2:eK m.snap with
  |false=>
   rw [d2] at hq;refine cl hs ((aGj d2).ok hw) fun a W hs hw=>?_;refine sc hs ?_;refine sX hs (c:=fun a hs=>?_);refine sv hs hw fun a hs=>?_;exact rt1 hs rfl rfl ⟨by rw [hq];rfl,sub2 (hw.d1)⟩
  |true=>
   rw [d2] at hq;refine sg hs hw (fun s a W hs hw=>?_) (g:=wR d2);have hpos:0<(cY m.snap).length:=by unfold cY frB;simp
   have hne:s.1.isNone=false:=by
    obtain ⟨b,o,cap,hv,_⟩:=jX (hw.rd_own In.hd) hpos;injection hv with hv1 _ _;rw [hv1];rfl
   refine sc hs ?_;refine sX hs (c:=fun a hs=>?_);rw [hne] at hs;refine sv hs hw fun a hs=>?_;exact rt1 hs rfl rfl ⟨by rw [hq];rfl,sub2 (hw.d2)⟩
end
end Go.Proofs.YtgpbngfehfbndaaGreatDoor.Sw
