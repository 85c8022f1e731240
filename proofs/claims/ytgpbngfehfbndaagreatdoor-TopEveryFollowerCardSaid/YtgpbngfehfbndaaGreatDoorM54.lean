/-
  Texts of the proof, one behind the other (part 54).
-/
import Derived.Test.YtgpbngfehfbndaaGreatDoorM51
import Derived.Test.YtgpbngfehfbndaaGreatDoorChecked
import Derived.Test.YtgpbngfehfbndaaGreatDoorProg
set_option maxHeartbeats 16000000
set_option linter.unusedVariables false
namespace Go.Proofs.YtgpbngfehfbndaaGreatDoor.Sw
open Go.RowKit Go.Sx
theorem aJt {n:Int} (h:(Lit.int .i64 n).wf=true):i64 n:=by
 have:=(Lit.wf_int_iff .i64 n).1 h;show -9223372036854775808≤n∧n≤9223372036854775807;simpa [IntKind.min,IntKind.max,IntKind.signed,IntKind.bits] using this
set_option maxRecDepth 10000
section
variable {H H':Fh} {p q pk pr pt:Nat} {s s':cN} {w0 W:World} {R L:List Res} {d d':bF} {k k':dX} {o:fQ} {ms:List bS} {t:dU}
theorem aJu (hw:Has 0 w0 W (aP p pk pr pt::R)):Calls Tryz.prog 109 ⟨[ptr p]⟩ W fun e W'=>e= .returned (ptr pt)∧Has 0 w0 W' (aP p pk pr pt::R):=by
 refine enter Tryz.func109 Tryz.ntmps109 rfl rfl fun a hs=>?_;refine sv hs hw fun a hs=>?_;exact rt1 hs rfl rfl ⟨rfl,hw⟩
end
end Go.Proofs.YtgpbngfehfbndaaGreatDoor.Sw
namespace Go.Sx
open Go.RowKit
section
variable {P:Program} {W:World} {T K E:TypeId}
theorem aJv (es:List EntI) (m:Nat):(es.map EntI.raw).eraseIdx m=(es.eraseIdx m).map EntI.raw:=by
 induction es generalizing m with
 |nil=>simp
 |cons e es ih=>
  cases m with
  |zero=>simp
  |succ m=>simp [ih]
theorem aJw [m:MpI P T K E] {b:Nat} {es:List EntI} {c:Nat} {k:Int} {ty:TypeId} (h:MapAtI W b es c):
  ∃W' es' c',(Builtin.delete_ #[T,K] ty #[.map (some b),.int .i64 k]).run P W= .ok (.tuple #[]) W'∧MapAtI W' b es' c'∧es'.map EntI.kv=kW (es.map EntI.kv) k∧∃o,W'=ChangeMaps.setBlock W b o:=by
 unfold Builtin.delete_;simp only [List.getElem?_toArray,List.getElem?_cons_zero,List.getElem?_cons_succ,Sem.run_bind,run_underlying m.out,Result.andThen_ok,h.get,y9 m.key,zF m.key];cases hf:jK es k 0 with
 |none=>
  obtain ⟨h1,h2,h3⟩:=uX hf;refine ⟨_,es,c,?_,⟨k5 h.size,h.nodup,h.lt⟩,h3.symm,_,rfl⟩;simp only [Sem.run_bind,uZ h,Result.andThen_ok];rfl
 |some p=>
  obtain ⟨j,v0⟩:=p;obtain ⟨h1,i,e,h2,h3,h4,h5,h6⟩:=uY hf;rw [Nat.zero_add] at h2;subst h2;refine ⟨ChangeMaps.setBlock W b (.map (Array.eraseIdxIfInBounds ⟨es.map EntI.raw⟩ j) c),es.eraseIdx j,c,?_,⟨?_,?_,?_⟩,h6.symm,_,rfl⟩
  ·simp only [Sem.run_bind,uZ h,Result.andThen_ok];rfl
  ·rw [k5 h.size];congr 2;apply Array.ext';rw [Array.toList_eraseIdxIfInBounds];exact aJv es j
  ·exact h.nodup.sublist ((List.eraseIdx_sublist _ _).map _)
  ·exact fun e he=>h.lt e (List.mem_of_mem_eraseIdx he)
end
section
variable {G:Nat} {w W W':World} {L L' R R':List Res} {b:Nat} {d d':KVI}
end
section
variable {P:Program} {ops:Array Oper} {aE:List Oper} {Q:Exit→Act→World→Prop} {a:Act} {n G:Nat} {L:List (Nat×Value)} {w W:World} {R R':List Res} {dst b:Nat} {T K E ty:TypeId} {p:String} {e:Array Edge} {x y z:Operand} {k:Int} {v zv:Value} {d:KVI}
theorem aJx [m:MpI P T K E] (hs:Slots a n L) (hx:ev L x=some (.map (some b)):=by with_unfolding_all exact rfl) (hy:ev L y=some (.int .i64 k):=by with_unfolding_all exact rfl) (hw:Has G w W R) (hu:Upd (aR b d) R (aR b (kW d k)) R':=by repeat (first|exact Upd.hd|apply Upd.tl))
  (c:∀W',Slots a n L→Has G w W' R'→wpList P ops Q aE a W'):wpList P ops Q (⟨none,.call {callee:= .builtin .delete,args:=#[x,y],argTypes:=#[T,K]},ty,p,e,none⟩::aE) a W:=by
 obtain ⟨F1, -,h2, -⟩:=hw.has.upd hu;obtain ⟨-,es,ck,h1,rfl⟩:=h2;obtain ⟨W',es',c',g1,g2,g3,o,g4⟩:=aJw (P:=P) (T:=T) (k:=k) (ty:=ty) h1;refine wQ hs (v:= .tuple #[]) (W':=W') ?_ fun hs'=>c W' hs' (hw.setMapI hu g4 ⟨es',c',g2,g3⟩);simp only [execOp,resolve,invoke,builtin,Sem.run_bind,Sem.run_pure,Result.andThen_ok,List.map_toArray,List.map_cons,List.map_nil,hs.ev hx,hs.ev hy,g1]
end
end Go.Sx
set_option maxRecDepth 10000
namespace Go.Proofs.YtgpbngfehfbndaaGreatDoor.Sw
open Go.RowKit Go.Sx
def iH (d:bF) (n:Int):bF:=
 match d with
 |none=>none
 |some f=>
  if 0<f.lasts+(if 0≤n then (n.tmod ((f.b.length - f.lasts:Nat)+1:Int)).toNat else 0)∨f.there=true then
   some ⟨f.b.take (f.lasts+(if 0≤n then (n.tmod ((f.b.length - f.lasts:Nat)+1:Int)).toNat else 0)),f.lasts+(if 0≤n then (n.tmod ((f.b.length - f.lasts:Nat)+1:Int)).toNat else 0),true⟩
  else none
def vO (w:bC) (id n:Int):Option (bC×Int):=
 match at? w.servers id,at? w.sd id with
 |none,_=>some (w,12)
 |some _,some d=>some ({w with servers:=w.servers.filter fun p=>p.1 !=id,sd:=cK w.sd id (iH d n)},0)
 |_,none=>none
def aDj (t:TD) (c s:Int):Option TD:=(nN t.w c s).map fun x=>⟨x.1,t.ok && (x.2 == 0 || x.2 == 10)⟩
section
variable {w0 W:World} {R L:List Res} {H H':Fh} {p q:Nat} {k:WPt} {w w':bC} {t t':TD} {n m c id err:Int} {s:cN} {d d':bF}
theorem aJy (hok:t.ok=true) (h:aDj t c id=some t') (hH:(fr w0).le H) (hT:Tabs w0) (hw:Has 0 w0 W (dA H p n m t::Fz H::R)):
  Calls Tryz.prog 35 ⟨[ptr p,.int .i64 c,.int .i64 id]⟩ W fun e W'=>∃H':Fh,e= .returned (.tuple ⟨[]⟩)∧H.le H'∧Has 0 w0 W' (dA H' p n m t'::Fz H'::R):=by
 obtain ⟨⟨w2,e2⟩,h1,h2⟩:=Option.map_eq_some_iff.1 h;rw [hok] at h2;subst h2;obtain ⟨pw,hw⟩:=fJ hw;rw [hok] at hw;refine enter Tryz.func35 Tryz.ntmps35 rfl rfl fun a hs=>?_;refine sv hs hw fun a hs=>?_;have hw:Has 0 w0 W (bH H pw t.w::Fz H::cH p pw n m true::R):=hw.pm;refine aG hs (hc:=zL h1 hH hT hw) (k:=?_);rintro e' W ⟨H3,rfl,hle3,hw⟩;refine ⟨_,rfl,fun a hs=>?_⟩;refine sv hs hw fun a hs=>?_;have fin:∀{W} {b:Bool},(b=(e2 == 0 || e2 == 10))→Has 0 w0 W (bH H3 pw w2::Fz H3::cH p pw n m b::R)→Has 0 w0 W (dA H3 p n m ⟨w2,true && (e2 == 0 || e2 == 10)⟩::Fz H3::R):=fun {W b} hb g=>by
  rw [←hb];have g:Has 0 w0 W (cH p pw n m b::bH H3 pw w2::Fz H3::R):=g.pm;exact eJ (t:=⟨w2,true && b⟩) g
 cases c1:e2 == 0 with
 |true=>
  rw [c1] at hs fin;refine sx hs hw fun a W hs hw=>?_
  first
   |exact rt0 hs rfl ⟨H3,rfl,hle3,fin rfl hw⟩
   |exact cP hs rfl ⟨H3,rfl,hle3,fin rfl hw⟩
 |false=>
  rw [c1] at hs fin;refine sx hs hw fun a W hs hw=>?_
  first
   |exact rt0 hs rfl ⟨H3,rfl,hle3,fin rfl hw⟩
   |exact cP hs rfl ⟨H3,rfl,hle3,fin rfl hw⟩
end
section
variable {nm:ByteArray} {p m f:Nat} {c n:Int} {v:Value} {w w0 W:World} {R L:List Res} {fd:nD} {d:bF}
def vP (fd:nD):Nat:=fd.b.length - fd.lasts
def hC (fd:nD) (n:Int):Nat:=fd.lasts+(if 0≤n then (n.tmod ((fd.b.length - fd.lasts:Nat)+1:Int)).toNat else 0)
theorem aJz {ad:Option Addr} {cap:Nat} (hl:fd.lasts≤fd.b.length) (hm:fd.b.length≤1048576) (hw:Has 0 w0 W (dJ p m c::bN m [(nm,ptr f)]::eU f (.slice ad fd.b.length cap) fd.lasts fd.there::bP (.slice ad fd.b.length cap) fd.b::R)):
  Calls Tryz.prog 83 ⟨[ptr p,.string nm]⟩ W fun e W'=>e= .returned (.int .i64 (vP fd:Int))∧Has 0 w0 W' (dJ p m c::bN m [(nm,ptr f)]::eU f (.slice ad fd.b.length cap) fd.lasts fd.there::bP (.slice ad fd.b.length cap) fd.b::R):=by
 refine enter Tryz.func83 Tryz.ntmps83 rfl rfl fun a hs=>?_;refine sv hs hw fun a hs=>?_;refine jO hs (hw:=hw) (hz:=mH) (c:=fun a hs=>?_);rw [oN] at hs;refine sv hs hw fun a hs=>?_;refine bG [] [.f 0 0,.f 0 0,.f 0 0,.f 0 0,.f 0 0,.f 0 0,.f 0 0,.f 0 0,.f 0 0,.f 0 0,.f 0 0,.f 0 0,.f 0 0,.f 0 0,.f 0 0,.f 0 0,.f 0 0,.f 0 0,.f 0 0,.f 0 0,.f 0 0] [.c0 _,.c0 _,.c0 _,.c0 _,.c0 _,.c0 (ptr f),.c0 _,.c0 _,.c0 _,.c0 _,.c0 _,.c0 _,.c0 _,.c0 _,.c0 _,.c0 (ptr f),.c0 _,.c0 _,.c0 _,.c0 _,.c0 _] (dJ p m c::bN m [(nm,ptr f)]::eU f (.slice ad fd.b.length cap) fd.lasts fd.there::bP (.slice ad fd.b.length cap) fd.b::R) (fun x=>[]) (fun x y=>[]) (fun x y z=>[]) (fun x y z t=>[]) hs hw ?kk ⟨drs,drs,drs,drs,drs,?f5,drs,drs,drs,drs,drs,drs,drs,drs,drs,?f15,drs,drs,drs,drs,drs,trivial⟩
 case f5=>
  refine ⟨?_,trivial,trivial,trivial,trivial⟩;intro x y z t LD a W hs hw;refine jO hs (hw:=hw) (hz:=mH) (c:=fun a hs=>?_);rw [oN] at hs;exact ⟨hs,hw⟩
 case f15=>
  refine ⟨?_,trivial,trivial,trivial,trivial⟩;intro x y z t LD a W hs hw;refine jO hs (hw:=hw) (hz:=mH) (c:=fun a hs=>?_);rw [oN] at hs;exact ⟨hs,hw⟩
 case kk=>
 intro a W hs hw;rw [show IntKind.i64.wrap ((fd.b.length:Int) - (fd.lasts:Int))=(vP fd:Int) by unfold vP;rw [IntWalk.i64_in _ (by omega)];omega] at hs;refine sc hs ?_;exact rt1 hs rfl rfl ⟨rfl,hw⟩
theorem aKA (l:List ByteArray):Ch (fun (x:ByteArray) c=>c= [Value.string x]) l (l.map Value.string):=by
 induction l with
 |nil=>rfl
 |cons x l ih=>exact ⟨[.string x],l.map Value.string,rfl,rfl,ih⟩
def pE (fd:nD):Bool:=decide (0<fd.lasts) && decide (fd.lasts≤fd.b.length) && decide (fd.b.length≤1048576)
theorem aKB (h:pE fd=true) (hn: -9223372036854775808≤n∧n≤9223372036854775807):0<hC fd n∧hC fd n≤fd.b.length∧iH (some fd) n=some ⟨fd.b.take (hC fd n),hC fd n,true⟩:=by
 unfold pE at h;simp only [Bool.and_eq_true,decide_eq_true_eq] at h;have h1:hC fd n≤fd.b.length:=by
  unfold hC;split
  ·rename_i h0;have h2:=Int.tmod_lt_of_pos n (show (0:Int)<((fd.b.length - fd.lasts:Nat)+1:Int) by omega);omega
  ·omega
 have h0:0<hC fd n:=by unfold hC;omega
 refine ⟨h0,h1,?_⟩;show (if 0<hC fd n∨fd.there=true then _ else _)=_;rw [if_pos (Or.inl h0)];rfl
theorem aKC {l:List UInt8} {ad:Option Addr} {cap k:Nat} (h:RdB W (.slice ad l.length cap) l) (hk:k≤l.length):RdB W (.slice ad (l.take k).length cap) (l.take k):=by
 obtain ⟨h0,ad',cap',e,h2,h3,h4⟩:=h;injection e with e1 e2 e3;subst e1 e3;have hl:(l.take k).length=k:=by rw [List.length_take];omega
 refine ⟨by simp [bys],ad,cap,rfl,by omega,h3,?_⟩;rcases h4 with h4|⟨b,o,e4,h5,h6⟩
 ·left;omega
 ·right;refine ⟨b,o,e4,h5,fun j x hx=>h6 j x ?_⟩;have e9:bys (l.take k)=(bys l).take k:=by simp [bys]
  rw [e9,List.getElem?_take] at hx;split at hx
  ·exact hx
  ·cases hx
theorem aKD {l:List UInt8} {v:Value} {k:Nat} (hk:l.length=k) (hl:l.length≤1000000000) (hr:∀{W},Has 0 w0 W R→RdB W v l) (hw:Has 0 w0 W R):
  Calls Tryz.prog 84 ⟨[v]⟩ W fun e W'=>∃s:Option Addr×Nat,e= .returned (.slice s.1 k s.2)∧True∧Has 0 w0 W' (bP (.slice s.1 k s.2) l::R):=by
 subst hk;exact aCB w0 W l v R hl hr hw
theorem aKE (hns:nm.size≤1000) (hd:∀fd,d=some fd→pE fd=true) (hn: -9223372036854775808≤n∧n≤9223372036854775807) (hw:Has 0 w0 W (aB nm p d::R)):
  Calls Tryz.prog 50 ⟨[ptr p,.int .i64 n]⟩ W fun e W'=>∃b:Nat,e= .returned (ptr b)∧True∧Has 0 w0 W' (aB nm b (iH d n)::R):=by
 refine enter Tryz.func50 Tryz.ntmps50 rfl rfl fun a hs=>?_;refine sv hs hw fun a hs=>?_;refine sg hs hw (fun b a W hs hw=>?_) (g:=yH (nm:=nm));refine sv hs hw fun a hs=>?_;refine cle hs (aCM hns hw.swap2) fun nx a W _ hs hw=>?_;refine sv hs hw fun a hs=>?_;have hll:(fC nm d).length≤1:=by cases d <;> simp [fC]
 refine bY (σ:=Nat) (fun j=>[(0,ptr p),(1,.int .i64 n),(5,ptr b),(14,.slice nx.1 (fC nm d).length nx.2),(15,.int .i64 ((fC nm d).length:Nat)),(16,.int .i64 (j:Int))]) (fun j=>Sx.Own 9 1 (.slice nx.1 (fC nm d).length nx.2) (fC nm d).length ((fC nm d).map Value.string)::aB nm p d::aB nm b (if j=0 then none else iH d n)::R) (fun j=>j≤(fC nm d).length) (fun j=>(fC nm d).length - j) 0 (Nat.zero_le _) hs ⟨rfl,rfl,rfl,rfl,rfl,rfl,trivial⟩ hw ?_;clear hs hw;rintro j a W hj hs hw;refine sv hs hw fun a hs=>?_;refine cI hs (kt:=fun hcc=>?_) (kf:=fun hcc=>?_)
 ·have hj':j<(fC nm d).length:=by simpa using hcc
  have hj0:j=0:=by omega
  subst hj0;cases d with
  |none=>simp [fC] at hj'
  |some fd=>
  have hfb:=hd fd rfl;obtain ⟨h0,h1,hcr⟩:=aKB hfb hn;have hfb2:=hfb;unfold pE at hfb2;simp only [Bool.and_eq_true,decide_eq_true_eq] at hfb2;obtain ⟨⟨b1,b2⟩,b3⟩:=hfb2;have hw:Has 0 w0 W (Sx.Own 9 1 (.slice nx.1 1 nx.2) 1 [Value.string nm]::aB nm p (some fd)::aB nm b none::R):=hw;refine sc hs ?_;refine gA hs (r:=hw.rd_own In.hd) (hk:=fun x c h=>by rw [h];rfl) (ch:=aKA [nm]) (i:=0) (ho:=rfl) (hlen:=rfl) (c:=fun a g off c hmc hcl hpc hlt hs=>?_);subst hmc;refine eN hs (hc:=hpc 0 _ rfl) (c:=fun a hs=>?_);obtain ⟨m,c,f,ad,cap,hw⟩:=qP hw.swap2;obtain ⟨g,off,cap',hvv,hcap⟩:=jZ (hw.rd_own (In.tl (In.tl (In.tl In.hd)))) (show 0<fd.b.length by omega);injection hvv with hv1 _ hv2;subst hv1 hv2;have hw:Has 0 w0 W (dJ p m c::bN m [(nm,ptr f)]::eU f (.slice (some ⟨g,off,none⟩) fd.b.length cap) fd.lasts fd.there::bP (.slice (some ⟨g,off,none⟩) fd.b.length cap) fd.b::Sx.Own 9 1 (.slice nx.1 1 nx.2) 1 [Value.string nm]::aB nm b none::R):=hw;refine sv hs hw fun a hs=>?_;refine jO hs (hw:=hw) (hz:=mH) (c:=fun a hs=>?_);rw [oN] at hs;refine sv hs hw fun a hs=>?_;refine eW (M:=fun a W=>Slots a 65 ([(7,.string nm),(8,ptr f),(9,.int .i64 (hC fd n:Int))] ++ [(0,ptr p),(1,.int .i64 n),(5,ptr b),(14,.slice nx.1 1 nx.2),(15,.int .i64 ((1:Nat):Int)),(16,.int .i64 ((0:Nat):Int))])∧Has 0 w0 W (dJ p m c::bN m [(nm,ptr f)]::eU f (.slice (some ⟨g,off,none⟩) fd.b.length cap) fd.lasts fd.there::bP (.slice (some ⟨g,off,none⟩) fd.b.length cap) fd.b::Sx.Own 9 1 (.slice nx.1 1 nx.2) 1 [Value.string nm]::aB nm b none::R)) ?_ ?_
  ·refine cI hs (kt:=fun hcc=>?_) (kf:=fun hcc=>?_)
   ·have h9:0≤n:=by have:=of_decide_eq_true hcc;omega
    have h2:=Int.tmod_lt_of_pos n (show (0:Int)<((fd.b.length - fd.lasts:Nat)+1:Int) by omega);have h3:=Int.tmod_nonneg ((fd.b.length - fd.lasts:Nat)+1:Int) h9;refine sv hs hw fun a hs=>?_;refine cl hs (aJz b2 b3 hw) fun a W hs hw=>?_;rw [show vP fd=fd.b.length - fd.lasts from rfl] at hs;refine sv hs hw fun a hs=>?_;rw [show IntKind.i64.wrap (((fd.b.length - fd.lasts:Nat):Int)+1)=((fd.b.length - fd.lasts:Nat)+1:Int) from IntWalk.i64_in _ (by omega)] at hs;refine wD hs (hne:=by simp;omega) (k:=fun a hs=>?_);refine sv hs hw fun a hs=>?_;rw [show IntKind.i64.wrap ((fd.lasts:Int)+n.tmod ((fd.b.length - fd.lasts:Nat)+1:Int))=(hC fd n:Int) by unfold hC;rw [if_pos h9,IntWalk.i64_in _ (by omega)];omega] at hs;exact ⟨hs.ot,hw⟩
   ·have h9:¬0≤n:=by have:=of_decide_eq_false hcc;omega
    rw [show (fd.lasts:Int)=(hC fd n:Int) by unfold hC;rw [if_neg h9];rfl] at hs;refine sc hs ?_;exact ⟨hs.ot,hw⟩
  clear hs hw;rintro a W ⟨hs,hw⟩;generalize hC fd n=K at *;have hKl:(fd.b.take K).length=K:=by rw [List.length_take];omega
  obtain ⟨m2,c2,hw⟩:=qO (hw.pm:Has 0 w0 W (aB nm b none::dJ p m c::bN m [(nm,ptr f)]::eU f (.slice (some ⟨g,off,none⟩) fd.b.length cap) fd.lasts fd.there::bP (.slice (some ⟨g,off,none⟩) fd.b.length cap) fd.b::Sx.Own 9 1 (.slice nx.1 1 nx.2) 1 [Value.string nm]::R));refine sv hs hw fun a hs=>?_;rw [show decide ((K:Int) > 0)=true from decide_eq_true (by omega)] at hs;refine sv hs hw fun a hs=>?_;refine bG [11,14,15] [.f 0 2,.f 0 2,.f 0 2,.f 0 2,.f 0 2,.f 0 0,.f 0 0,.f 0 0,.f 0 0,.f 0 0,.f 0 0,.m 0,.f 0 1,.f 1 1,.m 1,.m 2] [.c0 _,.c0 _,.c0 _,.c0 _,.c0 _,.c0 _,.c0 _,.c0 _,.c0 _,.c0 _,.c0 (.slice (some ⟨g,off,none⟩) K cap),.c1 (fun x=> .slice x.ad K x.cap),.c0 _,.c1 _,.c2 (fun x y=> .pointer (some ⟨y.n,0,none⟩)),.c3 (fun x y z=>undef)] (dJ b m2 c2::bN m2 []::dJ p m c::bN m [(nm,ptr f)]::eU f (.slice (some ⟨g,off,none⟩) fd.b.length cap) fd.lasts fd.there::bP (.slice (some ⟨g,off,none⟩) fd.b.length cap) fd.b::Sx.Own 9 1 (.slice nx.1 1 nx.2) 1 [Value.string nm]::R) (fun x=>bP (.slice x.ad K x.cap) (fd.b.take K)::dJ b m2 c2::bN m2 []::dJ p m c::bN m [(nm,ptr f)]::eU f (.slice (some ⟨g,off,none⟩) fd.b.length cap) fd.lasts fd.there::bP (.slice (some ⟨g,off,none⟩) fd.b.length cap) fd.b::Sx.Own 9 1 (.slice nx.1 1 nx.2) 1 [Value.string nm]::R) (fun x y=>eU y.n (.slice x.ad K x.cap) K true::bP (.slice x.ad K x.cap) (fd.b.take K)::dJ b m2 c2::bN m2 []::dJ p m c::bN m [(nm,ptr f)]::eU f (.slice (some ⟨g,off,none⟩) fd.b.length cap) fd.lasts fd.there::bP (.slice (some ⟨g,off,none⟩) fd.b.length cap) fd.b::Sx.Own 9 1 (.slice nx.1 1 nx.2) 1 [Value.string nm]::R) (fun x y z=>eU y.n (.slice x.ad K x.cap) K true::bP (.slice x.ad K x.cap) (fd.b.take K)::dJ b m2 c2::bN m2 [(nm,ptr y.n)]::dJ p m c::bN m [(nm,ptr f)]::eU f (.slice (some ⟨g,off,none⟩) fd.b.length cap) fd.lasts fd.there::bP (.slice (some ⟨g,off,none⟩) fd.b.length cap) fd.b::Sx.Own 9 1 (.slice nx.1 1 nx.2) 1 [Value.string nm]::R) (fun x y z t=>[]) hs hw ?kk ⟨drs,drs,drs,drs,drs,drs,drs,drs,drs,drs,?f10,?m0,drs,drs,drn,?m2,trivial⟩
  case f10=>
   refine ⟨?_,trivial,trivial,trivial,trivial⟩;intro x y z t LD a W hs hw;refine qE (z:=[.int .u8 0]) (g:=g) (o:=off) (m:=K) (k:=fd.b.length) (cap:=cap) hs h1 hcap (by omega) (c:=fun a hs=>?_);exact ⟨hs,hw⟩
  case m0=>
   intro x y z t LD a W hs hw;refine aG hs (hc:=aKD (v:= .slice (some ⟨g,off,none⟩) K cap) hKl (by omega) (fun h=>by have:=aKC (h.rd_own (In.tl (In.tl (In.tl (In.tl (In.tl In.hd)))))) h1;rwa [hKl] at this) hw) (k:=?_);rintro e' W' ⟨s,rfl,_,hw⟩;exact ⟨_,rfl,fun a hs=>⟨{ad:=s.1,cap:=s.2},hs,hw⟩⟩
  case m2=>
   intro x y z t LD a W hs hw;refine nV hs (hw:=hw) (v:=ptr y.n) (c:=fun W hs hw=>?_);exact ⟨{},hs,hw⟩
  case kk=>
  intro x1 y1 _ a W hs hw;have hw:Has 0 w0 W (aB nm b (some ⟨fd.b.take K,K,true⟩)::dJ p m c::bN m [(nm,ptr f)]::eU f (.slice (some ⟨g,off,none⟩) fd.b.length cap) fd.lasts fd.there::bP (.slice (some ⟨g,off,none⟩) fd.b.length cap) fd.b::Sx.Own 9 1 (.slice nx.1 1 nx.2) 1 [Value.string nm]::R):=nK (f:=y1.n) (fd:=⟨fd.b.take K,K,true⟩) (hw.pm);have hw:Has 0 w0 W (aB nm p (some fd)::aB nm b (some ⟨fd.b.take K,K,true⟩)::Sx.Own 9 1 (.slice nx.1 1 nx.2) 1 [Value.string nm]::R):=nK (f:=f) (fd:=fd) (hw.pm);refine sv hs hw fun a hs=>?_;refine bQ 1 hs (by show Has 0 w0 W (Sx.Own 9 1 (.slice nx.1 1 nx.2) 1 [Value.string nm]::aB nm p (some fd)::aB nm b (iH (some fd) n)::R);rw [hcr];exact hw.pm) (Nat.le_refl _) (by show 1 - 1<1 - 0;omega) ⟨rfl,rfl,rfl,rfl,rfl,bR (by show IntKind.i64.wrap (((0:Nat):Int)+1)=((1:Nat):Int);rfl),trivial⟩
 ·have hj9:j=(fC nm d).length:=by simp at hcc;omega
  have hw:Has 0 w0 W (aB nm b (iH d n)::R):=by
   cases d with
   |none=>
    have hw:Has 0 w0 W (Sx.Own 9 1 (.slice nx.1 0 nx.2) 0 []::aB nm p none::aB nm b (if j=0 then none else none)::R):=hw;rw [ite_self] at hw;exact hw.sl
   |some fd=>
    rw [if_neg (by rw [hj9];simp [fC])] at hw;exact hw.sl
  refine sv hs hw fun a hs=>?_;exact rt1 hs rfl rfl ⟨b,rfl,trivial,hw⟩
end
section
variable {α:Type} {w0 W:World} {R L:List Res} {H H':Fh} {p q b:Nat} {k:WPt} {w w':bC} {n id err:Int} {s:cN} {d d':bF} {f ps qs:Int→Nat}
theorem aDk {x:Int}:∀{l:List Int},l.Nodup→kW (kvs f l) x=kvs f (l.filter (· !=x))
 | [],_=>rfl
 |y::l,hn=>by
  obtain ⟨hn1,hn2⟩:=List.nodup_cons.1 hn;show (match ksI x y with|true=>kvs f l|false=>(y,ptr (f y))::kW (kvs f l) x)=_
  by_cases h:y=x
  ·rw [j6.2 h.symm,List.filter_cons,if_neg (by simp [h])];rw [List.filter_eq_self.2 fun z hz=>by simp only [bne_iff_ne,ne_eq];intro e;exact hn1 (by rw [h,←e];exact hz)]
  ·rw [show ksI x y=false from by cases h9:ksI x y with|false=>rfl|true=>exact absurd (j6.1 h9).symm h,List.filter_cons,if_pos (by simp [h]),aDk hn2];rfl
theorem aDl {x:Int}:∀{l:List Int},x∈l→l.Nodup→gP (kvs f l) x (ptr b)=kvs (upd f x b) l
 | [],h,_=>by cases h
 |y::l,h,hn=>by
  obtain ⟨hn1,hn2⟩:=List.nodup_cons.1 hn;show (match ksI x y with|true=>(x,ptr b)::kvs f l|false=>(y,ptr (f y))::gP (kvs f l) x (ptr b))=(y,ptr (upd f x b y))::kvs (upd f x b) l
  by_cases h1:y=x
  ·rw [j6.2 h1.symm,h1,mM];have:kvs f l=kvs (upd f x b) l:=List.map_congr_left fun z hz=>by
    show (z,ptr (f z))=(z,ptr (upd f x b z));rw [lU (fun e=>hn1 (by rw [h1,←e];exact hz))]
   rw [this]
  ·rw [show ksI x y=false from by cases h9:ksI x y with|false=>rfl|true=>exact absurd (j6.1 h9).symm h1,lU h1];rw [aDl (by simp only [List.mem_cons] at h;rcases h with h|h;exact absurd h.symm h1;exact h) hn2]
theorem aDm {l1 l2:List (Int×α)} {x:Int} {v:α} (hn:((l1 ++ (x,v)::l2).map (·.1)).Nodup):((l1 ++ (x,v)::l2).filter fun p=>p.1 !=x)=l1 ++ l2∧∀y∈l1 ++ l2,y.1≠x:=by
 rw [List.map_append,List.map_cons] at hn;obtain ⟨-,h2,h3⟩:=List.nodup_append.1 hn;have h4:=(List.nodup_cons.1 h2).1;have a1:∀y∈l1,y.1≠x:=fun y hy e=>h3 y.1 (List.mem_map_of_mem hy) x (by simp) e;have a2:∀y∈l2,y.1≠x:=fun y hy e=>h4 (by show x∈_;rw [←e];exact List.mem_map_of_mem hy);refine ⟨?_,fun y hy=>?_⟩
 ·rw [List.filter_append,List.filter_cons,if_neg (by simp)];rw [List.filter_eq_self.2 fun y hy=>by simp [a1 y hy],List.filter_eq_self.2 fun y hy=>by simp [a2 y hy]]
 ·rcases List.mem_append.1 hy with h|h
  ·exact a1 y h
  ·exact a2 y h
theorem aDn {F G:Int×α→Res} {l l1 l2:List (Int×α)} {x:Int×α} (e:l=l1 ++ x::l2) (hl:∀y∈l1 ++ l2,F y=G y) (h:Has 0 w0 W (eV (l.map F)::R)):Has 0 w0 W (F x::eV ((l1 ++ l2).map G)::R):=by
 subst e;have h:=lS h;rw [List.map_append,List.map_cons,List.append_assoc,List.cons_append] at h;have h:=h.perm List.perm_middle;rw [←List.append_assoc,←List.map_append,List.map_congr_left hl] at h;exact (i0 (h.perm (List.perm_middle (l₁:=(l1 ++ l2).map G) (l₂:=R)).symm)).swap2
theorem aKF {G:Int×α→Res} {l1 l2:List (Int×α)} {x:Int×α} (h:Has 0 w0 W (G x::eV ((l1 ++ l2).map G)::R)):Has 0 w0 W (eV ((l1 ++ x::l2).map G)::R):=by
 have h:=lS h.swap2;refine i0 ?_;rw [List.map_append,List.map_cons,List.append_assoc,List.cons_append];rw [List.map_append,List.append_assoc] at h;refine h.perm ?_;refine List.Perm.append_left _ ?_;exact List.perm_middle
def vQ (w:bC) (id:Int):Bool:=decide ((w.servers.map (·.1)).Nodup) && decide ((w.sd.map (·.1)).Nodup) && (match at? w.sd id with|some (some fd)=>pE fd|_=>true)
theorem aKG (hf:vQ w id=true) (hn: -9223372036854775808≤n∧n≤9223372036854775807) (h:vO w id n=some (w',err)) (hw:Has 0 w0 W (bH H p w::R)):
  Calls Tryz.prog 17 ⟨[ptr p,.int .i64 id,.int .i64 n]⟩ W fun e W'=>e= .returned (.int .i64 err)∧Has 0 w0 W' (bH H p w'::R):=by
 unfold vQ at hf;simp only [Bool.and_eq_true,decide_eq_true_eq] at hf;obtain ⟨⟨f1,f2⟩,f3⟩:=hf;obtain ⟨k,hw⟩:=j8 hw;refine enter Tryz.func17 Tryz.ntmps17 rfl rfl fun a hs=>?_;refine sv hs hw fun a hs=>?_;refine cl hs (kX id hw) fun a W hs hw=>?_;unfold vO at h;unfold dQ at hs;cases c1:at? w.servers id with
 |none=>
  rw [c1] at hs h;injection h with h;injection h with e1 e2;subst e1 e2;refine sv hs hw fun a hs=>?_;exact rt1 hs rfl rfl ⟨rfl,eI hw⟩
 |some s=>
 rw [c1] at hs h;cases c2:at? w.sd id with
 |none=>rw [c2] at h;cases h
 |some d=>
 rw [c2] at h f3;injection h with h;injection h with e1 e2;subst e2;obtain ⟨l1,l2,s1,_⟩:=oY c1;obtain ⟨m1,m2,s2,s3⟩:=oY c2;rw [s1] at f1;rw [s2] at f2;obtain ⟨g1,g2⟩:=aDm f1;obtain ⟨g3,g4⟩:=aDm f2;have hfb:∀fd,d=some fd→pE fd=true:=fun fd e=>by rw [e] at f3;exact f3
 refine sv hs hw fun a hs=>?_;refine aJx hs (hw:=hw) (c:=fun W hs hw=>?_);rw [aDk (by rw [s1];exact f1)] at hw;have hw:Has 0 w0 W (aQ H k.ps k.qs w.servers::aC nameS k.qs w.sd::aS p k::aR k.ms (kvs k.ps ((w.servers.map (·.1)).filter (· !=id)))::aW k w::aZ k w::aX k w::aM H k.pn w.n::aT H k.pc k.qc w.clients::aC nameQ k.qc w.cd::R):=hw.pm;have hw:Has 0 w0 W (cC H (k.ps id) (k.qs id) s::aQ H k.ps k.qs (l1 ++ l2)::aC nameS k.qs w.sd::aS p k::aR k.ms (kvs k.ps ((w.servers.map (·.1)).filter (· !=id)))::aW k w::aZ k w::aX k w::aM H k.pn w.n::aT H k.pc k.qc w.clients::aC nameQ k.qc w.cd::R):=aDn s1 (fun _ _=>rfl) hw;have hw:Has 0 w0 W (aC nameS k.qs w.sd::aQ H k.ps k.qs (l1 ++ l2)::aS p k::aR k.ms (kvs k.ps ((w.servers.map (·.1)).filter (· !=id)))::aW k w::aZ k w::aX k w::aM H k.pn w.n::aT H k.pc k.qc w.clients::aC nameQ k.qc w.cd::R):=hw.sl;have hw:Has 0 w0 W (aB nameS (k.qs id) d::aC nameS k.qs (m1 ++ m2)::aQ H k.ps k.qs (l1 ++ l2)::aS p k::aR k.ms (kvs k.ps ((w.servers.map (·.1)).filter (· !=id)))::aW k w::aZ k w::aX k w::aM H k.pn w.n::aT H k.pc k.qc w.clients::aC nameQ k.qc w.cd::R):=aDn s2 (fun _ _=>rfl) hw;have hw:Has 0 w0 W (aS p k::aZ k w::aB nameS (k.qs id) d::aR k.ms (kvs k.ps ((w.servers.map (·.1)).filter (· !=id)))::aW k w::aX k w::aM H k.pn w.n::aQ H k.ps (k.qs) (l1 ++ l2)::aC nameS (k.qs) (m1 ++ m2)::aT H k.pc k.qc w.clients::aC nameQ k.qc w.cd::R):=hw.pm;refine zG hs ?_;refine bG [12,13] [.f 0 1,.f 0 1,.f 0 1,.f 0 1,.f 0 1,.f 0 0,.f 0 0,.f 0 0,.f 0 0,.f 0 0,.f 0 0,.f 0 0,.m 0,.m 1] [.c0 _,.c0 _,.c0 _,.c0 _,.c0 _,.c0 _,.c0 _,.c0 _,.c0 _,.c0 _,.c0 (ptr (k.qs id)),.c0 _,.c1 (fun x=>ptr x.n),.c2 (fun x y=>undef)] (aS p k::aZ k w::aB nameS (k.qs id) d::aR k.ms (kvs k.ps ((w.servers.map (·.1)).filter (· !=id)))::aW k w::aX k w::aM H k.pn w.n::aQ H k.ps (k.qs) (l1 ++ l2)::aC nameS (k.qs) (m1 ++ m2)::aT H k.pc k.qc w.clients::aC nameQ k.qc w.cd::R) (fun x=>aB nameS x.n (iH d n)::aS p k::aZ k w::aR k.ms (kvs k.ps ((w.servers.map (·.1)).filter (· !=id)))::aW k w::aX k w::aM H k.pn w.n::aQ H k.ps (k.qs) (l1 ++ l2)::aC nameS (k.qs) (m1 ++ m2)::aT H k.pc k.qc w.clients::aC nameQ k.qc w.cd::R) (fun x y=>aB nameS x.n (iH d n)::aS p k::aR k.md (kvs (upd k.qs id x.n) (w.sd.map (·.1)))::aR k.ms (kvs k.ps ((w.servers.map (·.1)).filter (· !=id)))::aW k w::aX k w::aM H k.pn w.n::aQ H k.ps (k.qs) (l1 ++ l2)::aC nameS (k.qs) (m1 ++ m2)::aT H k.pc k.qc w.clients::aC nameQ k.qc w.cd::R) (fun x y z=>[]) (fun x y z t=>[]) hs hw ?kk ⟨drs,drs,drs,drs,drs,drs,drs,drs,drs,drs,?f10,drs,?m0,?m1,trivial⟩
 case f10=>
  refine ⟨?_,trivial,trivial,trivial,trivial⟩;intro x y z t LD a W hs hw;refine oX hs (hw:=hw) (hz:=zI) (c:=fun a hs=>?_);rw [o0] at hs;unfold dQ at hs;rw [c2] at hs;exact ⟨hs,hw⟩
 case m0=>
  intro x y z t LD a W hs hw;have hw:Has 0 w0 W (aB nameS (k.qs id) d::aS p k::aZ k w::aR k.ms (kvs k.ps ((w.servers.map (·.1)).filter (· !=id)))::aW k w::aX k w::aM H k.pn w.n::aQ H k.ps (k.qs) (l1 ++ l2)::aC nameS (k.qs) (m1 ++ m2)::aT H k.pc k.qc w.clients::aC nameQ k.qc w.cd::R):=hw.pm;refine aG hs (hc:=aKE (nm:=nameS) (by decide) hfb hn hw) (k:=?_);rintro e' W' ⟨b,rfl,_,hw⟩;exact ⟨_,rfl,fun a hs=>⟨{n:=b},hs,hw⟩⟩
 case m1=>
  intro x y z t LD a W hs hw;refine rL hs (hw:=hw) (v:=ptr x.n) (c:=fun W hs hw=>?_);rw [aDl (by rw [s2];simp) (by rw [s2];exact f2)] at hw;exact ⟨{},hs,hw⟩
 case kk=>
 intro x1 _ a W hs hw;refine sv hs hw fun a hs=>?_;refine rt1 hs rfl rfl ⟨rfl,?_⟩;have q1:aQ H k.ps k.qs (l1 ++ l2)=aQ H k.ps (upd k.qs id x1.n) (l1 ++ l2):=by
  unfold aQ;rw [List.map_congr_left fun y hy=>show cC H (k.ps y.1) (k.qs y.1) y.2=cC H (k.ps y.1) (upd k.qs id x1.n y.1) y.2 by rw [lU (g2 y hy)]]
 have q2:aC nameS k.qs (m1 ++ m2)=aC nameS (upd k.qs id x1.n) (m1 ++ m2):=by
  unfold aC;rw [List.map_congr_left fun y hy=>show aB nameS (k.qs y.1) y.2=aB nameS (upd k.qs id x1.n y.1) y.2 by rw [lU (g4 y hy)]]
 rw [q1,q2] at hw;have hw:Has 0 w0 W (aB nameS x1.n (iH d n)::aC nameS (upd k.qs id x1.n) (m1 ++ m2)::aS p k::aR k.md (kvs (upd k.qs id x1.n) (w.sd.map (·.1)))::aR k.ms (kvs k.ps ((w.servers.map (·.1)).filter (· !=id)))::aW k w::aX k w::aM H k.pn w.n::aQ H k.ps (upd k.qs id x1.n) (l1 ++ l2)::aT H k.pc k.qc w.clients::aC nameQ k.qc w.cd::R):=hw.pm;have hw:Has 0 w0 W (aC nameS (upd k.qs id x1.n) (cK w.sd id (iH d n))::aS p k::aR k.md (kvs (upd k.qs id x1.n) (w.sd.map (·.1)))::aR k.ms (kvs k.ps ((w.servers.map (·.1)).filter (· !=id)))::aW k w::aX k w::aM H k.pn w.n::aQ H k.ps (upd k.qs id x1.n) (l1 ++ l2)::aT H k.pc k.qc w.clients::aC nameQ k.qc w.cd::R):=by
  rw [s3];refine aKF (G:=fun x=>aB nameS (upd k.qs id x1.n x.1) x.2) (x:=(id,iH d n)) ?_;show Has 0 w0 W (aB nameS (upd k.qs id x1.n id) (iH d n)::_);rw [mM];exact hw
 rw [←e1];refine eI (k:={k with qs:=upd k.qs id x1.n}) ?_;show Has 0 w0 W (aS p k::aR k.ms (kvs k.ps ((w.servers.filter fun p=>p.1 !=id).map (·.1)))::aW k w::aR k.md (kvs (upd k.qs id x1.n) ((cK w.sd id (iH d n)).map (·.1)))::aX k w::aM H k.pn w.n::aQ H k.ps (upd k.qs id x1.n) (w.servers.filter fun p=>p.1 !=id)::aC nameS (upd k.qs id x1.n) (cK w.sd id (iH d n))::aT H k.pc k.qc w.clients::aC nameQ k.qc w.cd::R);rw [oZ c2,show (w.servers.filter fun p=>p.1 !=id)=l1 ++ l2 by rw [s1];exact g1];rw [show (w.servers.map (·.1)).filter (· !=id)=(l1 ++ l2).map (·.1) by rw [←g1,←s1,List.filter_map];rfl] at hw;exact hw.pm
end
section
variable {w0 W:World} {R L:List Res} {H H':Fh} {p q:Nat} {k:WPt} {w w':bC} {t t':TD} {n m c id err:Int} {s:cN} {d d':bF}
theorem aKH (hw:Has 0 w0 W (cC H p q s::Fz H::R)):
  Calls Tryz.prog 63 ⟨[ptr p]⟩ W fun e W'=>∃(v:Value) (H':Fh),e= .returned v∧H.le H'∧iC H' v s.t.rows∧Has 0 w0 W' (cC H' p q s::Fz H'::R):=by
 obtain ⟨h1,h2,pk,pr,pt,hw⟩:=iY hw;have ht:=mJ h2;refine enter Tryz.func63 Tryz.ntmps63 rfl rfl fun a hs=>?_;refine sv hs hw fun a hs=>?_;have hw:Has 0 w0 W (Sx.Own 68 5 (.slice none 0 0) 0 []::aP p pk pr pt::aV pk q s.k::aF H pr s.r::aO H pt s.t::Fz H::R):=hw.nilOwn 68 5;refine bY (σ:=Nat×Un×List Value×Fh) (fun z=>[(0,ptr p),(3,.slice z.2.1.ad (s.t.rows.take z.1).length z.2.1.cap)]) (fun z=>Sx.Own 68 5 (.slice (z.2.1).ad ((s.t.rows.take (z.1)).length) (z.2.1).cap) ((s.t.rows.take (z.1)).length) (z.2.2.1)::aP p pk pr pt::aV pk q s.k::aF z.2.2.2 pr s.r::aO z.2.2.2 pt s.t::Fz z.2.2.2::R) (fun z=>z.1≤s.t.rows.length∧H.le z.2.2.2∧Ch (RowIn z.2.2.2) (s.t.rows.take z.1) z.2.2.1) (fun z=>s.t.rows.length - z.1) (0,{},[],H) ⟨Nat.zero_le _,Fh.le.refl H,rfl⟩ hs ⟨rfl,rfl,trivial⟩ hw ?_;clear hs hw;rintro ⟨i,o,xs,H2⟩ a W ⟨hi,hle,hch⟩ hs hw;simp only at hi hle hch hs hw;have hil:(s.t.rows.take i).length=i:=by rw [List.length_take];omega
 rw [hil] at hs hw;have hw:Has 0 w0 W (aP p pk pr pt::Sx.Own 68 5 (.slice o.ad i o.cap) i xs::aV pk q s.k::aF H2 pr s.r::aO H2 pt s.t::Fz H2::R):=hw.swap2;refine sv hs hw fun a hs=>?_;refine cl hs (aJu hw) fun a W hs hw=>?_;refine sv hs hw fun a hs=>?_;rw [show IntKind.i64.wrap ((i:Int)+1)=(i:Int)+1 from IntWalk.i64_in _ (by omega)] at hs;have hw:Has 0 w0 W (aO H2 pt s.t::Fz H2::aP p pk pr pt::Sx.Own 68 5 (.slice o.ad i o.cap) i xs::aV pk q s.k::aF H2 pr s.r::R):=hw.pm;refine aG hs (hc:=aBg w0 _ H2 pt s.t ((i:Int)+1) 10 _ (by omega) (fun r hr=>by have:=(oT (ht.2.1 r hr)).2;omega) hw) (k:=?_);rintro e' W' ⟨v,H3,rfl,hle3,hro,hw⟩;refine ⟨_,rfl,fun a hs=>?_⟩;have hw:=hw.lz hle3;obtain ⟨ys,hyr,hyc⟩:=hro;obtain ⟨mad,mcap,rfl⟩:=hyr.slice;have hch3:=hch.mono (RowIn.le hle3);have hrows:gE s.t ((i:Int)+1) 10=(s.t.rows.drop i).take 10:=by
  unfold gE;split
  ·rw [List.drop_eq_nil_of_le (by omega)];rfl
  ·rw [show ((i:Int)+1 - 1).toNat=i by omega];rfl
 rw [hrows] at hs hyr hyc;have hml:((s.t.rows.drop i).take 10).length=min 10 (s.t.rows.length - i):=by rw [List.length_take,List.length_drop]
 have htk:s.t.rows.take i ++ (s.t.rows.drop i).take 10=s.t.rows.take (i+((s.t.rows.drop i).take 10).length):=by
  rw [List.take_add,show (s.t.rows.drop i).take ((s.t.rows.drop i).take 10).length=(s.t.rows.drop i).take 10 from List.take_eq_take_iff.2 (by rw [hml,List.length_drop];omega)]
 generalize (s.t.rows.drop i).take 10=ms at *;have hw:Has 0 w0 W' (Sx.Own 68 5 (.slice o.ad i o.cap) i xs::aO H3 pt s.t::Fz H3::aP p pk pr pt::aV pk q s.k::aF H3 pr s.r::R):=hw.pm;refine sv hs hw fun a hs=>?_
 by_cases hi2:i<s.t.rows.length
 ·have hc1:((ms.length:Int) == 0)=false:=by rw [beq_eq_false_iff_ne];omega
  rw [hc1] at hs;refine sv hs hw fun a hs=>?_;rw [show decide ((i:Int) > 2000)=false from decide_eq_false (by omega)] at hs;refine sv hs hw fun a hs=>?_;refine kZ hs (hw:=hw) (k:=i) (m:=ms.length) (xs:=xs) (news:=ys) (hsrc:=fK (hw.rdH (In.tl (In.tl In.hd)) hyr) (hyc.ones RowIn.ones)) (h63:=by omega) (hb:=by omega) (c:=fun a ad cap W hs hw=>?_);refine sv hs hw fun a hs=>?_;have hap:=hch3.app hyc;rw [htk] at hap;have hil2:(s.t.rows.take (i+ms.length)).length=i+ms.length:=by rw [List.length_take];omega
  refine bQ (i+ms.length,{ad:=ad,cap:=cap},xs ++ ys,H3) hs ?_ ⟨by show i+ms.length≤_;omega,hle.trans hle3,hap⟩ (by show s.t.rows.length - (i+ms.length)<s.t.rows.length - i;omega) ⟨rfl,by rw [hil2];rfl,trivial⟩;show Has 0 w0 W (Sx.Own 68 5 (.slice ad ((s.t.rows.take (i+ms.length)).length) cap) ((s.t.rows.take (i+ms.length)).length) (xs ++ ys)::_);rw [hil2];exact hw.pm
 ·have hii:i=s.t.rows.length:=by omega
  have hm0:ms= []:=List.eq_nil_of_length_eq_zero (by omega);subst hm0;rw [show ((([]:List cF).length:Int) == 0)=true from rfl] at hs;refine sv hs hw fun a hs=>?_;have hw:Has 0 w0 W' (Sx.Own 68 5 (.slice o.ad i o.cap) i xs::Fz H3::aO H3 pt s.t::aP p pk pr pt::aV pk q s.k::aF H3 pr s.r::R):=hw.pm;obtain ⟨H4,hle4,hw,hrd⟩:=hw.freeze_own;have hw:=hw.lz hle4;rw [hii,List.take_length] at hch3;rw [hii] at hrd;refine rt1 hs rfl rfl ⟨_,H4,rfl,hle.trans (hle3.trans hle4),⟨xs,by rw [hii];exact hrd,hch3.mono (RowIn.le hle4)⟩,?_⟩;exact gN (hw.pm) h1 h2
end
set_option maxRecDepth 100000
def r6:Nat→bC→Option bC
 |0,w=>some w
 |k+1,w=>match w.n with| []=>some w|_::_=>(uR w).bind (r6 k)
def z7 (w:bC) (id n:Int):Option (bC×Int):=if vQ w id=true then vO w id n else none
theorem aKI {w:bC} {id n:Int} {x:bC×Int} (h:z7 w id n=some x):vQ w id=true∧vO w id n=some x:=by
 unfold z7 at h;split at h
 ·rename_i h1;exact ⟨h1,h⟩
 ·cases h
def aDo (w:bC) (id:Int) (n:Nat):Bool:=match at? w.servers id with|some s=>s.t.rows.length == n|none=>false
def vR (who cut:Int) (k:Nat):Option Bool:=
 (rS 3 1).bind fun t=>(kA 4 t 1).bind fun l=>(mO l.1 1 [iG kN 1]).bind fun t=>(aDj t 1 1).bind fun t=>(r6 k t.w).bind fun w=>(z7 w who cut).bind fun x=>(j9 (jM ⟨w,t.ok⟩ x)).bind fun q=>(nM q.w 1).bind fun y=>(j9 (jM q y)).bind fun r=>(kY 100 r 1 1).map fun z=>
 l.2 && (x.2 == 0 && (y.2 == 0 && (z.ok && (mP z 1 kN 1 && aDo z.w 1 1))))
theorem aKJ (cut:Int):((List.range 2).flatMap fun (r:Nat)=>(List.range 8).map fun k=>vR (2+(r:Int)) cut k)=List.replicate 16 (some true):=by kernel_rfl
theorem aKK {r k:Nat} (cut:Int) (hr:r<2) (hk:k<8):vR (2+(r:Int)) cut k=some true:=by
 have hm:vR (2+(r:Int)) cut k∈((List.range 2).flatMap fun (r:Nat)=>(List.range 8).map fun k=>vR (2+(r:Int)) cut k):=List.mem_flatMap.2 ⟨r,List.mem_range.2 hr,List.mem_map.2 ⟨k,List.mem_range.2 hk,rfl⟩⟩;rw [aKJ] at hm;exact List.eq_of_mem_replicate hm
section
variable {w0 W:World} {R L:List Res} {H H':Fh} {p q:Nat} {k:WPt} {w w':bC} {t t':TD} {n m c id err:Int} {s:cN} {d d':bF}
theorem aKL (c1:at? t.w.servers id=some s) (hw:Has 0 w0 W (dA H p n m t::Fz H::R)):
  Calls Tryz.prog 37 ⟨[ptr p,.int .i64 id]⟩ W fun e W'=>∃(v:Value) (H':Fh),e= .returned v∧H.le H'∧iC H' v s.t.rows∧Has 0 w0 W' (dA H' p n m t::Fz H'::R):=by
 obtain ⟨pw,hw⟩:=fJ hw;obtain ⟨k,gv,hw⟩:=rR hw.swap2;refine enter Tryz.func37 Tryz.ntmps37 rfl rfl fun a hs=>?_;refine sv hs hw fun a hs=>?_;refine cl hs (kX id hw) fun a W hs hw=>?_;unfold dQ at hs;rw [c1] at hs;obtain ⟨rs,a1,a2⟩:=lT (w0:=w0) c1;have hw:Has 0 w0 W (aQ H k.ps k.qs t.w.servers::aS pw k::bB k t.w::aM H k.pn t.w.n::aW k t.w::aZ k t.w::aX k t.w::aC nameS k.qs t.w.sd::aT H k.pc k.qc t.w.clients::aC nameQ k.qc t.w.cd::cH p pw n m t.ok::Fz H::R):=hw.pm;have hw:Has 0 w0 W (cC H (k.ps id) (k.qs id) s::aQ H k.ps k.qs rs::aS pw k::bB k t.w::aM H k.pn t.w.n::aW k t.w::aZ k t.w::aX k t.w::aC nameS k.qs t.w.sd::aT H k.pc k.qc t.w.clients::aC nameQ k.qc t.w.cd::cH p pw n m t.ok::Fz H::R):=a1 hw;have hw:Has 0 w0 W (cC H (k.ps id) (k.qs id) s::Fz H::aS pw k::bB k t.w::aM (H) k.pn t.w.n::aW k t.w::aZ k t.w::aX k t.w::aQ (H) k.ps k.qs rs::aC nameS k.qs t.w.sd::aT (H) k.pc k.qc t.w.clients::aC nameQ k.qc t.w.cd::cH p pw n m t.ok::R):=hw.pm;refine sv hs hw fun a hs=>?_;refine aG hs (hc:=aKH hw) (k:=?_);rintro e' W ⟨v,H3,rfl,hle3,hro,hw⟩;refine ⟨_,rfl,fun a hs=>?_⟩;have hw:=hw.lz hle3;have hw:Has 0 w0 W (cC H3 (k.ps id) (k.qs id) s::aQ H3 k.ps k.qs rs::aS pw k::bB k t.w::aM H3 k.pn t.w.n::aW k t.w::aZ k t.w::aX k t.w::aC nameS k.qs t.w.sd::aT H3 k.pc k.qc t.w.clients::aC nameQ k.qc t.w.cd::cH p pw n m t.ok::Fz H3::R):=hw.pm;have hw:Has 0 w0 W (aQ H3 k.ps k.qs (cK t.w.servers id s)::aS pw k::bB k t.w::aM H3 k.pn t.w.n::aW k t.w::aZ k t.w::aX k t.w::aC nameS k.qs t.w.sd::aT H3 k.pc k.qc t.w.clients::aC nameQ k.qc t.w.cd::cH p pw n m t.ok::Fz H3::R):=a2 hw;rw [rN c1] at hw;have hw:Has 0 w0 W (aS pw k::bB k t.w::aW k t.w::aZ k t.w::aX k t.w::aM H3 k.pn t.w.n::aQ H3 k.ps k.qs t.w.servers::aC nameS k.qs t.w.sd::aT H3 k.pc k.qc t.w.clients::aC nameQ k.qc t.w.cd::cH p pw n m t.ok::Fz H3::R):=hw.pm;refine sv hs hw fun a hs=>?_;exact rt1 hs rfl rfl ⟨v,H3,rfl,hle3,hro,eJ ((eI hw).swap2)⟩
theorem walk_TopEveryFollower (x cut:Int) (w:World) (hx:(Lit.int .i64 x).wf=true) (hcut:(Lit.int .i64 cut).wf=true) (hT:Tabs w):
  Calls Tryz.prog 6 ⟨[.int .i64 x,.int .i64 cut]⟩ w fun e w'=>e= .returned (.bool true)∧Below w.heap.size w w':=by
 have hci:=aJt hcut;have hw:=Has.startF w;obtain ⟨W,hWw⟩:∃W,W=w:=⟨_,rfl⟩
 have hw:Has 0 w W (Fz (fr w):: []):=by rw [hWw];exact hw
 suffices hh:Calls Tryz.prog 6 ⟨[.int .i64 x,.int .i64 cut]⟩ W fun e w'=>e= .returned (.bool true)∧Below w.heap.size w w' by rw [hWw] at hh;exact hh
 clear hWw;obtain ⟨H,hHd⟩:∃H,H=fr w:=⟨_,rfl⟩
 rw [←hHd] at hw;have hH:(fr w).le H:=by rw [hHd];exact Fh.le.refl _
 clear hHd;obtain ⟨w0,hw0⟩:∃w0,w0=w:=⟨_,rfl⟩
 rw [←hw0] at hw hH hT⊢;clear hw0;refine enter Tryz.func6 Tryz.ntmps6 rfl rfl fun a hs=>?_;refine sv hs hw fun a hs=>?_;refine ch hs hH (vI hH hT hw) fun H a W _ hH hs hw=>?_;refine sv hs hw fun a hs=>?_;refine aG hs (hc:=aD9 (x:=x) (k:=2) (by decide) (by decide) hw) (k:=?_);rintro e' W ⟨r,rfl,hr,hw⟩;refine ⟨_,rfl,fun a hs=>?_⟩;refine sv hs hw fun a hs=>?_;rw [show IntKind.i64.wrap (2+(r:Int))=2+(r:Int) from IntWalk.i64_in _ (by omega)] at hs;refine bY (σ:=Nat×Fh) (fun z=>[(0,.int .i64 (2+(r:Int))),(1,.int .i64 cut),(6,.int .i64 (z.1:Int))]) (fun z=>Fz z.2:: []) (fun z=>z.1≤8∧(fr w0).le z.2) (fun z=>8 - z.1) (0,H) ⟨Nat.zero_le _,hH⟩ hs ⟨rfl,rfl,rfl,trivial⟩ hw ?_;clear hs hw hH;rintro ⟨k,H⟩ a W ⟨hk,hH⟩ hs hw;simp only at hk hH hs hw;refine sv hs hw fun a hs=>?_;refine cI hs (kt:=fun hcc=>?_) (kf:=fun hcc=>?_)
 ·have hk':k<8:=by have:=of_decide_eq_true hcc;omega
  obtain ⟨t1,ht1,he⟩:=Option.bind_eq_some_iff.1 (aKK (r:=r) (k:=k) cut (by omega) hk');obtain ⟨⟨t2,lb⟩,ht2,he⟩:=Option.bind_eq_some_iff.1 he;obtain ⟨t3,ht3,he⟩:=Option.bind_eq_some_iff.1 he;obtain ⟨t4,ht4,he⟩:=Option.bind_eq_some_iff.1 he;obtain ⟨w5,ht5,he⟩:=Option.bind_eq_some_iff.1 he;obtain ⟨⟨w6,e6⟩,ht6,he⟩:=Option.bind_eq_some_iff.1 he;obtain ⟨t7,ht7,he⟩:=Option.bind_eq_some_iff.1 he;obtain ⟨⟨w8,e8⟩,ht8,he⟩:=Option.bind_eq_some_iff.1 he;obtain ⟨t9,ht9,he⟩:=Option.bind_eq_some_iff.1 he;obtain ⟨t10,ht10,he⟩:=Option.map_eq_some_iff.1 he;simp only [Bool.and_eq_true] at he;obtain ⟨g1,g6,g8,o10,g10,g11⟩:=he;subst g1;have g6:e6=0:=by simpa using g6
  have g8:e8=0:=by simpa using g8
  subst g6 g8;obtain ⟨kf6,kt6⟩:=aKI ht6;have o9:=nT ht10 o10;have o8:=vG ht9 o9;have o7:t7.ok=true:=(Bool.and_eq_true_iff.1 (show (t7.ok && (0:Int) == 0)=true from o8)).1;have o6:=vG ht7 o7;have o4:t4.ok=true:=(Bool.and_eq_true_iff.1 (show (t4.ok && (0:Int) == 0)=true from o6)).1;have o3:t3.ok=true:=by
   obtain ⟨y,_,h2⟩:=Option.map_eq_some_iff.1 ht4;rw [←h2] at o4;exact (Bool.and_eq_true_iff.1 (show (t3.ok && (y.2 == 0 || y.2 == 10))=true from o4)).1
  have o2:=nS ht3 o3;have ht7':j9 ⟨w6,true⟩=some t7:=by
   have:=ht7;unfold jM at this;simp only at this;rw [o4] at this;exact this
  have ht9':j9 ⟨w8,true⟩=some t9:=by
   have:=ht9;unfold jM at this;simp only at this;rw [o7] at this;exact this
  clear ht7 ht9 o8 o6;refine sc hs ?_;refine aG hs (hc:=(show Calls Tryz.prog 10 ⟨[.int .i64 3,.int .i64 1]⟩ W _ from vF (n:=3) (m:=1) (by omega) (by omega) ht1 hH hT hw)) (k:=?_);rintro e' W ⟨p,H2,rfl,hle2,hw⟩;refine ⟨_,rfl,fun a hs=>?_⟩;have hH:=hH.trans hle2;refine sv hs hw fun a hs=>?_;refine ch hs hH (vH ht2 o2 hH hT hw) fun H3 a W _ hH hs hw=>?_;refine sv hs hw fun a hs=>?_;refine cl hs (zW kN 1 hw) fun a W hs hw=>?_;refine sn hs hw fun b1 a W hs hw=>?_;have hw:Has 0 w0 W (aA b1 (bX (iG kN 1)) 55::Fz H3::dA H3 p 3 1 t2:: []):=hw.pm;obtain ⟨H4,hle4,hw,hop⟩:=hw.freeze_lit (m:=1) (sz:=9) rfl (by decide);have hH:=hH.trans hle4;have hw:=hw.lz hle4;refine ch hs hH (pA o2 [iG kN 1] (zY (by decide)) (by decide) hop ht3 hH hT hw.swap2) fun H5 a W _ hH hs hw=>?_;refine sv hs hw fun a hs=>?_;refine ch hs hH (aJy o3 ht4 hH hT hw) fun H6 a W _ hH hs hw=>?_;refine sv hs hw fun a hs=>?_;obtain ⟨pw,hw⟩:=fJ hw;rw [o4] at hw;have hw:Has 0 w0 W (cH p pw 3 1 true::bH H6 pw t4.w::Fz H6:: []):=hw;refine Code.wp_mono (fun e a W (q:e= .exit 2∧∃H:Fh,(fr w0).le H∧Slots a 86 [(0,.int .i64 (2+(r:Int))),(1,.int .i64 cut),(6,.int .i64 (k:Int)),(7,ptr p)]∧Has 0 w0 W (cH p pw 3 1 true::bH H pw w5::Fz H:: []))=>?_) ?_
  case refine_1=>
   obtain ⟨rfl,H,hH,hs,hw⟩:=q;refine sc hs ?_;refine sv hs hw fun a hs=>?_;have hw:Has 0 w0 W (bH H pw w5::cH p pw 3 1 true::Fz H:: []):=hw.swap2;refine cl hs (aKG kf6 hci kt6 hw) fun a W hs hw=>?_;refine cl hs (rT hw.swap2) fun a W hs hw=>?_;have hw:Has 0 w0 W (cH p pw 3 1 true::bH H pw w6::Fz H:: []):=hw;have hw:=eJ (t:=⟨w6,true⟩) hw;refine sv hs hw fun a hs=>?_;refine ch hs hH (rU (t:=⟨w6,true⟩) rfl ht7' hH hT hw) fun H7 a W _ hH hs hw=>?_;obtain ⟨pw,hw⟩:=fJ hw;rw [o7] at hw;refine sv hs hw fun a hs=>?_;have hw:Has 0 w0 W (bH H7 pw t7.w::Fz H7::cH p pw 3 1 true:: []):=hw.pm;refine ch hs hH (zJ ht8 hH hT hw) fun H8 a W _ hH hs hw=>?_;have hw:Has 0 w0 W (cH p pw 3 1 true::bH H8 pw w8::Fz H8:: []):=hw.pm;refine cl hs (rT hw) fun a W hs hw=>?_;have hw:=eJ (t:=⟨w8,true⟩) hw;refine sv hs hw fun a hs=>?_;refine ch hs hH (rU (t:=⟨w8,true⟩) rfl ht9' hH hT hw) fun H9 a W _ hH hs hw=>?_;refine sv hs hw fun a hs=>?_;refine ch hs hH (zX ht10 o10 hH hT hw) fun H10 a W _ hH hs hw=>?_;obtain ⟨pw,hw⟩:=fJ hw;rw [o10] at hw;refine sv hs hw fun a hs=>?_;rw [←o10] at hw;have hw:=eJ (t:=t10) hw;refine ch hs hH (rZ kN 1 hH hT hw) fun H11 a W _ hH hs hw=>?_;rw [g10] at hs;refine sv hs hw fun a hs=>?_;obtain ⟨s9,hs9,hl9⟩:∃s,at? t10.w.servers 1=some s∧s.t.rows.length=1:=by
    unfold aDo at g11;split at g11
    ·rename_i s9 h9;exact ⟨s9,h9,by simpa using g11⟩
    ·cases g11
   refine aG hs (hc:=aKL hs9 hw) (k:=?_);rintro e' W ⟨v,H12,rfl,hle12,⟨ys,hyr,_⟩,hw⟩;refine ⟨_,rfl,fun a hs=>?_⟩;obtain ⟨vad,vcap,rfl⟩:=hyr.slice;rw [hl9] at hs;refine sv hs hw fun a hs=>?_;refine bQ (k+1,H12) hs (hw.sl) ⟨hk',hH.trans hle12⟩ (by show 8 - (k+1)<8 - k;omega) ⟨rfl,rfl,bR (i1 (by omega)),trivial⟩
  refine bY (σ:=Nat×bC×Fh) (fun z=>[(0,.int .i64 (2+(r:Int))),(1,.int .i64 cut),(6,.int .i64 (k:Int)),(7,ptr p),(8,.int .i64 (z.1:Int))]) (fun z=>cH p pw 3 1 true::bH z.2.2 pw z.2.1::Fz z.2.2:: []) (fun z=>z.1≤k∧(fr w0).le z.2.2∧r6 (k - z.1) z.2.1=some w5) (fun z=>k - z.1) (0,t4.w,H6) ⟨Nat.zero_le _,hH,ht5⟩ hs ⟨rfl,rfl,rfl,rfl,rfl,trivial⟩ hw ?_;clear hs hw hH;rintro ⟨i,u,H⟩ a W ⟨hi,hH,h⟩ hs hw;simp only at hi hH h hs hw;refine sv hs hw fun a hs=>?_;cases hik:decide ((i:Int)<(k:Int)) with
  |false=>
   have hi9:i=k:=by have:=of_decide_eq_false hik;omega
   rw [hik] at hs;rw [hi9,Nat.sub_self] at h;unfold r6 at h;injection h with h;subst h;refine sv hs hw fun a hs=>?_;exact ⟨rfl,H,hH,hs.ot,hw⟩
  |true=>
   have hi9:i<k:=by have:=of_decide_eq_true hik;omega
   rw [hik] at hs;rw [show k - i=(k - (i+1))+1 by omega] at h;unfold r6 at h;refine sv hs hw fun a hs=>?_;obtain ⟨kk,gv,hw⟩:=rQ hw.swap2;refine cl hs (rM hw) fun a W hs hw=>?_;refine sc hs ?_;refine cl hs (nQ hw.swap2) fun a W hs hw=>?_;have hw:=(gv hw.swap2).swap2;refine sv hs hw fun a hs=>?_;cases hn9:u.n with
   |nil=>
    simp only [hn9] at h;injection h with h;subst h;rw [hn9,show decide (((([]:List bS).length:Nat):Int) > 0)=false from rfl] at hs;refine sc hs ?_;exact ⟨rfl,H,hH,hs.ot,hw⟩
   |cons m ms=>
    simp only [hn9] at h;obtain ⟨u2,h1,h2⟩:=Option.bind_eq_some_iff.1 h;rw [hn9,show decide ((((m::ms).length:Nat):Int) > 0)=true from decide_eq_true (by rw [List.length_cons];omega)] at hs;refine sv hs hw fun a hs=>?_;have hw:Has 0 w0 W (bH H pw u::Fz H::cH p pw 3 1 true:: []):=hw.pm;refine ch hs hH (aDD hn9 h1 hH hT hw) fun H2 a W _ hH hs hw=>?_;refine sv hs hw fun a hs=>?_;refine bQ (i+1,u2,H2) hs (hw.pm) ⟨hi9,hH,h2⟩ (by show k - (i+1)<k - i;omega) ⟨rfl,rfl,rfl,rfl,bR (i1 (by omega)),trivial⟩
 ·refine sv hs hw fun a hs=>?_;exact rt1 hs rfl rfl ⟨rfl,hw.endF In.hd hH⟩
end
end Go.Proofs.YtgpbngfehfbndaaGreatDoor.Sw
