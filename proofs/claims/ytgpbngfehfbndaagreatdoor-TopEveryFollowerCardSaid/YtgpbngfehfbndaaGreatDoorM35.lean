/-
  Texts of the proof, one behind the other (part 35).
-/
import Derived.Test.YtgpbngfehfbndaaGreatDoorM33
import Derived.Test.YtgpbngfehfbndaaGreatDoorChecked
import Derived.Test.YtgpbngfehfbndaaGreatDoorProg
set_option maxHeartbeats 16000000
set_option linter.unusedVariables false
set_option maxRecDepth 10000
namespace Go.Proofs.YtgpbngfehfbndaaGreatDoor.Sw
open Go.RowKit Go.Sx
section
variable {H H':Fh} {p q pk pr pt:Nat} {s s':cN} {w0 W:World} {R L:List Res} {d d':bF} {k k':dX} {o:fQ} {ms:List bS}
theorem aJL:aB9 emptyT:=⟨rfl,fun r hr=>(by cases hr),⟨by decide,by decide⟩,by decide⟩
theorem aJM {id:Int} {first:List Int} {s':cN} (h:tI id first=some (d',s')):∃sz:Nat,qK none ⟨⟨0,0⟩,zeroSnap,[],0⟩ ⟨0,0,⟨(d8 first).toArray⟩,⟨emptyData.toArray⟩⟩=some (d',⟨⟨0,0⟩,⟨0,0,⟨(d8 first).toArray⟩,⟨emptyData.toArray⟩⟩,[],sz⟩)∧
  qH id ⟨0,0⟩ ⟨⟨0,0,⟨(d8 first).toArray⟩,⟨emptyData.toArray⟩⟩,[]⟩ 0=some s'.r∧s'=⟨⟨⟨0,0⟩,⟨0,0,⟨(d8 first).toArray⟩,⟨emptyData.toArray⟩⟩,[],sz⟩,s'.r,emptyT⟩∧oL s'=true∧fA ⟨0,0,⟨(d8 first).toArray⟩,⟨emptyData.toArray⟩⟩=true:=by
 unfold tI at h;generalize (⟨(d8 first).toArray⟩:ByteArray)=conf at *;generalize (⟨emptyData.toArray⟩:ByteArray)=data at *;simp only [Option.bind_eq_bind,Option.bind_eq_some_iff] at h;obtain ⟨⟨d1,k1⟩,h1,r1,h2,h3⟩:=h;have hk:=h1;unfold qK at hk;split at hk
 ·cases hk
 rename_i hn;have hm:fA ⟨0,0,conf,data⟩=true:=by cases hh:fA ⟨0,0,conf,data⟩ with|true=>rfl|false=>exact absurd (.inl hh) hn
 have hk:((nE (dC ⟨0,0,conf,data⟩ ++ cW ⟨0,0⟩ ++ ([]:List cD).flatMap cM)).map fun d=>(d,(⟨⟨0,0⟩,⟨0,0,conf,data⟩,[],(dC ⟨0,0,conf,data⟩ ++ cW ⟨0,0⟩ ++ ([]:List cD).flatMap cM).length⟩:dX)))=some (d1,k1):=hk;rw [Option.map_eq_some_iff] at hk;obtain ⟨x,_,h5⟩:=hk;injection h5 with _ h6;generalize (dC ⟨0,0,conf,data⟩ ++ cW ⟨0,0⟩ ++ ([]:List cD).flatMap cM).length=sz at *;subst h6;split at h3
 ·rename_i hok;injection h3 with h3;injection h3 with e1 e2;subst e1 e2;exact ⟨sz,h1,h2,rfl,hok,hm⟩
 ·cases h3
theorem aJN {id:Int} {first:List Int} {fv:Value} (h:tI id first=some (d',s')) (hm:cV first=true) (hH:(fr w0).le H) (hT:Tabs w0) (hw:Has 0 w0 W (aN fv first::aB nameS q none::Fz H::R)):
  Calls Tryz.prog 51 ⟨[.int .i64 id,ptr q,fv]⟩ W fun e W'=>∃(p:Nat) (H':Fh),e= .returned (.tuple ⟨[ptr p,.int .i64 0]⟩)∧H.le H'∧Has 0 w0 W' (cC H' p q s'::aB nameS q d'::aN fv first::Fz H'::R):=by
 obtain ⟨sz,hk,hr,hs',hok,hsm⟩:=aJM h;obtain ⟨r,hr0⟩:∃r,r=s'.r:=⟨_,rfl⟩
 rw [←hr0] at hr hs';clear hr0 h;subst hs';have hid:¬(id<1∨7<id):=by
  intro hn;unfold qH at hr;rw [if_pos (by rcases hn with h|h;exact .inl h;exact .inr (.inl h))] at hr;cases hr
 have hok:lJ r=true∧lI emptyT=true:=by
  unfold oL at hok;simp only [Bool.and_eq_true] at hok;exact hok.1
 have hsz:(⟨emptyData.toArray⟩:ByteArray).size≤200000∧(⟨(d8 first).toArray⟩:ByteArray).size≤1000000:=by
  unfold fA at hsm;simp only [Bool.and_eq_true,decide_eq_true_eq] at hsm;omega
 have hlog:x9 ⟨0,0,⟨(d8 first).toArray⟩,⟨emptyData.toArray⟩⟩ []=true:=rfl;have hld:fF (⟨emptyData.toArray⟩:ByteArray).data.toList=some emptyT:=by
  show fF emptyData.toArray.toList=some emptyT;rw [List.toList_toArray];exact aGh aJL
 obtain ⟨conf,hconf⟩:∃c:ByteArray,c=⟨(d8 first).toArray⟩:=⟨_,rfl⟩
 obtain ⟨data,hdata⟩:∃c:ByteArray,c=⟨emptyData.toArray⟩:=⟨_,rfl⟩
 rw [←hdata] at hld;rw [←hconf,←hdata] at hk hr hsm hlog⊢;rw [←hconf,←hdata] at hsz;obtain ⟨fad,fcap,rfl⟩:=Has.own_slice hw;have hpos:0<first.length:=by
  unfold cV at hm;simp only [Bool.and_eq_true,decide_eq_true_eq] at hm;omega
 have hne:fad.isNone=false:=by
  obtain ⟨b,o,cap,hv,_⟩:=jZ (hw.rd_own In.hd) hpos;injection hv with hv1 _ _;rw [hv1];rfl
 refine enter Tryz.func51 Tryz.ntmps51 rfl rfl fun a hs=>?_;refine sv hs hw fun a hs=>?_;rw [show decide (id<1)=false from decide_eq_false (by omega)] at hs;refine sv hs hw fun a hs=>?_;rw [show decide (id > 7)=false from decide_eq_false (by omega)] at hs;refine sv hs hw fun a hs=>?_;refine yO hs (c:=fun a hs=>?_);rw [hne] at hs;refine sx hs hw fun a W hs hw=>?_;rw [hm] at hs;refine sv hs hw fun a hs=>?_;have hw:Has 0 w0 W (aB nameS q none::aN (.slice fad first.length fcap) first::Fz H::R):=hw.swap2;refine cle hs (aH4 hw) fun pk a W _ hs hw=>?_;refine sv hs hw fun a hs=>?_;have hw:Has 0 w0 W (aB nameS q none::cQ pk q ⟨0,0⟩ zeroSnap (.slice none 0 0) 0::aN (.slice fad first.length fcap) first::Fz H::R):=hw.swap2;refine cle hs (aCM yJ hw) fun x a W _ hs hw=>?_;rw [show (fC nameS none).length=0 from rfl] at hs;have hw:Has 0 w0 W (cQ pk q ⟨0,0⟩ zeroSnap (.slice none 0 0) 0::aB nameS q none::aN (.slice fad first.length fcap) first::Fz H::R):=hw.sl;refine sv hs hw fun a hs=>?_;refine cl hs ((aCU (l:=first)).ok hw) fun a W hs hw=>?_;rw [←hconf] at hs;refine aG hs (hc:=aBd w0 _ H _ hw) (k:=?_);rintro e' W' ⟨t0,rfl,hw⟩;refine ⟨_,rfl,fun a hs=>?_⟩;have hw:Has 0 w0 W' (aO H t0 emptyT::Fz H::cQ pk q ⟨0,0⟩ zeroSnap (.slice none 0 0) 0::aB nameS q none::aN (.slice fad first.length fcap) first::R):=hw.pm;refine cl hs (aBj w0 _ H t0 emptyT _ (by decide) ⟨by decide,by decide⟩ (fun r hr=>by cases hr) hH hT hw) fun a W hs hw=>?_;rw [show (⟨(jW emptyT).toArray⟩:ByteArray)=data from hdata.symm] at hs;refine sv hs hw fun a hs=>?_;have hw:Has 0 w0 W (cQ pk q ⟨0,0⟩ zeroSnap (.slice none 0 0) 0::aB nameS q none::aN (.slice fad first.length fcap) first::Fz H::R):=hw.sl;refine cl hs (aH5 conf data hk hw) fun a W hs hw=>?_;refine sv hs hw fun a hs=>?_;obtain ⟨hko,kad,kcap,hw⟩:=tS hw;have hw:Has 0 w0 W (cQ pk q ⟨0,0⟩ ⟨0,0,conf,data⟩ (.slice kad 0 kcap) sz::fB (.slice kad 0 kcap) []::aB nameS q d'::aN (.slice fad first.length fcap) first::Fz H::R):=hw;refine cle hs (tQ (log:=[]) (by decide) (fun h=>h.rd_sub In.hd) hw) fun ys a W _ hs hw=>?_;refine sn hs hw fun b11 a W hs hw=>?_;refine sx hs hw fun a W hs hw=>?_;have hw:Has 0 w0 W (Fz H::aA b11 (dH ⟨0,0⟩ ⟨0,0,conf,data⟩ (.slice ys.1 0 ys.2)) 158::bV (.slice ys.1 0 ys.2) []::cQ pk q ⟨0,0⟩ ⟨0,0,conf,data⟩ (.slice kad 0 kcap) sz::fB (.slice kad 0 kcap) []::aB nameS q d'::aN (.slice fad first.length fcap) first::R):=hw.pm;refine aG hs (hc:=aGs w0 W H data _ hsz.1 hH hT hw) (k:=?_);rintro e' W' ⟨H1,hle1,⟨h9,_⟩|⟨t,pt,hl9,rfl,hw⟩⟩
 ·rw [hld] at h9;cases h9
 obtain rfl:emptyT=t:=by rw [hld] at hl9;exact Option.some.inj hl9
 refine ⟨_,rfl,fun a hs=>?_⟩;refine sv hs hw fun a hs=>?_;replace hs:Slots a 91 [(0,.int .i64 id),(8,ptr pk),(9,.int .i64 0),(11,ptr b11),(12,ptr pt)]:=hs.ot;have hw:Has 0 w0 W' (aA b11 (dH ⟨0,0⟩ ⟨0,0,conf,data⟩ (.slice ys.1 0 ys.2)) 158::bV (.slice ys.1 0 ys.2) []::aO H1 pt emptyT::Fz H1::cQ pk q ⟨0,0⟩ ⟨0,0,conf,data⟩ (.slice kad 0 kcap) sz::fB (.slice kad 0 kcap) []::aB nameS q d'::aN (.slice fad first.length fcap) first::R):=hw.pm;refine bG [7,11] [.f 0 1,.f 0 1,.f 0 1,.f 0 0,.f 0 0,.f 0 0,.f 0 0,.m 0,.f 0 1,.f 0 1,.f 0 1,.m 1,.f 2 2] [.c0 _,.c0 _,.c0 _,.c0 _,.c0 _,.c0 _,.c0 _,.c1 (fun x=>ptr x.n),.c0 _,.c0 _,.c0 _,.c2 (fun x y=>ptr y.n),.c2 _] (aA b11 (dH ⟨0,0⟩ ⟨0,0,conf,data⟩ (.slice ys.1 0 ys.2)) 158::bV (.slice ys.1 0 ys.2) []::aO H1 pt emptyT::Fz H1::cQ pk q ⟨0,0⟩ ⟨0,0,conf,data⟩ (.slice kad 0 kcap) sz::fB (.slice kad 0 kcap) []::aB nameS q d'::aN (.slice fad first.length fcap) first::R) (fun x=>aH x.n ⟨⟨0,0,conf,data⟩,[]⟩::aA b11 (dH ⟨0,0⟩ ⟨0,0,conf,data⟩ (.slice ys.1 0 ys.2)) 158::bV (.slice ys.1 0 ys.2) []::aO H1 pt emptyT::Fz H1::cQ pk q ⟨0,0⟩ ⟨0,0,conf,data⟩ (.slice kad 0 kcap) sz::fB (.slice kad 0 kcap) []::aB nameS q d'::aN (.slice fad first.length fcap) first::R) (fun x y=>aF H1 y.n r::aA b11 (dH ⟨0,0⟩ ⟨0,0,conf,data⟩ (.slice ys.1 0 ys.2)) 158::bV (.slice ys.1 0 ys.2) []::aO H1 pt emptyT::Fz H1::cQ pk q ⟨0,0⟩ ⟨0,0,conf,data⟩ (.slice kad 0 kcap) sz::fB (.slice kad 0 kcap) []::aB nameS q d'::aN (.slice fad first.length fcap) first::R) (fun x y z=>[]) (fun x y z t=>[]) hs hw ?kk ⟨drs,drs,drs,drs,drs,drs,drs,?m0,drs,drs,drs,?m1,drs,trivial⟩
 case m0=>
  intro x y z u LD a W hs hw;refine cle hs (aHz ⟨0,0,conf,data⟩ [] (.slice ys.1 0 ys.2) hlog hsz.2 (fun e he=>by cases he) (fun h=>h.rd_own (In.tl In.hd)) hw) fun ql a W _ hs hw=>?_;exact ⟨{n:=ql},hs,hw⟩
 case m1=>
  intro x y z u LD a W hs hw;refine cle hs (aIM (H:=H1) id ⟨0,0⟩ 0 hr hw) fun qr a W _ hs hw=>?_;exact ⟨{n:=qr},hs,hw⟩
 case kk=>
 intro _ yy a W hs hw;obtain ⟨pr,hpr⟩:∃pr,pr=yy.n:=⟨_,rfl⟩
 replace hs:Slots a 91 [(0,.int .i64 id),(8,ptr pk),(9,.int .i64 0),(11,ptr b11),(12,ptr pt),(13,ptr yy.n)]:=hs.ot;have hw:Has 0 w0 W (aO H1 pt emptyT::aF H1 yy.n r::aA b11 (dH ⟨0,0⟩ ⟨0,0,conf,data⟩ (.slice ys.1 0 ys.2)) 158::bV (.slice ys.1 0 ys.2) []::Fz H1::cQ pk q ⟨0,0⟩ ⟨0,0,conf,data⟩ (.slice kad 0 kcap) sz::fB (.slice kad 0 kcap) []::aB nameS q d'::aN (.slice fad first.length fcap) first::R):=hw.pm;rw [←hpr] at hs hw;clear hpr;refine sc hs ?_;refine bG [8] [.f 0 0,.f 0 0,.f 0 0,.f 0 0,.f 0 0,.f 0 0,.f 0 0,.f 0 0,.m 0,.f 0 1,.f 0 1,.f 0 1,.f 1 1,.f 1 1] [.c0 _,.c0 _,.c0 _,.c0 _,.c0 _,.c0 _,.c0 _,.c0 _,.c1 (fun x=> .int .i64 emptyT.ix),.c0 _,.c0 _,.c0 _,.c1 (fun x=> .bool false),.c1 _] (aO H1 pt emptyT::aF H1 pr r::aA b11 (dH ⟨0,0⟩ ⟨0,0,conf,data⟩ (.slice ys.1 0 ys.2)) 158::bV (.slice ys.1 0 ys.2) []::Fz H1::cQ pk q ⟨0,0⟩ ⟨0,0,conf,data⟩ (.slice kad 0 kcap) sz::fB (.slice kad 0 kcap) []::aB nameS q d'::aN (.slice fad first.length fcap) first::R) (fun x=>aO H1 pt emptyT::aF H1 pr r::aA b11 (dH ⟨0,0⟩ ⟨0,0,conf,data⟩ (.slice ys.1 0 ys.2)) 158::bV (.slice ys.1 0 ys.2) []::Fz H1::cQ pk q ⟨0,0⟩ ⟨0,0,conf,data⟩ (.slice kad 0 kcap) sz::fB (.slice kad 0 kcap) []::aB nameS q d'::aN (.slice fad first.length fcap) first::R) (fun x y=>[]) (fun x y z=>[]) (fun x y z t=>[]) hs hw ?kk ⟨drs,drs,drs,drs,drs,drs,drs,drs,?m0,drs,drs,drs,?f12,drs,trivial⟩
 case m0=>
  intro x y z u LD a W hs hw;refine sc hs ?_;refine cl hs (tB w0 _ H1 pt emptyT _ hw) fun a W hs hw=>?_;exact ⟨{},hs,hw⟩
 case f12=>
  refine ⟨trivial,?_,trivial,trivial,trivial⟩;intro x y z u LD a W hs hw;refine sv hs hw fun a hs=>?_;exact ⟨hs,hw⟩
 case kk=>
 intro _ a W hs hw;refine sv hs hw fun a hs=>?_;refine sn hs hw fun b90 a W hs hw=>?_;refine sv hs hw fun a hs=>?_;refine rt2 hs rfl rfl rfl ⟨b90,H1,rfl,hle1,?_⟩;have hw:Has 0 w0 W (cQ pk q ⟨0,0⟩ ⟨0,0,conf,data⟩ (.slice kad 0 kcap) sz::fB (.slice kad 0 kcap) []::aP b90 pk pr pt::aF H1 pr r::aO H1 pt emptyT::aB nameS q d'::aN (.slice fad first.length fcap) first::Fz H1::R):=hw.sl;have hw:Has 0 w0 W (aV pk q ⟨⟨0,0⟩,⟨0,0,conf,data⟩,[],sz⟩::aP b90 pk pr pt::aF H1 pr r::aO H1 pt emptyT::aB nameS q d'::aN (.slice fad first.length fcap) first::Fz H1::R):=aHV (k:=⟨⟨0,0⟩,⟨0,0,conf,data⟩,[],sz⟩) hw hko;exact gN (s:=⟨⟨⟨0,0⟩,⟨0,0,conf,data⟩,[],sz⟩,r,emptyT⟩) (hw.pm) hok.1 hok.2
end
end Go.Proofs.YtgpbngfehfbndaaGreatDoor.Sw
