/-
  Texts of the proof, one behind the other (part 50).
-/
import Derived.Test.YtgpbngfehfbndaaGreatDoorM49
import Derived.Test.YtgpbngfehfbndaaGreatDoorProg
import Derived.Test.YtgpbngfehfbndaaGreatDoorChecked
set_option maxHeartbeats 16000000
namespace Go.Proofs.YtgpbngfehfbndaaGreatDoor
open Go.Sx
instance ty257:Ty Tryz.prog 257 false [.slice none 0 0]:= .o
instance ty259:Ty Tryz.prog 259 true [.pointer none,.slice none 0 0]:= .s
instance el26:El Tryz.prog 26 1 8:= .o
instance sl257:Sl Tryz.prog 257 26:=⟨by kernel_rfl⟩
instance fl259_0:Fld Tryz.prog 259 0 0 110:= .o
instance fl259_1:Fld Tryz.prog 259 1 1 257:= .o
instance su259:St Tryz.prog 259 [(0,1),(1,1)]:=⟨by kernel_rfl⟩
end Go.Proofs.YtgpbngfehfbndaaGreatDoor
set_option linter.unusedVariables false
namespace Go.Sx
open Go.RowKit
theorem aD0 {α:Type} (f:α→Value):∀l:List α,Ch (fun a c=>c= [f a]) l (l.map f)
 | []=>rfl
 |a::l=>⟨[f a],l.map f,rfl,rfl,aD0 f l⟩
end Go.Sx
set_option maxRecDepth 10000
namespace Go.Proofs.YtgpbngfehfbndaaGreatDoor.Sw
open Go.RowKit Go.Sx
def fE (d:Dm):List cU→Dm×List Int
 | []=>(d,[])
 |b::l=>((fE (dO d b.l).2 l).1,(dO d b.l).1::(fE (dO d b.l).2 l).2)
theorem aD1:∀(l:List cU) (d:Dm) (b:cU),fE d (l ++ [b])=((dO (fE d l).1 b.l).2,(fE d l).2 ++ [(dO (fE d l).1 b.l).1])
 | [],d,b=>rfl
 |x::l,d,b=>by
  show ((fE (dO d x.l).2 (l ++ [b])).1,(dO d x.l).1::(fE (dO d x.l).2 (l ++ [b])).2)=_;rw [aD1 l];rfl
theorem aD2:∀(l:List cU) (d:Dm),(fE d l).2.length=l.length
 | [],d=>rfl
 |x::l,d=>by
  show (_::(fE (dO d x.l).2 l).2).length=_;rw [List.length_cons,aD2 l];rfl
def pB (p:Nat) (d:Dm) (es:List Int):Res:=Ex fun x:Nat×Value=>aA p [.pointer (some ⟨x.1,0,none⟩),x.2] 259::bL x.1 d::Sx.Own 26 1 x.2 es.length (es.map (Value.int .i64)):: []
section
variable {G p c:Nat} {w W:World} {R:List Res} {d:Dm} {es:List Int} {v:Value}
theorem zS (h:Has G w W (aA p [.pointer (some ⟨c,0,none⟩),v] 259::bL c d::Sx.Own 26 1 v es.length (es.map (Value.int .i64))::R)):Has G w W (pB p d es::R):=Has.shut (c,v) h
theorem aD3 (h:Has G w W (pB p d es::R)):∃c ad cap,Has G w W (aA p [.pointer (some ⟨c,0,none⟩),.slice ad es.length cap] 259::bL c d::Sx.Own 26 1 (.slice ad es.length cap) es.length (es.map (Value.int .i64))::R):=by
 obtain ⟨⟨c,v⟩,h⟩:=Has.open h;have h:Has G w W (aA p [.pointer (some ⟨c,0,none⟩),v] 259::bL c d::Sx.Own 26 1 v es.length (es.map (Value.int .i64))::R):=h;obtain ⟨ad,cap,rfl⟩:∃ad cap,v= .slice ad es.length cap:=by
  obtain ⟨_,ad,cap,e,_⟩:=h.rd_own (In.tl (In.tl In.hd));exact ⟨ad,cap,e⟩
 exact ⟨c,ad,cap,h⟩
end
def gQ (bp:Option Nat) (d:Dm):Res:=match bp with|none=>bI|some p=>bL p d
abbrev rW (bp:Option Nat):Value:= .pointer (bp.map fun p=>(⟨p,0,none⟩:Addr))
theorem aJ7 (w0 W:World) (bp:Option Nat) (hbp:bp≠none) (d:Dm) (R:List Res) (hw:Has 0 w0 W (gQ bp d::R)):
  Calls Tryz.prog 171 ⟨[rW bp]⟩ W fun e W'=>∃cp,e= .returned (rW cp)∧(cp=none→bp=none)∧Has 0 w0 W' (gQ cp d::gQ bp d::R):=by
 cases bp with
 |none=>
  exact absurd rfl hbp
 |some p=>
  refine (pZ w0 W p d R hw).mono ?_;rintro e W' ⟨c,rfl,hw⟩;exact ⟨some c,rfl,(fun h=>by cases h),hw⟩
theorem aJ8 (w0 W:World) (H:Fh) (bp:Option Nat) (d0:Dm) (l:List cU) (v:Value) (R:List Res) (h0:bp=none→d0= []) (hbp:bp≠none) (hb:∀b∈l,iB b) (hl:l.length≤1000) (hr:xW H v l) (hH:(fr w0).le H) (hT:Tabs w0) (hw:Has 0 w0 W (gQ bp d0::Fz H::R)):
  Calls Tryz.prog 96 ⟨[rW bp,v]⟩ W fun e W'=>∃q,e= .returned (.pointer (some ⟨q,0,none⟩))∧Has 0 w0 W' (pB q (fE d0 l).1 (fE d0 l).2::gQ bp d0::Fz H::R):=by
 obtain ⟨ys,hys,hch⟩:=hr;obtain ⟨sad,scap,rfl⟩:=hys.slice;refine enter Tryz.func96 Tryz.ntmps96 rfl rfl fun a hs=>?_;refine zC hs hw ?_;clear hs;intro a hs;refine aG hs (hc:=aJ7 w0 _ bp hbp d0 _ hw) (k:=?_);rintro e0 W1 ⟨cp,rfl,hcp,hw1⟩;refine ⟨_,rfl,?_⟩;clear hs hw;intro a hs;have hw:=hw1;clear hw1
 repeat (first|(refine sxv hs hw ?_;clear hs;intro a hs)|refine sxn hs ?_|(refine sxa hs hw ?_;clear hs hw;intro a b W hw hs)|(refine sxs hs hw ?_;clear hs hw;intro W hs hw))
 obtain ⟨q,q1⟩:=nm1 hw;subst q1;refine sq ?_;refine eW (M:=fun a W=>∃c,Slots a 45 [(1,.slice sad l.length scap),(5,.pointer (some ⟨q,0,none⟩))]∧Has 0 w0 W (aA q [.pointer (some ⟨c,0,none⟩),.slice none 0 0] 259::bL c d0::gQ bp d0::Fz H::R)) ?_ ?_
 ·cases cp with
  |none=>
   obtain rfl:=h0 (hcp rfl);simp only [rW,Option.map_none] at hs hw;refine zC hs hw ?_;clear hs;intro a hs;refine aG hs (hc:=xP w0 _ _ hw) (k:=?_);rintro e0 W1 ⟨c,rfl,hw1⟩;refine ⟨_,rfl,?_⟩;clear hs hw;intro a hs;have hw:=hw1;clear hw1;refine zD hs hw ?_;clear hs hw;intro a W hs hw;have hw:Has 0 w0 _ (bI::aA q [.pointer (some ⟨c,0,none⟩),.slice none 0 0] 259::bL c []::gQ bp []::Fz H::R):=hw.pm;exact ⟨c,hs.ot,hw.d1⟩
  |some c=>
   simp only [rW,Option.map_some] at hs hw;refine zC hs hw ?_;clear hs;intro a hs;exact ⟨c,hs.ot,hw⟩
 clear hs hw;rintro a W ⟨c,hs,hw⟩;have hw:=hw.nilOwn 26 1;have hw:Has 0 w0 _ (aA q [.pointer (some ⟨c,0,none⟩),.slice none 0 0] 259::bL c d0::Sx.Own 26 1 (.slice none 0 0) ([]:List Int).length (([]:List Int).map (Value.int .i64))::gQ bp d0::Fz H::R):=hw.pm;have hw:=zS hw;refine zC hs hw ?_;clear hs;intro a hs;refine bY (σ:=Nat) (fun i=>[(5,.pointer (some ⟨q,0,none⟩)),(21,.slice sad l.length scap),(22,.int .i64 (l.length:Int)),(23,.int .i64 (i:Int))]) (fun i=>pB q (fE d0 (l.take i)).1 (fE d0 (l.take i)).2::gQ bp d0::Fz H::R) (fun i=>i≤l.length) (fun i=>l.length - i) 0 (Nat.zero_le _) hs ⟨rfl,rfl,rfl,rfl,trivial⟩ hw ?_;clear hs hw;rintro i a W hi hs hw;refine zC hs hw ?_;clear hs;intro a hs;refine cI hs (kt:=fun hcc=>?_) (kf:=fun hcc=>?_)
 ·have hi':i<l.length:=by simpa using hcc
  obtain ⟨b,hbi⟩:∃o,l[i]? =some o:=⟨l[i],List.getElem?_eq_getElem hi'⟩
  have hbk:=hb b (List.mem_of_getElem? hbi);have hnx:=aD1 (l.take i) d0 b;have hpl:=aD2 (l.take i) d0;have htl:(l.take i).length=i:=by rw [List.length_take];omega
  rw [show l.take i ++ [b]=l.take (i+1) from by rw [List.take_add_one,hbi];rfl] at hnx;generalize fE d0 (l.take i)=A at *;obtain ⟨d,es⟩:=A;simp only at hnx hpl hw;refine zG hs ?_;refine gA hs (r:=hw.rdH (In.tl (In.tl In.hd)) hys) (hk:=BatIn.len) (ch:=hch) (ho:=hbi) (hlen:=rfl) (c:=?_);clear hs;intro a g off cc hc hcl hpc hlt hs;obtain ⟨ov,rfl,hov⟩:=hc;refine eE hs (cs:=aL b ov) (hc:=hpc) (hl:=by rfl) (c:=?_);clear hs;intro a hs;clear hpc;obtain ⟨oad,ocap,rfl⟩:=hov.slice
  repeat (first|(refine sxv hs hw ?_;clear hs;intro a hs)|refine sxc hs ?_|(refine sxa hs hw ?_;clear hs hw;intro a b W hw hs)|(refine sxs hs hw ?_;clear hs hw;intro W hs hw)|((with_reducible first|refine eX hs (k:=?_)|refine eY hs (k:=?_));clear hs;intro a hs))
  obtain ⟨b7,q7⟩:=nm1 hw;subst q7;obtain ⟨c,ead,ecap,hw⟩:=aD3 hw.swap2;have hw:Has 0 w0 _ (aA q [.pointer (some ⟨c,0,none⟩),.slice ead es.length ecap] 259::Sx.Own 26 1 (.slice ead es.length ecap) es.length (es.map (Value.int .i64))::bI::bL c d::aA b7 (aL b (.slice oad b.l.length ocap)) 66::gQ bp d0::Fz H::R):=hw.free.pm;generalize hap:dO d b.l=Z at hnx;refine fM (σ:=Option Addr×Nat) (V:=fun u=>[.pointer (some ⟨q,0,none⟩),.pointer (some ⟨q,0,none⟩),.pointer (some ⟨q,0,none⟩),.pointer (some ⟨q,0+1,none⟩),.slice ead es.length ecap,.pointer (some ⟨q,0,none⟩),.pointer (some ⟨q,0,none⟩),.pointer (some ⟨q,0+0,none⟩),.pointer (some ⟨c,0,none⟩),.pointer (some ⟨b7,0+2,none⟩),.slice oad b.l.length ocap,.int .i64 Z.1,.slice (some ⟨(u 12).2,0,none⟩) 1 1,.slice (u 13).1 (es ++ [Z.1]).length (u 13).2,.pointer (some ⟨q,0,none⟩),.pointer (some ⟨q,0+1,none⟩),undef])
   (Rs:=fun u D=>aA q [.pointer (some ⟨c,0,none⟩),(if D 16 then .slice (u 13).1 (es ++ [Z.1]).length (u 13).2 else .slice ead es.length ecap)] 259::(if D 13 then Sx.Own 26 1 (.slice (u 13).1 (es ++ [Z.1]).length (u 13).2) (es ++ [Z.1]).length (es.map (Value.int .i64) ++ [.int .i64 Z.1]) else Sx.Own 26 1 (.slice ead es.length ecap) es.length (es.map (Value.int .i64)))::(if D 12 then aA (u 12).2 [.int .i64 Z.1] 26 else bI)::(if D 11 then bL c Z.2 else bL c d)::aA b7 (aL b (.slice oad b.l.length ocap)) 66::gQ bp d0::Fz H::R) (fun _=>(none,0)) hs hw (hVu:=?vu_6) (ho:=⟨?_,?_,?_,?_,?c4_6,?_,?_,?_,?c8_6,?_,?_,?c11_6,?c12_6,?c13_6,?_,?_,?c16_6,trivial⟩) (k:=?k_6)
  case vu_6=>
   intro u u' j h;rcases j with _|_|_|_|_|_|_|_|_|_|_|_|_|_|_|_|_|j
   all_goals first|rfl|simp [h]
  case c4_6=>
   intro u LD D a W hcl hi hp hs hw;have h13:=Go.Sx.not_done hcl hi 13 (by kernel_rfl);have h16:=Go.Sx.not_done hcl h13 16 (by kernel_rfl);have hw0:=hw;simp only [h16,Bool.false_eq_true,if_false] at hw;refine zC hs hw ?_;clear hs;intro a hs;exact Or.inl ⟨hs,hw0⟩
  case c8_6=>
   intro u LD D a W hcl hi hp hs hw;have hw0:=hw;refine zC hs hw ?_;clear hs;intro a hs;exact Or.inl ⟨hs,hw0⟩
  case c11_6=>
   intro u LD D a W hcl hi hp hs hw;have h12:=Go.Sx.not_done hcl hi 12 (by kernel_rfl);have h13:=Go.Sx.not_done hcl h12 13 (by kernel_rfl);have h16:=Go.Sx.not_done hcl h13 16 (by kernel_rfl);simp only [hi,h12,h13,h16,Bool.false_eq_true,if_false] at hw
   repeat (first|(refine sxv hs hw ?_;clear hs;intro a hs)|refine sxc hs ?_|(refine sxa hs hw ?_;clear hs hw;intro a b W hw hs)|(refine sxs hs hw ?_;clear hs hw;intro W hs hw)|((with_reducible first|refine eX hs (k:=?_)|refine eY hs (k:=?_));clear hs;intro a hs))
   have hw:Has 0 w0 W (bL c d::aA q [.pointer (some ⟨c,0,none⟩),.slice ead es.length ecap] 259::Sx.Own 26 1 (.slice ead es.length ecap) es.length (es.map (Value.int .i64))::bI::aA b7 (aL b (.slice oad b.l.length ocap)) 66::gQ bp d0::Fz H::R):=hw.pm;refine aG hs (hc:=aBP w0 _ H c d b.l _ _ hbk.ops hov inn hH hT hw) (k:=?_);rintro e0 W1 ⟨rfl,hw1⟩;refine ⟨_,rfl,?_⟩;clear hs hw;intro a hs;have hw:=hw1;clear hw1;rw [hap] at hs hw;refine zG hs ?_;refine Or.inl ⟨hs,?_⟩;show Has 0 w0 _ (aA q [_,(if (Nat.beq 16 11 || D 16)=true then _ else _)] _::(if (Nat.beq 13 11 || D 13)=true then _ else _)::(if (Nat.beq 12 11 || D 12)=true then _ else _)::_);rw [h12,h13,h16];exact hw.pm
  case c12_6=>
   intro u LD D a W hcl hi hp hs hw;have h11:=Go.Sx.done hp 11 (by kernel_rfl);have h13:=Go.Sx.not_done hcl hi 13 (by kernel_rfl);have h16:=Go.Sx.not_done hcl h13 16 (by kernel_rfl);simp only [hi,h11,h13,h16,Bool.false_eq_true,if_false,if_true] at hw
   repeat (first|(refine sxv hs hw ?_;clear hs;intro a hs)|refine sxc hs ?_|(refine sxa hs hw ?_;clear hs hw;intro a b W hw hs)|(refine sxs hs hw ?_;clear hs hw;intro W hs hw)|((with_reducible first|refine eX hs (k:=?_)|refine eY hs (k:=?_));clear hs;intro a hs))
   refine Or.inr ⟨(none,_),hs,?_⟩;show Has 0 w0 _ (aA q [_,(if (Nat.beq 16 12 || D 16)=true then _ else _)] _::(if (Nat.beq 13 12 || D 13)=true then _ else _)::_::(if (Nat.beq 11 12 || D 11)=true then _ else _)::_);rw [h11,h13,h16];exact hw.fill (Upd.tl (Upd.tl Upd.hd))
  case c13_6=>
   intro u LD D a W hcl hi hp hs hw;have h12:=Go.Sx.done hp 12 (by kernel_rfl);have h11:=Go.Sx.done (hcl 12 _ rfl h12) 11 (by kernel_rfl);have h16:=Go.Sx.not_done hcl hi 16 (by kernel_rfl);simp only [hi,h11,h12,h16,Bool.false_eq_true,if_false,if_true] at hw;have hw:Has 0 w0 W (Sx.Own 26 1 (.slice ead es.length ecap) es.length (es.map (Value.int .i64))::aA q [.pointer (some ⟨c,0,none⟩),.slice ead es.length ecap] 259::aA (u 12).2 [.int .i64 Z.1] 26::bL c Z.2::aA b7 (aL b (.slice oad b.l.length ocap)) 66::gQ bp d0::Fz H::R):=hw.pm;refine jP hs (hw:=hw) (hi:=In.tl In.hd) (ch:=aD0 (Value.int .i64) es) (ha:=(rfl:[Value.int .i64 Z.1]= [Value.int .i64 Z.1])) (hl:=rfl) (h1:=rfl) (hb:=by omega) (h63:=by omega) (k:=?_);clear hs hw;intro a ad cap W hs hw hc2;refine zG hs ?_;refine Or.inr ⟨(ad,cap),hs,?_⟩;show Has 0 w0 _ (aA q [_,(if (Nat.beq 16 13 || D 16)=true then _ else _)] _::_::(if (Nat.beq 12 13 || D 12)=true then _ else _)::(if (Nat.beq 11 13 || D 11)=true then _ else _)::_);rw [h11,h12,h16];exact hw.pm
  case c16_6=>
   intro u LD D a W hcl hi hp hs hw;have h13:=Go.Sx.done hp 13 (by kernel_rfl);simp only [hi,h13,Bool.false_eq_true,if_false,if_true] at hw
   repeat (first|(refine sxv hs hw ?_;clear hs;intro a hs)|refine sxc hs ?_|(refine sxa hs hw ?_;clear hs hw;intro a b W hw hs)|(refine sxs hs hw ?_;clear hs hw;intro W hs hw)|((with_reducible first|refine eX hs (k:=?_)|refine eY hs (k:=?_));clear hs;intro a hs))
   refine Or.inl ⟨hs,?_⟩;show Has 0 w0 _ (_::(if (Nat.beq 13 16 || D 13)=true then _ else _)::_);rw [h13];exact hw
  case k_6=>
   clear hs hw;intro u a W hs hw;replace hw:Has 0 w0 W (aA q [.pointer (some ⟨c,0,none⟩),.slice (u 13).1 (es ++ [Z.1]).length (u 13).2] 259::Sx.Own 26 1 (.slice (u 13).1 (es ++ [Z.1]).length (u 13).2) (es ++ [Z.1]).length (es.map (Value.int .i64) ++ [.int .i64 Z.1])::aA (u 12).2 [.int .i64 Z.1] 26::bL c Z.2::aA b7 (aL b (.slice oad b.l.length ocap)) 66::gQ bp d0::Fz H::R):=hw;replace hs:Slots a 45 [(5,.pointer (some ⟨q,0,none⟩)),(21,.slice sad l.length scap),(22,.int .i64 (l.length:Int)),(23,.int .i64 (i:Int))]:=hs.ot;generalize (u 13).1=ad at *;generalize (u 13).2=cap at *;generalize (u 12).2=bx at *;clear u;rw [show es.map (Value.int .i64) ++ [Value.int .i64 Z.1]=(es ++ [Z.1]).map (Value.int .i64) from by simp] at hw;have hw:Has 0 w0 W (aA bx [.int .i64 Z.1] 26::aA b7 (aL b (.slice oad b.l.length ocap)) 66::aA q [.pointer (some ⟨c,0,none⟩),.slice ad (es ++ [Z.1]).length cap] 259::bL c Z.2::Sx.Own 26 1 (.slice ad (es ++ [Z.1]).length cap) (es ++ [Z.1]).length ((es ++ [Z.1]).map (Value.int .i64))::gQ bp d0::Fz H::R):=hw.pm;have hw:=zS (hw.d2);refine zC hs hw ?_;clear hs;intro a hs;have e1:Z.2=(fE d0 (l.take (i+1))).1:=by rw [hnx]
   have e2:es ++ [Z.1]=(fE d0 (l.take (i+1))).2:=by rw [hnx]
   rw [e1,e2] at hw;exact bQ (i+1) hs hw hi' (by show l.length - (i+1)<l.length - i;omega) ⟨rfl,rfl,rfl,bR (by show IntKind.i64.wrap ((i:Int)+1)=((i+1:Nat):Int);rw [IntWalk.i64_in _ (by omega)];omega),trivial⟩
  all_goals
   intro u LD D a W hcl hi hp hs hw;refine zC hs hw ?_;clear hs;intro a hs;exact Or.inl ⟨hs,hw⟩
 ·have hi':i=l.length:=by
   have:¬i<l.length:=by simpa using hcc
   omega
  subst hi';rw [List.take_length] at hw;refine zC hs hw ?_;clear hs;intro a hs;exact rt1 hs rfl rfl ⟨q,rfl,hw⟩
theorem aJ9 (w0 W:World) (p:Nat) (d:Dm) (es:List Int) (R:List Res) (hw:Has 0 w0 W (pB p d es::R)):
  Calls Tryz.prog 98 ⟨[.pointer (some ⟨p,0,none⟩)]⟩ W fun e W'=>∃q,e= .returned (.pointer (some ⟨q,0,none⟩))∧Has 0 w0 W' (bL q d::pB p d es::R):=by
 obtain ⟨c,ead,ecap,hw⟩:=aD3 hw;refine enter Tryz.func98 Tryz.ntmps98 rfl rfl fun a hs=>?_;refine zC hs hw ?_;clear hs;intro a hs;refine aG hs (hc:=pZ w0 _ c d _ hw.swap2) (k:=?_);rintro e0 W1 ⟨q,rfl,hw1⟩;refine ⟨_,rfl,?_⟩;clear hs hw;intro a hs;have hw:=hw1;clear hw1;refine zC hs hw ?_;clear hs;intro a hs;refine rt1 hs rfl rfl ⟨q,rfl,?_⟩;have hw:Has 0 w0 _ (aA p [.pointer (some ⟨c,0,none⟩),.slice ead es.length ecap] 259::bL c d::Sx.Own 26 1 (.slice ead es.length ecap) es.length (es.map (Value.int .i64))::bL q d::R):=hw.pm;exact (zS hw).swap2
section
variable {H H':Fh} {p q b:Nat} {w0 W:World} {R L:List Res} {u u':cZ} {d d':bF} {err:Int}
theorem aJa (hH:(fr w0).le H) (hT:Tabs w0) (hw:Has 0 w0 W (cE H p q u::Fz H::R)):
  Calls Tryz.prog 54 ⟨[ptr p]⟩ W fun e W'=>∃(c:Nat) (H':Fh),e= .returned (ptr c)∧H.le H'∧Has 0 w0 W' (bL c (fE u.s.f.d (fI u)).1::cE H' p q u::Fz H'::R):=by
 have hf:oW u:=by
  obtain ⟨b,hw⟩:=lQ hw;obtain ⟨ho,_⟩:=kV hw.swap2;exact mK ho
 have hal:=hf.added.1;refine enter Tryz.func54 Tryz.ntmps54 rfl rfl fun a hs=>?_;refine sv hs hw fun a hs=>?_;refine cle hs (aDX hw) fun c a W _ hs hw=>?_;refine sv hs hw fun a hs=>?_;have hw:Has 0 w0 W (cE H p q u::Fz H::bL c u.s.f.d::R):=hw.pm;refine aG hs (hc:=y7 hw) (k:=?_);rintro e' W ⟨v',H3,rfl,hle3,hv3,hw⟩;refine ⟨_,rfl,fun a hs=>?_⟩;have hw:Has 0 w0 W (gQ (some c) u.s.f.d::Fz H3::cE H3 p q u::R):=hw.pm;refine aG hs (hc:=aJ8 w0 W H3 (some c) u.s.f.d (fI u) v' _ (fun h=>by cases h) (fun h=>by cases h) (fun b hb=>(hf.added.2 b (List.mem_of_mem_drop hb)).1) (by unfold fI;rw [List.length_drop];omega) hv3 (hH.trans hle3) hT hw) (k:=?_);rintro e' W ⟨c2,rfl,hw⟩;refine ⟨_,rfl,fun a hs=>?_⟩;refine aG hs (hc:=aJ9 w0 W c2 _ _ _ hw) (k:=?_);rintro e' W ⟨c3,rfl,hw⟩;refine ⟨_,rfl,fun a hs=>?_⟩;refine sv hs hw fun a hs=>?_;exact rt1 hs rfl rfl ⟨c3,H3,rfl,hle3,hw.sl⟩
end
def rX (t:TD) (c s:Int):Option (TD×Int):=(nN t.w c s).bind fun x=>(j9 ⟨x.1,t.ok⟩).map fun t=>(t,if x.2=10 then 0 else x.2)
def rY (t:TD):Option TD:=(aE 12 t.w).map fun x=>⟨x.1,t.ok && x.2⟩
def kB (key:ByteArray) (n:Int):OpD:=⟨1,key,1,n,⟨#[]⟩,0,0,⟨#[]⟩,0⟩
section
variable {w0 W:World} {R L:List Res} {H H':Fh} {p q:Nat} {k:WPt} {w w':bC} {t t':TD} {n m c id err:Int} {s:cN} {d d':bF}
theorem zT (hok:t.ok=true) (h:rY t=some t') (hH:(fr w0).le H) (hT:Tabs w0) (hw:Has 0 w0 W (dA H p n m t::Fz H::R)):
  Calls Tryz.prog 24 ⟨[ptr p]⟩ W fun e W'=>∃H':Fh,e= .returned (.tuple ⟨[]⟩)∧H.le H'∧Has 0 w0 W' (dA H' p n m t'::Fz H'::R):=by
 obtain ⟨⟨w2,b2⟩,h1,h2⟩:=Option.map_eq_some_iff.1 h;rw [hok] at h2;subst h2;obtain ⟨pw,hw⟩:=fJ hw;rw [hok] at hw;refine enter Tryz.func24 Tryz.ntmps24 rfl rfl fun a hs=>?_;refine sv hs hw fun a hs=>?_;have hw:Has 0 w0 W (bH H pw t.w::Fz H::cH p pw n m true::R):=hw.pm;refine aG hs (hc:=(show Calls Tryz.prog 53 ⟨[ptr pw,.int .i64 12]⟩ W _ from aDT (n:=12) (by omega) h1 hH hT hw)) (k:=?_);rintro e' W ⟨H3,rfl,hle3,hw⟩;refine ⟨_,rfl,fun a hs=>?_⟩;refine sx hs hw fun a W hs hw=>?_;have hw:Has 0 w0 W (cH p pw n m b2::bH H3 pw w2::Fz H3::R):=hw.pm;have hw:Has 0 w0 W (dA H3 p n m ⟨w2,true && b2⟩::Fz H3::R):=eJ (t:=⟨w2,true && b2⟩) hw
 first
  |exact rt0 hs rfl ⟨H3,rfl,hle3,hw⟩
  |exact cP hs rfl ⟨H3,rfl,hle3,hw⟩
theorem zU (hok:t.ok=true) (h:rX t c id=some (t',err)) (hH:(fr w0).le H) (hT:Tabs w0) (hw:Has 0 w0 W (dA H p n m t::Fz H::R)):
  Calls Tryz.prog 28 ⟨[ptr p,.int .i64 c,.int .i64 id]⟩ W fun e W'=>∃H':Fh,e= .returned (.int .i64 err)∧H.le H'∧Has 0 w0 W' (dA H' p n m t'::Fz H'::R):=by
 obtain ⟨⟨w2,e2⟩,h1,h2⟩:=Option.bind_eq_some_iff.1 h;obtain ⟨t3,h3,h4⟩:=Option.map_eq_some_iff.1 h2;injection h4 with h5 h6;subst h5;obtain ⟨pw,hw⟩:=fJ hw;refine enter Tryz.func28 Tryz.ntmps28 rfl rfl fun a hs=>?_;refine sv hs hw fun a hs=>?_;have hw:Has 0 w0 W (bH H pw t.w::Fz H::cH p pw n m t.ok::R):=hw.pm;refine aG hs (hc:=zL h1 hH hT hw) (k:=?_);rintro e' W ⟨H3,rfl,hle3,hw⟩;refine ⟨_,rfl,fun a hs=>?_⟩;have hw:Has 0 w0 W (cH p pw n m t.ok::bH H3 pw w2::Fz H3::R):=hw.pm;have hw:Has 0 w0 W (dA H3 p n m ⟨w2,t.ok⟩::Fz H3::R):=eJ (t:=⟨w2,t.ok⟩) hw;refine sv hs hw fun a hs=>?_;refine aG hs (hc:=rU (t:=⟨w2,t.ok⟩) hok h3 (hH.trans hle3) hT hw) (k:=?_);rintro e' W ⟨H4,rfl,hle4,hw⟩;refine ⟨_,rfl,fun a hs=>?_⟩;refine sv hs hw fun a hs=>?_;cases c1:e2 == 10 with
 |true=>
  rw [c1] at hs;rw [if_pos (by simpa using c1)] at h6;subst h6;refine sv hs hw fun a hs=>?_;exact rt1 hs rfl rfl ⟨H4,rfl,hle3.trans hle4,hw⟩
 |false=>
  rw [c1] at hs;rw [if_neg (by simpa using c1)] at h6;subst h6;refine sv hs hw fun a hs=>?_;exact rt1 hs rfl rfl ⟨H4,rfl,hle3.trans hle4,hw⟩
end
section
variable {w0 W:World} {R L:List Res} {H H':Fh} {p q:Nat} {k:WPt} {w w':bC} {t t':TD} {n m c id err:Int} {s:cN} {d d':bF}
theorem aD4:∀(l:List cU) (d:Dm),l.foldl (fun d b=>(dO d b.l).2) d=(fE d l).1
 | [],_=>rfl
 |b::l,d=>by
  show l.foldl (fun d b=>(dO d b.l).2) (dO d b.l).2=_;rw [aD4 l];rfl
theorem zV (key:ByteArray) (x:Int) (hw:Has 0 w0 W R):Calls Tryz.prog 23 ⟨[.string key,.int .i64 x]⟩ W fun e W'=>e= .returned (.agg ⟨bX (kB key x)⟩)∧Has 0 w0 W' R:=by
 refine enter Tryz.func23 Tryz.ntmps23 rfl rfl fun a hs=>?_;refine sc hs ?_;refine sn hs hw fun b a W hs hw=>?_;refine sx hs hw fun a W hs hw=>?_;exact rc1 hs rfl rfl hw inn rfl ⟨rfl,hw.d1⟩
theorem pC (key:ByteArray) (x:Int) (hH:(fr w0).le H) (hT:Tabs w0) (hw:Has 0 w0 W (dA H p n m t::Fz H::R)):
  Calls Tryz.prog 26 ⟨[ptr p,.int .i64 c,.string key,.int .i64 x]⟩ W fun e W'=>∃H':Fh,e= .returned (.bool (lV t c key x))∧H.le H'∧Has 0 w0 W' (dA H' p n m t::Fz H'::R):=by
 obtain ⟨pw,hw⟩:=fJ hw;obtain ⟨k,gv,hw⟩:=mN hw.swap2;refine enter Tryz.func26 Tryz.ntmps26 rfl rfl fun a hs=>?_;refine sv hs hw fun a hs=>?_;refine cl hs (jL c hw) fun a W hs hw=>?_;unfold dQ at hs;obtain ⟨bb,hbb⟩:∃bb,bb=lV t c key x:=⟨_,rfl⟩
 rw [←hbb];unfold lV at hbb;cases c1:at? t.w.clients c with
 |none=>
  rw [c1] at hs;simp only [c1] at hbb;subst hbb;refine sv hs hw fun a hs=>?_;exact rt1 hs rfl rfl ⟨H,rfl,Fh.le.refl H,eJ (gv hw).swap2⟩
 |some u=>
 rw [c1] at hs;simp only [c1] at hbb;obtain ⟨rc,tk,gv2⟩:=nR (w0:=w0) (p:=pw) (k:=k) (w:=t.w) c1;refine sv hs hw fun a hs=>?_;have hw:=tk (hw.pm:Has 0 w0 W (aS pw k::bB k t.w::aW k t.w::aZ k t.w::aX k t.w::aM (H) k.pn t.w.n::aQ (H) k.ps k.qs t.w.servers::aC nameS k.qs t.w.sd::aT H k.pc k.qc t.w.clients::aC nameQ k.qc t.w.cd::cH p pw n m t.ok::Fz H::R));have hw:Has 0 w0 W (cE H (k.pc c) (k.qc c) u::Fz H::aS pw k::bB k t.w::aW k t.w::aZ k t.w::aX k t.w::aM (H) k.pn t.w.n::aQ (H) k.ps k.qs t.w.servers::aC nameS k.qs t.w.sd::aT (H) k.pc k.qc rc::aC nameQ k.qc t.w.cd::cH p pw n m t.ok::R):=hw.pm;refine aG hs (hc:=aJa hH hT hw) (k:=?_);rintro e' W ⟨pd,H3,rfl,hle3,hw⟩;refine ⟨_,rfl,fun a hs=>?_⟩;have hw:=hw.lz hle3;unfold aDY at hbb;rw [aD4] at hbb;refine sv hs hw fun a hs=>?_;refine cl hs (aDZ w0 W pd _ key _ hw) fun a W hs hw=>?_;refine sv hs hw fun a hs=>?_;refine sn hs hw fun b10 a W hs hw=>?_;refine sx hs hw fun a W hs hw=>?_;have fin:∀{W:World} {cs:List Value},Has 0 w0 W (aA b10 cs 53::bL pd ((fE u.s.f.d (fI u)).1)::cE H3 (k.pc c) (k.qc c) u::Fz H3::aS pw k::bB k t.w::aW k t.w::aZ k t.w::aX k t.w::aM (H3) k.pn t.w.n::aQ (H3) k.ps k.qs t.w.servers::aC nameS k.qs t.w.sd::aT (H3) k.pc k.qc rc::aC nameQ k.qc t.w.cd::cH p pw n m t.ok::R)→Has 0 w0 W (dA H3 p n m t::Fz H3::R):=fun {W cs} g=>by
  have g:Has 0 w0 W (cE H3 (k.pc c) (k.qc c) u::aS pw k::bB k t.w::aW k t.w::aZ k t.w::aX k t.w::aM (H3) k.pn t.w.n::aQ (H3) k.ps k.qs t.w.servers::aC nameS k.qs t.w.sd::aT (H3) k.pc k.qc rc::aC nameQ k.qc t.w.cd::cH p pw n m t.ok::Fz H3::R):=g.sl;have g:=eI (gv2 g);exact eJ g.swap2
 cases c2:dD ((fE u.s.f.d (fI u)).1) key with
 |none=>
  rw [c2] at hs hw;simp only [c2] at hbb;subst hbb;refine sv hs hw fun a hs=>?_;exact rt1 hs rfl rfl ⟨H3,rfl,hle3,fin hw⟩
 |some r=>
  rw [c2] at hs hw;rw [show (some r).isSome=true from rfl] at hs;cases r with
  |inr s=>
   rw [show rV (some (.inr s))= [.int .i64 2,.int .i64 0,.string s] from rfl] at hs hw;simp only [c2] at hbb;subst hbb;refine sv hs hw fun a hs=>?_;exact rt1 hs rfl rfl ⟨H3,rfl,hle3,fin hw⟩
  |inl y=>
   rw [show rV (some (.inl y))= [.int .i64 1,.int .i64 y,.string ⟨#[]⟩] from rfl] at hs hw;simp only [c2] at hbb;subst hbb;refine sv hs hw fun a hs=>?_;exact rt1 hs rfl rfl ⟨H3,rfl,hle3,fin hw⟩
end
section
variable {w0 W:World} {R L:List Res} {H H':Fh} {p q:Nat} {k:WPt} {w w':bC} {t t':TD} {n m c id err:Int} {s:cN} {d d':bF}
theorem aD5 (h:rY t=some t') (ho:t'.ok=true):t.ok=true:=by
 obtain ⟨x,_,h2⟩:=Option.map_eq_some_iff.1 h;subst h2;have:(t.ok && x.2)=true:=ho;exact (Bool.and_eq_true_iff.1 this).1
end
end Go.Proofs.YtgpbngfehfbndaaGreatDoor.Sw
