import Derived.Test.YtgpbngfehfbndaaGreatDoorV16
import Derived.Test.YtgpbngfehfbndaaGreatDoorV17
set_option maxHeartbeats 16000000
set_option linter.all false
set_option maxRecDepth 10000
namespace Go.Proofs.YtgpbngfehfbndaaGreatDoor.Sw
open Go.RowKit Go.Sx
open Go.Proofs.Tryz (prog)
section
variable {p:Nat} {v:VotesD} {x:Int} {l:List Int} {sl:Value} {L L1:List Res}
instance conf_HasG [c:dH (fun l=>aM sl l) L l L1]:Get prog 131 [sl,.int .i64 x] L (.bool (has l x)) L:=⟨fun {w W} hw=>
 (aBI l sl x W ((hw.pick c.p).rd_own In.hd)).mono fun e W' ⟨h1,h2⟩=>⟨h1,hw.below h2⟩⟩
instance conf_MayG [c:dH (fun l=>aM sl l) L l L1]:Get prog 85 [sl] L (.bool (dB l)) L:=⟨fun {w W} hw=>
 (aBJ l sl W ((hw.pick c.p).rd_own In.hd)).mono fun e W' ⟨h1,h2⟩=>⟨h1,hw.below h2⟩⟩
instance vote_may [c:dH (fun v=>gA p v) L v L1]:Get prog 208 [.pointer (some ⟨p,0,none⟩),.int .i64 x] L (.bool (v.may x)) L:=⟨fun {w W} hw=>by
 obtain ⟨a1,c1,a2,c2,a3,c3,hw⟩:=pY (hw.pick c.p);refine en Tryz.func208 Tryz.ntmps208 fun a hs=>?_;refine sx hs hw fun a W hs hw=>?_;unfold VotesD.may;cases h1:has v.l x with
 |false=>
  rw [h1] at hs;refine sv hs hw fun a hs=>?_;exact rt1 hs rfl rfl ⟨rfl,(kE hw).unpick c.p⟩
 |true=>
 rw [h1] at hs;refine sx hs hw fun a W hs hw=>?_;cases h2:has v.yes x with
 |true=>
  rw [h2] at hs;refine sv hs hw fun a hs=>?_;exact rt1 hs rfl rfl ⟨rfl,(kE hw).unpick c.p⟩
 |false=>
 rw [h2] at hs;refine sx hs hw fun a W hs hw=>?_
 exact rt1 hs rfl rfl ⟨rfl,(kE hw).unpick c.p⟩⟩
instance vote_may0:Get prog 208 [.pointer none,.int .i64 x] L (.bool false) L:=⟨fun {w W} hw=>by
 refine en Tryz.func208 Tryz.ntmps208 fun a hs=>?_;refine sv hs hw fun a hs=>?_
 exact rt1 hs rfl rfl ⟨rfl,hw⟩⟩
theorem aBK (hb:v.yes.length≤1000) [c:dH (fun v=>gA p v) L v L1]:Get prog 134 [.pointer (some ⟨p,0,none⟩),.int .i64 x] L (.bool (v.yesD x).2) (gA p (v.yesD x).1::L1):=⟨fun {w W} hw=>by
 have hw:=hw.pick c.p;refine en Tryz.func134 Tryz.ntmps134 fun a hs=>?_;refine sx hs hw fun a W hs hw=>?_;unfold VotesD.yesD;cases h1:v.may x with
 |false=>
  rw [h1] at hs;refine sv hs hw fun a hs=>?_;exact rt1 hs rfl rfl ⟨rfl,hw⟩
 |true=>
 rw [h1] at hs;obtain ⟨a1,c1,a2,c2,a3,c3,hw⟩:=pY hw;refine sv hs hw fun a hs=>?_;refine sn hs hw fun b a W hs hw=>?_;refine mG hs hw (show Pick (aM (.slice a2 v.yes.length c2) v.yes) _ _ from .tl (.tl .hd)) (by omega) fun a ad cap W hs hw=>?_;refine sx hs hw fun a W hs hw=>?_
 exact rt1 hs rfl rfl ⟨rfl,kE (vt:=⟨v.l,v.yes ++ [x],v.no⟩) (hw.pm)⟩⟩
theorem aGJ (hb:v.no.length≤1000) [c:dH (fun v=>gA p v) L v L1]:Get prog 212 [.pointer (some ⟨p,0,none⟩),.int .i64 x] L (.bool (v.noD x).2) (gA p (v.noD x).1::L1):=⟨fun {w W} hw=>by
 have hw:=hw.pick c.p;refine en Tryz.func212 Tryz.ntmps212 fun a hs=>?_;refine sx hs hw fun a W hs hw=>?_;unfold VotesD.noD;cases h1:v.may x with
 |false=>
  rw [h1] at hs;refine sv hs hw fun a hs=>?_;exact rt1 hs rfl rfl ⟨rfl,hw⟩
 |true=>
 rw [h1] at hs;obtain ⟨a1,c1,a2,c2,a3,c3,hw⟩:=pY hw;refine sv hs hw fun a hs=>?_;refine sn hs hw fun b a W hs hw=>?_;refine mG hs hw (show Pick (aM (.slice a3 v.no.length c3) v.no) _ _ from .tl (.tl (.tl .hd))) (by omega) fun a ad cap W hs hw=>?_;refine sx hs hw fun a W hs hw=>?_
 exact rt1 hs rfl rfl ⟨rfl,kE (vt:=⟨v.l,v.yes,v.no ++ [x]⟩) (hw.pm)⟩⟩
instance vote_Yes0:Get prog 134 [.pointer none,.int .i64 x] L (.bool false) L:=⟨fun {w W} hw=>by
 refine en Tryz.func134 Tryz.ntmps134 fun a hs=>?_;refine sx hs hw fun a W hs hw=>?_
 exact rt1 hs rfl rfl ⟨rfl,hw⟩⟩
instance vote_No0:Get prog 212 [.pointer none,.int .i64 x] L (.bool false) L:=⟨fun {w W} hw=>by
 refine en Tryz.func212 Tryz.ntmps212 fun a hs=>?_;refine sx hs hw fun a W hs hw=>?_
 exact rt1 hs rfl rfl ⟨rfl,hw⟩⟩
end
theorem aGK {α:Type} {l:List α} {i:Nat} {o:α} (f:α→Bool) (h:l[i]? =some o):((l.take (i+1)).filter f).length=((l.take i).filter f).length+(match f o with|true=>1|false=>0):=by
 rw [fQ h,List.filter_append,List.length_append];cases hf:f o <;> simp [hf]
theorem aBL:∀(l:List Int) (q:Int),gI (some q) l=true→q≤7→(l.length:Int)≤7 - q
 | [],q,_,h=>by simp;omega
 |x::r,q,h,hq=>by
  simp [gI] at h;have:=aBL r x h.2 (by omega);simp;omega
theorem pZ {l:List Int} (h:dB l=true):l.length≤7:=by
 unfold dB at h;cases l with
 |nil=>simp
 |cons x r=>
  simp [gI] at h;have:=aBL r x h.2 (by omega);simp;omega
theorem aGL (l yes:List Int) (v u:Value) (w:World) (r:Rd w 1 v l.length (bR l)) (r2:Rd w 1 u yes.length (bR yes)):
  Calls prog 209 ⟨[v,u]⟩ w fun e w'=>e= .returned (.bool (sI l yes))∧Below w.heap.size w w':=by
 have hw:=Has.start (G:=0) (w:=w) (Nat.zero_le _);have hlen:=r.len;obtain ⟨ad,cap,rfl⟩:∃ad cap,v= .slice ad l.length cap:=by obtain ⟨_,ad,cap,e,_⟩:=r;exact ⟨ad,cap,e⟩
 refine en Tryz.func209 Tryz.ntmps209 fun a hs=>?_;refine sv hs hw fun a hs=>?_;refine bX (σ:=Nat) (fun i=>[(0,.slice ad l.length cap),(1,u),(8,.slice ad l.length cap),(9,.int .i64 (l.length:Int)),(10,.int .i64 (i:Int)),(5,.int .i64 (((l.take i).filter fun x=>has yes x).length:Int))]) (fun _=>Old w 0:: []) (fun i=>i≤l.length) (fun i=>l.length - i) 0 (Nat.zero_le _) hs ⟨rfl,rfl,rfl,rfl,rfl,rfl,trivial⟩ hw ?_;clear hs hw;rintro i a W hi hs hw;have hi:i≤l.length:=hi;refine sv hs hw fun a hs=>?_;refine cI hs (kt:=fun hc=>?_) (kf:=fun hc=>?_)
 ·have hi':i<l.length:=by simpa using hc
  obtain ⟨o,ho,hd⟩:=dP hi';have hf:=aGK (fun x=>has yes x) ho;have hle:((l.take i).filter fun x=>has yes x).length≤i:=Nat.le_trans (List.length_filter_le _ _) (by rw [List.length_take];omega);refine sc hs ?_;refine iI hs (hw.rd inn hw.ext.size r) ho rfl fun a b f hs=>?_;refine sv hs hw fun a hs=>?_;refine cb hs hw (aBI yes u o _ (hw.rd inn hw.ext.size r2)) fun a W hs hw=>?_;cases c:has yes o with
  |true=>
   rw [c] at hs hf;refine sv hs hw fun a hs=>?_;exact bS (i+1) hs hw hi' (by omega) ⟨rfl,rfl,rfl,rfl,bU (i1 (by omega)),bU (by rw [i1 (by omega),hf]),trivial⟩
  |false=>
   rw [c] at hs hf;refine sv hs hw fun a hs=>?_;exact bS (i+1) hs hw hi' (by omega) ⟨rfl,rfl,rfl,rfl,bU (i1 (by omega)),bU (by rw [hf];rfl),trivial⟩
 ·have:l.take i=l:=List.take_of_length_le (by simp at hc;omega);rw [this] at hs;have hle:(l.filter fun x=>has yes x).length≤l.length:=List.length_filter_le _ _;refine sv hs hw fun a hs=>?_;refine cb hs hw (aBJ l _ _ (hw.rd inn hw.ext.size r)) fun a W hs hw=>?_;unfold sI;cases c:dB l with
  |false=>
   rw [c] at hs;refine sv hs hw fun a hs=>?_;exact rt1 hs rfl rfl ⟨rfl,hw.end inn⟩
  |true=>
   rw [c] at hs;refine sv hs hw fun a hs=>?_;refine rt1 hs rfl rfl ⟨?_,hw.end inn⟩;have h7:=pZ c;rw [if_pos rfl,IntWalk.i64_in _ (by omega),Bool.true_and]
section
variable {p:Nat} {v:VotesD} {x:Int} {l:List Int} {sl:Value} {L L1:List Res}
instance conf_MajG {yes:List Int} {u:Value} {L2:List Res} [c:dH (fun l=>aM sl l) L l L1] [c2:dH (fun l=>aM u l) L yes L2]:Get prog 209 [sl,u] L (.bool (sI l yes)) L:=⟨fun {w W} hw=>
 (aGL l yes sl u W ((hw.pick c.p).rd_own In.hd) ((hw.pick c2.p).rd_own In.hd)).mono fun e W' ⟨h1,h2⟩=>⟨h1,hw.below h2⟩⟩
instance vote_Won [c:dH (fun v=>gA p v) L v L1]:Get prog 135 [.pointer (some ⟨p,0,none⟩)] L (.bool v.won) L:=⟨fun {w W} hw=>by
 obtain ⟨a1,c1,a2,c2,a3,c3,hw⟩:=pY (hw.pick c.p);refine en Tryz.func135 Tryz.ntmps135 fun a hs=>?_;refine sv hs hw fun a hs=>?_;refine rgp [_,_,_,_,_,_,_,_,_,_,_,_,_,_] hs hw fun a W hs hw=>?_;refine sc hs ?_
 exact rt1 hs rfl rfl ⟨rfl,(kE hw).unpick c.p⟩⟩
instance vote_Won0:Get prog 135 [.pointer none] L (.bool false) L:=⟨fun {w W} hw=>by
 refine en Tryz.func135 Tryz.ntmps135 fun a hs=>?_;refine sv hs hw fun a hs=>?_;refine rgp [_,_,_,_,_,_,_,_,_,_,_,_,_,_] hs hw fun a W hs hw=>?_;refine sc hs ?_
 exact rt1 hs rfl rfl ⟨rfl,hw⟩⟩
instance vote_Lost [c:dH (fun v=>gA p v) L v L1]:Get prog 213 [.pointer (some ⟨p,0,none⟩)] L (.bool v.lost) L:=⟨fun {w W} hw=>by
 obtain ⟨a1,c1,a2,c2,a3,c3,hw⟩:=pY (hw.pick c.p);refine en Tryz.func213 Tryz.ntmps213 fun a hs=>?_;refine sv hs hw fun a hs=>?_;unfold VotesD.lost;cases he:decide ((v.l.length:Int) > 0) with
 |true=>
  refine rgp [_,_,_,_,_,_,_,_,_,_,_,_,_,_,_,_,_,_,_,_,_,_,_,_,_,_,_,_,_,_,_] hs hw fun a W hs hw=>?_;refine sc hs ?_;refine rt1 hs rfl rfl ⟨?_,(kE hw).unpick c.p⟩;rw [if_pos rfl,Bool.true_and]
 |false=>
  refine rgp [_,_,_,_,_,_,_,_,_,_,_,_,_,_,_,_,_,_,_,_,_,_,_,_,_,_,_,_,_,_,_] hs hw fun a W hs hw=>?_;refine sc hs ?_
  exact rt1 hs rfl rfl ⟨rfl,(kE hw).unpick c.p⟩⟩
instance vote_Lost0:Get prog 213 [.pointer none] L (.bool false) L:=⟨fun {w W} hw=>by
 refine en Tryz.func213 Tryz.ntmps213 fun a hs=>?_;refine sv hs hw fun a hs=>?_;refine rgp [_,_,_,_,_,_,_,_,_,_,_,_,_,_,_,_,_,_,_,_,_,_,_,_,_,_,_,_,_,_,_] hs hw fun a W hs hw=>?_;refine sc hs ?_
 exact rt1 hs rfl rfl ⟨rfl,hw⟩⟩
end
theorem aGM (l:List Int):∀u∈bR l,u.oneCell'=true:=by intro v hv;obtain ⟨x,_,rfl⟩:=List.mem_map.1 hv;rfl
section
variable {p:Nat} {v:VotesD} {x:Int} {l:List Int} {sl:Value} {L L1:List Res}
theorem wS (hl:l.length≤1000) [c:dH (fun l=>aM sl l) L l L1]:New prog 185 [sl] L (Option Addr×Nat) (fun s=> .slice s.1 l.length s.2) (fun s=>aM (.slice s.1 l.length s.2) l::L):=⟨fun {w W} hw=>by
 obtain ⟨ad,cap,rfl⟩:=Has.own_slice (hw.pick c.p);refine en Tryz.func185 Tryz.ntmps185 fun a hs=>?_;refine sv hs hw fun a hs=>?_;refine kR hs (c:=fun a hs=>?_);cases ad with
 |none=>
  refine sv hs hw fun a hs=>?_;have h0:l= []:=by
   have:=(hw.pick c.p).rd_own In.hd;obtain ⟨_,ad,cap,e,_,_,h|⟨b,o,h,_⟩⟩:=this
   ·exact List.eq_nil_of_length_eq_zero h
   ·injection e with e1 _ _;rw [←e1] at h;cases h
  subst h0;exact rt1 hs rfl rfl ⟨(none,0),rfl,hw.nilOwn 3 1⟩
 |some A=>
  rw [show (some A).isNone=false from rfl] at hs;refine sc hs ?_;refine o6 hs hw (c:=fun a ad W hw hs=>?_);refine sv hs hw fun a hs=>?_;refine lL hs (hw:=hw) (k:=0) (m:=l.length) (xs:=[]) (news:=bR l) (hsrc:=eZ ((hw.pick (Pick.tl c.p)).rd_own In.hd) (aGM l)) (h63:=by omega) (hb:=by omega) (c:=fun a ad2 cap2 W hs hw=>?_);rw [List.nil_append,Nat.zero_add] at hw;rw [Nat.zero_add] at hs;refine sv hs hw fun a hs=>?_
  exact rt1 hs rfl rfl ⟨(ad2,cap2),rfl,hw⟩⟩
theorem aGN (hl:l.length≤1000) [c:dH (fun l=>aM sl l) L l L1]:New prog 133 [sl] L Nat (fun p=> .pointer (some ⟨p,0,none⟩)) (fun p=>gA p (jC l)::L):=⟨fun {w W} hw=>by
 refine en Tryz.func133 Tryz.ntmps133 fun a hs=>?_;refine sx hs hw fun a W hs hw=>?_;unfold jC;cases h:dB l with
 |true=>
  rw [h] at hs;refine sv hs hw fun a hs=>?_;refine sg hs hw (fun v a W hs hw=>?_) (g:=wS hl);refine sv hs hw fun a hs=>?_;refine sn hs hw fun b a W hs hw=>?_;refine sv hs hw fun a hs=>?_;refine rt1 hs rfl rfl ⟨b,rfl,?_⟩;have hw:=(hw.nilOwn 3 1).nilOwn 3 1;exact kE (vt:=⟨l,[],[]⟩) (x:= .slice v.1 _ v.2) (hw.pm)
 |false=>
  rw [h] at hs;refine sv hs hw fun a hs=>?_;have hw:=hw.nilOwn 3 1;have hw:Has 0 w _ (aM (.slice none 0 0) []::L):=hw;refine sg hs hw (fun v a W hs hw=>?_) (g:=wS (l:=[]) (by simp));refine sv hs hw fun a hs=>?_;refine sn hs hw fun b a W hs hw=>?_;refine sv hs hw fun a hs=>?_;refine rt1 hs rfl rfl ⟨b,rfl,?_⟩;have hw:=(hw.nilOwn 3 1).nilOwn 3 1
  exact kE (vt:=⟨[],[],[]⟩) (x:= .slice v.1 _ v.2) (hw.sl)⟩
end
end Go.Proofs.YtgpbngfehfbndaaGreatDoor.Sw
namespace Go.Sx
open Go.RowKit
section
variable {P:Program} {ops:Array Oper} {rest:List Oper} {Q:Exit→Act→World→Prop} {a:Act} {n:Nat} {L:List (Nat×Value)} {W:World} {d:Nat} {T S:TypeId} {p:String} {e:Array Edge} {x y:Operand} {i:Nat} {q:IntKind} {s:ByteArray} {o:UInt8}
theorem wT [t:StrTy P S] (hs:Slots a n L) (ho:s.data.toList[i]? =some o) (k:∀a',Slots a' n ((d,.int .u8 (o.toNat:Int))::L)→wpList P ops Q rest a' W) (hx:ev L x=some (.string s):=by with_unfolding_all exact rfl) (hy:ev L y=some (.int q (i:Int)):=by with_unfolding_all exact rfl) (hd:Nat.blt d n=true:=by with_unfolding_all exact rfl):
  wpList P ops Q (⟨some d,.index S x y,T,p,e,none⟩::rest) a W:=by
 have h:i<s.size:=by have:=(List.getElem?_eq_some_iff.1 ho).1;rw [Array.length_toList] at this;exact this
 have h2:s[i]? =some o:=by
  rw [getElem?_pos s i h];congr 1;have:=(List.getElem?_eq_some_iff.1 ho).2;rw [←this];rfl
 refine bP hs hd (W':=W) ?_ k;simp only [execOp,hs.ev hx,hs.ev hy,Instr.index,asIntOf,Sem.run_bind,Sem.run_pure,Result.andThen_ok,run_underlying t.out];simp [h2]
end
end Go.Sx
namespace Go.Proofs.YtgpbngfehfbndaaGreatDoor.Sw
open Go.RowKit Go.Sx
open Go.Proofs.Tryz (prog)
def iS (s:List UInt8):List Int:=s.map fun c=>(c.toNat:Int) - 48
theorem aGO (s:List UInt8):dL s=match dB (iS s) with|false=>([],false)|true=>(iS s,true):=rfl
section
variable {L L1:List Res} {s:ByteArray}
theorem sP (hl:s.size≤1000000):New prog 189 [.string s] L (Option Addr×Nat) (fun x=> .tuple ⟨[.slice x.1 (dL s.data.toList).1.length x.2,.bool (dL s.data.toList).2]⟩) (fun x=>aM (.slice x.1 (dL s.data.toList).1.length x.2) (dL s.data.toList).1::L):=⟨fun {w W} hw=>by
 have hll:s.data.toList.length=s.size:=Array.length_toList;have hw:=hw.nilOwn 3 1;have hw:Has 0 w W (aM (.slice none 0 0) []::L):=hw;refine en Tryz.func189 Tryz.ntmps189 fun a hs=>?_;refine sv hs hw fun a hs=>?_;refine bX (σ:=Nat×Option Addr×Nat) (fun u=>[(0,.string s),(4,.slice u.2.1 (iS (s.data.toList.take u.1)).length u.2.2),(6,.string s),(7,.int .i64 (s.size:Int)),(8,.int .i64 (u.1:Int))]) (fun u=>aM (.slice u.2.1 (iS (s.data.toList.take u.1)).length u.2.2) (iS (s.data.toList.take u.1))::L) (fun u=>u.1≤s.size) (fun u=>s.size - u.1) (0,none,0) (Nat.zero_le _) hs ⟨rfl,rfl,rfl,rfl,rfl,trivial⟩ hw ?_;clear hs hw;rintro ⟨i,ad,cap⟩ a W hi hs hw;have hi:i≤s.size:=hi;simp only at hs hw;refine sv hs hw fun a hs=>?_;refine cI hs (kt:=fun hc=>?_) (kf:=fun hc=>?_)
 ·have hi':i<s.size:=by simpa using hc
  obtain ⟨o,ho,hd⟩:=dP (show i<s.data.toList.length by omega);have hn:iS (s.data.toList.take (i+1))=iS (s.data.toList.take i) ++ [(o.toNat:Int) - 48]:=by unfold iS;rw [fQ ho,List.map_append];rfl
  have hk:(iS (s.data.toList.take i)).length≤1000000:=by unfold iS;rw [List.length_map,List.length_take];omega
  refine sv hs hw fun a hs=>?_;refine wT hs ho fun a hs=>?_;refine sv hs hw fun a hs=>?_;have hu:o.toNat<256:=o.toNat_lt;rw [show IntKind.i64.wrap (IntKind.i64.wrap (o.toNat:Int) - 48)=(o.toNat:Int) - 48 by rw [IntWalk.i64_in (o.toNat:Int) (by omega),IntWalk.i64_in _ (by omega)]] at hs;refine sn hs hw fun b a W hs hw=>?_;refine mG hs hw (Pick.hd:Pick (aM (.slice ad (iS (s.data.toList.take i)).length cap) (iS (s.data.toList.take i))) _ _) (by omega) fun a ad cap W hs hw=>?_;rw [←hn] at hs hw;refine sv hs hw fun a hs=>?_;exact bS (i+1,ad,cap) hs hw hi' (by show s.size - (i+1)<s.size - i;omega) ⟨rfl,rfl,rfl,rfl,bU (i1 (by omega)),trivial⟩
 ·have:s.data.toList.take i=s.data.toList:=List.take_of_length_le (by simp at hc;omega);rw [this] at hs hw;rw [aGO];refine sx hs hw fun a W hs hw=>?_;cases h:dB (iS s.data.toList) with
  |true=>
   rw [h] at hs;refine sv hs hw fun a hs=>?_;exact rt2 hs rfl rfl rfl ⟨(ad,cap),rfl,hw⟩
  |false=>
   rw [h] at hs;refine sv hs hw fun a hs=>?_
   exact rt2 hs rfl rfl rfl ⟨(none,0),rfl,(hw.d1).nilOwn 3 1⟩⟩
end
instance mpDisk:Mp prog 143 9 142:=⟨by kernel_rfl,by kernel_rfl⟩
theorem kF (W:World):(zeroValue 142).run prog W= .ok (.pointer none) W:=by kernel_rfl
theorem lY (k:ByteArray) (v:Value):i0 [(k,v)] k=some v:=by simp [i0,rN]
theorem aBM (k:ByteArray) (v v':Value):fW [(k,v)] k v'= [(k,v')]:=by simp [fW,rN]
abbrev eX (f:Nat) (v:Value) (lasts:Nat) (there:Bool):Res:=aA f [v,.int .i64 (lasts:Int),.bool there] 148
abbrev dJ (p m:Nat) (c:Int):Res:=aA p [.map (some m),.int .i64 c] 145
abbrev ptr (p:Nat):Value:= .pointer (some ⟨p,0,none⟩)
def aB (nm:ByteArray) (p:Nat):bM→Res
 |none=>Ex fun x:Nat×Int=>dJ p x.1 x.2::bN x.1 []:: []
 |some fd=>Ex fun x:Nat×Int×Nat×Value=>dJ p x.1 x.2.1::bN x.1 [(nm,ptr x.2.2.1)]::eX x.2.2.1 x.2.2.2 fd.lasts fd.there::bG x.2.2.2 fd.b:: []
section
variable {nm:ByteArray} {p m f:Nat} {c:Int} {v:Value} {w W:World} {R L:List Res} {fd:jD} {d:bM}
theorem p0 (h:Has 0 w W (aB nm p none::R)):∃m c,Has 0 w W (dJ p m c::bN m []::R):=by
 obtain ⟨⟨m,c⟩,h⟩:=Has.open (show Has 0 w W (Ex (fun x:Nat×Int=>dJ p x.1 x.2::bN x.1 []:: [])::R) from h);exact ⟨m,c,h⟩
theorem wU (h:Has 0 w W (dJ p m c::bN m []::R)):Has 0 w W (aB nm p none::R):=Has.shut (m,c) h
theorem nY (h:Has 0 w W (aB nm p (some fd)::R)):∃m c f ad cap,Has 0 w W (dJ p m c::bN m [(nm,ptr f)]::eX f (.slice ad fd.b.length cap) fd.lasts fd.there::bG (.slice ad fd.b.length cap) fd.b::R):=by
 obtain ⟨⟨m,c,f,v⟩,h⟩:=Has.open (show Has 0 w W (Ex (fun x:Nat×Int×Nat×Value=>dJ p x.1 x.2.1::bN x.1 [(nm,ptr x.2.2.1)]::eX x.2.2.1 x.2.2.2 fd.lasts fd.there::bG x.2.2.2 fd.b:: [])::R) from h);have h:Has 0 w W (dJ p m c::bN m [(nm,ptr f)]::eX f v fd.lasts fd.there::bG v fd.b::R):=h;obtain ⟨ad,cap,rfl⟩:=Has.own_slice (h.pm:Has 0 w W (bG v fd.b::dJ p m c::bN m [(nm,ptr f)]::eX f v fd.lasts fd.there::R));exact ⟨m,c,f,ad,cap,h⟩
theorem lZ (h:Has 0 w W (dJ p m c::bN m [(nm,ptr f)]::eX f v fd.lasts fd.there::bG v fd.b::R)):Has 0 w W (aB nm p (some fd)::R):=Has.shut (m,c,f,v) h
theorem wV:New prog 75 [] L Nat ptr (fun p=>aB nm p none::L):=⟨fun {w W} hw=>by
 refine en Tryz.func75 Tryz.ntmps75 fun a hs=>?_;refine sv hs hw fun a hs=>?_;refine z7 hs hw (c:=fun a m W hw hs=>?_);refine sv hs hw fun a hs=>?_;refine sn hs hw fun b a W hs hw=>?_;refine sv hs hw fun a hs=>?_
 exact rt1 hs rfl rfl ⟨b,rfl,wU hw⟩⟩
def lA (s:List UInt8):Bool:=s.all (fun c=>!decide (c.toNat<97) && !decide (c.toNat > 122)) && !s.isEmpty && decide (s.length≤10)
theorem wW {s:ByteArray} (hs9:s.size≤1000):Get prog 230 [.string s] L (.bool (lA s.data.toList)) L:=⟨fun {w W} hw=>by
 have hsl:s.data.toList.length=s.size:=by rw [Array.length_toList];rfl
 refine en Tryz.func230 Tryz.ntmps230 fun a hs=>?_;refine sv hs hw fun a hs=>?_;refine bX (σ:=Nat) (fun i=>[(0,.string s),(5,.int .i64 (s.size:Int)),(6,.int .i64 (i:Int))]) (fun _=>L) (fun i=>i≤s.size∧s.data.toList.all (fun c=>!decide (c.toNat<97) && !decide (c.toNat > 122))=(s.data.toList.drop i).all (fun c=>!decide (c.toNat<97) && !decide (c.toNat > 122))) (fun i=>s.size - i) 0 ⟨Nat.zero_le _,rfl⟩ hs ⟨rfl,rfl,rfl,trivial⟩ hw ?_;clear hs hw;rintro i a W ⟨hi,hh⟩ hs hw;refine sv hs hw fun a hs=>?_;refine cI hs (kt:=fun hc=>?_) (kf:=fun hc=>?_)
 ·have hi':i<s.size:=by simpa using hc
  obtain ⟨o,ho,hd⟩:=dP (show i<s.data.toList.length by omega);rw [hd,List.all_cons] at hh;refine sv hs hw fun a hs=>?_;refine wT hs ho fun a hs=>?_;refine sv hs hw fun a hs=>?_;cases c1:decide ((o.toNat:Int)<97) with
  |true=>
   rw [c1] at hs;refine sv hs hw fun a hs=>?_;have h1:decide (o.toNat<97)=true:=decide_eq_true (by have:=of_decide_eq_true c1;omega);exact rt1 hs rfl rfl ⟨by unfold lA;rw [hh,h1];rfl,hw⟩
  |false=>
  rw [c1] at hs;have h1:decide (o.toNat<97)=false:=decide_eq_false (by have:=of_decide_eq_false c1;omega);refine sv hs hw fun a hs=>?_;refine wT hs ho fun a hs=>?_;refine sv hs hw fun a hs=>?_;cases c2:decide ((o.toNat:Int) > 122) with
  |true=>
   rw [c2] at hs;refine sv hs hw fun a hs=>?_;have h2:decide (o.toNat > 122)=true:=decide_eq_true (by have:=of_decide_eq_true c2;omega);exact rt1 hs rfl rfl ⟨by unfold lA;rw [hh,h1,h2];rfl,hw⟩
  |false=>
   rw [c2] at hs;have h2:decide (o.toNat > 122)=false:=decide_eq_false (by have:=of_decide_eq_false c2;omega);rw [h1,h2] at hh;refine sv hs hw fun a hs=>?_;exact bS (i+1) hs hw ⟨hi',hh⟩ (by omega) ⟨rfl,rfl,bU (i1 (by omega)),trivial⟩
 ·have:s.data.toList.drop i= []:=List.drop_eq_nil_of_le (by simp at hc;omega);rw [this] at hh;refine sv hs hw fun a hs=>?_;cases c3:(!(s.toList == (⟨#[]⟩:ByteArray).toList)) with
  |false=>
   rw [c3] at hs;refine sv hs hw fun a hs=>?_;rw [Go.ByteArray.toList_eq,Go.ByteArray.toList_eq] at c3;have h3:s.data.toList.isEmpty=true:=by simp at c3;simp [c3]
   exact rt1 hs rfl rfl ⟨by unfold lA;rw [h3];simp,hw⟩
  |true=>
   rw [c3] at hs;refine sv hs hw fun a hs=>?_;rw [Go.ByteArray.toList_eq,Go.ByteArray.toList_eq] at c3;have h3:s.data.toList.isEmpty=false:=by simp at c3;simp [c3]
   refine rt1 hs rfl rfl ⟨?_,hw⟩;unfold lA;rw [h3,hh,hsl];simp
   by_cases h4:s.size≤10 <;> simp [h4] <;> omega⟩
theorem aBN (w0 W:World) (nm:ByteArray) (hns:nm.size≤1000) (hn:lA nm.data.toList=true) (d d':bM) (l:List UInt8) (v:Value) (R:List Res) (h:kA d l=some d') (hr:∀{W},Has 0 w0 W R→RdB W v l) (hw:Has 0 w0 W (aB nm p d::R)):
  Calls prog 239 ⟨[ptr p,.string nm,v]⟩ W fun e W'=>e= .returned (.int .i64 0)∧Has 0 w0 W' (aB nm p d'::R):=by
 have hlen:l.length≤1048576:=by
  unfold kA at h;simp only [Option.ite_none_right_eq_some] at h;omega
 obtain ⟨vad,vcap,rfl⟩:∃ad cap,v= .slice ad l.length cap:=by
  have:=hr (hw.d1);obtain ⟨_,ad,cap,e,_⟩:=this;exact ⟨ad,cap,e⟩
 cases d with
 |none=>
  obtain ⟨m,c,hw⟩:=p0 hw;refine en Tryz.func239 Tryz.ntmps239 fun a hs=>?_;refine sx hs hw fun a W hs hw=>?_;refine cl hs ((wW hns).ok hw) fun a W hs hw=>?_;rw [hn] at hs;refine sv hs hw fun a hs=>?_;refine i5 hs (hw:=hw) (hz:=kF) (c:=fun a hs=>?_);refine sv hs hw fun a hs=>?_;refine sn hs hw fun f a W hs hw=>?_;refine sv hs hw fun a hs=>?_;rw [show decide (((0:Nat):Int) > IntKind.i64.wrap (1048576 - (l.length:Int)))=false from decide_eq_false (by rw [IntWalk.i64_in _ (by omega)];omega)] at hs;refine sv hs hw fun a hs=>?_;refine gQ hs (hw.nilB 5) (l:=[]) (m:=l) (hr:=eZ (hr (hw.sl)) (iY l)) (hb:=by simp;omega) (c:=fun a ad cap W hs hw=>?_);refine sx hs hw fun a W hs hw=>?_;refine nI hs (hw:=hw) (v:=ptr f) (c:=fun W hs hw=>?_);refine sv hs hw fun a hs=>?_;refine rt1 hs rfl rfl ⟨rfl,?_⟩;have e:d'=some ⟨l,0,false⟩:=by
   unfold kA at h;simp at h;exact h.2.symm
  subst e;exact lZ (f:=f) (c:=IntKind.i64.wrap (c+1)) (hw.pm)
 |some fd=>
  obtain ⟨m,c,f,ad,cap,hw⟩:=nY hw;have hle:fd.b.length+l.length≤1048576:=by
   unfold kA at h;simp only [Option.ite_none_right_eq_some,Option.getD_some] at h;omega
  refine en Tryz.func239 Tryz.ntmps239 fun a hs=>?_;refine sx hs hw fun a W hs hw=>?_;refine cl hs ((wW hns).ok hw) fun a W hs hw=>?_;rw [hn] at hs;refine sv hs hw fun a hs=>?_;refine i5 hs (hw:=hw) (hz:=kF) (c:=fun a hs=>?_);rw [lY] at hs;refine sv hs hw fun a hs=>?_;rw [show decide ((fd.b.length:Int) > IntKind.i64.wrap (1048576 - (l.length:Int)))=false from decide_eq_false (by rw [IntWalk.i64_in _ (by omega)];omega)] at hs;refine sv hs hw fun a hs=>?_;refine gQ hs hw (l:=fd.b) (m:=l) (hr:=eZ (hr (hw.sl)) (iY l)) (hb:=by omega) (c:=fun a ad cap W hs hw=>?_);refine sx hs hw fun a W hs hw=>?_;refine nI hs (hw:=hw) (v:=ptr f) (c:=fun W hs hw=>?_);rw [aBM] at hw;refine sv hs hw fun a hs=>?_;refine rt1 hs rfl rfl ⟨rfl,?_⟩;have e:d'=some {fd with b:=fd.b ++ l}:=by
   unfold kA at h;simp only [Option.ite_none_right_eq_some,Option.getD_some,Option.some.injEq] at h;exact h.2.symm
  subst e;exact lZ (f:=f) (c:=IntKind.i64.wrap (c+1)) (fd:={fd with b:=fd.b ++ l}) (hw.pm)
theorem aBO (w0 W:World) (nm:ByteArray) (d d':bM) (R:List Res) (h:pU d=some d') (hw:Has 0 w0 W (aB nm p d::R)):
  Calls prog 240 ⟨[ptr p,.string nm]⟩ W fun e W'=>e= .returned (.int .i64 0)∧Has 0 w0 W' (aB nm p d'::R):=by
 cases d with
 |none=>cases h
 |some fd=>
  obtain rfl:=Option.some.inj h;obtain ⟨m,c,f,ad,cap,hw⟩:=nY hw;refine en Tryz.func240 Tryz.ntmps240 fun a hs=>?_;refine sx hs hw fun a W hs hw=>?_;refine i5 hs (hw:=hw) (hz:=kF) (c:=fun a hs=>?_);rw [lY] at hs;refine sx hs hw fun a W hs hw=>?_;refine rt1 hs rfl rfl ⟨rfl,?_⟩;exact lZ (f:=f) (c:=IntKind.i64.wrap (c+1)) (fd:={fd with lasts:=fd.b.length,there:=true}) (hw.pm)
end
section
variable {nm:ByteArray} {p m f:Nat} {c:Int} {v:Value} {w W:World} {R L:List Res} {fd:jD} {d:bM}
theorem wX (w0 W:World) (l:List UInt8) (v:Value) (R:List Res) (hl:l.length≤1000000000) (hr:∀{W},Has 0 w0 W R→RdB W v l) (hw:Has 0 w0 W R):
  Calls prog 84 ⟨[v]⟩ W fun e W'=>∃s:Option Addr×Nat,e= .returned (.slice s.1 l.length s.2)∧True∧Has 0 w0 W' (bG (.slice s.1 l.length s.2) l::R):=by
 obtain ⟨ad,cap,rfl⟩:∃ad cap,v= .slice ad l.length cap:=by obtain ⟨_,ad,cap,e,_⟩:=hr hw;exact ⟨ad,cap,e⟩
 refine en Tryz.func84 Tryz.ntmps84 fun a hs=>?_;refine sv hs hw fun a hs=>?_;refine kR hs (c:=fun a hs=>?_);cases ad with
 |none=>
  refine sv hs hw fun a hs=>?_;have h0:l= []:=by
   obtain ⟨_,ad,cap,e,_,_,h|⟨b,o,h,_⟩⟩:=hr hw
   ·exact List.eq_nil_of_length_eq_zero h
   ·injection e with e1 _ _;rw [←e1] at h;cases h
  subst h0;exact rt1 hs rfl rfl ⟨(none,0),rfl,trivial,hw.nilB 5⟩
 |some A=>
  rw [show (some A).isNone=false from rfl] at hs;refine sc hs ?_;refine o6 hs hw (c:=fun a ad W hw hs=>?_);refine sv hs hw fun a hs=>?_;refine gQ hs (hw:=hw) (l:=[]) (m:=l) (hr:=eZ (hr (hw.d1)) (iY l)) (hb:=by simp;omega) (c:=fun a ad2 cap2 W hs hw=>?_);refine sv hs hw fun a hs=>?_;exact rt1 hs rfl rfl ⟨(ad2,cap2),rfl,trivial,hw⟩
theorem aGP (h:Has 0 w W (aB nm p d::R)):∃m c d0,(∀v,fW d0 nm v= [(nm,v)])∧Has 0 w W (dJ p m c::bN m d0::R):=by
 cases d with
 |none=>
  obtain ⟨m,c,h⟩:=p0 h;exact ⟨m,c,[],fun _=>rfl,h⟩
 |some fd=>
  obtain ⟨m,c,f,ad,cap,h⟩:=nY h;exact ⟨m,c,_,fun v=>aBM nm _ v,h.sl⟩
theorem aGQ (w0 W:World) (nm:ByteArray) (hns:nm.size≤1000) (hn:lA nm.data.toList=true) (d d':bM) (l:List UInt8) (v:Value) (R:List Res) (h:mS l=some d') (hr:∀{W},Has 0 w0 W R→RdB W v l) (hw:Has 0 w0 W (aB nm p d::R)):
  Calls prog 152 ⟨[ptr p,.string nm,v]⟩ W fun e W'=>e= .returned (.int .i64 0)∧Has 0 w0 W' (aB nm p d'::R):=by
 have hlen:l.length≤1048576∧d'=some ⟨l,l.length,true⟩:=by
  unfold mS at h;simp only [Option.ite_none_right_eq_some,Option.some.injEq] at h;exact ⟨h.1,h.2.symm⟩
 obtain ⟨hlen,rfl⟩:=hlen;obtain ⟨m,c,d0,hd,hw⟩:=aGP hw;obtain ⟨vad,vcap,rfl⟩:∃ad cap,v= .slice ad l.length cap:=by
  obtain ⟨_,ad,cap,e,_⟩:=hr (hw.d2);exact ⟨ad,cap,e⟩
 refine en Tryz.func152 Tryz.ntmps152 fun a hs=>?_;refine sx hs hw fun a W hs hw=>?_;refine cl hs ((wW hns).ok hw) fun a W hs hw=>?_;rw [hn] at hs;refine sv hs hw fun a hs=>?_;rw [show decide ((l.length:Int) > 1048576)=false from decide_eq_false (by omega)] at hs;refine zG hs ?_;replace hw:Has 0 w0 W (dJ p m (IntKind.i64.wrap (c+1))::bN m d0::R):=hw;refine bB [6,10,11] [.f 0 2,.f 0 2,.f 0 2,.f 0 2,.f 0 2,.f 0 0,.m 0,.f 0 1,.f 0 1,.f 1 1,.m 1,.m 2] [.c0 _,.c0 _,.c0 _,.c0 _,.c0 _,.c0 _,.c1 (fun x=> .slice x.ad l.length x.cap),.c0 _,.c0 _,.c1 _,.c2 (fun x y=> .pointer (some ⟨y.n,0,none⟩)),.c3 (fun x y z=>undef)] (dJ p m (IntKind.i64.wrap (c+1))::bN m d0::R) (fun x=>bG (.slice x.ad l.length x.cap) l::dJ p m (IntKind.i64.wrap (c+1))::bN m d0::R) (fun x y=>eX y.n (.slice x.ad l.length x.cap) l.length true::bG (.slice x.ad l.length x.cap) l::dJ p m (IntKind.i64.wrap (c+1))::bN m d0::R) (fun x y z=>eX y.n (.slice x.ad l.length x.cap) l.length true::bG (.slice x.ad l.length x.cap) l::dJ p m (IntKind.i64.wrap (c+1))::bN m [(nm,ptr y.n)]::R) (fun x y z t=>[]) hs hw ?kk ⟨drs,drs,drs,drs,drs,drs,?m0,drs,drs,drs,drn,?m2,trivial⟩
 case m0=>
  intro x y z t LD a W hs hw;refine aH hs (hc:=wX w0 W l _ _ (by omega) (fun h=>hr (h.d2)) hw) (k:=?_);rintro e' W' ⟨s,rfl,_,hw⟩;exact ⟨_,rfl,fun a hs=>⟨{ad:=s.1,cap:=s.2},hs,hw⟩⟩
 case m2=>
  intro x y z t LD a W hs hw;refine nI hs (hw:=hw) (v:=ptr y.n) (c:=fun W hs hw=>?_);rw [hd] at hw;exact ⟨{},hs,hw⟩
 case kk=>
  intro x y z a W hs hw;refine sv hs hw fun a hs=>?_;exact rt1 hs rfl rfl ⟨rfl,lZ (f:=y.n) (fd:=⟨l,l.length,true⟩) (hw.pm)⟩
theorem aBP (w0 W:World) (nm:ByteArray) (R:List Res) (hw:Has 0 w0 W (aB nm p none::R)):
  Calls prog 148 ⟨[ptr p,.string nm]⟩ W fun e W'=>e= .returned (.tuple ⟨[.slice none 0 0,.int .i64 13]⟩)∧Has 0 w0 W' (aB nm p none::R):=by
 obtain ⟨m,c,hw⟩:=p0 hw;refine en Tryz.func148 Tryz.ntmps148 fun a hs=>?_;refine sv hs hw fun a hs=>?_;refine i5 hs (hw:=hw) (hz:=kF) (c:=fun a hs=>?_);refine sv hs hw fun a hs=>?_;exact rt2 hs rfl rfl rfl ⟨rfl,wU hw⟩
theorem aGR (w0 W:World) (nm:ByteArray) (fd:jD) (hl:fd.b.length≤1000000000) (R:List Res) (hw:Has 0 w0 W (aB nm p (some fd)::R)):
  Calls prog 148 ⟨[ptr p,.string nm]⟩ W fun e W'=>∃s:Option Addr×Nat,e= .returned (.tuple ⟨[.slice s.1 fd.b.length s.2,.int .i64 0]⟩)∧True∧Has 0 w0 W' (bG (.slice s.1 fd.b.length s.2) fd.b::aB nm p (some fd)::R):=by
 obtain ⟨m,c,f,ad,cap,hw⟩:=nY hw;refine en Tryz.func148 Tryz.ntmps148 fun a hs=>?_;refine sv hs hw fun a hs=>?_;refine i5 hs (hw:=hw) (hz:=kF) (c:=fun a hs=>?_);rw [lY] at hs;refine sv hs hw fun a hs=>?_;refine i5 hs (hw:=hw) (hz:=kF) (c:=fun a hs=>?_);rw [lY] at hs;refine sv hs hw fun a hs=>?_;refine cle hs (wX w0 W fd.b _ _ hl (fun h=>h.rd_own (In.tl (In.tl (In.tl In.hd)))) hw) fun s a W _ hs hw=>?_;refine sv hs hw fun a hs=>?_;refine rt2 hs rfl rfl rfl ⟨s,rfl,trivial,?_⟩;have hw:Has 0 w0 W (aB nm p (some fd)::bG (.slice s.1 fd.b.length s.2) fd.b::R):=lZ (f:=f) (hw.pm);exact hw.swap2
end
def EE (e:bY) (c:List Value):Prop:=c=bA e
theorem EE.len:∀(x:bY) (c:List Value),EE x c→c.length=4:=by rintro x c rfl;rfl
theorem nZ:∀l:List bY,Ch EE l (l.flatMap bA)
 | []=>rfl
 |x::l=>⟨bA x,l.flatMap bA,rfl,rfl,nZ l⟩
section
variable {p n cap:Nat} {s:dI} {v:Value} {ad:Option Addr} {l:LogD} {L L1:List Res}
instance log_FirstC [c:o8 (fun s v=>eW p s v) L s v L1]:Get prog 118 [.pointer (some ⟨p,0,none⟩)] L (.int .i64 (w64 (s.ix+1))) L:=⟨fun {w W} hw=>by
 have hw:=hw.pick c.p;refine en Tryz.func118 Tryz.ntmps118 fun a hs=>?_;refine sv hs hw fun a hs=>?_
 exact rt1 hs rfl rfl ⟨rfl,hw.unpick c.p⟩⟩
instance log_LastC [c:o8 (fun s v=>eW p s v) L s (.slice ad n cap) L1]:Get prog 137 [.pointer (some ⟨p,0,none⟩)] L (.int .i64 (w64 (s.ix+(n:Int)))) L:=⟨fun {w W} hw=>by
 have hw:=hw.pick c.p;refine en Tryz.func137 Tryz.ntmps137 fun a hs=>?_;refine sv hs hw fun a hs=>?_;refine rgp [_,_,_,_,_,_,_,_,_,_,_,_] hs hw fun a W hs hw=>?_;refine sc hs ?_
 exact rt1 hs rfl rfl ⟨rfl,hw.unpick c.p⟩⟩
instance log_First [c:dH (fun l=>aG p l) L l L1]:Get prog 118 [.pointer (some ⟨p,0,none⟩)] L (.int .i64 l.first) L:=⟨fun {w W} hw=>by
 obtain ⟨hl,ad,cap,h⟩:=iQ (hw.pick c.p)
 exact ((log_FirstC (s:=l.s)).ok h).mono fun e W' ⟨h1,h2⟩=>⟨h1,(iC h2 hl).unpick c.p⟩⟩
instance log_Last [c:dH (fun l=>aG p l) L l L1]:Get prog 137 [.pointer (some ⟨p,0,none⟩)] L (.int .i64 l.last) L:=⟨fun {w W} hw=>by
 obtain ⟨hl,ad,cap,h⟩:=iQ (hw.pick c.p)
 exact ((log_LastC (s:=l.s)).ok h).mono fun e W' ⟨h1,h2⟩=>⟨h1,(iC h2 hl).unpick c.p⟩⟩
theorem aGS {l:LogD} {i:Nat} (hi:i<l.l.length):∃e,l.l[i]? =some e∧l.l.getD i fF=e:=by
 obtain ⟨e,he,_⟩:=dP hi;exact ⟨e,he,by rw [List.getD_eq_getElem?_getD,he];rfl⟩
theorem sQ {l:LogD} (h:kD l):l.first=l.s.ix+1:=IntWalk.i64_in _ (by have:=h.1;have:=h.2.1;omega)
theorem n9 {l:LogD} (h:kD l):l.last=l.s.ix+(l.l.length:Int):=IntWalk.i64_in _ (by have:=h.1;have:=h.2.1;have:=h.2.2.1;omega)
instance log_Term {i:Int} [c:dH (fun l=>aG p l) L l L1]:Get prog 120 [.pointer (some ⟨p,0,none⟩),.int .i64 i] L (.tuple ⟨[.int .i64 (l.term i).1,.bool (l.term i).2]⟩) L:=⟨fun {w W} hw=>by
 obtain ⟨hl,ad,cap,hw⟩:=iQ (hw.pick c.p);have hf:=sQ hl;have hla:=n9 hl;have ⟨hl0,hl1,hl2,_,_⟩:=hl;refine en Tryz.func120 Tryz.ntmps120 fun a hs=>?_;refine sv hs hw fun a hs=>?_;cases c1:decide (i<l.s.ix) with
 |true=>
  rw [c1] at hs;refine sv hs hw fun a hs=>?_;have e:l.term i=(0,false):=by unfold LogD.term;rw [if_pos (.inl (of_decide_eq_true c1))]
  rw [e];exact rt2 hs rfl rfl rfl ⟨rfl,(iC hw hl).unpick c.p⟩
 |false=>
 rw [c1] at hs;refine sx hs hw fun a W hs hw=>?_;rw [show w64 (l.s.ix+(l.l.length:Int))=l.last from rfl] at hs;cases c2:decide (i > l.last) with
 |true=>
  rw [c2] at hs;refine sv hs hw fun a hs=>?_;have e:l.term i=(0,false):=by unfold LogD.term;rw [if_pos (.inr (of_decide_eq_true c2))]
  rw [e];exact rt2 hs rfl rfl rfl ⟨rfl,(iC hw hl).unpick c.p⟩
 |false=>
 rw [c2] at hs;refine sv hs hw fun a hs=>?_;have g1:=of_decide_eq_false c1;have g2:=of_decide_eq_false c2;cases c3:(i == l.s.ix) with
 |true=>
  rw [c3] at hs;refine sv hs hw fun a hs=>?_;have e:l.term i=(l.s.term,true):=by unfold LogD.term;rw [if_neg (by omega),if_pos (by simpa using c3)]
  rw [e];exact rt2 hs rfl rfl rfl ⟨rfl,(iC hw hl).unpick c.p⟩
 |false=>
 rw [c3] at hs;have g3:i≠l.s.ix:=by simpa using c3
 obtain ⟨k,hk⟩:∃k:Nat,w64 (i - l.first)=(k:Int):=⟨(i - l.first).toNat,by rw [show w64 (i - l.first)=i - l.first from IntWalk.i64_in _ (by omega)];omega⟩
 have hkl:k<l.l.length:=by rw [show w64 (i - l.first)=i - l.first from IntWalk.i64_in _ (by omega)] at hk;omega
 obtain ⟨e,he,hd⟩:=aGS hkl;have et:l.term i=(e.term,true):=by unfold LogD.term LogD.at;rw [if_neg (by omega),if_neg g3,hk,Int.toNat_natCast,hd]
 rw [et];refine sc hs ?_;obtain ⟨g,cur,rfl,hcur,hcl,hkc,hcm,hw⟩:=(show Has _ _ _ (Sx.Own 137 4 _ _ _::eW p l.s _::L1) from hw.swap2).open_own (by omega);have hat:cur[k*4+1]? =some (.int .i64 e.term):=Ch.at_cur (R:=EE) (l:=l.l) (a:=e) (j:=1) (by obtain ⟨c0,h1,h2⟩:=(nZ l.l).mem EE.len he;obtain rfl:c0=_:=h1;exact h2) hcur rfl
 refine gS [_,_,_,_,_,_,_,_,_,_,_,_,_] (fun _=>_) hs hw (ho:=⟨dr,dr,dr,dr,dr,dr,dr,by
   intro LD D a W hcl hi hp hs hw;refine sv hs hw fun a hs=>?_;rw [show IntKind.i64.wrap (i - w64 (l.s.ix+1))=(k:Int) from hk] at hs;exact ⟨hs,hw⟩,by
   intro LD D a W hcl hi hp hs hw;refine eL hs (z:=[.int .i64 0,.int .i64 0,.int .i64 0,.string ⟨#[]⟩]) (h0:=by omega) (h1:=by omega) (c:=fun a hs=>?_);exact ⟨hs,hw⟩,dr,by
   intro LD D a W hcl hi hp hs hw;refine gC hs (hw:=hw) (hi:=In.hd) (hv:=by show cur[0+k*4+1]? =_;rw [show 0+k*4+1=k*4+1 by omega];exact hat) (k:=fun a hs=>?_)
   exact ⟨hs,hw⟩,dr,dr,trivial⟩) (k:=fun a W hs hw=>?_)
 refine sc hs ?_;refine rt2 hs rfl rfl rfl ⟨rfl,?_⟩
 exact (iC (hw.shut_own (k:=l.l.length) (size:=4) (cap:=cap) (xs:=l.l.flatMap bA) hcur hcl hkc hcm).swap2 hl).unpick c.p⟩
end
section
variable {p n cap:Nat} {s:dI} {v:Value} {ad:Option Addr} {l:LogD} {L L1:List Res} {i t:Int}
instance log_Fits [c:dH (fun l=>aG p l) L l L1]:Get prog 191 [.pointer (some ⟨p,0,none⟩),.int .i64 i,.int .i64 t] L (.bool (l.fits i t)) L:=⟨fun {w W} hw=>by
 refine en Tryz.func191 Tryz.ntmps191 fun a hs=>?_;refine sx hs hw fun a W hs hw=>?_;unfold LogD.fits;cases h:(l.term i).2 with
 |false=>
  rw [h] at hs;refine sv hs hw fun a hs=>?_;exact rt1 hs rfl rfl ⟨rfl,hw⟩
 |true=>
  rw [h] at hs;refine sv hs hw fun a hs=>?_
  exact rt1 hs rfl rfl ⟨rfl,hw⟩⟩
instance log_Newer [c:dH (fun l=>aG p l) L l L1]:Get prog 211 [.pointer (some ⟨p,0,none⟩),.int .i64 i,.int .i64 t] L (.bool (l.newer i t)) L:=⟨fun {w W} hw=>by
 refine en Tryz.func211 Tryz.ntmps211 fun a hs=>?_;refine sx hs hw fun a W hs hw=>?_;unfold LogD.newer;cases h:decide (t > (l.term l.last).1) with
 |true=>
  rw [h] at hs;refine sv hs hw fun a hs=>?_;exact rt1 hs rfl rfl ⟨rfl,hw⟩
 |false=>
  rw [h] at hs;refine sv hs hw fun a hs=>?_;cases h2:(t == (l.term l.last).1) with
  |false=>
   rw [h2] at hs;refine sv hs hw fun a hs=>?_;exact rt1 hs rfl rfl ⟨rfl,hw⟩
  |true=>
   rw [h2] at hs;refine sx hs hw fun a W hs hw=>?_
   exact rt1 hs rfl rfl ⟨rfl,hw⟩⟩
instance log_Snap [c:dH (fun l=>aG p l) L l L1]:Get prog 68 [.pointer (some ⟨p,0,none⟩)] L (.agg ⟨dM l.s⟩) L:=⟨fun {w W} hw=>by
 obtain ⟨hl,ad,cap,hw⟩:=iQ (hw.pick c.p);refine en Tryz.func68 Tryz.ntmps68 fun a hs=>?_;refine sc hs ?_;refine sn hs hw fun b a W hs hw=>?_;refine sx hs hw fun a W hs hw=>?_;refine rc1 hs rfl rfl hw In.hd rfl ?_
 exact ⟨rfl,(iC (hw.sl) hl).unpick c.p⟩⟩
end
abbrev zEnt:List Value:=[.int .i64 0,.int .i64 0,.int .i64 0,.string ⟨#[]⟩]
theorem aGT {l:LogD} {k:Int} {j:Nat} {e:bY} (he:l.l[j]? =some e) (hk:k - l.s.ix=(j:Int)+1):jV k ((l.l.take (k - l.s.ix).toNat).reverse)=match (dL e.data.data.toList).2 && (e.kind == 3) with|true=>some ((dL e.data.data.toList).1,k)|false=>jV (k - 1) ((l.l.take (k - 1 - l.s.ix).toNat).reverse):=by
 rw [show (k - l.s.ix).toNat=j+1 by omega,show (k - 1 - l.s.ix).toNat=j by omega,fQ he,List.reverse_append];rfl
section
variable {p:Nat} {l:LogD} {L L1:List Res} {i:Int}
theorem aGU [c:dH (fun l=>aG p l) L l L1]:New prog 119 [.pointer (some ⟨p,0,none⟩),.int .i64 i] L (Option Addr×Nat) (fun x=> .tuple ⟨[.slice x.1 (l.confAt i).1.length x.2,.int .i64 (l.confAt i).2]⟩) (fun x=>aM (.slice x.1 (l.confAt i).1.length x.2) (l.confAt i).1::L):=⟨fun {w W} hw=>by
 obtain ⟨hl,ad,cap,hw⟩:=iQ (hw.pick c.p);have hf:=sQ hl;have hla:=n9 hl;have ⟨hl0,hl1,hl2,hl3,hl4⟩:=hl;refine en Tryz.func119 Tryz.ntmps119 fun a hs=>?_;refine sx hs hw fun a W hs hw=>?_;rw [show w64 (l.s.ix+(l.l.length:Int))=l.last from rfl] at hs;refine o7 hs (k:=fun a hs=>?_);rw [show (if l.last<i then l.last else i)=min i l.last by rw [Int.min_def];split <;> split <;> omega] at hs;refine sv hs hw fun a hs=>?_;have hca:l.confAt i=match jV (min i l.last) ((l.l.take (min i l.last - l.s.ix).toNat).reverse) with
  |some x=>x
  |none=>match (dL l.s.conf.data.toList).2 with
   |true=>((dL l.s.conf.data.toList).1,l.s.ix)
   |false=>([],0):=rfl
 have hm:min i l.last≤l.last:=Int.min_le_right _ _;generalize min i l.last=K at *;refine bX (σ:=Int) (fun k=>[(0,.pointer (some ⟨p,0,none⟩)),(6,.int .i64 k)]) (fun _=>eW p l.s (.slice ad l.l.length cap)::bE (.slice ad l.l.length cap) l.l::L1) (fun k=>k≤l.last∧jV K ((l.l.take (K - l.s.ix).toNat).reverse)=jV k ((l.l.take (k - l.s.ix).toNat).reverse)) (fun k=>(k - l.s.ix).toNat) K ⟨hm,rfl⟩ hs ⟨rfl,rfl,trivial⟩ hw ?_;clear hs hw;rintro k a W ⟨hk,hrev⟩ hs hw;refine sx hs hw fun a W hs hw=>?_;rw [show w64 (l.s.ix+1)=l.first from rfl] at hs;refine cI hs (kt:=fun hc=>?_) (kf:=fun hc=>?_)
 ·have hk1:l.first≤k:=by simpa using hc
  obtain ⟨j,hj⟩:∃j:Nat,k - l.first=(j:Int):=⟨(k - l.first).toNat,by omega⟩
  have hjl:j<l.l.length:=by omega
  obtain ⟨e,he,_⟩:=dP hjl;have hstep:=aGT (k:=k) he (by omega);have hes:=hl4 e (List.mem_of_getElem? he);refine sc hs ?_;obtain ⟨g,cur,rfl,hcur,hcl0,hkc,hcm,hw⟩:=(show Has _ _ _ (Sx.Own 137 4 _ _ _::eW p l.s _::L1) from hw.swap2).open_own (by omega);have hcut:cut (l.l.flatMap bA) (j*4) 4=bA e:=by obtain ⟨c0,h1,h2⟩:=(nZ l.l).mem EE.len he;obtain rfl:c0=_:=h1;exact h2
  refine fV (σ:=Nat) (V:=fun u=>[.pointer (some ⟨p,0,none⟩),.pointer (some ⟨p,0,none⟩),.pointer (some ⟨p,0+4,none⟩),.slice (some ⟨g,0,none⟩) l.l.length cap,.int .i64 k,.pointer (some ⟨p,0,none⟩),.int .i64 (w64 (l.s.ix+1)),.int .i64 (j:Int),.pointer (some ⟨g,0+j*4,none⟩),.agg ⟨bA e⟩,.pointer (some ⟨u 10,0,none⟩),.bool true])
   (Rs:=fun u D=>(if D 10 then aA (u 10) (if D 11 then bA e else zEnt) 137 else bT)::aA g cur 137::eW p l.s (.slice (some ⟨g,0,none⟩) l.l.length cap)::L1) (fun _=>0) hs hw.free (hVu:=?vu) (ho:=⟨dru,dru,dru,dru,dru,dru,dru,?c7,?c8,?c9,?c10,?c11,trivial⟩) (k:=?kk)
  case vu=>
   intro u u' j h;rcases j with _|_|_|_|_|_|_|_|_|_|_|_|j
   all_goals first|rfl|simp [h]
  case c7=>
   intro u LD D a W hcl hi hp hs hw;refine sv hs hw fun a hs=>?_;rw [show IntKind.i64.wrap (k - w64 (l.s.ix+1))=(j:Int) by rw [show w64 (l.s.ix+1)=l.first from rfl,IntWalk.i64_in _ (by omega)];exact hj] at hs;exact Or.inl ⟨hs,hw⟩
  case c8=>
   intro u LD D a W hcl hi hp hs hw;refine eL hs (z:=zEnt) (h0:=by omega) (h1:=by omega) (c:=fun a hs=>?_);exact Or.inl ⟨hs,hw⟩
  case c9=>
   intro u LD D a W hcl hi hp hs hw
   refine eC hs (z:=zEnt) (cs:=bA e) (hc:=fun m u h=>by
    rw [hC (hw.block (In.tl In.hd)).1];have:=Ch.at_cur (R:=EE) (l:=l.l) (a:=e) (j:=m) hcut hcur h;rw [←this];congr 1;show 0+j*4+m=j*4+m
    omega) (hl:=by rfl) (c:=fun a hs=>?_)
   exact Or.inl ⟨hs,hw⟩
  case c10=>
   intro u LD D a W hcl hi hp hs hw;have h11:=Go.Sx.not_done hcl hi 11 (by kernel_rfl);simp only [hi,Bool.false_eq_true,if_false] at hw;refine sn hs hw fun b a W hs hw=>?_;refine Or.inr ⟨b,hs,?_⟩;show Has 0 w _ (aA b (if (Nat.beq 11 10 || D 11)=true then _ else _) _::_);rw [h11];exact hw.fill Upd.hd
  case c11=>
   intro u LD D a W hcl hi hp hs hw;have h10:=Go.Sx.done hp 10 (by kernel_rfl);simp only [h10,hi,Bool.false_eq_true,if_false,if_true] at hw;refine d7 hs (hw:=hw) (vs:=bA e) (k:=fun W hs hw=>?_);refine Or.inl ⟨hs,?_⟩;show Has 0 w _ ((if (Nat.beq 10 11 || D 10)=true then _ else _)::_);rw [h10];exact hw
  case kk=>
   clear hs hw;intro u a W hs hw;replace hw:Has 0 w W (aA (u 10) (bA e) 137::aA g cur 137::eW p l.s (.slice (some ⟨g,0,none⟩) l.l.length cap)::L1):=hw;replace hs:Slots a 64 [(7,.pointer (some ⟨u 10,0,none⟩)),(0,.pointer (some ⟨p,0,none⟩)),(6,.int .i64 k)]:=hs.ot;generalize u 10=b7 at *;replace hw:Has 0 w W (bE (.slice (some ⟨g,0,none⟩) l.l.length cap) l.l::aA b7 [.int .i64 e.ix,.int .i64 e.term,.int .i64 e.kind,.string e.data] 137::eW p l.s (.slice (some ⟨g,0,none⟩) l.l.length cap)::L1):=hw.swap2.shut_own (k:=l.l.length) (size:=4) (cap:=cap) (xs:=l.l.flatMap bA) hcur hcl0 hkc hcm;refine sv hs hw fun a hs=>?_;refine sg hs hw (fun x a W hs hw=>?_) (g:=sP hes);refine sv hs hw fun a hs=>?_;have again:∀{a W T} {x:Option Addr×Nat} {y:List Int},((dL e.data.data.toList).2 && (e.kind == 3))=false→Slots a 64 ((6,.int .i64 (w64 (k - 1)))::T)→lk T 0=some (ptr p)→Has 0 w W (aM (.slice x.1 y.length x.2) y::bE (.slice (some ⟨g,0,none⟩) l.l.length cap) l.l::aA b7 [.int .i64 e.ix,.int .i64 e.term,.int .i64 e.kind,.string e.data] 137::eW p l.s (.slice (some ⟨g,0,none⟩) l.l.length cap)::L1)→∃k',(k'≤l.last∧jV K ((l.l.take (K - l.s.ix).toNat).reverse)=jV k' ((l.l.take (k' - l.s.ix).toNat).reverse))∧(k' - l.s.ix).toNat<(k - l.s.ix).toNat∧Slots a 64 [(0,ptr p),(6,.int .i64 k')]∧Has 0 w W (eW p l.s (.slice (some ⟨g,0,none⟩) l.l.length cap)::bE (.slice (some ⟨g,0,none⟩) l.l.length cap) l.l::L1):=by
    intro a W T x y h1 hs h0 hw;rw [h1] at hstep;rw [show w64 (k - 1)=k - 1 from IntWalk.i64_in _ (by omega)] at hs;exact ⟨k - 1,⟨by omega,hrev.trans hstep⟩,by omega,hs.of ⟨h0,rfl,trivial⟩,hw.sl⟩
   cases h1:(dL e.data.data.toList).2 with
   |false=>
    rw [h1] at hs;refine sv hs hw fun a hs=>?_;exact again (by rw [h1];rfl) hs rfl hw
   |true=>
    rw [h1] at hs;refine sv hs hw fun a hs=>?_;cases h2:(e.kind == 3) with
    |false=>
     rw [h2] at hs;refine sv hs hw fun a hs=>?_;exact again (by rw [h2,Bool.and_false]) hs rfl hw
    |true=>
     rw [h2] at hs;refine sv hs hw fun a hs=>?_;rw [h1,h2] at hstep;rw [hrev,hstep] at hca;rw [hca];refine rt2 hs rfl rfl rfl ⟨x,rfl,?_⟩;have hw:Has 0 w _ (aG p l::aM (.slice x.1 (dL e.data.data.toList).1.length x.2) (dL e.data.data.toList).1::L1):=iC (hw.sl) hl;exact hw.unpick (Pick.tl c.p)
 ·have hk1:¬l.first≤k:=by simpa using hc
  rw [show (k - l.s.ix).toNat=0 by omega] at hrev;rw [hrev] at hca;refine sv hs hw fun a hs=>?_;refine sg hs hw (fun x a W hs hw=>?_) (g:=sP hl3);refine sv hs hw fun a hs=>?_;replace hca:l.confAt i=match (dL l.s.conf.data.toList).2 with
   |true=>((dL l.s.conf.data.toList).1,l.s.ix)
   |false=>([],0):=hca
  cases h1:(dL l.s.conf.data.toList).2 with
  |true=>
   rw [h1] at hs hca;refine sc hs ?_;refine rgp [_,_,_,_,_,_,_,_] hs hw fun a W hs hw=>?_;refine sc hs ?_;rw [hca];refine rt2 hs rfl rfl rfl ⟨x,rfl,?_⟩;have hw:Has 0 w _ (aG p l::aM (.slice x.1 (dL l.s.conf.data.toList).1.length x.2) (dL l.s.conf.data.toList).1::L1):=iC (hw.pm) hl;exact hw.unpick (Pick.tl c.p)
  |false=>
   rw [h1] at hs hca;refine sv hs hw fun a hs=>?_;rw [hca];refine rt2 hs rfl rfl rfl ⟨(none,0),rfl,?_⟩;have hw:Has 0 w _ (aG p l::L1):=iC (hw.sl) hl
   exact (hw.unpick c.p).nilOwn 3 1⟩
theorem sR [c:dH (fun l=>aG p l) L l L1]:New prog 111 [ptr p] L (Option Addr×Nat) (fun x=> .tuple ⟨[.slice x.1 l.conf.1.length x.2,.int .i64 l.conf.2]⟩) (fun x=>aM (.slice x.1 l.conf.1.length x.2) l.conf.1::L):=⟨fun {w W} hw=>by
 refine en Tryz.func111 Tryz.ntmps111 fun a hs=>?_;refine sx hs hw fun a W hs hw=>?_;refine sg hs hw (fun x a W hs hw=>?_) (g:=aGU (l:=l));refine sv hs hw fun a hs=>?_
 exact rt2 hs rfl rfl rfl ⟨x,rfl,hw⟩⟩
end
instance arTrack:Ar prog 338 8 2:=⟨by kernel_rfl⟩
theorem qF {x:Int} (h:srv x=true):0≤x∧x<8:=by
 unfold srv at h;simp at h;omega
theorem xB {l:List Int} {x:Int} (h:l.length=8) (hx:0≤x∧x<8):l[x.toNat]? =some (nth l x):=by
 unfold nth;rw [List.getD_eq_getElem?_getD,List.getElem?_eq_getElem (by omega)];rfl
theorem qG {nx mt:List Int} {x:Int} (h:nx.length=8) (hx:0≤x∧x<8):(bR nx ++ bR mt)[0+0+x.toNat*1]? =some (.int .i64 (nth nx x)):=by
 rw [show 0+0+x.toNat*1=x.toNat by omega,List.getElem?_append_left (by rw [List.length_map];omega),List.getElem?_map,xB h hx];rfl
theorem xC {nx mt:List Int} {x:Int} (h:nx.length=8) (h2:mt.length=8) (hx:0≤x∧x<8):(bR nx ++ bR mt)[0+8+x.toNat*1]? =some (.int .i64 (nth mt x)):=by
 rw [List.getElem?_append_right (by rw [List.length_map];omega),List.length_map,List.getElem?_map,show 0+8+x.toNat*1 - nx.length=x.toNat by omega,xB h2 hx];rfl
theorem xD {l:List Value} {i:Nat} {v:Value} (h:i<l.length):ov l i [v]=l.set i v:=by
 rw [jK _ _ _ (by simp;omega),List.set_eq_take_append_cons_drop,if_pos h];simp
theorem qH {nx mt:List Int} {x v:Int} (h:nx.length=8) (hx:0≤x∧x<8):ov (bR nx ++ bR mt) (0+0+x.toNat*1) [.int .i64 v]=bR (eG nx x v) ++ bR mt:=by
 rw [show 0+0+x.toNat*1=x.toNat by omega,xD (by simp;omega),List.set_append_left _ _ (by rw [List.length_map];omega)];unfold eG bR;rw [List.map_set]
theorem aGg {nx mt:List Int} {x v:Int} (h:nx.length=8) (h2:mt.length=8) (hx:0≤x∧x<8):ov (bR nx ++ bR mt) (0+8+x.toNat*1) [.int .i64 v]=bR nx ++ bR (eG mt x v):=by
 rw [xD (by simp;omega),List.set_append_right _ _ (by rw [List.length_map];omega),List.length_map,show 0+8+x.toNat*1 - nx.length=x.toNat by omega];unfold eG bR;rw [List.map_set]
theorem qI {nx mt:List Int} {x:Int} (h:nx.length=8) (h2:mt.length=8) (hx:0≤x∧x<8) (v:Value):Nat.ble (0+0+x.toNat*1+ [v].length) (bR nx ++ bR mt).length=true:=Nat.ble_eq_true_of_le (by simp;omega)
theorem aGh {nx mt:List Int} {x:Int} (h:nx.length=8) (h2:mt.length=8) (hx:0≤x∧x<8) (v:Value):Nat.ble (0+8+x.toNat*1+ [v].length) (bR nx ++ bR mt).length=true:=Nat.ble_eq_true_of_le (by simp;omega)
abbrev aGi (p:Nat) (nx mt:List Int):Res:=aA p (bR nx ++ bR mt) 340
section
variable {p:Nat} {t:TrackD} {L L1:List Res} {X i:Int}
instance track_in:Get prog 264 [.int .i64 X] L (.bool (cV X)) L:=⟨fun {w W} hw=>by
 have e:cV X=(decide (X≥0) && decide (X≤1099511627776)):=by unfold cV;by_cases h:X<0 <;> by_cases h2:X > 1099511627776 <;> simp [h,h2] <;> omega
 rw [e];refine en Tryz.func264 Tryz.ntmps264 fun a hs=>?_;refine sv hs hw fun a hs=>?_;cases c1:decide (X≥0) with
 |false=>
  rw [c1] at hs;refine sv hs hw fun a hs=>?_;exact rt1 hs rfl rfl ⟨rfl,hw⟩
 |true=>
  rw [c1] at hs;refine sv hs hw fun a hs=>?_
  exact rt1 hs rfl rfl ⟨rfl,hw⟩⟩
instance track_may:Get prog 265 [ptr p,.int .i64 X] L (.bool (srv X)) L:=⟨fun {w W} hw=>by
 refine en Tryz.func265 Tryz.ntmps265 fun a hs=>?_;refine sv hs hw fun a hs=>?_;unfold srv;cases c1:decide (X≥1) with
 |false=>
  rw [c1] at hs;refine sv hs hw fun a hs=>?_;exact rt1 hs rfl rfl ⟨rfl,hw⟩
 |true=>
  rw [c1] at hs;refine sv hs hw fun a hs=>?_
  exact rt1 hs rfl rfl ⟨rfl,hw⟩⟩
instance track_may0:Get prog 265 [.pointer none,.int .i64 X] L (.bool false) L:=⟨fun {w W} hw=>by
 refine en Tryz.func265 Tryz.ntmps265 fun a hs=>?_;refine sv hs hw fun a hs=>?_
 exact rt1 hs rfl rfl ⟨rfl,hw⟩⟩
instance track_Next [c:dH (fun t=>gL p t) L t L1]:Get prog 219 [ptr p,.int .i64 X] L (.int .i64 (t.nextOf X)) L:=⟨fun {w W} hw=>by
 obtain ⟨hl,hw⟩:=nX (hw.pick c.p);refine en Tryz.func219 Tryz.ntmps219 fun a hs=>?_;refine sx hs hw fun a W hs hw=>?_;unfold TrackD.nextOf;cases c1:srv X with
 |false=>
  rw [c1] at hs;refine sv hs hw fun a hs=>?_;exact rt1 hs rfl rfl ⟨rfl,(iR hw hl).unpick c.p⟩
 |true=>
  rw [c1] at hs;have hx:=qF c1;have hj0:=hx.1;have hj1:X<((8:Nat):Int):=hx.2;have hl1:=qG (mt:=t.mat) hl.1 hx;refine sw (P:=prog) hs hw fun a W hs hw=>?_
  exact rt1 hs rfl rfl ⟨rfl,(iR hw hl).unpick c.p⟩⟩
theorem track_Sent [c:dH (fun t=>gL p t) L t L1]:Get prog 262 [ptr p,.int .i64 X,.int .i64 i] L (.tuple ⟨[]⟩) (gL p (t.sent X i)::L1):=⟨fun {w W} hw=>by
 obtain ⟨hl,hw⟩:=nX (hw.pick c.p);have e:t.sent X i=match srv X && cV i with|false=>t|true=>⟨eG t.next X (max (nth t.next X) (w64 (i+1))),t.mat⟩:=rfl
 rw [e];refine en Tryz.func262 Tryz.ntmps262 fun a hs=>?_;refine sx hs hw fun a W hs hw=>?_;cases c1:srv X with
 |false=>
  rw [c1] at hs;refine sv hs hw fun a hs=>?_;exact cO hs rfl ⟨rfl,iR hw hl⟩
 |true=>
  rw [c1] at hs;refine sx hs hw fun a W hs hw=>?_;cases c2:cV i with
  |false=>
   rw [c2] at hs;refine sc hs ?_;exact cO hs rfl ⟨rfl,iR hw hl⟩
  |true=>
   rw [c2] at hs;refine sc hs ?_;have hx:=qF c1;have hj0:=hx.1;have hj1:X<((8:Nat):Int):=hx.2;have hl1:=qG (mt:=t.mat) hl.1 hx;have hl3:=qI hl.1 hl.2 hx (.int .i64 (max (nth t.next X) (w64 (i+1))));refine bB [14] [.f 0 0,.f 0 0,.f 0 0,.f 0 0,.f 0 0,.f 0 0,.f 0 0,.f 0 0,.f 0 0,.f 0 0,.f 0 0,.f 0 0,.f 0 0,.f 0 0,.m 0] [.c0 _,.c0 _,.c0 _,.c0 _,.c0 _,.c0 _,.c0 _,.c0 _,.c0 _,.c0 _,.c0 _,.c0 _,.c0 _,.c0 _,.c1 (fun x=>undef)] (aGi p t.next t.mat::L1) (fun x=>aA p (ov (bR t.next ++ bR t.mat) (0+0+X.toNat*1) [.int .i64 (max (nth t.next X) (w64 (i+1)))]) 340::L1) (fun x y=>[]) (fun x y z=>[]) (fun x y z t=>[]) hs hw ?kk ⟨drs,drs,drs,drs,drs,drs,drs,drs,drs,drs,drs,drs,drs,drs,drm,trivial⟩
   case kk=>
    intro _ a W hs hw;rw [qH hl.1 hx] at hw;refine cO hs rfl ⟨rfl,?_⟩
    exact iR (t:=⟨_,_⟩) hw ⟨by rw [←hl.1];simp [eG],hl.2⟩⟩
end
end Go.Proofs.YtgpbngfehfbndaaGreatDoor.Sw
