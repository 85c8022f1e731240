/-
  Texts of the proof, one behind the other (part 6).
-/
import Derived.Test.YtgpbngfehfbndaaGreatDoorM1
import Derived.Test.YtgpbngfehfbndaaGreatDoorM2
import Derived.Test.YtgpbngfehfbndaaGreatDoorM3
import Derived.Test.YtgpbngfehfbndaaGreatDoorM5
import Derived.Shelf.SlIter.Collect
import Derived.Ground.GgzProg
import Derived.Test.YtgpbngfehfbndaaGreatDoorProg
import Derived.Maps.Own
import Derived.Maps.Views
import Derived.Sort.KeysCollected
set_option maxHeartbeats 16000000
set_option linter.unusedVariables false
set_option maxRecDepth 10000
namespace Go.Proofs.YtgpbngfehfbndaaGreatDoor.Sw
open Go.RowKit Go.Sx
theorem aGO {α:Type} {l:List α} {i:Nat} {o:α} (f:α→Bool) (h:l[i]? =some o):((l.take (i+1)).filter f).length=((l.take i).filter f).length+(match f o with|true=>1|false=>0):=by
 rw [fS h,List.filter_append,List.length_append]
 cases hf:f o <;> simp [hf]
theorem aBK:∀(l:List Int) (q:Int),gD (some q) l=true→q≤7→(l.length:Int)≤7 - q
 | [],q,_,h=>by simp;omega
 |x::r,q,h,hq=>by
  simp [gD] at h
  have:=aBK r x h.2 (by omega)
  simp;omega
theorem pU {l:List Int} (h:dD l=true):l.length≤7:=by
 unfold dD at h
 cases l with
 |nil=>simp
 |cons x r=>
  simp [gD] at h
  have:=aBK r x h.2 (by omega)
  simp;omega
theorem aGP (l yes:List Int) (v u:Value) (w:World) (r:Rd w 1 v l.length (bQ l)) (r2:Rd w 1 u yes.length (bQ yes)):
  Calls Tryz.prog 209 ⟨[v,u]⟩ w fun e w'=>e= .returned (.bool (sD l yes))∧Below w.heap.size w w':=by
 have hw:=Has.start (G:=0) (w:=w) (Nat.zero_le _)
 have hlen:=r.len
 obtain ⟨ad,cap,rfl⟩:∃ad cap,v= .slice ad l.length cap:=by obtain ⟨_,ad,cap,e,_⟩:=r;exact ⟨ad,cap,e⟩
 refine enter Tryz.func209 Tryz.ntmps209 rfl rfl fun a hs=>?_
 refine sv hs hw fun a hs=>?_
 refine bX (σ:=Nat) (fun i=>[(0,.slice ad l.length cap),(1,u),(8,.slice ad l.length cap),(9,.int .i64 (l.length:Int)),(10,.int .i64 (i:Int)),(5,.int .i64 (((l.take i).filter fun x=>has yes x).length:Int))]) (fun _=>Old w 0:: []) (fun i=>i≤l.length) (fun i=>l.length - i) 0 (Nat.zero_le _) hs ⟨rfl,rfl,rfl,rfl,rfl,rfl,trivial⟩ hw ?_
 clear hs hw
 rintro i a W hi hs hw
 have hi:i≤l.length:=hi
 refine sv hs hw fun a hs=>?_
 refine cI hs (kt:=fun hc=>?_) (kf:=fun hc=>?_)
 ·have hi':i<l.length:=by simpa using hc
  obtain ⟨o,ho,hd⟩:=dS hi'
  have hf:=aGO (fun x=>has yes x) ho
  have hle:((l.take i).filter fun x=>has yes x).length≤i:=Nat.le_trans (List.length_filter_le _ _) (by rw [List.length_take];omega)
  refine sc hs ?_
  refine iA hs (hw.rd (by repeat (first|exact In.hd|apply In.tl)) hw.ext.size r) ho rfl fun a b f hs=>?_
  refine sv hs hw fun a hs=>?_
  refine cb hs hw (aBH yes u o _ (hw.rd (by repeat (first|exact In.hd|apply In.tl)) hw.ext.size r2)) fun a W hs hw=>?_
  cases c:has yes o with
  |true=>
   rw [c] at hs hf
   refine sv hs hw fun a hs=>?_
   exact bR (i+1) hs hw hi' (by omega) ⟨rfl,rfl,rfl,rfl,bS (i1 (by omega)),bS (by rw [i1 (by omega),hf]),trivial⟩
  |false=>
   rw [c] at hs hf
   refine sv hs hw fun a hs=>?_
   exact bR (i+1) hs hw hi' (by omega) ⟨rfl,rfl,rfl,rfl,bS (i1 (by omega)),bS (by rw [hf];rfl),trivial⟩
 ·have:l.take i=l:=List.take_of_length_le (by simp at hc;omega)
  rw [this] at hs
  have hle:(l.filter fun x=>has yes x).length≤l.length:=List.length_filter_le _ _
  refine sv hs hw fun a hs=>?_
  refine cb hs hw (aBI l _ _ (hw.rd (by repeat (first|exact In.hd|apply In.tl)) hw.ext.size r)) fun a W hs hw=>?_
  unfold sD
  cases c:dD l with
  |false=>
   rw [c] at hs
   refine sv hs hw fun a hs=>?_
   exact rt1 hs rfl rfl ⟨rfl,hw.end (by repeat (first|exact In.hd|apply In.tl))⟩
  |true=>
   rw [c] at hs
   refine sv hs hw fun a hs=>?_
   refine rt1 hs rfl rfl ⟨?_,hw.end (by repeat (first|exact In.hd|apply In.tl))⟩
   have h7:=pU c
   rw [if_pos rfl,IntWalk.i64_in _ (by omega),Bool.true_and]
section
variable {p:Nat} {v:VotesD} {x:Int} {l:List Int} {sl:Value} {L L1:List Res}
instance conf_MajG {yes:List Int} {u:Value} {L2:List Res} [c:dH (fun l=>aN sl l) L l L1] [c2:dH (fun l=>aN u l) L yes L2]:Get Tryz.prog 209 [sl,u] L (.bool (sD l yes)) L:=⟨fun {w W} hw=>
 (aGP l yes sl u W ((hw.pick c.p).rd_own In.hd) ((hw.pick c2.p).rd_own In.hd)).mono fun e W' ⟨h1,h2⟩=>⟨h1,hw.below h2⟩⟩
instance vote_Won [c:dH (fun v=>fW p v) L v L1]:Get Tryz.prog 135 [.pointer (some ⟨p,0,none⟩)] L (.bool v.won) L:=⟨fun {w W} hw=>by
 obtain ⟨a1,c1,a2,c2,a3,c3,hw⟩:=pT (hw.pick c.p)
 refine enter Tryz.func135 Tryz.ntmps135 rfl rfl fun a hs=>?_
 refine sv hs hw fun a hs=>?_
 refine rgp [_,_,_,_,_,_,_,_,_,_,_,_,_,_] hs hw fun a W hs hw=>?_
 refine sc hs ?_
 exact rt1 hs rfl rfl ⟨rfl,(j7 hw).unpick c.p⟩⟩
instance vote_Won0:Get Tryz.prog 135 [.pointer none] L (.bool false) L:=⟨fun {w W} hw=>by
 refine enter Tryz.func135 Tryz.ntmps135 rfl rfl fun a hs=>?_
 refine sv hs hw fun a hs=>?_
 refine rgp [_,_,_,_,_,_,_,_,_,_,_,_,_,_] hs hw fun a W hs hw=>?_
 refine sc hs ?_
 exact rt1 hs rfl rfl ⟨rfl,hw⟩⟩
instance vote_Lost [c:dH (fun v=>fW p v) L v L1]:Get Tryz.prog 213 [.pointer (some ⟨p,0,none⟩)] L (.bool v.lost) L:=⟨fun {w W} hw=>by
 obtain ⟨a1,c1,a2,c2,a3,c3,hw⟩:=pT (hw.pick c.p)
 refine enter Tryz.func213 Tryz.ntmps213 rfl rfl fun a hs=>?_
 refine sv hs hw fun a hs=>?_
 unfold VotesD.lost
 cases he:decide ((v.l.length:Int) > 0) with
 |true=>
  refine rgp [_,_,_,_,_,_,_,_,_,_,_,_,_,_,_,_,_,_,_,_,_,_,_,_,_,_,_,_,_,_,_] hs hw fun a W hs hw=>?_
  refine sc hs ?_
  refine rt1 hs rfl rfl ⟨?_,(j7 hw).unpick c.p⟩
  rw [if_pos rfl,Bool.true_and]
 |false=>
  refine rgp [_,_,_,_,_,_,_,_,_,_,_,_,_,_,_,_,_,_,_,_,_,_,_,_,_,_,_,_,_,_,_] hs hw fun a W hs hw=>?_
  refine sc hs ?_
  exact rt1 hs rfl rfl ⟨rfl,(j7 hw).unpick c.p⟩⟩
instance vote_Lost0:Get Tryz.prog 213 [.pointer none] L (.bool false) L:=⟨fun {w W} hw=>by
 refine enter Tryz.func213 Tryz.ntmps213 rfl rfl fun a hs=>?_
 refine sv hs hw fun a hs=>?_
 refine rgp [_,_,_,_,_,_,_,_,_,_,_,_,_,_,_,_,_,_,_,_,_,_,_,_,_,_,_,_,_,_,_] hs hw fun a W hs hw=>?_
 refine sc hs ?_
 exact rt1 hs rfl rfl ⟨rfl,hw⟩⟩
end
theorem aGQ (l:List Int):∀u∈bQ l,u.oneCell'=true:=by intro v hv;obtain ⟨x,_,rfl⟩:=List.mem_map.1 hv;rfl
section
variable {p:Nat} {v:VotesD} {x:Int} {l:List Int} {sl:Value} {L L1:List Res}
theorem wU (hl:l.length≤1000) [c:dH (fun l=>aN sl l) L l L1]:New Tryz.prog 185 [sl] L (Option Addr×Nat) (fun s=> .slice s.1 l.length s.2) (fun s=>aN (.slice s.1 l.length s.2) l::L):=⟨fun {w W} hw=>by
 obtain ⟨ad,cap,rfl⟩:=Has.own_slice (hw.pick c.p)
 refine enter Tryz.func185 Tryz.ntmps185 rfl rfl fun a hs=>?_
 refine sv hs hw fun a hs=>?_
 refine kE hs (c:=fun a hs=>?_)
 cases ad with
 |none=>
  refine sv hs hw fun a hs=>?_
  have h0:l= []:=by
   have:=(hw.pick c.p).rd_own In.hd
   obtain ⟨_,ad,cap,e,_,_,h|⟨b,o,h,_⟩⟩:=this
   ·exact List.eq_nil_of_length_eq_zero h
   ·injection e with e1 _ _
    rw [←e1] at h;cases h
  subst h0
  exact rt1 hs rfl rfl ⟨(none,0),rfl,hw.nilOwn 3 1⟩
 |some A=>
  rw [show (some A).isNone=false from rfl] at hs
  refine sc hs ?_
  refine oU hs hw (c:=fun a ad W hw hs=>?_)
  refine sv hs hw fun a hs=>?_
  refine lF hs (hw:=hw) (k:=0) (m:=l.length) (xs:=[]) (news:=bQ l) (hsrc:=fK ((hw.pick (Pick.tl c.p)).rd_own In.hd) (aGQ l)) (h63:=by omega) (hb:=by omega) (c:=fun a ad2 cap2 W hs hw=>?_)
  rw [List.nil_append,Nat.zero_add] at hw
  rw [Nat.zero_add] at hs
  refine sv hs hw fun a hs=>?_
  exact rt1 hs rfl rfl ⟨(ad2,cap2),rfl,hw⟩⟩
theorem aGR (hl:l.length≤1000) [c:dH (fun l=>aN sl l) L l L1]:New Tryz.prog 133 [sl] L Nat (fun p=> .pointer (some ⟨p,0,none⟩)) (fun p=>fW p (i3 l)::L):=⟨fun {w W} hw=>by
 refine enter Tryz.func133 Tryz.ntmps133 rfl rfl fun a hs=>?_
 refine sx hs hw fun a W hs hw=>?_
 unfold i3
 cases h:dD l with
 |true=>
  rw [h] at hs
  refine sv hs hw fun a hs=>?_
  refine sg hs hw (fun v a W hs hw=>?_) (g:=wU hl)
  refine sv hs hw fun a hs=>?_
  refine sn hs hw fun b a W hs hw=>?_
  refine sv hs hw fun a hs=>?_
  refine rt1 hs rfl rfl ⟨b,rfl,?_⟩
  have hw:=(hw.nilOwn 3 1).nilOwn 3 1
  exact j7 (vt:=⟨l,[],[]⟩) (x:= .slice v.1 _ v.2) (hw.pm)
 |false=>
  rw [h] at hs
  refine sv hs hw fun a hs=>?_
  have hw:=hw.nilOwn 3 1
  have hw:Has 0 w _ (aN (.slice none 0 0) []::L):=hw
  refine sg hs hw (fun v a W hs hw=>?_) (g:=wU (l:=[]) (by simp))
  refine sv hs hw fun a hs=>?_
  refine sn hs hw fun b a W hs hw=>?_
  refine sv hs hw fun a hs=>?_
  refine rt1 hs rfl rfl ⟨b,rfl,?_⟩
  have hw:=(hw.nilOwn 3 1).nilOwn 3 1
  exact j7 (vt:=⟨[],[],[]⟩) (x:= .slice v.1 _ v.2) (hw.sl)⟩
end
end Go.Proofs.YtgpbngfehfbndaaGreatDoor.Sw
namespace Go.Sx
open Go.RowKit
section
variable {P:Program} {ops:Array Oper} {aD:List Oper} {Q:Exit→Act→World→Prop} {a:Act} {n:Nat} {L:List (Nat×Value)} {W:World} {d:Nat} {T S:TypeId} {p:String} {e:Array Edge} {x y:Operand} {i:Nat} {q:IntKind} {s:ByteArray} {o:UInt8}
theorem wV [t:StrTy P S] (hs:Slots a n L) (ho:s.data.toList[i]? =some o) (k:∀a',Slots a' n ((d,.int .u8 (o.toNat:Int))::L)→wpList P ops Q aD a' W) (hx:ev L x=some (.string s):=by with_unfolding_all exact rfl) (hy:ev L y=some (.int q (i:Int)):=by with_unfolding_all exact rfl) (hd:Nat.blt d n=true:=by with_unfolding_all exact rfl):
  wpList P ops Q (⟨some d,.index S x y,T,p,e,none⟩::aD) a W:=by
 have h:i<s.size:=by have:=(List.getElem?_eq_some_iff.1 ho).1;rw [Array.length_toList] at this;exact this
 have h2:s[i]? =some o:=by
  rw [getElem?_pos s i h]
  congr 1
  have:=(List.getElem?_eq_some_iff.1 ho).2
  rw [←this];rfl
 refine bO hs hd (W':=W) ?_ k
 simp only [execOp,hs.ev hx,hs.ev hy,Instr.index,asIntOf,Sem.run_bind,Sem.run_pure,Result.andThen_ok,run_underlying t.out]
 simp [h2]
end
end Go.Sx
namespace Go.Proofs.YtgpbngfehfbndaaGreatDoor.Sw
open Go.RowKit Go.Sx
def iL (s:List UInt8):List Int:=s.map fun c=>(c.toNat:Int) - 48
theorem aGS (s:List UInt8):dK s=match dD (iL s) with|false=>([],false)|true=>(iL s,true):=rfl
section
variable {L L1:List Res} {s:ByteArray}
theorem sJ (hl:s.size≤1000000):New Tryz.prog 189 [.string s] L (Option Addr×Nat) (fun x=> .tuple ⟨[.slice x.1 (dK s.data.toList).1.length x.2,.bool (dK s.data.toList).2]⟩) (fun x=>aN (.slice x.1 (dK s.data.toList).1.length x.2) (dK s.data.toList).1::L):=⟨fun {w W} hw=>by
 have hll:s.data.toList.length=s.size:=Array.length_toList
 have hw:=hw.nilOwn 3 1
 have hw:Has 0 w W (aN (.slice none 0 0) []::L):=hw
 refine enter Tryz.func189 Tryz.ntmps189 rfl rfl fun a hs=>?_
 refine sv hs hw fun a hs=>?_
 refine bX (σ:=Nat×Option Addr×Nat) (fun u=>[(0,.string s),(4,.slice u.2.1 (iL (s.data.toList.take u.1)).length u.2.2),(6,.string s),(7,.int .i64 (s.size:Int)),(8,.int .i64 (u.1:Int))]) (fun u=>aN (.slice u.2.1 (iL (s.data.toList.take u.1)).length u.2.2) (iL (s.data.toList.take u.1))::L) (fun u=>u.1≤s.size) (fun u=>s.size - u.1) (0,none,0) (Nat.zero_le _) hs ⟨rfl,rfl,rfl,rfl,rfl,trivial⟩ hw ?_
 clear hs hw
 rintro ⟨i,ad,cap⟩ a W hi hs hw
 have hi:i≤s.size:=hi
 simp only at hs hw
 refine sv hs hw fun a hs=>?_
 refine cI hs (kt:=fun hc=>?_) (kf:=fun hc=>?_)
 ·have hi':i<s.size:=by simpa using hc
  obtain ⟨o,ho,hd⟩:=dS (show i<s.data.toList.length by omega)
  have hn:iL (s.data.toList.take (i+1))=iL (s.data.toList.take i) ++ [(o.toNat:Int) - 48]:=by unfold iL;rw [fS ho,List.map_append];rfl
  have hk:(iL (s.data.toList.take i)).length≤1000000:=by unfold iL;rw [List.length_map,List.length_take];omega
  refine sv hs hw fun a hs=>?_
  refine wV hs ho fun a hs=>?_
  refine sv hs hw fun a hs=>?_
  have hu:o.toNat<256:=o.toNat_lt
  rw [show IntKind.i64.wrap (IntKind.i64.wrap (o.toNat:Int) - 48)=(o.toNat:Int) - 48 by rw [IntWalk.i64_in (o.toNat:Int) (by omega),IntWalk.i64_in _ (by omega)]] at hs
  refine sn hs hw fun b a W hs hw=>?_
  refine mD hs hw (Pick.hd:Pick (aN (.slice ad (iL (s.data.toList.take i)).length cap) (iL (s.data.toList.take i))) _ _) (by omega) fun a ad cap W hs hw=>?_
  rw [←hn] at hs hw
  refine sv hs hw fun a hs=>?_
  exact bR (i+1,ad,cap) hs hw hi' (by show s.size - (i+1)<s.size - i;omega) ⟨rfl,rfl,rfl,rfl,bS (i1 (by omega)),trivial⟩
 ·have:s.data.toList.take i=s.data.toList:=List.take_of_length_le (by simp at hc;omega)
  rw [this] at hs hw
  rw [aGS]
  refine sx hs hw fun a W hs hw=>?_
  cases h:dD (iL s.data.toList) with
  |true=>
   rw [h] at hs
   refine sv hs hw fun a hs=>?_
   exact rt2 hs rfl rfl rfl ⟨(ad,cap),rfl,hw⟩
  |false=>
   rw [h] at hs
   refine sv hs hw fun a hs=>?_
   exact rt2 hs rfl rfl rfl ⟨(none,0),rfl,(hw.sub (List.Sublist.cons _ (List.Sublist.refl _))).nilOwn 3 1⟩⟩
end
instance mpDisk:Mp Tryz.prog 143 9 142:=⟨by kernel_rfl,by kernel_rfl⟩
theorem sK (W:World):(zeroValue 142).run Tryz.prog W= .ok (.pointer none) W:=by kernel_rfl
theorem aBL (k:ByteArray) (v:Value):iR [(k,v)] k=some v:=by simp [iR,rI]
theorem aBM (k:ByteArray) (v v':Value):fR [(k,v)] k v'= [(k,v')]:=by simp [fR,rI]
abbrev kV (f:Nat) (v:Value) (lasts:Nat) (there:Bool):Res:=aA f [v,.int .i64 (lasts:Int),.bool there] 148
abbrev eV (p m:Nat) (c:Int):Res:=aA p [.map (some m),.int .i64 c] 145
abbrev ptr (p:Nat):Value:= .pointer (some ⟨p,0,none⟩)
def aB (nm:ByteArray) (p:Nat):bM→Res
 |none=>Ex fun x:Nat×Int=>eV p x.1 x.2::bW x.1 []:: []
 |some fd=>Ex fun x:Nat×Int×Nat×Value=>eV p x.1 x.2.1::bW x.1 [(nm,ptr x.2.2.1)]::kV x.2.2.1 x.2.2.2 fd.lasts fd.there::bY x.2.2.2 fd.b:: []
section
variable {nm:ByteArray} {p m f:Nat} {c:Int} {v:Value} {w W:World} {R L:List Res} {fd:wO} {d:bM}
theorem sL (h:Has 0 w W (aB nm p none::R)):∃m c,Has 0 w W (eV p m c::bW m []::R):=by
 obtain ⟨⟨m,c⟩,h⟩:=Has.open (show Has 0 w W (Ex (fun x:Nat×Int=>eV p x.1 x.2::bW x.1 []:: [])::R) from h)
 exact ⟨m,c,h⟩
theorem wW (h:Has 0 w W (eV p m c::bW m []::R)):Has 0 w W (aB nm p none::R):=Has.shut (m,c) h
theorem sM (h:Has 0 w W (aB nm p (some fd)::R)):∃m c f ad cap,Has 0 w W (eV p m c::bW m [(nm,ptr f)]::kV f (.slice ad fd.b.length cap) fd.lasts fd.there::bY (.slice ad fd.b.length cap) fd.b::R):=by
 obtain ⟨⟨m,c,f,v⟩,h⟩:=Has.open (show Has 0 w W (Ex (fun x:Nat×Int×Nat×Value=>eV p x.1 x.2.1::bW x.1 [(nm,ptr x.2.2.1)]::kV x.2.2.1 x.2.2.2 fd.lasts fd.there::bY x.2.2.2 fd.b:: [])::R) from h)
 have h:Has 0 w W (eV p m c::bW m [(nm,ptr f)]::kV f v fd.lasts fd.there::bY v fd.b::R):=h
 obtain ⟨ad,cap,rfl⟩:=Has.own_slice (h.pm:Has 0 w W (bY v fd.b::eV p m c::bW m [(nm,ptr f)]::kV f v fd.lasts fd.there::R))
 exact ⟨m,c,f,ad,cap,h⟩
theorem pV (h:Has 0 w W (eV p m c::bW m [(nm,ptr f)]::kV f v fd.lasts fd.there::bY v fd.b::R)):Has 0 w W (aB nm p (some fd)::R):=Has.shut (m,c,f,v) h
theorem aBN:New Tryz.prog 75 [] L Nat ptr (fun p=>aB nm p none::L):=⟨fun {w W} hw=>by
 refine enter Tryz.func75 Tryz.ntmps75 rfl rfl fun a hs=>?_
 refine sv hs hw fun a hs=>?_
 refine z7 hs hw (c:=fun a m W hw hs=>?_)
 refine sv hs hw fun a hs=>?_
 refine sn hs hw fun b a W hs hw=>?_
 refine sv hs hw fun a hs=>?_
 exact rt1 hs rfl rfl ⟨b,rfl,wW hw⟩⟩
def kW (s:List UInt8):Bool:=s.all (fun c=>!decide (c.toNat<97) && !decide (c.toNat > 122)) && !s.isEmpty && decide (s.length≤10)
theorem wX {s:ByteArray} (hs9:s.size≤1000):Get Tryz.prog 230 [.string s] L (.bool (kW s.data.toList)) L:=⟨fun {w W} hw=>by
 have hsl:s.data.toList.length=s.size:=by rw [Array.length_toList];rfl
 refine enter Tryz.func230 Tryz.ntmps230 rfl rfl fun a hs=>?_
 refine sv hs hw fun a hs=>?_
 refine bX (σ:=Nat) (fun i=>[(0,.string s),(5,.int .i64 (s.size:Int)),(6,.int .i64 (i:Int))]) (fun _=>L) (fun i=>i≤s.size∧s.data.toList.all (fun c=>!decide (c.toNat<97) && !decide (c.toNat > 122))=(s.data.toList.drop i).all (fun c=>!decide (c.toNat<97) && !decide (c.toNat > 122))) (fun i=>s.size - i) 0 ⟨Nat.zero_le _,rfl⟩ hs ⟨rfl,rfl,rfl,trivial⟩ hw ?_
 clear hs hw
 rintro i a W ⟨hi,hh⟩ hs hw
 refine sv hs hw fun a hs=>?_
 refine cI hs (kt:=fun hc=>?_) (kf:=fun hc=>?_)
 ·have hi':i<s.size:=by simpa using hc
  obtain ⟨o,ho,hd⟩:=dS (show i<s.data.toList.length by omega)
  rw [hd,List.all_cons] at hh
  refine sv hs hw fun a hs=>?_
  refine wV hs ho fun a hs=>?_
  refine sv hs hw fun a hs=>?_
  cases c1:decide ((o.toNat:Int)<97) with
  |true=>
   rw [c1] at hs
   refine sv hs hw fun a hs=>?_
   have h1:decide (o.toNat<97)=true:=decide_eq_true (by have:=of_decide_eq_true c1;omega)
   exact rt1 hs rfl rfl ⟨by unfold kW;rw [hh,h1];rfl,hw⟩
  |false=>
  rw [c1] at hs
  have h1:decide (o.toNat<97)=false:=decide_eq_false (by have:=of_decide_eq_false c1;omega)
  refine sv hs hw fun a hs=>?_
  refine wV hs ho fun a hs=>?_
  refine sv hs hw fun a hs=>?_
  cases c2:decide ((o.toNat:Int) > 122) with
  |true=>
   rw [c2] at hs
   refine sv hs hw fun a hs=>?_
   have h2:decide (o.toNat > 122)=true:=decide_eq_true (by have:=of_decide_eq_true c2;omega)
   exact rt1 hs rfl rfl ⟨by unfold kW;rw [hh,h1,h2];rfl,hw⟩
  |false=>
   rw [c2] at hs
   have h2:decide (o.toNat > 122)=false:=decide_eq_false (by have:=of_decide_eq_false c2;omega)
   rw [h1,h2] at hh
   refine sv hs hw fun a hs=>?_
   exact bR (i+1) hs hw ⟨hi',hh⟩ (by omega) ⟨rfl,rfl,bS (i1 (by omega)),trivial⟩
 ·have:s.data.toList.drop i= []:=List.drop_eq_nil_of_le (by simp at hc;omega)
  rw [this] at hh
  refine sv hs hw fun a hs=>?_
  cases c3:(!(s.toList == (⟨#[]⟩:ByteArray).toList)) with
  |false=>
   rw [c3] at hs
   refine sv hs hw fun a hs=>?_
   rw [Go.ByteArray.toList_eq,Go.ByteArray.toList_eq] at c3
   have h3:s.data.toList.isEmpty=true:=by simp at c3;simp [c3]
   exact rt1 hs rfl rfl ⟨by unfold kW;rw [h3];simp,hw⟩
  |true=>
   rw [c3] at hs
   refine sv hs hw fun a hs=>?_
   rw [Go.ByteArray.toList_eq,Go.ByteArray.toList_eq] at c3
   have h3:s.data.toList.isEmpty=false:=by simp at c3;simp [c3]
   refine rt1 hs rfl rfl ⟨?_,hw⟩
   unfold kW
   rw [h3,hh,hsl]
   simp
   by_cases h4:s.size≤10 <;> simp [h4] <;> omega⟩
theorem aBO (w0 W:World) (nm:ByteArray) (hns:nm.size≤1000) (hn:kW nm.data.toList=true) (d d':bM) (l:List UInt8) (v:Value) (R:List Res) (h:j0 d l=some d') (hr:∀{W},Has 0 w0 W R→RdB W v l) (hw:Has 0 w0 W (aB nm p d::R)):
  Calls Tryz.prog 239 ⟨[ptr p,.string nm,v]⟩ W fun e W'=>e= .returned (.int .i64 0)∧Has 0 w0 W' (aB nm p d'::R):=by
 have hlen:l.length≤1048576:=by
  unfold j0 at h
  simp only [Option.ite_none_right_eq_some] at h
  omega
 obtain ⟨vad,vcap,rfl⟩:∃ad cap,v= .slice ad l.length cap:=by
  have:=hr (hw.sub (List.Sublist.cons _ (List.Sublist.refl _)))
  obtain ⟨_,ad,cap,e,_⟩:=this;exact ⟨ad,cap,e⟩
 cases d with
 |none=>
  obtain ⟨m,c,hw⟩:=sL hw
  refine enter Tryz.func239 Tryz.ntmps239 rfl rfl fun a hs=>?_
  refine sx hs hw fun a W hs hw=>?_
  refine cl hs ((wX hns).ok hw) fun a W hs hw=>?_
  rw [hn] at hs
  refine sv hs hw fun a hs=>?_
  refine mB hs (hw:=hw) (hz:=sK) (c:=fun a hs=>?_)
  refine sv hs hw fun a hs=>?_
  refine sn hs hw fun f a W hs hw=>?_
  refine sv hs hw fun a hs=>?_
  rw [show decide (((0:Nat):Int) > IntKind.i64.wrap (1048576 - (l.length:Int)))=false from decide_eq_false (by rw [IntWalk.i64_in _ (by omega)];omega)] at hs
  refine sv hs hw fun a hs=>?_
  refine hJ hs (hw.nilB 5) (l:=[]) (m:=l) (hr:=fK (hr (hw.sl)) (jQ l)) (hb:=by simp;omega) (c:=fun a ad cap W hs hw=>?_)
  refine sx hs hw fun a W hs hw=>?_
  refine oT hs (hw:=hw) (v:=ptr f) (c:=fun W hs hw=>?_)
  refine sv hs hw fun a hs=>?_
  refine rt1 hs rfl rfl ⟨rfl,?_⟩
  have e:d'=some ⟨l,0,false⟩:=by
   unfold j0 at h
   simp at h
   exact h.2.symm
  subst e
  exact pV (f:=f) (c:=IntKind.i64.wrap (c+1)) (hw.pm)
 |some fd=>
  obtain ⟨m,c,f,ad,cap,hw⟩:=sM hw
  have hle:fd.b.length+l.length≤1048576:=by
   unfold j0 at h
   simp only [Option.ite_none_right_eq_some,Option.getD_some] at h
   omega
  refine enter Tryz.func239 Tryz.ntmps239 rfl rfl fun a hs=>?_
  refine sx hs hw fun a W hs hw=>?_
  refine cl hs ((wX hns).ok hw) fun a W hs hw=>?_
  rw [hn] at hs
  refine sv hs hw fun a hs=>?_
  refine mB hs (hw:=hw) (hz:=sK) (c:=fun a hs=>?_)
  rw [aBL] at hs
  refine sv hs hw fun a hs=>?_
  rw [show decide ((fd.b.length:Int) > IntKind.i64.wrap (1048576 - (l.length:Int)))=false from decide_eq_false (by rw [IntWalk.i64_in _ (by omega)];omega)] at hs
  refine sv hs hw fun a hs=>?_
  refine hJ hs hw (l:=fd.b) (m:=l) (hr:=fK (hr (hw.sl)) (jQ l)) (hb:=by omega) (c:=fun a ad cap W hs hw=>?_)
  refine sx hs hw fun a W hs hw=>?_
  refine oT hs (hw:=hw) (v:=ptr f) (c:=fun W hs hw=>?_)
  rw [aBM] at hw
  refine sv hs hw fun a hs=>?_
  refine rt1 hs rfl rfl ⟨rfl,?_⟩
  have e:d'=some {fd with b:=fd.b ++ l}:=by
   unfold j0 at h
   simp only [Option.ite_none_right_eq_some,Option.getD_some,Option.some.injEq] at h
   exact h.2.symm
  subst e
  exact pV (f:=f) (c:=IntKind.i64.wrap (c+1)) (fd:={fd with b:=fd.b ++ l}) (hw.pm)
theorem aBP (w0 W:World) (nm:ByteArray) (d d':bM) (R:List Res) (h:pP d=some d') (hw:Has 0 w0 W (aB nm p d::R)):
  Calls Tryz.prog 240 ⟨[ptr p,.string nm]⟩ W fun e W'=>e= .returned (.int .i64 0)∧Has 0 w0 W' (aB nm p d'::R):=by
 cases d with
 |none=>cases h
 |some fd=>
  obtain rfl:=Option.some.inj h
  obtain ⟨m,c,f,ad,cap,hw⟩:=sM hw
  refine enter Tryz.func240 Tryz.ntmps240 rfl rfl fun a hs=>?_
  refine sx hs hw fun a W hs hw=>?_
  refine mB hs (hw:=hw) (hz:=sK) (c:=fun a hs=>?_)
  rw [aBL] at hs
  refine sx hs hw fun a W hs hw=>?_
  refine rt1 hs rfl rfl ⟨rfl,?_⟩
  exact pV (f:=f) (c:=IntKind.i64.wrap (c+1)) (fd:={fd with lasts:=fd.b.length,there:=true}) (hw.pm)
end
section
variable {nm:ByteArray} {p m f:Nat} {c:Int} {v:Value} {w W:World} {R L:List Res} {fd:wO} {d:bM}
theorem aGT (w0 W:World) (l:List UInt8) (v:Value) (R:List Res) (hl:l.length≤1000000000) (hr:∀{W},Has 0 w0 W R→RdB W v l) (hw:Has 0 w0 W R):
  Calls Tryz.prog 84 ⟨[v]⟩ W fun e W'=>∃s:Option Addr×Nat,e= .returned (.slice s.1 l.length s.2)∧True∧Has 0 w0 W' (bY (.slice s.1 l.length s.2) l::R):=by
 obtain ⟨ad,cap,rfl⟩:∃ad cap,v= .slice ad l.length cap:=by obtain ⟨_,ad,cap,e,_⟩:=hr hw;exact ⟨ad,cap,e⟩
 refine enter Tryz.func84 Tryz.ntmps84 rfl rfl fun a hs=>?_
 refine sv hs hw fun a hs=>?_
 refine kE hs (c:=fun a hs=>?_)
 cases ad with
 |none=>
  refine sv hs hw fun a hs=>?_
  have h0:l= []:=by
   obtain ⟨_,ad,cap,e,_,_,h|⟨b,o,h,_⟩⟩:=hr hw
   ·exact List.eq_nil_of_length_eq_zero h
   ·injection e with e1 _ _
    rw [←e1] at h;cases h
  subst h0
  exact rt1 hs rfl rfl ⟨(none,0),rfl,trivial,hw.nilB 5⟩
 |some A=>
  rw [show (some A).isNone=false from rfl] at hs
  refine sc hs ?_
  refine oU hs hw (c:=fun a ad W hw hs=>?_)
  refine sv hs hw fun a hs=>?_
  refine hJ hs (hw:=hw) (l:=[]) (m:=l) (hr:=fK (hr (hw.sub (List.Sublist.cons _ (List.Sublist.refl _)))) (jQ l)) (hb:=by simp;omega) (c:=fun a ad2 cap2 W hs hw=>?_)
  refine sv hs hw fun a hs=>?_
  exact rt1 hs rfl rfl ⟨(ad2,cap2),rfl,trivial,hw⟩
theorem aGU (h:Has 0 w W (aB nm p d::R)):∃m c d0,(∀v,fR d0 nm v= [(nm,v)])∧Has 0 w W (eV p m c::bW m d0::R):=by
 cases d with
 |none=>
  obtain ⟨m,c,h⟩:=sL h
  exact ⟨m,c,[],fun _=>rfl,h⟩
 |some fd=>
  obtain ⟨m,c,f,ad,cap,h⟩:=sM h
  exact ⟨m,c,_,fun v=>aBM nm _ v,h.sl⟩
theorem aGV (w0 W:World) (nm:ByteArray) (hns:nm.size≤1000) (hn:kW nm.data.toList=true) (d d':bM) (l:List UInt8) (v:Value) (R:List Res) (h:mM l=some d') (hr:∀{W},Has 0 w0 W R→RdB W v l) (hw:Has 0 w0 W (aB nm p d::R)):
  Calls Tryz.prog 152 ⟨[ptr p,.string nm,v]⟩ W fun e W'=>e= .returned (.int .i64 0)∧Has 0 w0 W' (aB nm p d'::R):=by
 have hlen:l.length≤1048576∧d'=some ⟨l,l.length,true⟩:=by
  unfold mM at h
  simp only [Option.ite_none_right_eq_some,Option.some.injEq] at h
  exact ⟨h.1,h.2.symm⟩
 obtain ⟨hlen,rfl⟩:=hlen
 obtain ⟨m,c,d0,hd,hw⟩:=aGU hw
 obtain ⟨vad,vcap,rfl⟩:∃ad cap,v= .slice ad l.length cap:=by
  obtain ⟨_,ad,cap,e,_⟩:=hr (hw.sub (List.Sublist.cons _ (List.Sublist.cons _ (List.Sublist.refl _))));exact ⟨ad,cap,e⟩
 refine enter Tryz.func152 Tryz.ntmps152 rfl rfl fun a hs=>?_
 refine sx hs hw fun a W hs hw=>?_
 refine cl hs ((wX hns).ok hw) fun a W hs hw=>?_
 rw [hn] at hs
 refine sv hs hw fun a hs=>?_
 rw [show decide ((l.length:Int) > 1048576)=false from decide_eq_false (by omega)] at hs
 refine zG hs ?_
 replace hw:Has 0 w0 W (eV p m (IntKind.i64.wrap (c+1))::bW m d0::R):=hw
 refine bF [6,10,11] [.f 0 2,.f 0 2,.f 0 2,.f 0 2,.f 0 2,.f 0 0,.m 0,.f 0 1,.f 0 1,.f 1 1,.m 1,.m 2] [.c0 _,.c0 _,.c0 _,.c0 _,.c0 _,.c0 _,.c1 (fun x=> .slice x.ad l.length x.cap),.c0 _,.c0 _,.c1 _,.c2 (fun x y=> .pointer (some ⟨y.n,0,none⟩)),.c3 (fun x y z=>undef)] (eV p m (IntKind.i64.wrap (c+1))::bW m d0::R) (fun x=>bY (.slice x.ad l.length x.cap) l::eV p m (IntKind.i64.wrap (c+1))::bW m d0::R) (fun x y=>kV y.n (.slice x.ad l.length x.cap) l.length true::bY (.slice x.ad l.length x.cap) l::eV p m (IntKind.i64.wrap (c+1))::bW m d0::R) (fun x y z=>kV y.n (.slice x.ad l.length x.cap) l.length true::bY (.slice x.ad l.length x.cap) l::eV p m (IntKind.i64.wrap (c+1))::bW m [(nm,ptr y.n)]::R) (fun x y z t=>[]) hs hw ?kk ⟨drs,drs,drs,drs,drs,drs,?m0,drs,drs,drs,drn,?m2,trivial⟩
 case m0=>
  intro x y z t LD a W hs hw
  refine aF hs (hc:=aGT w0 W l _ _ (by omega) (fun h=>hr (h.sub (List.Sublist.cons _ (List.Sublist.cons _ (List.Sublist.refl _))))) hw) (k:=?_)
  rintro e' W' ⟨s,rfl,_,hw⟩
  exact ⟨_,rfl,fun a hs=>⟨{ad:=s.1,cap:=s.2},hs,hw⟩⟩
 case m2=>
  intro x y z t LD a W hs hw
  refine oT hs (hw:=hw) (v:=ptr y.n) (c:=fun W hs hw=>?_)
  rw [hd] at hw
  exact ⟨{},hs,hw⟩
 case kk=>
  intro x y z a W hs hw
  refine sv hs hw fun a hs=>?_
  exact rt1 hs rfl rfl ⟨rfl,pV (f:=y.n) (fd:=⟨l,l.length,true⟩) (hw.pm)⟩
theorem aBQ (w0 W:World) (nm:ByteArray) (R:List Res) (hw:Has 0 w0 W (aB nm p none::R)):
  Calls Tryz.prog 148 ⟨[ptr p,.string nm]⟩ W fun e W'=>e= .returned (.tuple ⟨[.slice none 0 0,.int .i64 13]⟩)∧Has 0 w0 W' (aB nm p none::R):=by
 obtain ⟨m,c,hw⟩:=sL hw
 refine enter Tryz.func148 Tryz.ntmps148 rfl rfl fun a hs=>?_
 refine sv hs hw fun a hs=>?_
 refine mB hs (hw:=hw) (hz:=sK) (c:=fun a hs=>?_)
 refine sv hs hw fun a hs=>?_
 exact rt2 hs rfl rfl rfl ⟨rfl,wW hw⟩
end
def EE (e:bZ) (c:List Value):Prop:=c=bE e
theorem EE.len:∀(x:bZ) (c:List Value),EE x c→c.length=4:=by rintro x c rfl;rfl
theorem pW:∀l:List bZ,Ch EE l (l.flatMap bE)
 | []=>rfl
 |x::l=>⟨bE x,l.flatMap bE,rfl,rfl,pW l⟩
section
variable {p n cap:Nat} {s:eA} {v:Value} {ad:Option Addr} {l:LogD} {L L1:List Res}
instance log_FirstC [c:oV (fun s v=>eO p s v) L s v L1]:Get Tryz.prog 118 [.pointer (some ⟨p,0,none⟩)] L (.int .i64 (w64 (s.ix+1))) L:=⟨fun {w W} hw=>by
 have hw:=hw.pick c.p
 refine enter Tryz.func118 Tryz.ntmps118 rfl rfl fun a hs=>?_
 refine sv hs hw fun a hs=>?_
 exact rt1 hs rfl rfl ⟨rfl,hw.unpick c.p⟩⟩
instance log_LastC [c:oV (fun s v=>eO p s v) L s (.slice ad n cap) L1]:Get Tryz.prog 137 [.pointer (some ⟨p,0,none⟩)] L (.int .i64 (w64 (s.ix+(n:Int)))) L:=⟨fun {w W} hw=>by
 have hw:=hw.pick c.p
 refine enter Tryz.func137 Tryz.ntmps137 rfl rfl fun a hs=>?_
 refine sv hs hw fun a hs=>?_
 refine rgp [_,_,_,_,_,_,_,_,_,_,_,_] hs hw fun a W hs hw=>?_
 refine sc hs ?_
 exact rt1 hs rfl rfl ⟨rfl,hw.unpick c.p⟩⟩
instance log_First [c:dH (fun l=>aI p l) L l L1]:Get Tryz.prog 118 [.pointer (some ⟨p,0,none⟩)] L (.int .i64 l.first) L:=⟨fun {w W} hw=>by
 obtain ⟨hl,ad,cap,h⟩:=iJ (hw.pick c.p)
 exact ((log_FirstC (s:=l.s)).ok h).mono fun e W' ⟨h1,h2⟩=>⟨h1,(gX h2 hl).unpick c.p⟩⟩
instance log_Last [c:dH (fun l=>aI p l) L l L1]:Get Tryz.prog 137 [.pointer (some ⟨p,0,none⟩)] L (.int .i64 l.last) L:=⟨fun {w W} hw=>by
 obtain ⟨hl,ad,cap,h⟩:=iJ (hw.pick c.p)
 exact ((log_LastC (s:=l.s)).ok h).mono fun e W' ⟨h1,h2⟩=>⟨h1,(gX h2 hl).unpick c.p⟩⟩
theorem aGW {l:LogD} {i:Nat} (hi:i<l.l.length):∃e,l.l[i]? =some e∧l.l.getD i gN=e:=by
 obtain ⟨e,he,_⟩:=dS hi
 exact ⟨e,he,by rw [List.getD_eq_getElem?_getD,he];rfl⟩
theorem sN {l:LogD} (h:j6 l):l.first=l.s.ix+1:=IntWalk.i64_in _ (by have:=h.1;have:=h.2.1;omega)
theorem nS {l:LogD} (h:j6 l):l.last=l.s.ix+(l.l.length:Int):=IntWalk.i64_in _ (by have:=h.1;have:=h.2.1;have:=h.2.2.1;omega)
instance log_Term {i:Int} [c:dH (fun l=>aI p l) L l L1]:Get Tryz.prog 120 [.pointer (some ⟨p,0,none⟩),.int .i64 i] L (.tuple ⟨[.int .i64 (l.term i).1,.bool (l.term i).2]⟩) L:=⟨fun {w W} hw=>by
 obtain ⟨hl,ad,cap,hw⟩:=iJ (hw.pick c.p)
 have hf:=sN hl
 have hla:=nS hl
 have ⟨hl0,hl1,hl2,_,_⟩:=hl
 refine enter Tryz.func120 Tryz.ntmps120 rfl rfl fun a hs=>?_
 refine sv hs hw fun a hs=>?_
 cases c1:decide (i<l.s.ix) with
 |true=>
  rw [c1] at hs
  refine sv hs hw fun a hs=>?_
  have e:l.term i=(0,false):=by unfold LogD.term;rw [if_pos (.inl (of_decide_eq_true c1))]
  rw [e]
  exact rt2 hs rfl rfl rfl ⟨rfl,(gX hw hl).unpick c.p⟩
 |false=>
 rw [c1] at hs
 refine sx hs hw fun a W hs hw=>?_
 rw [show w64 (l.s.ix+(l.l.length:Int))=l.last from rfl] at hs
 cases c2:decide (i > l.last) with
 |true=>
  rw [c2] at hs
  refine sv hs hw fun a hs=>?_
  have e:l.term i=(0,false):=by unfold LogD.term;rw [if_pos (.inr (of_decide_eq_true c2))]
  rw [e]
  exact rt2 hs rfl rfl rfl ⟨rfl,(gX hw hl).unpick c.p⟩
 |false=>
 rw [c2] at hs
 refine sv hs hw fun a hs=>?_
 have g1:=of_decide_eq_false c1
 have g2:=of_decide_eq_false c2
 cases c3:(i == l.s.ix) with
 |true=>
  rw [c3] at hs
  refine sv hs hw fun a hs=>?_
  have e:l.term i=(l.s.term,true):=by unfold LogD.term;rw [if_neg (by omega),if_pos (by simpa using c3)]
  rw [e]
  exact rt2 hs rfl rfl rfl ⟨rfl,(gX hw hl).unpick c.p⟩
 |false=>
 rw [c3] at hs
 have g3:i≠l.s.ix:=by simpa using c3
 obtain ⟨k,hk⟩:∃k:Nat,w64 (i - l.first)=(k:Int):=⟨(i - l.first).toNat,by rw [show w64 (i - l.first)=i - l.first from IntWalk.i64_in _ (by omega)];omega⟩
 have hkl:k<l.l.length:=by rw [show w64 (i - l.first)=i - l.first from IntWalk.i64_in _ (by omega)] at hk;omega
 obtain ⟨e,he,hd⟩:=aGW hkl
 have et:l.term i=(e.term,true):=by unfold LogD.term LogD.at;rw [if_neg (by omega),if_neg g3,hk,Int.toNat_natCast,hd]
 rw [et]
 refine sc hs ?_
 obtain ⟨g,cur,rfl,hcur,hcl,hkc,hcm,hw⟩:=(show Has _ _ _ (Sx.Own 137 4 _ _ _::eO p l.s _::L1) from hw.swap2).open_own (by omega)
 have hat:cur[k*4+1]? =some (.int .i64 e.term):=Ch.at_cur (R:=EE) (l:=l.l) (a:=e) (j:=1) (by obtain ⟨c0,h1,h2⟩:=(pW l.l).mem EE.len he;obtain rfl:c0=_:=h1;exact h2) hcur rfl
 refine gK [_,_,_,_,_,_,_,_,_,_,_,_,_] (fun _=>_) hs hw (ho:=⟨dr,dr,dr,dr,dr,dr,dr,by
   intro LD D a W hcl hi hp hs hw
   refine sv hs hw fun a hs=>?_
   rw [show IntKind.i64.wrap (i - w64 (l.s.ix+1))=(k:Int) from hk] at hs
   exact ⟨hs,hw⟩,by
   intro LD D a W hcl hi hp hs hw
   refine eG hs (z:=[.int .i64 0,.int .i64 0,.int .i64 0,.string ⟨#[]⟩]) (h0:=by omega) (h1:=by omega) (c:=fun a hs=>?_)
   exact ⟨hs,hw⟩,dr,by
   intro LD D a W hcl hi hp hs hw
   refine fY hs (hw:=hw) (hi:=In.hd) (hv:=by show cur[0+k*4+1]? =_;rw [show 0+k*4+1=k*4+1 by omega];exact hat) (k:=fun a hs=>?_)
   exact ⟨hs,hw⟩,dr,dr,trivial⟩) (k:=fun a W hs hw=>?_)
 refine sc hs ?_
 refine rt2 hs rfl rfl rfl ⟨rfl,?_⟩
 exact (gX (hw.shut_own (k:=l.l.length) (size:=4) (cap:=cap) (xs:=l.l.flatMap bE) hcur hcl hkc hcm).swap2 hl).unpick c.p⟩
end
section
variable {p n cap:Nat} {s:eA} {v:Value} {ad:Option Addr} {l:LogD} {L L1:List Res} {i t:Int}
instance log_Fits [c:dH (fun l=>aI p l) L l L1]:Get Tryz.prog 191 [.pointer (some ⟨p,0,none⟩),.int .i64 i,.int .i64 t] L (.bool (l.fits i t)) L:=⟨fun {w W} hw=>by
 refine enter Tryz.func191 Tryz.ntmps191 rfl rfl fun a hs=>?_
 refine sx hs hw fun a W hs hw=>?_
 unfold LogD.fits
 cases h:(l.term i).2 with
 |false=>
  rw [h] at hs
  refine sv hs hw fun a hs=>?_
  exact rt1 hs rfl rfl ⟨rfl,hw⟩
 |true=>
  rw [h] at hs
  refine sv hs hw fun a hs=>?_
  exact rt1 hs rfl rfl ⟨rfl,hw⟩⟩
instance log_Newer [c:dH (fun l=>aI p l) L l L1]:Get Tryz.prog 211 [.pointer (some ⟨p,0,none⟩),.int .i64 i,.int .i64 t] L (.bool (l.newer i t)) L:=⟨fun {w W} hw=>by
 refine enter Tryz.func211 Tryz.ntmps211 rfl rfl fun a hs=>?_
 refine sx hs hw fun a W hs hw=>?_
 unfold LogD.newer
 cases h:decide (t > (l.term l.last).1) with
 |true=>
  rw [h] at hs
  refine sv hs hw fun a hs=>?_
  exact rt1 hs rfl rfl ⟨rfl,hw⟩
 |false=>
  rw [h] at hs
  refine sv hs hw fun a hs=>?_
  cases h2:(t == (l.term l.last).1) with
  |false=>
   rw [h2] at hs
   refine sv hs hw fun a hs=>?_
   exact rt1 hs rfl rfl ⟨rfl,hw⟩
  |true=>
   rw [h2] at hs
   refine sx hs hw fun a W hs hw=>?_
   exact rt1 hs rfl rfl ⟨rfl,hw⟩⟩
instance log_Snap [c:dH (fun l=>aI p l) L l L1]:Get Tryz.prog 68 [.pointer (some ⟨p,0,none⟩)] L (.agg ⟨e7 l.s⟩) L:=⟨fun {w W} hw=>by
 obtain ⟨hl,ad,cap,hw⟩:=iJ (hw.pick c.p)
 refine enter Tryz.func68 Tryz.ntmps68 rfl rfl fun a hs=>?_
 refine sc hs ?_
 refine sn hs hw fun b a W hs hw=>?_
 refine sx hs hw fun a W hs hw=>?_
 refine rc1 hs rfl rfl hw In.hd rfl ?_
 exact ⟨rfl,(gX (hw.sl) hl).unpick c.p⟩⟩
end
abbrev zEnt:List Value:=[.int .i64 0,.int .i64 0,.int .i64 0,.string ⟨#[]⟩]
theorem aGX {l:LogD} {k:Int} {j:Nat} {e:bZ} (he:l.l[j]? =some e) (hk:k - l.s.ix=(j:Int)+1):jJ k ((l.l.take (k - l.s.ix).toNat).reverse)=match (dK e.data.data.toList).2 && (e.kind == 3) with|true=>some ((dK e.data.data.toList).1,k)|false=>jJ (k - 1) ((l.l.take (k - 1 - l.s.ix).toNat).reverse):=by
 rw [show (k - l.s.ix).toNat=j+1 by omega,show (k - 1 - l.s.ix).toNat=j by omega,fS he,List.reverse_append]
 rfl
section
variable {p:Nat} {l:LogD} {L L1:List Res} {i:Int}
theorem aGY [c:dH (fun l=>aI p l) L l L1]:New Tryz.prog 119 [.pointer (some ⟨p,0,none⟩),.int .i64 i] L (Option Addr×Nat) (fun x=> .tuple ⟨[.slice x.1 (l.confAt i).1.length x.2,.int .i64 (l.confAt i).2]⟩) (fun x=>aN (.slice x.1 (l.confAt i).1.length x.2) (l.confAt i).1::L):=⟨fun {w W} hw=>by
 obtain ⟨hl,ad,cap,hw⟩:=iJ (hw.pick c.p)
 have hf:=sN hl
 have hla:=nS hl
 have ⟨hl0,hl1,hl2,hl3,hl4⟩:=hl
 refine enter Tryz.func119 Tryz.ntmps119 rfl rfl fun a hs=>?_
 refine sx hs hw fun a W hs hw=>?_
 rw [show w64 (l.s.ix+(l.l.length:Int))=l.last from rfl] at hs
 refine rM hs (k:=fun a hs=>?_)
 rw [show (if l.last<i then l.last else i)=min i l.last by rw [Int.min_def];split <;> split <;> omega] at hs
 refine sv hs hw fun a hs=>?_
 have hca:l.confAt i=match jJ (min i l.last) ((l.l.take (min i l.last - l.s.ix).toNat).reverse) with
  |some x=>x
  |none=>match (dK l.s.conf.data.toList).2 with
   |true=>((dK l.s.conf.data.toList).1,l.s.ix)
   |false=>([],0):=rfl
 have hm:min i l.last≤l.last:=Int.min_le_right _ _
 generalize min i l.last=K at *
 refine bX (σ:=Int) (fun k=>[(0,.pointer (some ⟨p,0,none⟩)),(6,.int .i64 k)]) (fun _=>eO p l.s (.slice ad l.l.length cap)::bC (.slice ad l.l.length cap) l.l::L1) (fun k=>k≤l.last∧jJ K ((l.l.take (K - l.s.ix).toNat).reverse)=jJ k ((l.l.take (k - l.s.ix).toNat).reverse)) (fun k=>(k - l.s.ix).toNat) K ⟨hm,rfl⟩ hs ⟨rfl,rfl,trivial⟩ hw ?_
 clear hs hw
 rintro k a W ⟨hk,hrev⟩ hs hw
 refine sx hs hw fun a W hs hw=>?_
 rw [show w64 (l.s.ix+1)=l.first from rfl] at hs
 refine cI hs (kt:=fun hc=>?_) (kf:=fun hc=>?_)
 ·have hk1:l.first≤k:=by simpa using hc
  obtain ⟨j,hj⟩:∃j:Nat,k - l.first=(j:Int):=⟨(k - l.first).toNat,by omega⟩
  have hjl:j<l.l.length:=by omega
  obtain ⟨e,he,_⟩:=dS hjl
  have hstep:=aGX (k:=k) he (by omega)
  have hes:=hl4 e (List.mem_of_getElem? he)
  refine sc hs ?_
  obtain ⟨g,cur,rfl,hcur,hcl0,hkc,hcm,hw⟩:=(show Has _ _ _ (Sx.Own 137 4 _ _ _::eO p l.s _::L1) from hw.swap2).open_own (by omega)
  have hcut:cut (l.l.flatMap bE) (j*4) 4=bE e:=by obtain ⟨c0,h1,h2⟩:=(pW l.l).mem EE.len he;obtain rfl:c0=_:=h1;exact h2
  refine fL (σ:=Nat) (V:=fun u=>[.pointer (some ⟨p,0,none⟩),.pointer (some ⟨p,0,none⟩),.pointer (some ⟨p,0+4,none⟩),.slice (some ⟨g,0,none⟩) l.l.length cap,.int .i64 k,.pointer (some ⟨p,0,none⟩),.int .i64 (w64 (l.s.ix+1)),.int .i64 (j:Int),.pointer (some ⟨g,0+j*4,none⟩),.agg ⟨bE e⟩,.pointer (some ⟨u 10,0,none⟩),.bool true])
   (Rs:=fun u D=>(if D 10 then aA (u 10) (if D 11 then bE e else zEnt) 137 else bK)::aA g cur 137::eO p l.s (.slice (some ⟨g,0,none⟩) l.l.length cap)::L1) (fun _=>0) hs hw.free (hVu:=?vu) (ho:=⟨dru,dru,dru,dru,dru,dru,dru,?c7,?c8,?c9,?c10,?c11,trivial⟩) (k:=?kk)
  case vu=>
   intro u u' j h
   rcases j with _|_|_|_|_|_|_|_|_|_|_|_|j
   all_goals first|rfl|simp [h]
  case c7=>
   intro u LD D a W hcl hi hp hs hw
   refine sv hs hw fun a hs=>?_
   rw [show IntKind.i64.wrap (k - w64 (l.s.ix+1))=(j:Int) by rw [show w64 (l.s.ix+1)=l.first from rfl,IntWalk.i64_in _ (by omega)];exact hj] at hs
   exact Or.inl ⟨hs,hw⟩
  case c8=>
   intro u LD D a W hcl hi hp hs hw
   refine eG hs (z:=zEnt) (h0:=by omega) (h1:=by omega) (c:=fun a hs=>?_)
   exact Or.inl ⟨hs,hw⟩
  case c9=>
   intro u LD D a W hcl hi hp hs hw
   refine eC hs (z:=zEnt) (cs:=bE e) (hc:=fun m u h=>by
    rw [hC (hw.block (In.tl In.hd)).1]
    have:=Ch.at_cur (R:=EE) (l:=l.l) (a:=e) (j:=m) hcut hcur h
    rw [←this]
    congr 1
    show 0+j*4+m=j*4+m
    omega) (hl:=by rfl) (c:=fun a hs=>?_)
   exact Or.inl ⟨hs,hw⟩
  case c10=>
   intro u LD D a W hcl hi hp hs hw
   have h11:=Go.Sx.not_done hcl hi 11 (by kernel_rfl)
   simp only [hi,Bool.false_eq_true,if_false] at hw
   refine sn hs hw fun b a W hs hw=>?_
   refine Or.inr ⟨b,hs,?_⟩
   show Has 0 w _ (aA b (if (Nat.beq 11 10 || D 11)=true then _ else _) _::_)
   rw [h11]
   exact hw.fill Upd.hd
  case c11=>
   intro u LD D a W hcl hi hp hs hw
   have h10:=Go.Sx.done hp 10 (by kernel_rfl)
   simp only [h10,hi,Bool.false_eq_true,if_false,if_true] at hw
   refine d6 hs (hw:=hw) (vs:=bE e) (k:=fun W hs hw=>?_)
   refine Or.inl ⟨hs,?_⟩
   show Has 0 w _ ((if (Nat.beq 10 11 || D 10)=true then _ else _)::_)
   rw [h10]
   exact hw
  case kk=>
   clear hs hw
   intro u a W hs hw
   replace hw:Has 0 w W (aA (u 10) (bE e) 137::aA g cur 137::eO p l.s (.slice (some ⟨g,0,none⟩) l.l.length cap)::L1):=hw
   replace hs:Slots a 64 [(7,.pointer (some ⟨u 10,0,none⟩)),(0,.pointer (some ⟨p,0,none⟩)),(6,.int .i64 k)]:=hs.of ⟨rfl,rfl,rfl,trivial⟩
   generalize u 10=b7 at *
   replace hw:Has 0 w W (bC (.slice (some ⟨g,0,none⟩) l.l.length cap) l.l::aA b7 [.int .i64 e.ix,.int .i64 e.term,.int .i64 e.kind,.string e.data] 137::eO p l.s (.slice (some ⟨g,0,none⟩) l.l.length cap)::L1):=hw.swap2.shut_own (k:=l.l.length) (size:=4) (cap:=cap) (xs:=l.l.flatMap bE) hcur hcl0 hkc hcm
   refine sv hs hw fun a hs=>?_
   refine sg hs hw (fun x a W hs hw=>?_) (g:=sJ hes)
   refine sv hs hw fun a hs=>?_
   have again:∀{a W T} {x:Option Addr×Nat} {y:List Int},((dK e.data.data.toList).2 && (e.kind == 3))=false→Slots a 64 ((6,.int .i64 (w64 (k - 1)))::T)→lk T 0=some (ptr p)→Has 0 w W (aN (.slice x.1 y.length x.2) y::bC (.slice (some ⟨g,0,none⟩) l.l.length cap) l.l::aA b7 [.int .i64 e.ix,.int .i64 e.term,.int .i64 e.kind,.string e.data] 137::eO p l.s (.slice (some ⟨g,0,none⟩) l.l.length cap)::L1)→∃k',(k'≤l.last∧jJ K ((l.l.take (K - l.s.ix).toNat).reverse)=jJ k' ((l.l.take (k' - l.s.ix).toNat).reverse))∧(k' - l.s.ix).toNat<(k - l.s.ix).toNat∧Slots a 64 [(0,ptr p),(6,.int .i64 k')]∧Has 0 w W (eO p l.s (.slice (some ⟨g,0,none⟩) l.l.length cap)::bC (.slice (some ⟨g,0,none⟩) l.l.length cap) l.l::L1):=by
    intro a W T x y h1 hs h0 hw
    rw [h1] at hstep
    rw [show w64 (k - 1)=k - 1 from IntWalk.i64_in _ (by omega)] at hs
    exact ⟨k - 1,⟨by omega,hrev.trans hstep⟩,by omega,hs.of ⟨h0,rfl,trivial⟩,hw.sl⟩
   cases h1:(dK e.data.data.toList).2 with
   |false=>
    rw [h1] at hs
    refine sv hs hw fun a hs=>?_
    exact again (by rw [h1];rfl) hs rfl hw
   |true=>
    rw [h1] at hs
    refine sv hs hw fun a hs=>?_
    cases h2:(e.kind == 3) with
    |false=>
     rw [h2] at hs
     refine sv hs hw fun a hs=>?_
     exact again (by rw [h2,Bool.and_false]) hs rfl hw
    |true=>
     rw [h2] at hs
     refine sv hs hw fun a hs=>?_
     rw [h1,h2] at hstep
     rw [hrev,hstep] at hca
     rw [hca]
     refine rt2 hs rfl rfl rfl ⟨x,rfl,?_⟩
     have hw:Has 0 w _ (aI p l::aN (.slice x.1 (dK e.data.data.toList).1.length x.2) (dK e.data.data.toList).1::L1):=gX (hw.sl) hl
     exact hw.unpick (Pick.tl c.p)
 ·have hk1:¬l.first≤k:=by simpa using hc
  rw [show (k - l.s.ix).toNat=0 by omega] at hrev
  rw [hrev] at hca
  refine sv hs hw fun a hs=>?_
  refine sg hs hw (fun x a W hs hw=>?_) (g:=sJ hl3)
  refine sv hs hw fun a hs=>?_
  replace hca:l.confAt i=match (dK l.s.conf.data.toList).2 with
   |true=>((dK l.s.conf.data.toList).1,l.s.ix)
   |false=>([],0):=hca
  cases h1:(dK l.s.conf.data.toList).2 with
  |true=>
   rw [h1] at hs hca
   refine sc hs ?_
   refine rgp [_,_,_,_,_,_,_,_] hs hw fun a W hs hw=>?_
   refine sc hs ?_
   rw [hca]
   refine rt2 hs rfl rfl rfl ⟨x,rfl,?_⟩
   have hw:Has 0 w _ (aI p l::aN (.slice x.1 (dK l.s.conf.data.toList).1.length x.2) (dK l.s.conf.data.toList).1::L1):=gX (hw.pm) hl
   exact hw.unpick (Pick.tl c.p)
  |false=>
   rw [h1] at hs hca
   refine sv hs hw fun a hs=>?_
   rw [hca]
   refine rt2 hs rfl rfl rfl ⟨(none,0),rfl,?_⟩
   have hw:Has 0 w _ (aI p l::L1):=gX (hw.sl) hl
   exact (hw.unpick c.p).nilOwn 3 1⟩
theorem sO [c:dH (fun l=>aI p l) L l L1]:New Tryz.prog 111 [ptr p] L (Option Addr×Nat) (fun x=> .tuple ⟨[.slice x.1 l.conf.1.length x.2,.int .i64 l.conf.2]⟩) (fun x=>aN (.slice x.1 l.conf.1.length x.2) l.conf.1::L):=⟨fun {w W} hw=>by
 refine enter Tryz.func111 Tryz.ntmps111 rfl rfl fun a hs=>?_
 refine sx hs hw fun a W hs hw=>?_
 refine sg hs hw (fun x a W hs hw=>?_) (g:=aGY (l:=l))
 refine sv hs hw fun a hs=>?_
 exact rt2 hs rfl rfl rfl ⟨x,rfl,hw⟩⟩
end
abbrev fO (H:Fh) (v:Value) (l:List bZ):Prop:=RdH H 4 v l.length (l.flatMap bE)
theorem sP (l:List bZ):∀u∈l.flatMap bE,u.oneCell'=true:=by
 intro u hu
 obtain ⟨o,_,ho⟩:=List.mem_flatMap.1 hu
 simp only [bE,List.mem_cons,List.not_mem_nil,or_false] at ho
 rcases ho with rfl|rfl|rfl|rfl <;> rfl
theorem aGZ (l:List bZ):(l.flatMap bE).length=l.length*4:=Ch.length EE.len (pW l)
theorem sQ (w0 W:World) (l:List bZ) (v:Value) (R:List Res) (hl:l.length≤1000) (hr:∀{W},Has 0 w0 W R→Rd W 4 v l.length (l.flatMap bE)) (hw:Has 0 w0 W R):
  Calls Tryz.prog 79 ⟨[v]⟩ W fun e W'=>∃s:Option Addr×Nat,e= .returned (.slice s.1 l.length s.2)∧True∧Has 0 w0 W' (bC (.slice s.1 l.length s.2) l::R):=by
 obtain ⟨ad,cap,rfl⟩:∃ad cap,v= .slice ad l.length cap:=by obtain ⟨_,ad,cap,e,_⟩:=hr hw;exact ⟨ad,cap,e⟩
 refine enter Tryz.func79 Tryz.ntmps79 rfl rfl fun a hs=>?_
 refine sv hs hw fun a hs=>?_
 refine kE hs (c:=fun a hs=>?_)
 cases ad with
 |none=>
  refine sv hs hw fun a hs=>?_
  have h0:l= []:=by
   obtain ⟨_,ad,cap,e,_,_,h|⟨b,o,h,_⟩⟩:=hr hw
   ·exact List.eq_nil_of_length_eq_zero h
   ·injection e with e1 _ _
    rw [←e1] at h;cases h
  subst h0
  exact rt1 hs rfl rfl ⟨(none,0),rfl,trivial,hw.nilOwn 137 4⟩
 |some A=>
  rw [show (some A).isNone=false from rfl] at hs
  refine sc hs ?_
  refine oU hs hw (c:=fun a ad W hw hs=>?_)
  refine sv hs hw fun a hs=>?_
  refine lF hs (hw:=hw) (k:=0) (m:=l.length) (xs:=[]) (news:=l.flatMap bE) (hsrc:=fK (hr (hw.sub (List.Sublist.cons _ (List.Sublist.refl _)))) (sP l)) (h63:=by omega) (hb:=by omega) (c:=fun a ad2 cap2 W hs hw=>?_)
  rw [List.nil_append,Nat.zero_add] at hw
  rw [Nat.zero_add] at hs
  refine sv hs hw fun a hs=>?_
  exact rt1 hs rfl rfl ⟨(ad2,cap2),rfl,trivial,hw⟩
theorem pX {P:Program} {ops:Array Oper} {aD:List Oper} {Q:Exit→Act→World→Prop} {a:Act} {n:Nat} {L:List (Nat×Value)} {W:World} {d:Nat} {T S E:TypeId} {p:String} {e:Array Edge} {x y:Operand} {i:Nat} {q:IntKind} {z:List Value} {agg:Bool} [sl:Sl P S E] [t:Ty P E agg z] {v:Value} {l:List bZ} {u:bZ} (hs:Slots a n L) (r:Rd W 4 v l.length (l.flatMap bE)) (hi:l[i]? =some u)
  (c:∀a' b o,(∀j x,(bE u)[j]? =some x→W.cell? ⟨b,o+j,none⟩=some x)→Slots a' n ((d,.pointer (some ⟨b,o,none⟩))::L)→wpList P ops Q aD a' W) (hx:ev L x=some v:=by with_unfolding_all exact rfl) (hy:ev L y=some (.int q (i:Int)):=by with_unfolding_all exact rfl) (hd:Nat.blt d n=true:=by with_unfolding_all exact rfl) (hz:z.length=4:=by with_unfolding_all exact rfl):
  wpList P ops Q (⟨some d,.indexAddr S x y,T,p,e,none⟩::aD) a W:=by
 refine fZ hs r EE.len (pW l) hi rfl hx hy hd hz (fun a' b o c0 hc hcl hpc hlt hs=>?_)
 obtain rfl:c0=bE u:=hc
 exact c a' b o hpc hs
theorem aBR (w0 W:World) (i t:Int) (l:List bZ) (v:Value) (R:List Res) (hr:∀{W},Has 0 w0 W R→Rd W 4 v l.length (l.flatMap bE)) (hw:Has 0 w0 W R):
  Calls Tryz.prog 163 ⟨[.int .i64 i,.int .i64 t,v]⟩ W fun e W'=>e= .returned (.bool (gM i t l))∧Has 0 w0 W' R:=by
 have hlen:=(hr hw).len
 obtain ⟨ad,cap,rfl⟩:∃ad cap,v= .slice ad l.length cap:=by obtain ⟨_,ad,cap,e,_⟩:=hr hw;exact ⟨ad,cap,e⟩
 refine enter Tryz.func163 Tryz.ntmps163 rfl rfl fun a hs=>?_
 refine sv hs hw fun a hs=>?_
 refine bX (σ:=Nat×Int×Int) (fun q=>[(0,.int .i64 q.2.1),(1,.int .i64 q.2.2),(9,.slice ad l.length cap),(10,.int .i64 (l.length:Int)),(11,.int .i64 (q.1:Int))]) (fun _=>R) (fun q=>q.1≤l.length∧gM i t l=gM q.2.1 q.2.2 (l.drop q.1)) (fun q=>l.length - q.1) (0,i,t) ⟨Nat.zero_le _,rfl⟩ hs ⟨rfl,rfl,rfl,rfl,rfl,trivial⟩ hw ?_
 clear hs hw
 rintro ⟨j,x,y⟩ a W ⟨hj,hh⟩ hs hw
 simp only at hj hh hs hw
 refine sv hs hw fun a hs=>?_
 refine cI hs (kt:=fun hc=>?_) (kf:=fun hc=>?_)
 ·have hj':j<l.length:=by simpa using hc
  obtain ⟨e,he,hd⟩:=dS hj'
  rw [hd] at hh
  refine sc hs ?_
  refine pX hs (hr hw) he fun a b o hpc hs=>?_
  refine eC hs (z:=zEnt) (cs:=bE e) (hc:=hpc) (hl:=by rfl) (c:=fun a hs=>?_)
  refine sn hs hw fun b8 a W hs hw=>?_
  refine sx hs hw fun a W hs hw=>?_
  rw [show IntKind.i64.wrap (x+1)=w64 (x+1) from rfl] at hs
  have hq:gM x y (e::l.drop (j+1))=(!(e.ix !=w64 (x+1)) && !decide (e.term<y) && gM e.ix e.term (l.drop (j+1))):=rfl
  cases c1:(e.ix !=w64 (x+1)) with
  |true=>
   rw [c1] at hs hq
   refine sv hs hw fun a hs=>?_
   exact rt1 hs rfl rfl ⟨by rw [hh,hq];rfl,hw.sub (List.Sublist.cons _ (List.Sublist.refl _))⟩
  |false=>
  rw [c1] at hs hq
  refine sv hs hw fun a hs=>?_
  cases c2:decide (e.term<y) with
  |true=>
   rw [c2] at hs hq
   refine sv hs hw fun a hs=>?_
   exact rt1 hs rfl rfl ⟨by rw [hh,hq];rfl,hw.sub (List.Sublist.cons _ (List.Sublist.refl _))⟩
  |false=>
   rw [c2] at hs hq
   refine zG hs ?_
   refine rgp [_,_,_,_,_,_] hs hw fun a W hs hw=>?_
   refine sv hs hw fun a hs=>?_
   exact bR (j+1,e.ix,e.term) hs (hw.sub (List.Sublist.cons _ (List.Sublist.refl _))) ⟨hj',by rw [hh,hq];rfl⟩ (by show l.length - (j+1)<l.length - j;omega) ⟨rfl,rfl,rfl,rfl,bS (i1 (by omega)),trivial⟩
 ·have:l.drop j= []:=List.drop_eq_nil_of_le (by simp at hc;omega)
  refine sv hs hw fun a hs=>?_
  exact rt1 hs rfl rfl ⟨by rw [hh,this];rfl,hw⟩
theorem aBS:∀(l:List bZ) (m:Nat),(l.drop m).flatMap bE=(l.flatMap bE).drop (m*4)
 | [],m=>by simp
 |x::l,0=>by simp
 |x::l,m+1=>by
  rw [List.drop_succ_cons,aBS l m,List.flatMap_cons,show (m+1)*4=(bE x).length+m*4 by show _=4+m*4;omega,List.drop_length_add_append]
theorem sR:∀(l:List bZ) (m:Nat),(l.take m).flatMap bE=(l.flatMap bE).take (m*4)
 | [],m=>by simp
 |x::l,0=>by simp
 |x::l,m+1=>by
  rw [List.take_succ_cons,List.flatMap_cons,sR l m,List.flatMap_cons,show (m+1)*4=(bE x).length+m*4 by show _=4+m*4;omega,List.take_length_add_append]
theorem aG0 {W:World} {g m m' cap:Nat} {E:TypeId} {cur:List Value} {l:List bZ} (hg:W.heap[g]? =some (.cells ⟨cur⟩ E (0,0))) (ht:cur.take (l.length*4)=l.flatMap bE) (hk:l.length≤cap) (hm:cap≤maxLen) (h1:m+m'≤l.length):
  Rd W 4 (.slice (some ⟨g,m*4,none⟩) m' (cap - m)) ((l.drop m).take m').length (((l.drop m).take m').flatMap bE):=by
 have e:((l.drop m).take m').length=m':=by rw [List.length_take,List.length_drop];omega
 rw [e]
 refine ⟨by rw [aGZ,e],_,_,rfl,by omega,by unfold maxLen at hm;omega,.inr ⟨g,m*4,rfl,jA hg,fun j u hu=>?_⟩⟩
 rw [sR,aBS,←ht,List.getElem?_take] at hu
 split at hu
 ·rw [List.getElem?_drop,List.getElem?_take] at hu
  split at hu
  ·rw [hC hg];exact hu
  ·cases hu
 ·cases hu
section
variable {p:Nat} {l:LogD} {L L1:List Res} {i n:Int}
theorem mT [c:dH (fun l=>aI p l) L l L1]:New Tryz.prog 125 [ptr p,.int .i64 i,.int .i64 n] L (Option Addr×Nat) (fun x=> .slice x.1 (l.get i n).length x.2) (fun x=>bC (.slice x.1 (l.get i n).length x.2) (l.get i n)::L):=⟨fun {w W} hw=>by
 refine enter Tryz.func125 Tryz.ntmps125 rfl rfl fun a hs=>?_
 refine sx hs hw fun a W hs hw=>?_
 have none_:∀{W},l.get i n= []→Has 0 w W L→Has 0 w W (bC (.slice none (l.get i n).length 0) (l.get i n)::L):=fun h hw=>by rw [h];exact hw.nilOwn 137 4
 cases c1:decide (i<l.first) with
 |true=>
  rw [c1] at hs
  refine sv hs hw fun a hs=>?_
  have e:l.get i n= []:=by unfold LogD.get;rw [if_pos (.inl (of_decide_eq_true c1))]
  refine rt1 hs rfl (v:= .slice none (l.get i n).length 0) (by rw [e];rfl) ⟨(none,0),rfl,none_ e hw⟩
 |false=>
 rw [c1] at hs
 refine sx hs hw fun a W hs hw=>?_
 cases c2:decide (i > l.last) with
 |true=>
  rw [c2] at hs
  refine sv hs hw fun a hs=>?_
  have e:l.get i n= []:=by unfold LogD.get;rw [if_pos (.inr (.inl (of_decide_eq_true c2)))]
  refine rt1 hs rfl (v:= .slice none (l.get i n).length 0) (by rw [e];rfl) ⟨(none,0),rfl,none_ e hw⟩
 |false=>
 rw [c2] at hs
 refine sx hs hw fun a W hs hw=>?_
 cases c3:decide (n<1) with
 |true=>
  rw [c3] at hs
  refine sv hs hw fun a hs=>?_
  have e:l.get i n= []:=by unfold LogD.get;rw [if_pos (.inr (.inr (of_decide_eq_true c3)))]
  refine rt1 hs rfl (v:= .slice none (l.get i n).length 0) (by rw [e];rfl) ⟨(none,0),rfl,none_ e hw⟩
 |false=>
 rw [c3] at hs
 refine zG hs ?_
 have g1:=of_decide_eq_false c1
 have g2:=of_decide_eq_false c2
 have g3:=of_decide_eq_false c3
 obtain ⟨hl,ad,cap,hw⟩:=iJ (hw.pick c.p)
 have hf:=sN hl
 have hla:=nS hl
 have ⟨hl0,hl1,hl2,_,_⟩:=hl
 obtain ⟨k,hk⟩:∃k:Nat,w64 (i - l.first)=(k:Int):=⟨(i - l.first).toNat,by rw [show w64 (i - l.first)=i - l.first from IntWalk.i64_in _ (by omega)];omega⟩
 have hkl:k<l.l.length:=by rw [show w64 (i - l.first)=i - l.first from IntWalk.i64_in _ (by omega)] at hk;omega
 obtain ⟨m,hm⟩:∃m:Nat,m=min n.toNat (l.l.length - k):=⟨_,rfl⟩
 have e:l.get i n=(l.l.drop k).take m:=by
  unfold LogD.get
  rw [if_neg (by omega),hk,Int.toNat_natCast,hm]
  by_cases h:n.toNat≤l.l.length - k
  ·rw [Nat.min_eq_left h]
  ·rw [Nat.min_eq_right (by omega),List.take_of_length_le (by rw [List.length_drop];omega),List.take_of_length_le (by rw [List.length_drop];omega)]
 rw [e]
 obtain ⟨g,cur,rfl,hcur,hcl,hkc,hcm,hw⟩:=(show Has _ _ _ (Sx.Own 137 4 _ _ _::eO p l.s _::L1) from hw.swap2).open_own (by omega)
 refine gK [_,_,_,_,_,_,_,_,_,_] (fun _=>_) hs hw (ho:=⟨dr,dr,dr,dr,dr,dr,dr,by
   intro LD D a W hcl hi hp hs hw
   refine sv hs hw fun a hs=>?_
   rw [show IntKind.i64.wrap (i - w64 (l.s.ix+1))=(k:Int) from hk] at hs
   exact ⟨hs,hw⟩,by
   intro LD D a W hcl hi hp hs hw
   refine wL hs (m:=k) (by omega) hkc (c:=fun a hs=>?_)
   exact ⟨hs,hw⟩,dr,trivial⟩) (k:=fun a W hs hw=>?_)
 have et:iE g zEnt.length l.l.length cap k= .slice (some ⟨g,k*4,none⟩) (l.l.length - k) (cap - k):=by unfold iE;rw [if_neg (by omega)];rfl
 replace hs:Slots a 42 [(7,iE g zEnt.length l.l.length cap k),(2,.int .i64 n)]:=hs.of ⟨rfl,rfl,trivial⟩
 rw [et] at hs
 refine sv hs hw fun a hs=>?_
 refine rM hs (k:=fun a hs=>?_)
 rw [show (if ((l.l.length - k:Nat):Int)<n then ((l.l.length - k:Nat):Int) else n)=(m:Int) by rw [hm];split <;> omega] at hs
 refine wM (k:=l.l.length - k) (cap:=cap - k) (m:=m) hs (by omega) (by omega) (by omega) (c:=fun a hs=>?_)
 have hr:∀{W},Has 0 w W (aA g cur 137::eO p l.s (.slice (some ⟨g,0,none⟩) l.l.length cap)::L1)→Rd W 4 (.slice (some ⟨g,k*4,none⟩) m (cap - k)) ((l.l.drop k).take m).length (((l.l.drop k).take m).flatMap bE):=fun h=>aG0 (h.block In.hd).1 hcur hkc hcm (by omega)
 have hml:((l.l.drop k).take m).length=m:=by rw [List.length_take,List.length_drop];omega
 refine cle hs (sQ w W ((l.l.drop k).take m) _ _ (by omega) hr hw) fun x a W _ hs hw=>?_
 refine sv hs hw fun a hs=>?_
 refine rt1 hs rfl rfl ⟨x,rfl,?_⟩
 have hw:=(hw.pick (Pick.tl Pick.hd)).shut_own (k:=l.l.length) (size:=4) (cap:=cap) (xs:=l.l.flatMap bE) hcur hcl hkc hcm
 have hw:Has 0 w W (aI p l::bC (.slice x.1 ((l.l.drop k).take m).length x.2) ((l.l.drop k).take m)::L1):=gX (hw.pm) hl
 exact hw.unpick (Pick.tl c.p)⟩
end
def nameS:ByteArray:=⟨#[115,116,97,116,101]⟩
theorem aBT:kW nameS.data.toList=true:=by decide
theorem wY:nameS.size≤1000:=by decide
abbrev dF (h:fN) (s:eA) (v:Value):List Value:=[.int .i64 h.term,.int .i64 h.vote,.int .i64 s.ix,.int .i64 s.term,.string s.conf,.string s.data,v]
abbrev cN (p d:Nat) (h:fN) (s:eA) (v:Value) (size:Nat):Res:=aA p [ptr d,.int .i64 h.term,.int .i64 h.vote,.int .i64 s.ix,.int .i64 s.term,.string s.conf,.string s.data,v,.int .i64 (size:Int)] 229
theorem aBU:∀(k:Nat) (s:List UInt8),(iI k s).length≤3015*k
 |0,_=>by simp [iI]
 |k+1,s=>by
  by_cases h:s= []
  ·subst h;simp [aBF]
  ·rw [aBG h,List.length_append]
   have h1:=mR 4 (s.take 3000)
   have h2:=aBU k (s.drop 3000)
   have h3:(s.take 3000).length≤3000:=by rw [List.length_take];omega
   omega
theorem aG1 {s:eA} (hm:eU s=true):(cZ s).length≤212000:=by
 have hb:s.conf.size≤50:=by
  unfold eU at hm
  simp at hm
  omega
 have p1:=Ph.putI_length_le s.ix
 have p2:=Ph.putI_length_le s.term
 have p3:=mH s.conf
 have p4:=Ph.putI_length_le (s.data.data.toList.length:Int)
 have p5:=aBU 70 s.data.data.toList
 unfold cZ
 rw [List.length_append]
 have p6:=mR 3 (Ph.putI s.ix ++ Ph.putI s.term ++ Ph.putT s.conf.data.toList ++ Ph.putI (s.data.data.toList.length:Int))
 simp only [List.length_append] at p6
 omega
theorem aG2 (h:fN):(cS h).length≤40:=by
 have p1:=Ph.putI_length_le h.term
 have p2:=Ph.putI_length_le h.vote
 have:=mR 1 (Ph.putI h.term ++ Ph.putI h.vote)
 rw [List.length_append] at this
 unfold cS;omega
theorem wZ {e:bZ} (hm:eN e=true):(cJ e).length≤2560:=by
 have hb:e.data.size≤2500:=by unfold eN at hm;simp at hm;omega
 have p1:=Ph.putI_length_le e.ix
 have p2:=Ph.putI_length_le e.term
 have p3:=Ph.putI_length_le e.kind
 have p4:=mH e.data
 have:=mR 2 (Ph.putI e.ix ++ Ph.putI e.term ++ Ph.putI e.kind ++ Ph.putT e.data.data.toList)
 simp only [List.length_append] at this
 unfold cJ;omega
theorem sS:∀{l:List bZ},(∀e∈l,eN e=true)→(l.flatMap cJ).length≤2560*l.length
 | [],_=>by simp
 |e::l,h=>by
  rw [List.flatMap_cons,List.length_append,List.length_cons]
  have h1:=wZ (h e (List.mem_cons_self ..))
  have h2:=sS fun e he=>h e (List.mem_cons_of_mem _ he)
  omega
theorem aBV {l:List bZ} {i:Nat} {e:bZ} (h:l[i]? =some e):(l.take (i+1)).flatMap cJ=(l.take i).flatMap cJ ++ cJ e:=by
 rw [fS h,List.flatMap_append];simp
theorem aG3 (w0 W:World) (h:fN) (s:eA) (log:List bZ) (v:Value) (R:List Res) (hh:i5 h=true) (hsm:eU s=true) (hl:log.length≤200) (he:∀e∈log,eN e=true) (hr:∀{W},Has 0 w0 W R→Rd W 4 v log.length (log.flatMap bE)) (hw:Has 0 w0 W R):
  Calls Tryz.prog 231 ⟨[.agg ⟨dF h s v⟩]⟩ W fun e W'=>∃x:Option Addr×Nat,e= .returned (.slice x.1 (cZ s ++ cS h ++ log.flatMap cJ).length x.2)∧True∧Has 0 w0 W' (bY (.slice x.1 (cZ s ++ cS h ++ log.flatMap cJ).length x.2) (cZ s ++ cS h ++ log.flatMap cJ)::R):=by
 obtain ⟨vad,vcap,rfl⟩:∃ad cap,v= .slice ad log.length cap:=by obtain ⟨_,ad,cap,e,_⟩:=hr hw;exact ⟨ad,cap,e⟩
 have l1:=aG1 hsm
 have l2:=aG2 h
 have l3:=sS he
 refine enter Tryz.func231 Tryz.ntmps231 rfl rfl fun a hs=>?_
 refine sc hs ?_
 refine sn hs hw fun b a W hs hw=>?_
 refine zA hs hw ?_;clear hs;intro a hs
 refine bF [2,6,7] [.f 0 0,.f 0 0,.m 0,.f 0 1,.f 0 1,.f 0 1,.m 1,.m 2,.f 3 3] [.c0 _,.c0 _,.c1 (fun x=> .slice x.ad (cZ s).length x.cap),.c0 _,.c0 _,.c0 _,.c2 (fun x y=> .slice y.ad (cS h).length y.cap),.c3 (fun x y z=> .slice z.ad (cZ s ++ cS h).length z.cap),.c3 _] (aA b (dF h s (.slice vad log.length vcap)) 158::R) (fun x=>bY (.slice x.ad (cZ s).length x.cap) (cZ s)::aA b (dF h s (.slice vad log.length vcap)) 158::R) (fun x y=>bY (.slice y.ad (cS h).length y.cap) (cS h)::bY (.slice x.ad (cZ s).length x.cap) (cZ s)::aA b (dF h s (.slice vad log.length vcap)) 158::R) (fun x y z=>bY (.slice y.ad (cS h).length y.cap) (cS h)::bY (.slice z.ad (cZ s ++ cS h).length z.cap) (cZ s ++ cS h)::aA b (dF h s (.slice vad log.length vcap)) 158::R) (fun x y z t=>[]) hs hw ?kk ⟨drs,drs,?m0,drs,drs,drs,?m1,?m2,drs,trivial⟩
 case m0=>
  intro x y z t LD a W hs hw
  refine aF hs (hc:=(wT (s:=s) hsm).ok hw.rebase) (k:=?_)
  rintro e' W' ⟨x,rfl,hw'⟩
  exact ⟨_,rfl,fun a hs=>⟨{ad:=x.1,cap:=x.2},hs,hw.trans hw'⟩⟩
 case m1=>
  intro x y z t LD a W hs hw
  refine aF hs (hc:=(aBD (h:=h) hh).ok hw.rebase) (k:=?_)
  rintro e' W' ⟨x,rfl,hw'⟩
  exact ⟨_,rfl,fun a hs=>⟨{ad:=x.1,cap:=x.2},hs,hw.trans hw'⟩⟩
 case m2=>
  intro x y z t LD a W hs hw
  refine hJ hs hw (l:=cZ s) (m:=cS h) (hr:=fK (hw.rd_own In.hd) (jQ _)) (hb:=by omega) (c:=fun a ad2 cap2 W hs hw=>?_)
  exact ⟨{ad:=ad2,cap:=cap2},hs,hw⟩
 case kk=>
  intro x y z a W hs hw
  replace hs:Slots a 28 [(3,.slice z.ad (cZ s ++ cS h).length z.cap),(1,ptr b)]:=hs.of ⟨rfl,rfl,trivial⟩
  replace hw:Has 0 w0 W (bY (.slice z.ad (cZ s ++ cS h).length z.cap) (cZ s ++ cS h)::aA b (dF h s (.slice vad log.length vcap)) 158::R):=hw.sl
  have l4:(cZ s ++ cS h).length≤212040:=by rw [List.length_append];omega
  generalize cZ s ++ cS h=o at *
  have drop:∀{W A B},Has 0 w0 W (A::B::R)→Has 0 w0 W R:=fun h=>h.sub (List.Sublist.cons _ (List.Sublist.cons _ (List.Sublist.refl _)))
  refine sv hs hw fun a hs=>?_
  have e0:o ++ (log.take 0).flatMap cJ=o:=by simp
  refine bX (σ:=Nat×Option Addr×Nat) (fun q=>[(3,.slice q.2.1 (o ++ (log.take q.1).flatMap cJ).length q.2.2),(15,.slice vad log.length vcap),(16,.int .i64 (log.length:Int)),(17,.int .i64 (q.1:Int))]) (fun q=>bY (.slice q.2.1 (o ++ (log.take q.1).flatMap cJ).length q.2.2) (o ++ (log.take q.1).flatMap cJ)::aA b (dF h s (.slice vad log.length vcap)) 158::R) (fun q=>q.1≤log.length) (fun q=>log.length - q.1) (0,z.ad,z.cap) (Nat.zero_le _) hs ⟨by rw [e0];rfl,rfl,rfl,rfl,trivial⟩ (by rw [e0];exact hw) ?_
  clear hs hw
  rintro ⟨i,ad,cap⟩ a W hi hs hw
  have hi:i≤log.length:=hi
  simp only at hs hw
  refine sv hs hw fun a hs=>?_
  refine cI hs (kt:=fun hc=>?_) (kf:=fun hc=>?_)
  ·have hi':i<log.length:=by simpa using hc
   obtain ⟨e,he1,hd⟩:=dS hi'
   have hem:=he e (List.mem_of_getElem? he1)
   have hsn:=aBV he1
   have l5:((log.take i).flatMap cJ).length≤2560*200:=Nat.le_trans (sS fun e h=>he e (List.mem_of_mem_take h)) (by rw [List.length_take];omega)
   have l6:=wZ hem
   refine sc hs ?_
   refine pX hs (hr (drop hw)) he1 fun a b2 o2 hpc hs=>?_
   refine eC hs (z:=zEnt) (cs:=bE e) (hc:=hpc) (hl:=by rfl) (c:=fun a hs=>?_)
   refine sn hs hw fun b8 a W hs hw=>?_
   refine sx hs hw fun a W hs hw=>?_
   have hw:Has 0 w0 W (aA b8 (bE e) 137::bY (.slice ad (o ++ (log.take i).flatMap cJ).length cap) (o ++ (log.take i).flatMap cJ)::aA b (dF h s (.slice vad log.length vcap)) 158::R):=hw
   refine aF hs (hc:=(aBE (e:=e) hem).ok hw.rebase) (k:=?_)
   rintro e' W' ⟨x,rfl,hw'⟩
   refine ⟨_,rfl,fun a hs=>?_⟩
   have hw:=hw.trans hw'
   refine hJ hs hw (l:=o ++ (log.take i).flatMap cJ) (m:=cJ e) (hr:=fK (hw.rd_own In.hd) (jQ _)) (hb:=by rw [List.length_append];omega) (c:=fun a ad2 cap2 W hs hw=>?_)
   rw [List.append_assoc,←hsn] at hs hw
   refine sv hs hw fun a hs=>?_
   exact bR (i+1,ad2,cap2) hs (hw.sl) hi' (by show log.length - (i+1)<log.length - i;omega) ⟨rfl,rfl,rfl,bS (i1 (by omega)),trivial⟩
  ·have:log.take i=log:=List.take_of_length_le (by simp at hc;omega)
   rw [this] at hs hw
   refine sv hs hw fun a hs=>?_
   exact rt1 hs rfl rfl ⟨(ad,cap),rfl,trivial,hw.sub (List.Sublist.cons_cons _ (List.Sublist.cons _ (List.Sublist.refl _)))⟩
section
variable {p q:Nat} {h h2:fN} {s s2:eA} {v v2:Value} {log:List bZ} {size:Nat} {w0 W:World} {R L:List Res} {d d':bM}
theorem sT (hl:log.length≤1000) (hw:Has 0 w0 W (cN p q h s v size::bC v log::R)):
  Calls Tryz.prog 90 ⟨[ptr p]⟩ W fun e W'=>∃x:Option Addr×Nat,e= .returned (.agg ⟨dF h s (.slice x.1 log.length x.2)⟩)∧True∧Has 0 w0 W' (bC (.slice x.1 log.length x.2) log::cN p q h s v size::bC v log::R):=by
 obtain ⟨vad,vcap,rfl⟩:=Has.own_slice (hw.swap2:Has 0 w0 W (bC v log::cN p q h s v size::R))
 refine enter Tryz.func90 Tryz.ntmps90 rfl rfl fun a hs=>?_
 refine sc hs ?_
 refine sn hs hw fun b2 a W hs hw=>?_
 refine sv hs hw fun a hs=>?_
 refine sn hs hw fun b3 a W hs hw=>?_
 refine sx hs hw fun a W hs hw=>?_
 refine cle hs (sQ w0 W log _ _ hl (fun h=>h.rd_own (In.tl (In.tl (In.tl In.hd)))) hw) fun x a W _ hs hw=>?_
 refine sx hs hw fun a W hs hw=>?_
 refine rc1 hs rfl rfl hw (by repeat (first|exact In.hd|apply In.tl)) rfl ⟨x,rfl,trivial,?_⟩
 exact hw.sl
theorem aG4 (h1:i5 h2=true) (hsm:eU s2=true) (hl:log.length≤200) (he:∀e∈log,eN e=true) (hd:mM (cZ s2 ++ cS h2 ++ log.flatMap cJ)=some d') (hr:∀{W},Has 0 w0 W R→Rd W 4 v2 log.length (log.flatMap bE)) (hw:Has 0 w0 W (cN p q h s v size::aB nameS q d::R)):
  Calls Tryz.prog 154 ⟨[ptr p,.agg ⟨dF h2 s2 v2⟩]⟩ W fun e W'=>e= .returned (.int .i64 0)∧Has 0 w0 W' (cN p q h s v (cZ s2 ++ cS h2 ++ log.flatMap cJ).length::aB nameS q d'::R):=by
 obtain ⟨vad,vcap,rfl⟩:∃ad cap,v2= .slice ad log.length cap:=by
  obtain ⟨_,ad,cap,e,_⟩:=hr (hw.sub (List.Sublist.cons _ (List.Sublist.cons _ (List.Sublist.refl _))));exact ⟨ad,cap,e⟩
 refine enter Tryz.func154 Tryz.ntmps154 rfl rfl fun a hs=>?_
 refine sc hs ?_
 refine sn hs hw fun b a W hs hw=>?_
 refine sv hs hw fun a hs=>?_
 refine cle hs (aG3 w0 W h2 s2 log _ _ h1 hsm hl he (fun h=>hr (h.sub (List.Sublist.cons _ (List.Sublist.cons _ (List.Sublist.cons _ (List.Sublist.refl _)))))) hw) fun x a W _ hs hw=>?_
 refine sv hs hw fun a hs=>?_
 have hw:Has 0 w0 W (aB nameS q d::bY (.slice x.1 (cZ s2 ++ cS h2 ++ log.flatMap cJ).length x.2) (cZ s2 ++ cS h2 ++ log.flatMap cJ)::aA b (dF h2 s2 (.slice vad log.length vcap)) 158::cN p q h s v size::R):=hw.pm
 refine cl hs (aGV w0 W nameS wY aBT d d' (cZ s2 ++ cS h2 ++ log.flatMap cJ) _ _ hd (fun h=>h.rd_own In.hd) hw) fun a W hs hw=>?_
 generalize cZ s2 ++ cS h2 ++ log.flatMap cJ=B at *
 refine sx hs hw fun a W hs hw=>?_
 exact rt1 hs rfl rfl ⟨rfl,hw.sl⟩
theorem aBW {sa:Option Addr} {sm sk:Nat} (b:List UInt8) (bv:Value) (h0:size≠0) (h9:size+b.length≤1048576) (hd:j0 d b=some d') (hr:∀{W},Has 0 w0 W R→RdB W bv b) (hw:Has 0 w0 W (cN p q h s v size::aB nameS q d::R)):
  Calls Tryz.prog 259 ⟨[ptr p,bv,.agg ⟨dF h2 s2 (.slice sa sm sk)⟩]⟩ W fun e W'=>e= .returned (.int .i64 0)∧Has 0 w0 W' (cN p q h2 s2 (.slice sa sm sk) (size+b.length)::aB nameS q d'::R):=by
 obtain ⟨vad,vcap,rfl⟩:∃ad cap,bv= .slice ad b.length cap:=by
  obtain ⟨_,ad,cap,e,_⟩:=hr (hw.sub (List.Sublist.cons _ (List.Sublist.cons _ (List.Sublist.refl _))));exact ⟨ad,cap,e⟩
 have hz:((size:Int) == 0)=false:=by simp;omega
 have hg:decide (IntKind.i64.wrap ((size:Int)+(b.length:Int)) > 1048576)=false:=decide_eq_false (by rw [IntWalk.i64_in _ (by omega)];omega)
 refine enter Tryz.func259 Tryz.ntmps259 rfl rfl fun a hs=>?_
 refine sc hs ?_
 refine sn hs hw fun b2 a W hs hw=>?_
 refine sv hs hw fun a hs=>?_
 rw [hz] at hs
 refine sv hs hw fun a hs=>?_
 rw [hg] at hs
 refine sv hs hw fun a hs=>?_
 have hw:Has 0 w0 W (aB nameS q d::aA b2 (dF h2 s2 (.slice sa sm sk)) 158::cN p q h s v size::R):=hw.pm
 refine cl hs (aBO w0 W nameS wY aBT d d' b _ _ hd (fun h=>hr (h.sub (List.Sublist.cons _ (List.Sublist.cons _ (List.Sublist.refl _))))) hw) fun a W hs hw=>?_
 refine sx hs hw fun a W hs hw=>?_
 rw [show IntKind.i64.wrap ((size:Int)+(b.length:Int))=((size+b.length:Nat):Int) by rw [IntWalk.i64_in _ (by omega)];omega] at hw
 have hw:Has 0 w0 W (aB nameS q d'::aA b2 (dF h2 s2 (.slice sa sm sk)) 158::cN p q h2 s2 (.slice sa sm sk) (size+b.length)::R):=hw
 exact rt1 hs rfl rfl ⟨rfl,hw.sl⟩
theorem aG5 (h0:size≠0) (hd:pP d=some d') (hw:Has 0 w0 W (cN p q h s v size::aB nameS q d::R)):
  Calls Tryz.prog 197 ⟨[ptr p]⟩ W fun e W'=>e= .returned (.int .i64 0)∧Has 0 w0 W' (cN p q h s v size::aB nameS q d'::R):=by
 have hz:((size:Int) == 0)=false:=by simp;omega
 refine enter Tryz.func197 Tryz.ntmps197 rfl rfl fun a hs=>?_
 refine sv hs hw fun a hs=>?_
 rw [hz] at hs
 refine sv hs hw fun a hs=>?_
 refine cl hs (aBP w0 W nameS d d' _ hd hw.swap2) fun a W hs hw=>?_
 refine sv hs hw fun a hs=>?_
 exact rt1 hs rfl rfl ⟨rfl,hw.swap2⟩
end
end Go.Proofs.YtgpbngfehfbndaaGreatDoor.Sw
namespace Go.Sx
open Go.RowKit
section
variable {P:Program} {ops:Array Oper} {aD:List Oper} {Q:Exit→Act→World→Prop} {a:Act} {n:Nat} {L:List (Nat×Value)} {W:World} {d:Nat} {T S E:TypeId} {p:String} {e:Array Edge} {x lo hi mx:Operand} {k cap b o:Nat} {q q':IntKind} {z xs:List Value}
theorem aG6 {agg:Bool} [sl:Sl P S E] [t:Ty P E agg z] (hs:Slots a n L) (hx:ev L x=some (.slice none 0 0):=by with_unfolding_all exact rfl) (hh:ev L hi=some (.int q 0):=by with_unfolding_all exact rfl) (hm:ev L mx=some (.int q' 0):=by with_unfolding_all exact rfl) (hd:Nat.blt d n=true:=by with_unfolding_all exact rfl)
  (c:∀a',Slots a' n ((d,.slice none 0 0)::L)→wpList P ops Q aD a' W):wpList P ops Q (⟨some d,.slice S x none (some hi) (some mx),T,p,e,none⟩::aD) a W:=by
 have hb:∀(y:Nat) (c:BoundsCode) (q:IntKind),(Instr.sliceBound (.int q 0) y c).run P W= .ok 0 W:=by
  intro y c q
  simp [Instr.sliceBound,asIntOf]
 have hbs:(Instr.sliceBounds true 0 0 none (some (.int q 0)) (some (.int q' 0))).run P W= .ok (0,0,0) W:=by
  unfold Instr.sliceBounds
  simp [hb]
 refine bO hs hd (v:= .slice none 0 0) (W':=W) ?_ c
 simp only [execOp,Option.map_some,Option.map_none,hs.ev hx,hs.ev hh,hs.ev hm,Instr.sliceAt,Instr.slice,Sem.run_bind,run_underlying sl.out,Result.andThen_ok,hbs,t.sizeOf,Sem.run_pure]
 simp
def sU (size b o k cap:Nat):Value:= .slice (if cap=1 then some ⟨b,o,none⟩ else some ⟨b,o+size,none⟩) (k - 1) (cap - 1)
theorem aBX {agg:Bool} [sl:Sl P S E] [t:Ty P E agg z] (hs:Slots a n L) (h1:1≤k) (hc:k≤cap) (hx:ev L x=some (.slice (some ⟨b,o,none⟩) k cap):=by with_unfolding_all exact rfl) (hl:ev L lo=some (.int q 1):=by with_unfolding_all exact rfl) (hd:Nat.blt d n=true:=by with_unfolding_all exact rfl)
  (c:∀a',Slots a' n ((d,sU z.length b o k cap)::L)→wpList P ops Q aD a' W):wpList P ops Q (⟨some d,.slice S x (some lo) none none,T,p,e,none⟩::aD) a W:=by
 have hb:(Instr.sliceBound (.int q 1) k .sliceB).run P W= .ok 1 W:=by
  have:(0:Int)≤(1:Int)∧(1:Int)≤(k:Int):=⟨by omega,by omega⟩
  simp only [Instr.sliceBound,asIntOf,Sem.run_bind,Sem.run_pure,Result.andThen_ok]
  rw [if_pos this]
  simp
 have hbs:(Instr.sliceBounds true k cap (some (.int q 1)) none none).run P W= .ok (1,k,cap) W:=by
  unfold Instr.sliceBounds
  simp [hb]
 refine bO hs hd (v:=sU z.length b o k cap) (W':=W) ?_ c
 simp only [execOp,Option.map_some,Option.map_none,hs.ev hx,hs.ev hl,Instr.sliceAt,Instr.slice,Sem.run_bind,run_underlying sl.out,Result.andThen_ok,hbs,t.sizeOf,Sem.run_pure]
 unfold sU
 by_cases h0:cap=1
 ·rw [if_pos h0,if_pos h0]
 ·rw [if_neg h0,if_neg h0];simp [eF]
theorem lS (h:Rd W k (.slice (some ⟨b,o,none⟩) n cap) n xs) (hn:0<n):∀(j:Nat) (x:Value),xs[j]? =some x→W.cell? ⟨b,o+j,none⟩=some x:=by
 obtain ⟨_,ad,cap,e,_,_,h|⟨b',o',e2,_,h⟩⟩:=h
 ·omega
 ·injection e with e1 _ _
  rw [←e1] at e2
  injection e2 with e2
  injection e2 with e3 e4 _
  subst e3 e4
  exact h
theorem j8 {v:Value} (h:Rd W k v n xs) (hn:0<n):∃b o cap,v= .slice (some ⟨b,o,none⟩) n cap∧n≤cap:=by
 obtain ⟨_,ad,cap,e,h2,_,h|⟨b',o',e2,_,h⟩⟩:=h
 ·omega
 ·subst e2;exact ⟨b',o',cap,e,h2⟩
theorem aBY {size:Nat} (h:Rd W size (.slice (some ⟨b,o,none⟩) k cap) k xs) (hk:1≤k):Rd W size (sU size b o k cap) (k - 1) (xs.drop size):=by
 have hc:=lS h (by omega)
 obtain ⟨h1,ad,cap',e,h2,h3,h4⟩:=h
 injection e with e1 _ e2
 subst e1 e2
 refine ⟨by rw [List.length_drop,h1,Nat.sub_mul,Nat.one_mul],_,_,rfl,by omega,by omega,?_⟩
 by_cases h0:cap=1
 ·exact .inl (by omega)
 ·rcases h4 with h4|⟨b',o',e,hlt,_⟩
  ·omega
  ·injection e with e;injection e with e1 e2 _
   subst e1 e2
   refine .inr ⟨b,o+size,by rw [if_neg h0],hlt,fun j x hx=>?_⟩
   rw [List.getElem?_drop] at hx
   rw [Nat.add_assoc]
   exact hc _ _ hx
end
theorem Has.own_cases {G:Nat} {w W:World} {R:List Res} {E:TypeId} {size k:Nat} {v:Value} {xs:List Value} (h:Has G w W (Own E size v k xs::R)):
  (v= .slice none 0 0∧k=0)∨∃g cap cur,v= .slice (some ⟨g,0,none⟩) k cap∧cur.take (k*size)=xs∧cur.length=cap*size∧k≤cap∧cap≤maxLen∧Has G w W (aA g cur E::R):=by
 obtain ⟨F1,h1,h2,h3⟩:=h.has
 obtain ⟨hl,h0|⟨g,cap',cur,e,hF,hg,hnc,hcm,hcs,ht⟩⟩:=h2
 ·exact .inl h0
 ·exact .inr ⟨g,cap',cur,e,ht,hcs,hnc,hcm,h.ext,h.glob,F1,h1,⟨hF,hg⟩,h3⟩
end Go.Sx
namespace Go.Proofs.YtgpbngfehfbndaaGreatDoor.Sw
open Go.RowKit Go.Sx
theorem pY {e:bZ} {r l:List bZ} (h:l=e::r):(l.flatMap bE)[0]? =some (.int .i64 e.ix)∧(l.flatMap bE)[1]? =some (.int .i64 e.term):=by
 subst h
 rw [List.flatMap_cons]
 exact ⟨rfl,rfl⟩
def okp (l:LogD) (es:List bZ):Prop:=∀e r,es=e::r→e.ix≤l.last+1∧gM e.ix e.term r=true
theorem aG7 {l:LogD} {e:bZ} {r:List bZ} (hl:j6 l) (h0:0≤e.ix) (h:okp l (e::r)) (hk:e.ix≤l.s.ix∨l.fits e.ix e.term=true):okp l r:=by
 intro e2 r2 hr
 obtain ⟨h1,h2⟩:=h e r rfl
 have hla:=nS hl
 have ⟨hl0,hl1,hl2,_,_⟩:=hl
 subst hr
 have h3:(!(e2.ix !=w64 (e.ix+1)) && !decide (e2.term<e.term) && gM e2.ix e2.term r2)=true:=h2
 simp only [Bool.and_eq_true,Bool.not_eq_true',bne_eq_false_iff_eq] at h3
 refine ⟨?_,h3.2⟩
 have:e.ix≤l.last:=by
  rcases hk with hk|hk
  ·omega
  ·unfold LogD.fits at hk
   rw [Bool.and_eq_true] at hk
   have h5:=hk.1
   unfold LogD.term at h5
   split at h5
   ·cases h5
   ·rename_i h6;omega
 rw [h3.1.1,show w64 (e.ix+1)=e.ix+1 from IntWalk.i64_in _ (by omega)]
 omega
section
variable {p:Nat} {l:LogD} {w0 W:World} {R:List Res}
theorem pZ (es:List bZ) (v:Value) (hn:es.length≤200) (hes:∀e∈es,0≤e.ix∧e.data.size≤1000000) (hr:∀{W},Has 0 w0 W R→Rd W 4 v es.length (es.flatMap bE)) (hw:Has 0 w0 W (aI p l::R)):
  Calls Tryz.prog 216 ⟨[ptr p,v]⟩ W fun e W'=>e= .returned (.tuple ⟨[.int .i64 (l.put es).2.1,.bool (l.put es).2.2]⟩)∧Has 0 w0 W' (aI p (l.put es).1::R):=by
 have sub1:∀{W A},Has 0 w0 W (A::R)→Has 0 w0 W R:=fun h=>h.sub (List.Sublist.cons _ (List.Sublist.refl _))
 obtain ⟨vad,vcap,rfl⟩:∃ad cap,v= .slice ad es.length cap:=by obtain ⟨_,ad,cap,e,_⟩:=hr (sub1 hw);exact ⟨ad,cap,e⟩
 obtain ⟨hl,_⟩:=iJ hw
 have hla:=nS hl
 have hfi:=sN hl
 have ⟨hl0,hl1,hl2,hl3,hl4⟩:=hl
 refine enter Tryz.func216 Tryz.ntmps216 rfl rfl fun a hs=>?_
 refine sv hs hw fun a hs=>?_
 cases h0:((es.length:Int) == 0) with
 |true=>
  rw [h0] at hs
  refine sv hs hw fun a hs=>?_
  obtain rfl:es= []:=List.eq_nil_of_length_eq_zero (by simpa using h0)
  exact rt2 hs rfl rfl rfl ⟨rfl,hw⟩
 |false=>
 rw [h0] at hs
 have hpos:0<es.length:=by
  rcases Nat.eq_zero_or_pos es.length with h|h
  ·rw [h] at h0;cases h0
  ·exact h
 obtain ⟨e,r,hE⟩:∃e r,es=e::r:=by cases es with|nil=>simp at hpos|cons e r=>exact ⟨e,r,rfl⟩
 obtain ⟨b,o,cap,hv,hcap⟩:=j8 (hr (sub1 hw)) hpos
 injection hv with hv1 _ hv2
 subst hv1 hv2
 have hcell:∀{W},Has 0 w0 W R→_:=fun h=>lS (hr h) hpos
 have hfh:=pY hE
 have hk0:(0:Int)≤0:=by omega
 have hk1:(0:Int)<((es.length:Nat):Int):=by omega
 have hput:l.put es=if w64 (l.last+1)<e.ix∨gM (w64 (e.ix - 1)) e.term es=false then (l,0,false)
  else match l.skip es with
   | []=>(l,0,true)
   |x::y=>
    if x.term<(l.term (w64 (x.ix - 1))).1∨200<w64 (w64 (x.ix - l.first)+((x::y).length:Int)) then (l,0,false)
    else (⟨l.s,l.l.take (w64 (x.ix - l.first)).toNat ++ (x::y)⟩,x.ix,true):=by rw [hE];rfl
 refine sc hs ?_
 cases c1:decide (e.ix > w64 (l.last+1)) with
 |true=>
  refine bF [5,19] [.f 0 1,.f 0 1,.f 0 1,.f 0 1,.f 0 0,.m 0,.f 1 1,.f 1 1,.f 1 1,.f 1 1,.f 1 1,.f 1 1,.f 1 1,.f 1 1,.f 1 1,.f 1 1,.f 1 1,.f 1 1,.f 1 1,.m 1,.f 2 2,.f 2 2] [.c0 _,.c0 _,.c0 _,.c0 (.int .i64 e.ix),.c0 _,.c1 (fun x=> .int .i64 l.last),.c1 _,.c1 (fun x=> .bool true),.c1 _,.c1 _,.c1 _,.c1 _,.c1 _,.c1 _,.c1 _,.c1 _,.c1 _,.c1 _,.c1 _,.c2 (fun x y=>undef),.c2 _,.c2 _] (aI p l::R) (fun x=>aI p l::R) (fun x y=>aI p l::R) (fun x y z=>[]) (fun x y z t=>[]) hs hw ?kk ⟨drs,drs,drs,?f3,drs,drm,drs,?f7,drs,drs,drs,drs,drs,drs,drs,drs,drs,drs,drs,drm,drs,drs,trivial⟩
  case f3=>
   refine ⟨?_,?_,trivial,trivial,trivial⟩ <;>
   ·intro x y z t LD a W hs hw
    refine eP hs (hc:=hcell (sub1 hw) 0 _ hfh.1) (c:=fun a hs=>?_)
    exact ⟨hs,hw⟩
  case f7=>
   refine ⟨trivial,?_,trivial,trivial,trivial⟩
   intro x y z t LD a W hs hw
   refine sv hs hw fun a hs=>?_
   rw [show decide (e.ix > IntKind.i64.wrap (l.last+1))=true from c1] at hs
   exact ⟨hs,hw⟩
  case kk=>
   intro _ _ a W hs hw
   refine sv hs hw fun a hs=>?_
   rw [hput,if_pos (.inl (of_decide_eq_true c1))]
   exact rt2 hs rfl rfl rfl ⟨rfl,hw⟩
 |false=>
 refine bF [5,19] [.f 0 1,.f 0 1,.f 0 1,.f 0 1,.f 0 0,.m 0,.f 1 1,.f 1 1,.f 1 1,.f 1 1,.f 1 1,.f 1 1,.f 1 1,.f 1 1,.f 1 1,.f 1 1,.f 1 1,.f 1 1,.f 1 1,.m 1,.f 2 2,.f 2 2] [.c0 _,.c0 _,.c0 _,.c0 (.int .i64 e.ix),.c0 _,.c1 (fun x=> .int .i64 l.last),.c1 _,.c1 (fun x=> .bool false),.c1 _,.c1 _,.c1 _,.c1 _,.c1 (fun x=> .int .i64 e.ix),.c1 _,.c1 _,.c1 _,.c1 _,.c1 (fun x=> .int .i64 e.term),.c1 _,.c2 (fun x y=> .bool (gM (w64 (e.ix - 1)) e.term es)),.c2 _,.c2 _] (aI p l::R) (fun x=>aI p l::R) (fun x y=>aI p l::R) (fun x y z=>[]) (fun x y z t=>[]) hs hw ?kk ⟨drs,drs,drs,?f3,drs,drm,drs,?f7,drs,drs,drs,drs,?f12,drs,drs,drs,drs,?f17,drs,?m1,drs,drs,trivial⟩
 case f3=>
  refine ⟨?_,?_,trivial,trivial,trivial⟩ <;>
  ·intro x y z t LD a W hs hw
   refine eP hs (hc:=hcell (sub1 hw) 0 _ hfh.1) (c:=fun a hs=>?_)
   exact ⟨hs,hw⟩
 case f7=>
  refine ⟨trivial,?_,trivial,trivial,trivial⟩
  intro x y z t LD a W hs hw
  refine sv hs hw fun a hs=>?_
  rw [show decide (e.ix > IntKind.i64.wrap (l.last+1))=false from c1] at hs
  exact ⟨hs,hw⟩
 case f12=>
  refine ⟨trivial,?_,trivial,trivial,trivial⟩
  intro x y z t LD a W hs hw
  refine sc hs ?_
  refine eP hs (hc:=hcell (sub1 hw) 0 _ hfh.1) (c:=fun a hs=>?_)
  exact ⟨hs,hw⟩
 case f17=>
  refine ⟨trivial,?_,trivial,trivial,trivial⟩
  intro x y z t LD a W hs hw
  refine sc hs ?_
  refine eP hs (hc:=hcell (sub1 hw) 1 _ hfh.2) (c:=fun a hs=>?_)
  exact ⟨hs,hw⟩
 case m1=>
  intro x y z t LD a W hs hw
  refine sc hs ?_
  refine cl hs (aBR w0 _ (w64 (e.ix - 1)) e.term es _ (aI p l::R) (fun h=>hr (sub1 h)) hw) fun a W hs hw=>?_
  exact ⟨{},hs,hw⟩
 case kk=>
 intro _ _ a W hs hw
 replace hs:Slots a 110 [(0,ptr p),(1,.slice (some ⟨b,o,none⟩) es.length vcap),(36,.bool (!gM (w64 (e.ix - 1)) e.term es))]:=hs.of ⟨rfl,rfl,rfl,trivial⟩
 cases c2:gM (w64 (e.ix - 1)) e.term es with
 |false=>
  rw [c2] at hs
  refine sv hs hw fun a hs=>?_
  rw [hput,if_pos (.inr c2)]
  exact rt2 hs rfl rfl rfl ⟨rfl,hw⟩
 |true=>
 rw [c2] at hs
 have hput2:l.put es=match l.skip es with
   | []=>(l,0,true)
   |x::y=>
    if x.term<(l.term (w64 (x.ix - 1))).1∨200<w64 (w64 (x.ix - l.first)+((x::y).length:Int)) then (l,0,false)
    else (⟨l.s,l.l.take (w64 (x.ix - l.first)).toNat ++ (x::y)⟩,x.ix,true):=by rw [hput,if_neg (by have:=of_decide_eq_false c1;rw [c2];simp;omega)]
 have hokp:okp l es:=by
  intro e' r' h
  rw [hE] at h
  injection h with h1 h2
  subst h1 h2
  have:=of_decide_eq_false c1
  have hw64:w64 (l.last+1)=l.last+1:=IntWalk.i64_in _ (by omega)
  rw [hw64] at this
  refine ⟨by omega,?_⟩
  rw [hE] at c2
  have h3:(!(e.ix !=w64 (w64 (e.ix - 1)+1)) && !decide (e.term<e.term) && gM e.ix e.term r)=true:=c2
  simp only [Bool.and_eq_true] at h3
  exact h3.2
 clear hcell hfh hk0 hk1 hput
 refine sc hs ?_
 refine bX (σ:=Nat×Option Addr×Nat) (fun q=>[(0,ptr p),(1,.slice q.2.1 (es.length - q.1) q.2.2)]) (fun _=>aI p l::R) (fun q=>q.1≤es.length∧(∀W,Has 0 w0 W R→Rd W 4 (.slice q.2.1 (es.length - q.1) q.2.2) (es.length - q.1) ((es.drop q.1).flatMap bE))∧okp l (es.drop q.1)∧l.skip es=l.skip (es.drop q.1)) (fun q=>es.length - q.1) (0,some ⟨b,o,none⟩,vcap) ⟨Nat.zero_le _,fun W h=>hr h,hokp,rfl⟩ hs ⟨rfl,rfl,trivial⟩ hw ?_
 clear hs hw
 rintro ⟨j,ad,cap⟩ a W ⟨hj,hrj,hoj,hsk⟩ hs hw
 simp only at hj hrj hoj hsk hs hw
 by_cases hj':j=es.length
 ·have hz:es.length - j=0:=by omega
  rw [hz] at hs
  refine sc hs ?_
  refine bF [24] [.f 0 0,.f 0 0,.f 0 0,.f 0 0,.f 0 0,.f 0 0,.f 0 0,.f 0 0,.f 0 0,.f 0 0,.f 0 0,.f 0 0,.f 0 0,.f 0 0,.f 0 0,.f 0 0,.f 0 0,.f 0 0,.f 0 0,.f 0 0,.f 0 0,.f 0 0,.f 0 0,.f 0 0,.m 0,.f 1 1,.f 1 1] [.c0 _,.c0 _,.c0 _,.c0 _,.c0 _,.c0 _,.c0 _,.c0 _,.c0 _,.c0 _,.c0 _,.c0 _,.c0 _,.c0 _,.c0 _,.c0 _,.c0 _,.c0 _,.c0 _,.c0 _,.c0 _,.c0 _,.c0 _,.c0 _,.c1 (fun x=>undef),.c1 _,.c1 _] (aI p l::R) (fun x=>aI p l::R) (fun x y=>[]) (fun x y z=>[]) (fun x y z t=>[]) hs hw ?kk ⟨drs,drs,drs,drs,drs,drs,drs,drs,drs,drs,drs,drs,drs,drs,drs,drs,drs,drs,drs,drs,drs,drs,drs,drs,drm,drs,drs,trivial⟩
  case kk=>
   intro _ a W hs hw
   refine sv hs hw fun a hs=>?_
   rw [show l.put es=(l,0,true) by rw [hput2,hsk,List.drop_of_length_le (by omega)];rfl]
   exact rt2 hs rfl rfl rfl ⟨rfl,hw⟩
 ·have hlt:j<es.length:=by omega
  obtain ⟨e',he',hd⟩:=dS hlt
  have hmem:=hes e' (List.mem_of_getElem? he')
  obtain ⟨b',o',cap',hv,hcap'⟩:=j8 (hrj W (sub1 hw)) (by omega)
  injection hv with hv1 _ hv2
  subst hv1 hv2
  have hcell:∀{W},Has 0 w0 W R→_:=fun {W} h=>lS (hrj W h) (by omega)
  have hfh:=pY hd
  have hk0:(0:Int)≤0:=by omega
  have hk1:(0:Int)<((es.length - j:Nat):Int):=by omega
  have hg0:decide (((es.length - j:Nat):Int) > 0)=true:=decide_eq_true hk1
  have hnx:okp l (es.drop (j+1))∨¬(e'.ix≤l.s.ix∨l.fits e'.ix e'.term=true):=by
   by_cases h:e'.ix≤l.s.ix∨l.fits e'.ix e'.term=true
   ·exact .inl (aG7 hl hmem.1 (hd▸hoj) h)
   ·exact .inr h
  have hfl:(es.drop (j+1)).flatMap bE=((es.drop j).flatMap bE).drop 4:=by rw [hd,List.flatMap_cons];rfl
  have hskn:e'.ix≤l.s.ix∨l.fits e'.ix e'.term=true→l.skip es=l.skip (es.drop (j+1)):=by
   intro h
   rw [hsk,hd]
   show (if e'.ix≤l.s.ix∨l.fits e'.ix e'.term=true then l.skip (es.drop (j+1)) else _)=_
   rw [if_pos h]
  refine sc hs ?_
  cases c3:decide (e'.ix≤l.s.ix) with
  |true=>
   have hor:e'.ix≤l.s.ix∨l.fits e'.ix e'.term=true:= .inl (of_decide_eq_true c3)
   refine bF [24] [.f 0 0,.f 0 0,.f 0 0,.f 0 0,.f 0 0,.f 0 0,.f 0 0,.f 0 0,.f 0 0,.f 0 0,.f 0 0,.f 0 0,.f 0 0,.f 0 0,.f 0 0,.f 0 0,.f 0 0,.f 0 0,.f 0 0,.f 0 0,.f 0 0,.f 0 0,.f 0 0,.f 0 0,.m 0,.f 1 1,.f 1 1] [.c0 _,.c0 _,.c0 (.bool true),.c0 _,.c0 _,.c0 _,.c0 _,.c0 (.int .i64 e'.ix),.c0 _,.c0 _,.c0 _,.c0 _,.c0 (.int .i64 l.s.ix),.c0 (.bool true),.c0 _,.c0 _,.c0 _,.c0 _,.c0 _,.c0 _,.c0 _,.c0 _,.c0 _,.c0 _,.c1 (fun x=>undef),.c1 _,.c1 _] (aI p l::R) (fun x=>aI p l::R) (fun x y=>[]) (fun x y z=>[]) (fun x y z t=>[]) hs hw ?kk ⟨drs,drs,?f2,drs,drs,drs,drs,?f7,drs,drs,drs,drs,?f12,?f13,drs,drs,drs,drs,drs,drs,drs,drs,drs,drs,drm,drs,drs,trivial⟩
   case f2=>
    refine ⟨?_,trivial,trivial,trivial,trivial⟩
    intro x y z t LD a W hs hw
    refine sv hs hw fun a hs=>?_
    rw [hg0] at hs
    exact ⟨hs,hw⟩
   case f7=>
    refine ⟨?_,trivial,trivial,trivial,trivial⟩
    intro x y z t LD a W hs hw
    refine sc hs ?_
    refine eP hs (hc:=hcell (sub1 hw) 0 _ hfh.1) (c:=fun a hs=>?_)
    exact ⟨hs,hw⟩
   case f12=>
    refine ⟨?_,trivial,trivial,trivial,trivial⟩
    intro x y z t LD a W hs hw
    obtain ⟨_,ad3,cap3,hw2⟩:=iJ hw
    refine sc hs ?_
    refine fY hs (hw:=hw2) (hi:=In.hd) (k:=fun a hs=>?_)
    exact ⟨hs,hw⟩
   case f13=>
    refine ⟨?_,trivial,trivial,trivial,trivial⟩
    intro x y z t LD a W hs hw
    refine sv hs hw fun a hs=>?_
    rw [c3] at hs
    exact ⟨hs,hw⟩
   case kk=>
    intro _ a W hs hw
    refine sv hs hw fun a hs=>?_
    refine aBX hs (by omega) hcap' (c:=fun a hs=>?_)
    refine sv hs hw fun a hs=>?_
    have hlen:es.length - (j+1)=es.length - j - 1:=by omega
    exact bR (j+1,_,cap - 1) hs hw ⟨hlt,fun W h=>by rw [hlen,hfl];exact aBY (hrj W h) (by omega),hnx.resolve_right (fun h=>h hor),hskn hor⟩ (by show es.length - (j+1)<es.length - j;omega) ⟨rfl,by rw [hlen];rfl,trivial⟩
  |false=>
   refine bF [24] [.f 0 0,.f 0 0,.f 0 0,.f 0 0,.f 0 0,.f 0 0,.f 0 0,.f 0 0,.f 0 0,.f 0 0,.f 0 0,.f 0 0,.f 0 0,.f 0 0,.f 0 0,.f 0 0,.f 0 0,.f 0 0,.f 0 0,.f 0 0,.f 0 0,.f 0 0,.f 0 0,.f 0 0,.m 0,.f 1 1,.f 1 1] [.c0 _,.c0 _,.c0 (.bool true),.c0 _,.c0 _,.c0 _,.c0 _,.c0 (.int .i64 e'.ix),.c0 _,.c0 _,.c0 _,.c0 _,.c0 (.int .i64 l.s.ix),.c0 (.bool false),.c0 _,.c0 _,.c0 _,.c0 _,.c0 _,.c0 (.int .i64 e'.ix),.c0 _,.c0 _,.c0 _,.c0 (.int .i64 e'.term),.c1 (fun x=> .bool (l.fits e'.ix e'.term)),.c1 _,.c1 _] (aI p l::R) (fun x=>aI p l::R) (fun x y=>[]) (fun x y z=>[]) (fun x y z t=>[]) hs hw ?kk ⟨drs,drs,?f2,drs,drs,drs,drs,?f7,drs,drs,drs,drs,?f12,?f13,drs,drs,drs,drs,drs,?f19,drs,drs,drs,?f23,drm,drs,drs,trivial⟩
   case f2=>
    refine ⟨?_,trivial,trivial,trivial,trivial⟩
    intro x y z t LD a W hs hw
    refine sv hs hw fun a hs=>?_
    rw [hg0] at hs
    exact ⟨hs,hw⟩
   case f7=>
    refine ⟨?_,trivial,trivial,trivial,trivial⟩
    intro x y z t LD a W hs hw
    refine sc hs ?_
    refine eP hs (hc:=hcell (sub1 hw) 0 _ hfh.1) (c:=fun a hs=>?_)
    exact ⟨hs,hw⟩
   case f12=>
    refine ⟨?_,trivial,trivial,trivial,trivial⟩
    intro x y z t LD a W hs hw
    obtain ⟨_,ad3,cap3,hw2⟩:=iJ hw
    refine sc hs ?_
    refine fY hs (hw:=hw2) (hi:=In.hd) (k:=fun a hs=>?_)
    exact ⟨hs,hw⟩
   case f13=>
    refine ⟨?_,trivial,trivial,trivial,trivial⟩
    intro x y z t LD a W hs hw
    refine sv hs hw fun a hs=>?_
    rw [c3] at hs
    exact ⟨hs,hw⟩
   case f19=>
    refine ⟨?_,trivial,trivial,trivial,trivial⟩
    intro x y z t LD a W hs hw
    refine sc hs ?_
    refine eP hs (hc:=hcell (sub1 hw) 0 _ hfh.1) (c:=fun a hs=>?_)
    exact ⟨hs,hw⟩
   case f23=>
    refine ⟨?_,trivial,trivial,trivial,trivial⟩
    intro x y z t LD a W hs hw
    refine sc hs ?_
    refine eP hs (hc:=hcell (sub1 hw) 1 _ hfh.2) (c:=fun a hs=>?_)
    exact ⟨hs,hw⟩
   case kk=>
   intro _ a W hs hw
   replace hs:Slots a 110 [(0,ptr p),(1,.slice (some ⟨b',o',none⟩) (es.length - j) cap),(63,.bool (l.fits e'.ix e'.term))]:=hs.of ⟨rfl,rfl,rfl,trivial⟩
   cases c4:l.fits e'.ix e'.term with
   |true=>
    rw [c4] at hs
    have hor:e'.ix≤l.s.ix∨l.fits e'.ix e'.term=true:= .inr c4
    refine sv hs hw fun a hs=>?_
    refine aBX hs (by omega) hcap' (c:=fun a hs=>?_)
    refine sv hs hw fun a hs=>?_
    have hlen:es.length - (j+1)=es.length - j - 1:=by omega
    exact bR (j+1,_,cap - 1) hs hw ⟨hlt,fun W h=>by rw [hlen,hfl];exact aBY (hrj W h) (by omega),hnx.resolve_right (fun h=>h hor),hskn hor⟩ (by show es.length - (j+1)<es.length - j;omega) ⟨rfl,by rw [hlen];rfl,trivial⟩
   |false=>
    rw [c4] at hs
    have hskx:l.skip es=e'::es.drop (j+1):=by
     rw [hsk,hd]
     show (if e'.ix≤l.s.ix∨l.fits e'.ix e'.term=true then _ else _)=_
     rw [if_neg (by rw [c4];have:=of_decide_eq_false c3;simp;omega)]
    have hx1:e'.ix≤l.last+1:=by rw [hd] at hoj;exact (hoj _ _ rfl).1
    have hx2:l.s.ix<e'.ix:=by have:=of_decide_eq_false c3;omega
    obtain ⟨k,hk,hkl⟩:∃k:Nat,w64 (e'.ix - l.first)=(k:Int)∧k≤l.l.length:=⟨(e'.ix - l.first).toNat,by rw [show w64 (e'.ix - l.first)=e'.ix - l.first from IntWalk.i64_in _ (by omega)];omega,by omega⟩
    have hlen:(e'::es.drop (j+1)).length=es.length - j:=by rw [←hd,List.length_drop]
    have hz:(((es.length - j:Nat):Int) == 0)=false:=by simp;omega
    have hp3:l.put es=if e'.term<(l.term (w64 (e'.ix - 1))).1∨200<w64 ((k:Int)+((es.length - j:Nat):Int)) then (l,0,false) else (⟨l.s,l.l.take k ++ es.drop j⟩,e'.ix,true):=by
     rw [hput2,hskx]
     show (if _∨200<w64 (w64 (e'.ix - l.first)+((e'::es.drop (j+1)).length:Int)) then _ else ((⟨l.s,l.l.take (w64 (e'.ix - l.first)).toNat ++ (e'::es.drop (j+1))⟩:LogD),_,_))=_
     rw [hlen,hk,←hd,Int.toNat_natCast]
    refine sv hs hw fun a hs=>?_
    rw [hz] at hs
    refine sv hs hw fun a hs=>?_
    refine eG hs (h0:=hk0) (h1:=hk1) (c:=fun a hs=>?_)
    refine sv hs hw fun a hs=>?_
    refine eP hs (hc:=hcell (sub1 hw) 0 _ hfh.1) (c:=fun a hs=>?_)
    refine sx hs hw fun a W hs hw=>?_
    rw [show IntKind.i64.wrap (e'.ix - l.first)=(k:Int) from hk] at hs
    refine eG hs (h0:=hk0) (h1:=hk1) (c:=fun a hs=>?_)
    refine sv hs hw fun a hs=>?_
    refine eP hs (hc:=hcell (sub1 hw) 1 _ hfh.2) (c:=fun a hs=>?_)
    refine sv hs hw fun a hs=>?_
    rw [show IntKind.i64.wrap (e'.ix - 1)=w64 (e'.ix - 1) from rfl] at hs
    cases c5:decide (e'.term<(l.term (w64 (e'.ix - 1))).1) with
    |true=>
     rw [c5] at hs
     refine sv hs hw fun a hs=>?_
     rw [hp3,if_pos (.inl (of_decide_eq_true c5))]
     exact rt2 hs rfl rfl rfl ⟨rfl,hw⟩
    |false=>
    rw [c5] at hs
    refine sv hs hw fun a hs=>?_
    rw [show IntKind.i64.wrap ((k:Int)+((es.length - j:Nat):Int))=w64 ((k:Int)+((es.length - j:Nat):Int)) from rfl] at hs
    cases c6:decide (w64 ((k:Int)+((es.length - j:Nat):Int)) > 200) with
    |true=>
     rw [c6] at hs
     refine sv hs hw fun a hs=>?_
     rw [hp3,if_pos (.inr (of_decide_eq_true c6))]
     exact rt2 hs rfl rfl rfl ⟨rfl,hw⟩
    |false=>
    rw [c6] at hs
    have h5:=of_decide_eq_false c5
    have h6:=of_decide_eq_false c6
    rw [hp3,if_neg (by omega)]
    have hsum:k+(es.length - j)≤200:=by
     rw [show w64 ((k:Int)+((es.length - j:Nat):Int))=(k:Int)+((es.length - j:Nat):Int) from IntWalk.i64_in _ (by omega)] at h6
     omega
    have hlen2:(l.l.take k ++ es.drop j).length=k+(es.length - j):=by rw [List.length_append,List.length_take,List.length_drop];omega
    have hfm:(l.l.take k ++ es.drop j).flatMap bE=(l.l.take k).flatMap bE ++ (es.drop j).flatMap bE:=List.flatMap_append
    have hwf:j6 ⟨l.s,l.l.take k ++ es.drop j⟩:=⟨hl0,hl1,by show (l.l.take k ++ es.drop j).length≤200;omega,hl3,fun e h=>by
     rcases List.mem_append.1 h with h|h
     ·exact hl4 e (List.mem_of_mem_take h)
     ·exact (hes e (List.mem_of_mem_drop h)).2⟩
    obtain ⟨_,ad3,cap3,hw⟩:=iJ hw
    rcases (show Has 0 w0 W (Sx.Own 137 4 (.slice ad3 l.l.length cap3) l.l.length (l.l.flatMap bE)::eO p l.s (.slice ad3 l.l.length cap3)::R) from hw.swap2).own_cases with ⟨hv,hv0⟩|⟨g,cap4,cur,hv,hcur,hcl,hkc,hcm,hw⟩
    ·injection hv with hv1 _ hv2
     subst hv1 hv2
     obtain rfl:k=0:=by omega
     have hnil:l.l= []:=List.eq_nil_of_length_eq_zero hv0
     rw [hnil] at hw hlen2 hfm hwf⊢
     refine sv hs hw fun a hs=>?_
     refine aG6 hs (c:=fun a hs=>?_)
     refine sv hs hw fun a hs=>?_
     refine lF hs (hw:=(hw.swap2:Has 0 w0 W (Sx.Own 137 4 (.slice none 0 0) 0 []::eO p l.s (.slice none 0 0)::R))) (k:=0) (m:=es.length - j) (xs:=[]) (news:=(es.drop j).flatMap bE) (hsrc:=fK (hrj _ (sub1 (hw.sub (List.Sublist.cons _ (List.Sublist.refl _))))) (sP _)) (h63:=by omega) (hb:=by omega) (c:=fun a ad2 cap2 W hs hw=>?_)
     refine sx hs hw fun a W hs hw=>?_
     refine rt2 hs rfl rfl rfl ⟨rfl,?_⟩
     refine gX (l:=⟨l.s,[].take 0 ++ es.drop j⟩) (v:= .slice ad2 (0+(es.length - j)) cap2) ?_ hwf
     show Has 0 w0 W (eO p l.s _::Sx.Own _ 4 _ ([].take 0 ++ es.drop j).length (([].take 0 ++ es.drop j).flatMap bE)::R)
     rw [hlen2,hfm]
     exact hw.swap2
    ·injection hv with hv1 _ hv2
     subst hv1 hv2
     refine sv hs hw fun a hs=>?_
     refine aGA hs (z:=zEnt) (g:=g) (k:=k) (cap:=cap3) (hk:=by omega) (c:=fun a hs=>?_)
     refine sv hs hw fun a hs=>?_
     have htk:cur.take (k*4)=(l.l.take k).flatMap bE:=by rw [sR,←hcur,List.take_take,Nat.min_eq_left (by omega)]
     refine aGB hs hw (hw.block In.hd).1 (k:=k) (size:=4) (m:=es.length - j) (by omega) htk (fK (hrj _ (sub1 (hw.sub (List.Sublist.cons _ (List.Sublist.refl _))))) (sP _)) (by omega) (by omega) (by omega) (c:=fun a ad2 cap2 W hs hw=>?_)
     refine sx hs hw fun a W hs hw=>?_
     refine rt2 hs rfl rfl rfl ⟨rfl,?_⟩
     refine gX (l:=⟨l.s,l.l.take k ++ es.drop j⟩) (v:= .slice ad2 (k+(es.length - j)) cap2) ?_ hwf
     show Has 0 w0 W (eO p l.s _::Sx.Own _ 4 _ (l.l.take k ++ es.drop j).length ((l.l.take k ++ es.drop j).flatMap bE)::R)
     rw [hlen2,hfm]
     exact hw.sl
end
end Go.Proofs.YtgpbngfehfbndaaGreatDoor.Sw
namespace Go.Sx
open Go.RowKit
section
variable {P:Program} {ops:Array Oper} {aD:List Oper} {Q:Exit→Act→World→Prop} {a:Act} {n G:Nat} {L:List (Nat×Value)} {w W:World} {R:List Res} {d k m size:Nat} {T S E:TypeId} {p:String} {e:Array Edge} {x hi:Operand} {v:Value} {xs z:List Value} {q:IntKind}
theorem aG8 {agg:Bool} [sl:Sl P S E] [t:Ty P E agg z] (hs:Slots a n L) (hw:Has G w W (Own E size v k xs::R)) (h1:m≤k) (c:∀a' ad cap,Slots a' n ((d,.slice ad m cap)::L)→Has G w W (Own E size (.slice ad m cap) m (xs.take (m*size))::R)→wpList P ops Q aD a' W) (hx:ev L x=some v:=by with_unfolding_all exact rfl) (hl:ev L hi=some (.int q (m:Int)):=by with_unfolding_all exact rfl) (hd:Nat.blt d n=true:=by with_unfolding_all exact rfl):
  wpList P ops Q (⟨some d,.slice S x none (some hi) none,T,p,e,none⟩::aD) a W:=by
 have hb:∀{cap:Nat},k≤cap→(Instr.sliceBound (.int q (m:Int)) cap .sliceAcap).run P W= .ok m W:=fun {cap} hc=>by
  have:(0:Int)≤(m:Int)∧(m:Int)≤(cap:Int):=⟨by omega,by omega⟩
  simp only [Instr.sliceBound,asIntOf,Sem.run_bind,Sem.run_pure,Result.andThen_ok]
  rw [if_pos this]
  simp
 have hbs:∀{cap:Nat},k≤cap→(Instr.sliceBounds true k cap none (some (.int q (m:Int))) none).run P W= .ok (0,m,cap) W:=fun {cap} hc=>by
  unfold Instr.sliceBounds
  simp [hb hc]
 rcases hw.own_cases with ⟨rfl,rfl⟩|⟨g,cap,cur,rfl,ht,hcl,hkc,hcm,hw2⟩
 ·obtain rfl:m=0:=by omega
  have hx0:xs= []:=by
   obtain ⟨F1,_,⟨hl0,_⟩,_⟩:=hw.has
   rw [Nat.zero_mul] at hl0
   exact List.eq_nil_of_length_eq_zero hl0
  subst hx0
  refine bO hs hd (v:= .slice none 0 0) (W':=W) ?_ fun a hs=>c a none 0 hs (by simpa using hw)
  simp only [execOp,Option.map_some,Option.map_none,hs.ev hx,hs.ev hl,Instr.sliceAt,Instr.slice,Sem.run_bind,run_underlying sl.out,Result.andThen_ok,hbs (Nat.le_refl 0),t.sizeOf,Sem.run_pure]
  simp
 ·refine bO hs hd (v:= .slice (some ⟨g,0,none⟩) m cap) (W':=W) ?_ fun a hs=>c a (some ⟨g,0,none⟩) cap hs (hw2.shut_own ?_ hcl (by omega) hcm)
  ·simp only [execOp,Option.map_some,Option.map_none,hs.ev hx,hs.ev hl,Instr.sliceAt,Instr.slice,Sem.run_bind,run_underlying sl.out,Result.andThen_ok,hbs hkc,t.sizeOf,Sem.run_pure]
   by_cases h9:cap=0
   ·simp [h9]
   ·simp [h9,eF]
  ·rw [←ht,List.take_take,Nat.min_eq_left (Nat.mul_le_mul_right size h1)]
end
end Go.Sx
namespace Go.Proofs.YtgpbngfehfbndaaGreatDoor.Sw
open Go.RowKit Go.Sx
section
variable {p q:Nat} {h2:fN} {k k':dY} {v v2:Value} {w0 W:World} {R L:List Res} {d d':bM}
def sV (k:dY):Prop:=k.log.length≤200∧0<k.size∧0≤k.s.ix∧k.s.ix≤1099511627776
def aX (p q:Nat) (k:dY):Res:=Ex fun v:Value=>cN p q k.h k.s v k.size::bC v k.log::bN (sV k):: []
theorem p7 (h:Has 0 w0 W (cN p q k.h k.s v k.size::bC v k.log::R)) (hk:sV k):Has 0 w0 W (aX p q k::R):=Has.shut v ((h.fact hk).pm)
theorem sW (h:Has 0 w0 W (aX p q k::R)):sV k∧∃ad cap,Has 0 w0 W (cN p q k.h k.s (.slice ad k.log.length cap) k.size::bC (.slice ad k.log.length cap) k.log::R):=by
 obtain ⟨v,h⟩:=Has.open h
 have h:Has 0 w0 W (cN p q k.h k.s v k.size::bC v k.log::bN (sV k)::R):=h
 have h2:Has 0 w0 W (bC v k.log::cN p q k.h k.s v k.size::R):=h.sl
 obtain ⟨ad,cap,rfl⟩:=Has.own_slice h2
 exact ⟨h.told (In.tl (In.tl In.hd)),ad,cap,h2.swap2⟩
theorem aG9 (hk:nO d k h2=some (d',k')) (hw:Has 0 w0 W (aX p q k::aB nameS q d::R)):
  Calls Tryz.prog 195 ⟨[ptr p,.agg ⟨[.int .i64 h2.term,.int .i64 h2.vote]⟩]⟩ W fun e W'=>e= .returned (.int .i64 0)∧Has 0 w0 W' (aX p q k'::aB nameS q d'::R):=by
 obtain ⟨⟨hl,hp,hs1,hs2⟩,ad,cap,hw⟩:=sW hw
 have hm:i5 h2=true:=by
  unfold nO at hk
  split at hk
  ·assumption
  ·cases hk
 obtain ⟨h0,h9,hd,rfl⟩:k.size≠0∧k.size+(cS h2).length≤1048576∧j0 d (cS h2)=some d'∧k'= {k with h:=h2,size:=k.size+(cS h2).length}:=by
  unfold nO pQ at hk
  rw [if_pos hm] at hk
  split at hk
  ·cases hk
  ·rename_i hn
   rw [Option.map_eq_some_iff] at hk
   obtain ⟨x,h1,h2⟩:=hk
   injection h2 with h3 h4
   exact ⟨by omega,by omega,h3▸h1,h4.symm⟩
 refine enter Tryz.func195 Tryz.ntmps195 rfl rfl fun a hs=>?_
 refine sc hs ?_
 refine sn hs hw fun b3 a W hs hw=>?_
 refine sv hs hw fun a hs=>?_
 refine sn hs hw fun b5 a W hs hw=>?_
 refine sx hs hw fun a W hs hw=>?_
 refine cl hs ((wal_May_hard (h:=h2)).ok hw) fun a W hs hw=>?_
 rw [hm] at hs
 refine sv hs hw fun a hs=>?_
 have hw:Has 0 w0 W (cN p q k.h k.s (.slice ad k.log.length cap) k.size::bC (.slice ad k.log.length cap) k.log::aA b5 (fG true h2 gN) 238::aA b3 [.int .i64 h2.term,.int .i64 h2.vote] 44::aB nameS q d::R):=hw.pm
 refine cle hs (sT (by omega) hw) fun xx a W _ hs hw=>?_
 refine sn hs hw fun b6 a W hs hw=>?_
 refine sx hs hw fun a W hs hw=>?_
 have hw:Has 0 w0 W (aA b5 (fG true h2 gN) 238::cN p q k.h k.s (.slice ad k.log.length cap) k.size::aB nameS q d::aA b6 (dF h2 k.s (.slice xx.1 k.log.length xx.2)) 158::bC (.slice xx.1 k.log.length xx.2) k.log::bC (.slice ad k.log.length cap) k.log::aA b3 [.int .i64 h2.term,.int .i64 h2.vote] 44::R):=hw.pm
 refine bF [2,4] [.f 0 1,.f 0 0,.m 0,.f 0 1,.m 1,.f 2 2] [.c0 _,.c0 _,.c1 (fun x=> .slice x.ad (cS h2).length x.cap),.c0 _,.c2 (fun x y=> .int .i64 0),.c2 _] (aA b5 (fG true h2 gN) 238::cN p q k.h k.s (.slice ad k.log.length cap) k.size::aB nameS q d::aA b6 (dF h2 k.s (.slice xx.1 k.log.length xx.2)) 158::bC (.slice xx.1 k.log.length xx.2) k.log::bC (.slice ad k.log.length cap) k.log::aA b3 [.int .i64 h2.term,.int .i64 h2.vote] 44::R) (fun x=>bY (.slice x.ad (cS h2).length x.cap) (cS h2)::aA b5 (fG true h2 gN) 238::cN p q k.h k.s (.slice ad k.log.length cap) k.size::aB nameS q d::aA b6 (dF h2 k.s (.slice xx.1 k.log.length xx.2)) 158::bC (.slice xx.1 k.log.length xx.2) k.log::bC (.slice ad k.log.length cap) k.log::aA b3 [.int .i64 h2.term,.int .i64 h2.vote] 44::R) (fun x y=>cN p q h2 k.s (.slice xx.1 k.log.length xx.2) (k.size+(cS h2).length)::aB nameS q d'::bC (.slice xx.1 k.log.length xx.2) k.log::R) (fun x y z=>[]) (fun x y z t=>[]) hs hw ?kk ⟨drs,drs,?m0,drs,?m1,drs,trivial⟩
 case m0=>
  intro x y z t LD a W hs hw
  refine sg hs hw (fun s a W hs hw=>?_) (g:=aBD hm)
  exact ⟨{ad:=s.1,cap:=s.2},hs,hw⟩
 case m1=>
  intro x y z t LD a W hs hw
  have hw:Has 0 w0 W (cN p q k.h k.s (.slice ad k.log.length cap) k.size::aB nameS q d::bY (.slice x.ad (cS h2).length x.cap) (cS h2)::aA b5 (fG true h2 gN) 238::aA b6 (dF h2 k.s (.slice xx.1 k.log.length xx.2)) 158::bC (.slice xx.1 k.log.length xx.2) k.log::bC (.slice ad k.log.length cap) k.log::aA b3 [.int .i64 h2.term,.int .i64 h2.vote] 44::R):=hw.pm
  refine cl hs (aBW (h2:=h2) (s2:=k.s) (cS h2) _ h0 h9 hd (fun h=>h.rd_own In.hd) hw) fun a W hs hw=>?_
  exact ⟨{},hs,hw.sl⟩
 case kk=>
  intro x y a W hs hw
  refine sc hs ?_
  refine rt1 hs rfl rfl ⟨rfl,?_⟩
  exact p7 (k:={k with h:=h2,size:=k.size+(cS h2).length}) (hw.sl) ⟨hl,(by show 0<k.size+_;omega),hs1,hs2⟩
end
section
variable {p q:Nat} {k k':dY} {v v2:Value} {w0 W:World} {R L:List Res} {d d':bM}
theorem aBZ:∀{l:List bZ} {i:Int},lQ i l=true→∀(j:Nat) (x:bZ),l[j]? =some x→eN x=true∧x.ix=i+(j:Int)
 | [],_,_=>fun j x h=>by simp at h
 |y::l,i,h=>by
  have h:(eN y && (y.ix == i) && lQ (i+1) l)=true:=h
  simp only [Bool.and_eq_true,beq_iff_eq] at h
  intro j x hx
  cases j with
  |zero=>
   obtain rfl:y=x:=by simpa using hx
   exact ⟨h.1.1,by rw [h.1.2];simp⟩
  |succ j=>
   have:=aBZ h.2 j x (by simpa using hx)
   exact ⟨this.1,by rw [this.2];omega⟩
theorem aGa (es:List bZ) (v:Value) (hn:es.length≤1000) (hr:∀{W},Has 0 w0 W R→Rd W 4 v es.length (es.flatMap bE)) (hk:wP d k es=some (d',k')) (hw:Has 0 w0 W (aX p q k::aB nameS q d::R)):
  Calls Tryz.prog 196 ⟨[ptr p,v]⟩ W fun e W'=>e= .returned (.int .i64 0)∧Has 0 w0 W' (aX p q k'::aB nameS q d'::R):=by
 have sub0:∀{W A B},Has 0 w0 W (A::B::R)→Has 0 w0 W R:=fun h=>h.sub (List.Sublist.cons _ (List.Sublist.cons _ (List.Sublist.refl _)))
 obtain ⟨vad,vcap,rfl⟩:∃ad cap,v= .slice ad es.length cap:=by obtain ⟨_,ad,cap,e,_⟩:=hr (sub0 hw);exact ⟨ad,cap,e⟩
 have hw0:=hw
 obtain ⟨⟨hl,hp,hs1,hs2⟩,ad,cap,hw⟩:=sW hw
 refine enter Tryz.func196 Tryz.ntmps196 rfl rfl fun a hs=>?_
 refine sv hs hw fun a hs=>?_
 cases h0:((es.length:Int) == 0) with
 |true=>
  rw [h0] at hs
  refine sv hs hw fun a hs=>?_
  obtain rfl:es= []:=List.eq_nil_of_length_eq_zero (by simpa using h0)
  have hk:some (d,k)=some (d',k'):=hk
  injection hk with hk
  injection hk with hk1 hk2
  subst hk1 hk2
  exact rt1 hs rfl rfl ⟨rfl,hw0⟩
 |false=>
 rw [h0] at hs
 clear hw0
 have hpos:0<es.length:=by
  rcases Nat.eq_zero_or_pos es.length with h|h
  ·rw [h] at h0;cases h0
  ·exact h
 obtain ⟨e,r,hE⟩:∃e r,es=e::r:=by cases es with|nil=>simp at hpos|cons e r=>exact ⟨e,r,rfl⟩
 obtain ⟨A,hA,hAl,hem,h200,h0s,h9,hd,hk'⟩:∃A:Nat,e.ix - k.s.ix - 1=(A:Int)∧A≤k.log.length∧lQ e.ix es=true∧A+es.length≤200∧k.size≠0∧k.size+(es.flatMap cJ).length≤1048576∧j0 d (es.flatMap cJ)=some d'∧k'= {k with log:=k.log.take A ++ es,size:=k.size+(es.flatMap cJ).length}:=by
  rw [hE] at hk⊢
  have hk:(if e.ix - k.s.ix - 1<0∨(k.log.length:Int)<e.ix - k.s.ix - 1∨lQ e.ix (e::r)=false∨200<e.ix - k.s.ix - 1+((e::r).length:Int) then none
   else pQ d k ((e::r).flatMap cJ) {k with log:=k.log.take (e.ix - k.s.ix - 1).toNat ++ (e::r)})=some (d',k'):=hk
  split at hk
  ·cases hk
  ·rename_i hn
   unfold pQ at hk
   split at hk
   ·cases hk
   ·rename_i hn2
    rw [Option.map_eq_some_iff] at hk
    obtain ⟨x,h1,h2⟩:=hk
    injection h2 with h3 h4
    have h5:lQ e.ix (e::r)=true:=by cases hh:lQ e.ix (e::r) with|true=>rfl|false=>exact absurd (.inr (.inr (.inl hh))) hn
    refine ⟨(e.ix - k.s.ix - 1).toNat,by omega,by omega,h5,by omega,by omega,by omega,h3▸h1,h4.symm⟩
 have hat:=aBZ hem
 have he0:=(hat 0 e (by rw [hE];rfl)).1
 have hix:1≤e.ix∧e.ix≤1099511627776:=by
  unfold eN in1 at he0
  simp at he0
  omega
 have hA64:IntKind.i64.wrap (IntKind.i64.wrap (e.ix - k.s.ix) - 1)=(A:Int):=by rw [IntWalk.i64_in (e.ix - k.s.ix) (by omega),IntWalk.i64_in _ (by omega)];exact hA
 obtain ⟨b,o,cap3,hv,hcap⟩:=j8 (hr (sub0 (hw.sub (List.Sublist.cons _ (List.Sublist.refl _))))) hpos
 injection hv with hv1 _ hv2
 subst hv1 hv2
 have hcell:∀{W},Has 0 w0 W R→_:=fun h=>lS (hr h) hpos
 have hfh:=pY hE
 have hk0:(0:Int)≤0:=by omega
 have hk1:(0:Int)<((es.length:Nat):Int):=by omega
 refine sv hs hw fun a hs=>?_
 have hw:Has 0 w0 W (cN p q k.h k.s (.slice ad k.log.length cap) k.size::bC (.slice ad k.log.length cap) k.log::aB nameS q d::R):=hw
 refine cle hs (sT (by omega) hw) fun xx a W _ hs hw=>?_
 refine sn hs hw fun b5 a W hs hw=>?_
 refine sx hs hw fun a W hs hw=>?_
 have hw:Has 0 w0 W (cN p q k.h k.s (.slice ad k.log.length cap) k.size::bC (.slice ad k.log.length cap) k.log::aB nameS q d::aA b5 (dF k.h k.s (.slice xx.1 k.log.length xx.2)) 158::bC (.slice xx.1 k.log.length xx.2) k.log::R):=hw.pm
 have subS:∀{W},Has 0 w0 W (cN p q k.h k.s (.slice ad k.log.length cap) k.size::bC (.slice ad k.log.length cap) k.log::aB nameS q d::aA b5 (dF k.h k.s (.slice xx.1 k.log.length xx.2)) 158::bC (.slice xx.1 k.log.length xx.2) k.log::R)→Has 0 w0 W R:=fun h=>h.sub (List.Sublist.cons _ (List.Sublist.cons _ (List.Sublist.cons _ (List.Sublist.cons _ (List.Sublist.cons _ (List.Sublist.refl _))))))
 refine bF [] [.f 0 0,.f 0 0,.f 0 0,.f 0 0,.f 0 0,.f 0 0,.f 0 0,.f 0 0,.f 0 0,.f 0 0] [.c0 _,.c0 _,.c0 _,.c0 (.int .i64 e.ix),.c0 _,.c0 _,.c0 _,.c0 _,.c0 (.int .i64 (A:Int)),.c0 _] (cN p q k.h k.s (.slice ad k.log.length cap) k.size::bC (.slice ad k.log.length cap) k.log::aB nameS q d::aA b5 (dF k.h k.s (.slice xx.1 k.log.length xx.2)) 158::bC (.slice xx.1 k.log.length xx.2) k.log::R) (fun x=>[]) (fun x y=>[]) (fun x y z=>[]) (fun x y z t=>[]) hs hw ?kk ⟨drs,drs,drs,?f3,drs,drs,drs,drs,?f8,drs,trivial⟩
 case f3=>
  refine ⟨?_,trivial,trivial,trivial,trivial⟩
  intro x y z t LD a W hs hw
  refine eP hs (hc:=hcell (subS hw) 0 _ hfh.1) (c:=fun a hs=>?_)
  exact ⟨hs,hw⟩
 case f8=>
  refine ⟨?_,trivial,trivial,trivial,trivial⟩
  intro x y z t LD a W hs hw
  refine sv hs hw fun a hs=>?_
  rw [hA64] at hs
  exact ⟨hs,hw⟩
 case kk=>
 intro a W hs hw
 replace hs:Slots a 79 [(0,ptr p),(1,.slice (some ⟨b,o,none⟩) es.length vcap),(5,ptr b5),(6,.int .i64 (A:Int))]:=hs.of ⟨rfl,rfl,rfl,rfl,trivial⟩
 refine sx hs hw fun a W hs hw=>?_
 rw [show decide ((A:Int)<0)=false from decide_eq_false (by omega)] at hs
 refine sx hs hw fun a W hs hw=>?_
 rw [show decide ((A:Int) > (k.log.length:Int))=false from decide_eq_false (by omega)] at hs
 refine sv hs hw fun a hs=>?_
 have hw:Has 0 w0 W (bY (.slice none 0 0) []::cN p q k.h k.s (.slice ad k.log.length cap) k.size::bC (.slice ad k.log.length cap) k.log::aB nameS q d::aA b5 (dF k.h k.s (.slice xx.1 k.log.length xx.2)) 158::bC (.slice xx.1 k.log.length xx.2) k.log::R):=hw.nilB 5
 have hbl:∀i,((es.take i).flatMap cJ).length≤2560*1000:=fun i=>Nat.le_trans (sS fun e h=>by
  obtain ⟨j,hj⟩:=List.mem_iff_getElem?.1 (List.mem_of_mem_take h)
  exact (hat j e hj).1) (by rw [List.length_take];omega)
 refine bX (σ:=Nat×Option Addr×Nat) (fun u=>[(0,ptr p),(1,.slice (some ⟨b,o,none⟩) es.length vcap),(5,ptr b5),(6,.int .i64 (A:Int)),(7,.slice u.2.1 ((es.take u.1).flatMap cJ).length u.2.2),(35,.slice (some ⟨b,o,none⟩) es.length vcap),(36,.int .i64 (es.length:Int)),(37,.int .i64 (u.1:Int))]) (fun u=>bY (.slice u.2.1 ((es.take u.1).flatMap cJ).length u.2.2) ((es.take u.1).flatMap cJ)::cN p q k.h k.s (.slice ad k.log.length cap) k.size::bC (.slice ad k.log.length cap) k.log::aB nameS q d::aA b5 (dF k.h k.s (.slice xx.1 k.log.length xx.2)) 158::bC (.slice xx.1 k.log.length xx.2) k.log::R) (fun u=>u.1≤es.length) (fun u=>es.length - u.1) (0,none,0) (Nat.zero_le _) hs ⟨rfl,rfl,rfl,rfl,rfl,rfl,rfl,rfl,trivial⟩ hw ?_
 clear hs hw
 rintro ⟨i,uad,ucap⟩ a W hi hs hw
 have hi:i≤es.length:=hi
 simp only at hs hw
 refine sv hs hw fun a hs=>?_
 refine cI hs (kt:=fun hc=>?_) (kf:=fun hc=>?_)
 ·have hi':i<es.length:=by simpa using hc
  obtain ⟨xe,hx,hdx⟩:=dS hi'
  obtain ⟨he,hxi⟩:=hat i xe hx
  have hsn:=aBV hx
  have l6:=wZ he
  have l5:=hbl i
  refine sv hs hw fun a hs=>?_
  refine pX hs (hr (subS (hw.sub (List.Sublist.cons _ (List.Sublist.refl _))))) hx fun a g o2 hpc hs=>?_
  refine eC hs (z:=zEnt) (cs:=bE xe) (hc:=hpc) (hl:=by rfl) (c:=fun a hs=>?_)
  refine sn hs hw fun b9 a W hs hw=>?_
  refine sx hs hw fun a W hs hw=>?_
  have hw:Has 0 w0 W (aA b9 (bE xe) 137::bY (.slice uad ((es.take i).flatMap cJ).length ucap) ((es.take i).flatMap cJ)::cN p q k.h k.s (.slice ad k.log.length cap) k.size::bC (.slice ad k.log.length cap) k.log::aB nameS q d::aA b5 (dF k.h k.s (.slice xx.1 k.log.length xx.2)) 158::bC (.slice xx.1 k.log.length xx.2) k.log::R):=hw
  replace hs:Slots a 79 [(0,ptr p),(1,.slice (some ⟨b,o,none⟩) es.length vcap),(5,ptr b5),(6,.int .i64 (A:Int)),(7,.slice uad ((es.take i).flatMap cJ).length ucap),(8,.int .i64 (i:Int)),(9,ptr b9),(35,.slice (some ⟨b,o,none⟩) es.length vcap),(36,.int .i64 (es.length:Int)),(37,.int .i64 (i:Int))]:=hs.of ⟨rfl,rfl,rfl,rfl,rfl,rfl,rfl,rfl,rfl,rfl,trivial⟩
  have hxw:(xe.ix !=IntKind.i64.wrap (e.ix+(i:Int)))=false:=by rw [IntWalk.i64_in _ (by omega),←hxi];simp
  refine bF [2] [.f 0 0,.f 0 0,.m 0,.f 1 1,.f 1 1,.f 1 1,.f 1 1,.f 1 1,.f 1 1,.f 1 1,.f 1 1,.f 1 1,.f 1 1,.f 1 1,.f 1 1] [.c0 _,.c0 _,.c1 (fun x=> .bool true),.c1 _,.c1 _,.c1 _,.c1 _,.c1 _,.c1 _,.c1 _,.c1 (fun x=> .int .i64 e.ix),.c1 _,.c1 _,.c1 (fun x=> .bool false),.c1 _] (aA b9 (bE xe) 137::bY (.slice uad ((es.take i).flatMap cJ).length ucap) ((es.take i).flatMap cJ)::cN p q k.h k.s (.slice ad k.log.length cap) k.size::bC (.slice ad k.log.length cap) k.log::aB nameS q d::aA b5 (dF k.h k.s (.slice xx.1 k.log.length xx.2)) 158::bC (.slice xx.1 k.log.length xx.2) k.log::R) (fun x=>aA b9 (bE xe) 137::bY (.slice uad ((es.take i).flatMap cJ).length ucap) ((es.take i).flatMap cJ)::cN p q k.h k.s (.slice ad k.log.length cap) k.size::bC (.slice ad k.log.length cap) k.log::aB nameS q d::aA b5 (dF k.h k.s (.slice xx.1 k.log.length xx.2)) 158::bC (.slice xx.1 k.log.length xx.2) k.log::R) (fun x y=>[]) (fun x y z=>[]) (fun x y z t=>[]) hs hw ?kk ⟨drs,drs,?m0,drs,drs,drs,drs,drs,drs,drs,?f10,drs,drs,?f13,drs,trivial⟩
  case m0=>
   intro x y z t LD a W hs hw
   refine cl hs ((wal_May_ent (e:=xe)).ok hw) fun a W hs hw=>?_
   rw [he] at hs
   exact ⟨{},hs,hw⟩
  case f10=>
   refine ⟨trivial,?_,trivial,trivial,trivial⟩
   intro x y z t LD a W hs hw
   refine sc hs ?_
   refine eP hs (hc:=hcell (subS (hw.sub (List.Sublist.cons _ (List.Sublist.cons _ (List.Sublist.refl _))))) 0 _ hfh.1) (c:=fun a hs=>?_)
   exact ⟨hs,hw⟩
  case f13=>
   refine ⟨trivial,?_,trivial,trivial,trivial⟩
   intro x y z t LD a W hs hw
   refine sv hs hw fun a hs=>?_
   rw [hxw] at hs
   exact ⟨hs,hw⟩
  case kk=>
  intro _ a W hs hw
  refine sx hs hw fun a W hs hw=>?_
  refine sg hs hw (fun s a W hs hw=>?_) (g:=aBE (e:=xe) he)
  refine hJ hs hw (l:=(es.take i).flatMap cJ) (m:=cJ xe) (hr:=fK (hw.rd_own In.hd) (jQ _)) (hb:=by omega) (c:=fun a ad2 cap2 W hs hw=>?_)
  rw [←hsn] at hs hw
  refine sv hs hw fun a hs=>?_
  exact bR (i+1,ad2,cap2) hs (hw.sl) hi' (by show es.length - (i+1)<es.length - i;omega) ⟨rfl,rfl,rfl,rfl,rfl,rfl,rfl,bS (i1 (by omega)),trivial⟩
 ·have htk:es.take i=es:=List.take_of_length_le (by simp at hc;omega)
  rw [htk] at hs hw
  have hbl0:=hbl es.length
  rw [List.take_length] at hbl0
  replace hs:Slots a 79 [(38,.bool (decide ((i:Int)<(es.length:Int)))),(0,ptr p),(1,.slice (some ⟨b,o,none⟩) es.length vcap),(5,ptr b5),(6,.int .i64 (A:Int)),(7,.slice uad (es.flatMap cJ).length ucap)]:=hs.of ⟨rfl,rfl,rfl,rfl,rfl,rfl,trivial⟩
  refine sv hs hw fun a hs=>?_
  rw [IntWalk.i64_in ((A:Int)+(es.length:Int)) (by omega),show decide ((A:Int)+(es.length:Int) > 200)=false from decide_eq_false (by omega)] at hs
  refine sx hs hw fun a W hs hw=>?_
  have hw:Has 0 w0 W (bC (.slice xx.1 k.log.length xx.2) k.log::bY (.slice uad (es.flatMap cJ).length ucap) (es.flatMap cJ)::cN p q k.h k.s (.slice ad k.log.length cap) k.size::bC (.slice ad k.log.length cap) k.log::aB nameS q d::aA b5 (dF k.h k.s (.slice xx.1 k.log.length xx.2)) 158::R):=hw.pm
  refine aG8 (z:=zEnt) hs hw hAl fun a ad2 cap2 hs hw=>?_
  refine sv hs hw fun a hs=>?_
  refine lF hs (hw:=hw) (k:=A) (m:=es.length) (xs:=(k.log.flatMap bE).take (A*4)) (news:=es.flatMap bE) (hsrc:=fK (hr (hw.sub (by repeat (first|exact List.Sublist.refl _|apply List.Sublist.cons)))) (sP _)) (h63:=by omega) (hb:=by omega) (c:=fun a ad3 cap3 W hs hw=>?_)
  have hfl:(k.log.flatMap bE).take (A*4) ++ es.flatMap bE=(k.log.take A ++ es).flatMap bE:=by rw [List.flatMap_append,sR]
  have hln:A+es.length=(k.log.take A ++ es).length:=by rw [List.length_append,List.length_take];omega
  rw [hfl,hln] at hw
  rw [hln] at hs
  refine sx hs hw fun a W hs hw=>?_
  have hw:Has 0 w0 W (cN p q k.h k.s (.slice ad k.log.length cap) k.size::aB nameS q d::bY (.slice uad (es.flatMap cJ).length ucap) (es.flatMap cJ)::bC (.slice ad3 (k.log.take A ++ es).length cap3) (k.log.take A ++ es)::aA b5 (dF k.h k.s (.slice ad3 (k.log.take A ++ es).length cap3)) 158::bC (.slice ad k.log.length cap) k.log::R):=hw.pm
  refine cl hs (aBW (h2:=k.h) (s2:=k.s) (es.flatMap cJ) _ h0s h9 hd (fun h=>h.rd_own In.hd) hw) fun a W hs hw=>?_
  refine sv hs hw fun a hs=>?_
  refine rt1 hs rfl rfl ⟨rfl,?_⟩
  rw [hk']
  exact p7 (k:={k with log:=k.log.take A ++ es,size:=k.size+(es.flatMap cJ).length}) (hw.sl) ⟨by rw [←hln];omega,(by show 0<k.size+_;omega),hs1,hs2⟩
end
end Go.Proofs.YtgpbngfehfbndaaGreatDoor.Sw
namespace Go.Proofs
open Go.Shelf
def Tryz.keysD_ren:Go.Shelf.Ren:=⟨fun|7=>147|10=>223|n=>n,fun|23=>143|26=>9|3=>142|28=>226|0=>0|27=>225|33=>169|4=>4|n=>n,fun|n=>n⟩
theorem Tryz.keysD:Go.Proofs.SlLaysZ.n7 Tryz.prog Tryz.keysD_ren:={
 mixed:=by kernel_rfl
 f7:=⟨Tryz.f147.name,by decide,Tryz.func147.trans (congrArg some (by kernel_rfl))⟩
 f10:=⟨Tryz.f223.name,by decide,Tryz.func223.trans (congrArg some (by kernel_rfl))⟩
 t0:=Tryz.underlying0
 a0:=Tryz.isAgg0
 z0:=Tryz.sizeOf0
 v0:=Tryz.zeroValue0
 t4:=Tryz.underlying4
 a4:=Tryz.isAgg4
 z4:=Tryz.sizeOf4
 v4:=Tryz.zeroValue4
 t23:=Tryz.underlying143
 a23:=Tryz.isAgg143
 z23:=Tryz.sizeOf143
 v23:=Tryz.zeroValue143
 t26:=Tryz.underlying9
 a26:=Tryz.isAgg9
 z26:=Tryz.sizeOf9
 v26:=Tryz.zeroValue9
 t27:=Tryz.underlying225
 a27:=Tryz.isAgg225
 z27:=Tryz.sizeOf225
 v27:=Tryz.zeroValue225
 t28:=Tryz.underlying226
 a28:=Tryz.isAgg226
 z28:=Tryz.sizeOf226
 v28:=Tryz.zeroValue226
 t33:=Tryz.underlying169
 a33:=Tryz.isAgg169
 z33:=Tryz.sizeOf169
 v33:=Tryz.zeroValue169}
def Tryz.collD_ren:Go.Shelf.Ren:=⟨fun|8=>221|11=>266|n=>n,fun|26=>9|28=>226|24=>140|0=>0|33=>169|4=>4|n=>n,fun|n=>n⟩
theorem Tryz.collD:Go.Proofs.SlLaysZ.n8 Tryz.prog Tryz.collD_ren:={
 mixed:=by kernel_rfl
 f8:=⟨Tryz.f221.name,by decide,Tryz.func221.trans (congrArg some (by kernel_rfl))⟩
 f11:=⟨Tryz.f266.name,by decide,Tryz.func266.trans (congrArg some (by kernel_rfl))⟩
 t0:=Tryz.underlying0
 a0:=Tryz.isAgg0
 z0:=Tryz.sizeOf0
 v0:=Tryz.zeroValue0
 t24:=Tryz.underlying140
 a24:=Tryz.isAgg140
 z24:=Tryz.sizeOf140
 v24:=Tryz.zeroValue140
 t26:=Tryz.underlying9
 a26:=Tryz.isAgg9
 z26:=Tryz.sizeOf9
 v26:=Tryz.zeroValue9
 t28:=Tryz.underlying226
 a28:=Tryz.isAgg226
 z28:=Tryz.sizeOf226
 v28:=Tryz.zeroValue226
 i26:=by kernel_rfl}
end Go.Proofs
namespace Go.Sx
open Go.RowKit Go.Maps
open Go.WideElems (Fit rd rg rd_mk rg_of)
theorem aGb {P:Program} {K:TypeId} (hK:P.underlying K=some .string) {s:ByteArray} (hs:s.size≤maxLen):keyOf P K (.string s)=some (.string s.data.toList):=by
 unfold keyOf
 rw [hK]
 simp [mapKey,hK,hs]
theorem aGc {P:Program} {K:TypeId} (hK:P.underlying K=some .string) {W:World} {b c:Nat} {es:List Ent} (h:MapAt W b es c) (hn:(es.map (·.k)).Nodup) (hs:∀e∈es,e.k.size≤maxLen) (hl:es.length≤maxLen):
  ∃D0:DataW Unit,W.ownsMap P K (fun _=>some (.nil,[])) b es.length D0∧(strKeys D0).Perm (es.map fun e=>e.k.data.toList)∧Maps.size D0=es.length:=by
 have hrd:∀e∈es,rd (H:=Unit) P K (fun _=>some (.nil,[])) e.raw=some (.string e.k.data.toList,.nil):=fun e he=>rd_mk (yv:=(.nil,[])) (aGb hK (hs e he)) rfl
 refine ⟨_,⟨⟨es.map Ent.raw⟩,c,h.at_,⟨by simpa using hl,⟨?_,?_,?_⟩,?_⟩,by simp,rfl⟩,?_,?_⟩
 ·intro x hx
  obtain ⟨e,he,rfl⟩:=List.mem_map.1 hx
  exact h.lt e he
 ·show ((es.map Ent.raw).map (·.born)).Nodup
  rw [List.map_map]
  exact h.nodup
 ·show ((es.map Ent.raw).map (·.key)).Nodup
  rw [List.map_map]
  have:es.map ((·.key)∘Ent.raw)=(es.map (·.k)).map Value.string:=by rw [List.map_map];rfl
  rw [this]
  exact List.Pairwise.map (R:=(·≠·)) (S:=(·≠·)) Value.string (fun a b hab e=>hab (by injection e)) hn
 ·intro x hx
  obtain ⟨e,he,rfl⟩:=List.mem_map.1 hx
  exact ⟨_,hrd e he⟩
 ·show (List.map (fun p:Lit×DataW Unit=>strOf p.1) _).Perm _
  refine ((WideShapes.sorted_perm _).map _).trans ?_
  show (List.map _ (List.map _ (es.map Ent.raw))).Perm _
  rw [List.map_map,List.map_map]
  refine List.Perm.of_eq (List.map_congr_left fun e he=>?_)
  show strOf (rg P K _ e.raw).1=_
  rw [rg_of (hrd e he)]
  rfl
 ·show List.length _=_
  rw [(WideShapes.sorted_perm _).length_eq]
  simp
end Go.Sx
namespace Go.Proofs.YtgpbngfehfbndaaGreatDoor.Sw
open Go.RowKit Go.Sx Go.Sort Go.Proofs Go.Maps
theorem aGd (w0 W:World) (m:Nat) (R:List Res) (hw:Has 0 w0 W R):
  Calls Tryz.prog 147 ⟨[.map (some m)]⟩ W fun e W'=>∃q,e= .returned (.func (.func 223) #[] #[.pointer (some ⟨q,0,none⟩)])∧True∧Has 0 w0 W' (aA q [.map (some m)] (Tryz.keysD_ren.t 23)::R):=
 (callsIn_wide.1 (AnyZ.keys_in Tryz.keysD Fence.wide 5 trivial rfl (some m) W)).mono (by
  rintro e W' ⟨rfl,rfl⟩
  exact ⟨_,rfl,trivial,hw.new [.map (some m)] _⟩)
theorem aGe (w0 W:World) (q m:Nat) (d:KV) (R:List Res) (hl:d.length≤1) (hd:∀p∈d,p.1.size≤1000) (hw:Has 0 w0 W (aA q [.map (some m)] (Tryz.keysD_ren.t 23)::bW m d::R)):
  Calls Tryz.prog 221 ⟨[.func (.func 223) #[] #[.pointer (some ⟨q,0,none⟩)]]⟩ W fun e W'=>∃(sv:Value),e= .returned sv∧True∧
   Has 0 w0 W' (Sx.Own 9 1 sv d.length ((d.map (·.1)).map Value.string)::aA q [.map (some m)] (Tryz.keysD_ren.t 23)::bW m d::R):=by
 obtain ⟨es,c,hm,he⟩:=hw.map_at (In.tl In.hd)
 have hk:es.map (·.k)=d.map (·.1):=by
  rw [←he,List.map_map]
  rfl
 have hlen:es.length=d.length:=by simpa using congrArg List.length hk
 have hsz:∀e∈es,e.k.size≤maxLen:=by
  intro e he'
  have h1:e.k∈d.map (·.1):=hk▸List.mem_map_of_mem he'
  obtain ⟨p,hp,hpe⟩:=List.mem_map.1 h1
  have h2:=hd p hp
  rw [hpe] at h2
  exact Nat.le_trans h2 (by decide)
 have hnd:(es.map (·.k)).Nodup:=by
  rw [hk]
  match d,hl with
  | [],_=>simp
  | [p],_=>simp
 obtain ⟨D0,ho,hp,hs⟩:=aGc (P:=Tryz.prog) (K:=Tryz.keysD_ren.t 26) (by kernel_rfl) hm hnd hsz (Nat.le_trans (by omega:es.length≤50) (by decide))
 have hq:=hw.block In.hd
 have hseq:SeqGives Fence.wide 3 Tryz.prog (Tryz.keysD_ren.f 10) #[.pointer (some ⟨q,0,none⟩)] encStr (fun ss=>ss.Perm (strKeys D0)) (Maps.size D0) W:=
  AnyZ.keys_gives (ρ:=Tryz.keysD_ren) {Tryz.keysD with} Fence.wide _ trivial rfl (by omega) q m es.length D0 W hq.2.2 (by rw [hC hq.1];rfl) ho
 refine (callsIn_wide.1 (AnyZ.collect_in Tryz.collD Fence.wide 5 trivial trivial rfl (by omega) (Tryz.keysD_ren.f 10) #[.pointer (some ⟨q,0,none⟩)] trivial (enters_of Tryz.func223 (by kernel_rfl) rfl) _ _ (by rw [hs];exact Nat.le_trans (by omega:es.length≤50) (by decide)) (by rw [hs];omega) W hseq)).mono ?_
 rintro e W' ⟨v,ss,rfl,hS,hrow,hnil,hb⟩
 have hks:(ss.map fun s=>(⟨s.toArray⟩:ByteArray)).map Value.string=ss.map encStr:=by rw [List.map_map];rfl
 have hpm:(ss.map fun s=>(⟨s.toArray⟩:ByteArray)).Perm (d.map (·.1)):=by
  refine ((hS.trans hp).map _).trans (List.Perm.of_eq ?_)
  rw [List.map_map,←hk]
  refine List.map_congr_left fun e _=>?_
  show (⟨e.k.data.toList.toArray⟩:ByteArray)=e.k
  simp
 have heq:(ss.map fun s=>(⟨s.toArray⟩:ByteArray))=d.map (·.1):=by
  match d,hl,hpm with
  | [],_,hpm=>exact List.Perm.eq_nil hpm
  | [p],_,hpm=>exact List.perm_singleton.1 hpm
 have hsl:ss.length=d.length:=by simpa using congrArg List.length heq
 refine ⟨v,rfl,trivial,?_⟩
 rw [←heq,hks,←hsl]
 refine hw.newOwn hb ?_
 obtain ⟨h1,h2⟩:=hrow
 refine ⟨h1,h2.imp id ?_⟩
 rintro ⟨g,cap,cur,h3,h4,h5,h6,h7,h8,h9⟩
 exact ⟨g,cap,cur.toList,h3,⟨h4,(Array.getElem?_eq_some_iff.1 h5).1⟩,h5,h6,h7,by simpa using h8,h9⟩
section
variable {nm:ByteArray} {p m f:Nat} {w0 W:World} {R L:List Res} {d:bM}
theorem aGf {ad:Option Addr} {k cap:Nat} (hk:k≤1):Get Tryz.prog 222 [.slice ad k cap] L (.tuple ⟨[]⟩) L:=⟨fun {w W} hw=>by
 have hi:∀{W:World},Has 0 w W L→Calls Tryz.prog 294 ⟨[.slice ad k cap,.int .i64 0,.int .i64 (k:Int)]⟩ W fun e W'=>e= .returned (.tuple ⟨[]⟩)∧Has 0 w W' L:=by
  intro W hw
  refine enter Tryz.func294 Tryz.ntmps294 rfl rfl fun a hs=>?_
  refine sv hs hw fun a hs=>?_
  refine bX (σ:=Unit) (fun _=>[(2,.int .i64 (k:Int)),(6,.int .i64 1)]) (fun _=>L) (fun _=>True) (fun _=>0) () trivial hs ⟨rfl,rfl,trivial⟩ hw ?_
  clear hs hw
  intro _ a W _ hs hw
  refine sv hs hw fun a hs=>?_
  rw [show decide ((1:Int)<(k:Int))=false from decide_eq_false (by omega)] at hs
  refine sc hs ?_
  first
   |exact rt0 hs rfl ⟨rfl,hw⟩
   |exact cO hs rfl ⟨rfl,hw⟩
 have hp:∀{W:World} {q:Int},Has 0 w W L→Calls Tryz.prog 267 ⟨[.slice ad k cap,.int .i64 0,.int .i64 (k:Int),.int .i64 q]⟩ W fun e W'=>e= .returned (.tuple ⟨[]⟩)∧Has 0 w W' L:=by
  intro W q hw
  refine enter Tryz.func267 Tryz.ntmps267 rfl rfl fun a hs=>?_
  refine sv hs hw fun a hs=>?_
  refine bX (σ:=Unit) (fun _=>[(0,.slice ad k cap),(1,.int .i64 0),(2,.int .i64 (k:Int))]) (fun _=>L) (fun _=>True) (fun _=>0) () trivial hs ⟨rfl,rfl,rfl,trivial⟩ hw ?_
  clear hs hw
  intro _ a W _ hs hw
  refine sv hs hw fun a hs=>?_
  rw [show decide (IntKind.i64.wrap ((k:Int) - 0)≤12)=true from decide_eq_true (by rw [IntWalk.i64_in _ (by omega)];omega)] at hs
  refine sv hs hw fun a hs=>?_
  refine cl hs (hi hw) fun a W hs hw=>?_
  refine sc hs ?_
  first
   |exact rt0 hs rfl ⟨rfl,hw⟩
   |exact cO hs rfl ⟨rfl,hw⟩
 refine enter Tryz.func222 Tryz.ntmps222 rfl rfl fun a hs=>?_
 refine sv hs hw fun a hs=>?_
 refine aF hs (hc:=Tryz.bits_Len (IntKind.u64.wrap (k:Int)) W (by rw [IntKind.wrap_u64];omega) (by rw [IntKind.wrap_u64];omega)) (k:=?_)
 rintro e W' ⟨rfl,rfl⟩
 refine ⟨_,rfl,fun a hs=>?_⟩
 refine cl hs (hp hw) fun a W hs hw=>?_
 refine sc hs ?_
 exact cO hs rfl ⟨rfl,hw⟩⟩
theorem aGg (q m:Nat) (d:KV) (hl:d.length≤1) (hd:∀p∈d,p.1.size≤1000) (hw:Has 0 w0 W (aA q [.map (some m)] (Tryz.keysD_ren.t 23)::bW m d::R)):
  Calls Tryz.prog 146 ⟨[.func (.func 223) #[] #[.pointer (some ⟨q,0,none⟩)]]⟩ W fun e W'=>∃(sv:Value),e= .returned sv∧True∧
   Has 0 w0 W' (Sx.Own 9 1 sv d.length ((d.map (·.1)).map Value.string)::aA q [.map (some m)] (Tryz.keysD_ren.t 23)::bW m d::R):=by
 refine enter Tryz.func146 Tryz.ntmps146 rfl rfl fun a hs=>?_
 refine sv hs hw fun a hs=>?_
 refine cle hs (aGe w0 W q m d R hl hd hw) fun s a W _ hs hw=>?_
 obtain ⟨ad,cap,rfl⟩:=hw.own_slice
 refine sv hs hw fun a hs=>?_
 refine cl hs ((aGf (ad:=ad) (cap:=cap) hl).ok hw) fun a W hs hw=>?_
 refine sv hs hw fun a hs=>?_
 exact rt1 hs rfl rfl ⟨_,rfl,trivial,hw⟩
def lT (nm:ByteArray):bM→List ByteArray
 |none=>[]
 |some _=>[nm]
theorem aGh (hn:nm.size≤1000) (hw:Has 0 w0 W (aB nm p d::R)):
  Calls Tryz.prog 82 ⟨[ptr p]⟩ W fun e W'=>∃x:Option Addr×Nat,e= .returned (.slice x.1 (lT nm d).length x.2)∧True∧Has 0 w0 W' (Sx.Own 9 1 (.slice x.1 (lT nm d).length x.2) (lT nm d).length ((lT nm d).map Value.string)::aB nm p d::R):=by
 obtain ⟨m,c,kv,hkl,hkn,R',hw,hback⟩:∃(m:Nat) (c:Int) (kv:KV),kv.length≤1∧kv.map (·.1)=lT nm d∧∃R',Has 0 w0 W (eV p m c::bW m kv::R')∧∀{W L},Has 0 w0 W (L::eV p m c::bW m kv::R')→Has 0 w0 W (L::aB nm p d::R):=by
  cases d with
  |none=>
   obtain ⟨m,c,hw⟩:=sL hw
   exact ⟨m,c,[],by simp,rfl,R,hw,fun h=>(wW (h.pm:Has 0 w0 _ (eV p m c::bW m []::_::R))).swap2⟩
  |some fd=>
   obtain ⟨m,c,f,ad,cap,hw⟩:=sM hw
   exact ⟨m,c,_,by simp,rfl,_,hw,fun {W L} h=>(pV (f:=f) (h.pm:Has 0 w0 W (eV p m c::bW m [(nm,ptr f)]::kV f (.slice ad fd.b.length cap) fd.lasts fd.there::bY (.slice ad fd.b.length cap) fd.b::L::R))).swap2⟩
 have hd1:∀p∈kv,p.1.size≤1000:=by
  intro p hp
  have h1:p.1∈lT nm d:=hkn▸List.mem_map_of_mem hp
  cases d with
  |none=>cases h1
  |some fd=>
   have h1:p.1∈[nm]:=h1
   rw [List.mem_singleton] at h1
   rw [h1];exact hn
 have hlen:kv.length=(lT nm d).length:=by rw [←hkn,List.length_map]
 refine enter Tryz.func82 Tryz.ntmps82 rfl rfl fun a hs=>?_
 refine sv hs hw fun a hs=>?_
 refine cle hs (aGd w0 W m _ hw) fun q a W _ hs hw=>?_
 have hw:Has 0 w0 W (aA q [.map (some m)] (Tryz.keysD_ren.t 23)::bW m kv::eV p m c::R'):=hw.pm
 refine cle hs (aGg q m kv hkl hd1 hw) fun s a W _ hs hw=>?_
 rw [hkn,hlen] at hw
 obtain ⟨ad,cap,rfl⟩:=hw.own_slice
 refine sv hs hw fun a hs=>?_
 refine rt1 hs rfl rfl ⟨(ad,cap),rfl,trivial,?_⟩
 exact hback (hw.sl)
end
end Go.Proofs.YtgpbngfehfbndaaGreatDoor.Sw
namespace Go.Proofs.YtgpbngfehfbndaaGreatDoor.Sw
open Go.RowKit Go.Sx
section
variable {p q:Nat} {k k':dY} {v v2:Value} {w0 W:World} {R L:List Res} {d d':bM}
theorem aGi (hw:Has 0 w0 W (aB nameS q none::R)):
  Calls Tryz.prog 86 ⟨[ptr q]⟩ W fun e W'=>∃p:Nat,e= .returned (.tuple ⟨[ptr p,.int .i64 0]⟩)∧True∧Has 0 w0 W' (cN p q ⟨0,0⟩ zeroSnap (.slice none 0 0) 0::aB nameS q none::R):=by
 refine enter Tryz.func86 Tryz.ntmps86 rfl rfl fun a hs=>?_
 refine sv hs hw fun a hs=>?_
 refine sn hs hw fun p a W hs hw=>?_
 refine sv hs hw fun a hs=>?_
 refine cl hs (aBQ w0 W nameS _ hw.swap2) fun a W hs hw=>?_
 refine sv hs hw fun a hs=>?_
 exact rt2 hs rfl rfl rfl ⟨p,rfl,trivial,hw.swap2⟩
theorem aGj (conf data:ByteArray) (hk:pR none ⟨⟨0,0⟩,zeroSnap,[],0⟩ ⟨0,0,conf,data⟩=some (d',k')) (hw:Has 0 w0 W (cN p q ⟨0,0⟩ zeroSnap (.slice none 0 0) 0::aB nameS q none::R)):
  Calls Tryz.prog 87 ⟨[ptr p,.agg ⟨e7 ⟨0,0,conf,data⟩⟩]⟩ W fun e W'=>e= .returned (.int .i64 0)∧Has 0 w0 W' (aX p q k'::aB nameS q d'::R):=by
 obtain ⟨hsm,hd,rfl⟩:eU ⟨0,0,conf,data⟩=true∧mM (cZ ⟨0,0,conf,data⟩ ++ cS ⟨0,0⟩ ++ ([]:List bZ).flatMap cJ)=some d'∧k'=⟨⟨0,0⟩,⟨0,0,conf,data⟩,[],(cZ ⟨0,0,conf,data⟩ ++ cS ⟨0,0⟩ ++ ([]:List bZ).flatMap cJ).length⟩:=by
  unfold pR at hk
  split at hk
  ·cases hk
  ·rename_i hn
   have hm:eU ⟨0,0,conf,data⟩=true:=by cases hh:eU ⟨0,0,conf,data⟩ with|true=>rfl|false=>exact absurd (.inl hh) hn
   have hk:((mM (cZ ⟨0,0,conf,data⟩ ++ cS ⟨0,0⟩ ++ ([]:List bZ).flatMap cJ)).map fun d=>(d,(⟨⟨0,0⟩,⟨0,0,conf,data⟩,[],(cZ ⟨0,0,conf,data⟩ ++ cS ⟨0,0⟩ ++ ([]:List bZ).flatMap cJ).length⟩:dY)))=some (d',k'):=hk
   rw [Option.map_eq_some_iff] at hk
   obtain ⟨x,h1,h2⟩:=hk
   injection h2 with h3 h4
   exact ⟨hm,h3▸h1,h4.symm⟩
 have hpos:0<(cZ ⟨0,0,conf,data⟩).length:=by unfold cZ frB;simp
 obtain ⟨B,hB⟩:∃B,B=cZ ⟨0,0,conf,data⟩:=⟨_,rfl⟩
 have hput:∀{W L},Has 0 w0 W L→Calls Tryz.prog 153 ⟨[.agg ⟨e7 ⟨0,0,conf,data⟩⟩]⟩ W fun e W'=>∃x:Option Addr×Nat,e= .returned (.slice x.1 B.length x.2)∧True∧Has 0 w0 W' (bY (.slice x.1 B.length x.2) B::L):=fun {W L} h=>((wT hsm).ok h).mono fun e W' ⟨x,h1,h2⟩=>⟨x,by rw [hB];exact h1,trivial,by rw [hB];exact h2⟩
 rw [←hB] at hpos hd⊢
 refine enter Tryz.func87 Tryz.ntmps87 rfl rfl fun a hs=>?_
 refine sc hs ?_
 refine sn hs hw fun b3 a W hs hw=>?_
 have hw:Has 0 w0 W (cN p q ⟨0,0⟩ zeroSnap (.slice none 0 0) 0::aB nameS q none::aA b3 (e7 ⟨0,0,conf,data⟩) 36::R):=hw.pm
 refine sv hs hw fun a hs=>?_
 refine bF [1] [.f 0 0,.m 0,.f 1 1,.f 1 1,.f 1 1,.f 1 1,.f 1 1,.f 1 1,.f 1 1,.f 1 1,.f 1 1,.f 1 1,.f 1 1,.f 1 1] [.c0 _,.c1 (fun x=> .slice x.ad B.length x.cap),.c1 (fun x=> .bool false),.c1 _,.c1 _,.c1 _,.c1 _,.c1 _,.c1 _,.c1 _,.c1 _,.c1 _,.c1 _,.c1 _] (cN p q ⟨0,0⟩ zeroSnap (.slice none 0 0) 0::aB nameS q none::aA b3 (e7 ⟨0,0,conf,data⟩) 36::R) (fun x=>bY (.slice x.ad B.length x.cap) B::cN p q ⟨0,0⟩ zeroSnap (.slice none 0 0) 0::aB nameS q none::aA b3 (e7 ⟨0,0,conf,data⟩) 36::R) (fun x y=>[]) (fun x y z=>[]) (fun x y z t=>[]) hs hw ?kk ⟨drs,?m0,?f2,drs,drs,drs,drs,drs,drs,drs,drs,drs,drs,drs,trivial⟩
 case m0=>
  intro x y z t LD a W hs hw
  refine cle hs (hput hw) fun s a W _ hs hw=>?_
  exact ⟨{ad:=s.1,cap:=s.2},hs,hw⟩
 case f2=>
  refine ⟨trivial,?_,trivial,trivial,trivial⟩
  intro x y z t LD a W hs hw
  have hne:x.ad.isNone=false:=by
   obtain ⟨b,o,cap,hv,_⟩:=j8 (hw.rd_own In.hd) hpos
   injection hv with hv1 _ _
   rw [hv1];rfl
  refine kE hs (c:=fun a hs=>?_)
  rw [hne] at hs
  exact ⟨hs,hw⟩
 case kk=>
 intro xx a W hs hw
 replace hs:Slots a 84 [(0,ptr p),(3,ptr b3),(23,.bool false)]:=hs.of ⟨rfl,rfl,rfl,trivial⟩
 have hw:Has 0 w0 W (bC (.slice none 0 0) []::bY (.slice xx.ad B.length xx.cap) B::cN p q ⟨0,0⟩ zeroSnap (.slice none 0 0) 0::aB nameS q none::aA b3 (e7 ⟨0,0,conf,data⟩) 36::R):=hw.nilOwn 137 4
 have hw:Has 0 w0 W (cN p q ⟨0,0⟩ zeroSnap (.slice none 0 0) 0::bC (.slice none 0 0) []::aB nameS q none::aA b3 (e7 ⟨0,0,conf,data⟩) 36::R):=hw.sl
 refine sv hs hw fun a hs=>?_
 refine cle hs (sT (by decide) hw) fun s a W _ hs hw=>?_
 refine sn hs hw fun b5 a W hs hw=>?_
 refine sx hs hw fun a W hs hw=>?_
 rw [show decide (IntKind.i64.wrap (IntKind.i64.wrap ((⟨0,0,conf,data⟩:eA).ix - zeroSnap.ix) - 1)<0)=true from rfl] at hs
 refine sx hs hw fun a W hs hw=>?_
 rw [show ((⟨0,0,conf,data⟩:eA).term == zeroSnap.term)=true from rfl] at hs
 refine sx hs hw fun a W hs hw=>?_
 have hw:Has 0 w0 W (cN p q ⟨0,0⟩ zeroSnap (.slice none 0 0) 0::aB nameS q none::bC (.slice s.1 0 s.2) []::aA b5 (dF ⟨0,0⟩ ⟨0,0,conf,data⟩ (.slice s.1 0 s.2)) 158::aA b3 (e7 ⟨0,0,conf,data⟩) 36::R):=hw.sl
 refine cl hs (aG4 (h2:=⟨0,0⟩) (s2:=⟨0,0,conf,data⟩) (log:=[]) (by decide) hsm (by decide) (fun e he=>by cases he) (d':=d') (by rw [←hB];exact hd) (fun h=>h.rd_own In.hd) hw) fun a W hs hw=>?_
 refine sx hs hw fun a W hs hw=>?_
 refine rt1 hs rfl rfl ⟨rfl,?_⟩
 rw [←hB] at hw
 have hw:Has 0 w0 W (cN p q ⟨0,0⟩ ⟨0,0,conf,data⟩ (.slice s.1 0 s.2) (B ++ cS ⟨0,0⟩ ++ ([]:List bZ).flatMap cJ).length::aB nameS q d'::bC (.slice s.1 0 s.2) []::aA b5 (dF ⟨0,0⟩ ⟨0,0,conf,data⟩ (.slice s.1 0 s.2)) 158::aA b3 (e7 ⟨0,0,conf,data⟩) 36::R):=hw
 exact p7 (k:=⟨⟨0,0⟩,⟨0,0,conf,data⟩,[],(B ++ cS ⟨0,0⟩ ++ ([]:List bZ).flatMap cJ).length⟩) (hw.sl) ⟨by show (0:Nat)≤200;omega,by show 0<(B ++ _ ++ _).length;rw [List.length_append,List.length_append];omega,Int.le_refl 0,by show (0:Int)≤1099511627776;omega⟩
end
instance arTrack:Ar Tryz.prog 338 8 2:=⟨by kernel_rfl⟩
theorem p8 {x:Int} (h:srv x=true):0≤x∧x<8:=by
 unfold srv at h
 simp at h
 omega
theorem xA {l:List Int} {x:Int} (h:l.length=8) (hx:0≤x∧x<8):l[x.toNat]? =some (nth l x):=by
 unfold nth
 rw [List.getD_eq_getElem?_getD,List.getElem?_eq_getElem (by omega)];rfl
theorem p9 {nx mt:List Int} {x:Int} (h:nx.length=8) (hx:0≤x∧x<8):(bQ nx ++ bQ mt)[0+0+x.toNat*1]? =some (.int .i64 (nth nx x)):=by
 rw [show 0+0+x.toNat*1=x.toNat by omega,List.getElem?_append_left (by rw [List.length_map];omega),List.getElem?_map,xA h hx];rfl
theorem xB {nx mt:List Int} {x:Int} (h:nx.length=8) (h2:mt.length=8) (hx:0≤x∧x<8):(bQ nx ++ bQ mt)[0+8+x.toNat*1]? =some (.int .i64 (nth mt x)):=by
 rw [List.getElem?_append_right (by rw [List.length_map];omega),List.length_map,List.getElem?_map,show 0+8+x.toNat*1 - nx.length=x.toNat by omega,xA h2 hx];rfl
theorem oQ {l:List Value} {i:Nat} {v:Value} (h:i<l.length):ov l i [v]=l.set i v:=by
 rw [kD _ _ _ (by simp;omega),List.set_eq_take_append_cons_drop,if_pos h];simp
theorem qA {nx mt:List Int} {x v:Int} (h:nx.length=8) (hx:0≤x∧x<8):ov (bQ nx ++ bQ mt) (0+0+x.toNat*1) [.int .i64 v]=bQ (eD nx x v) ++ bQ mt:=by
 rw [show 0+0+x.toNat*1=x.toNat by omega,oQ (by simp;omega),List.set_append_left _ _ (by rw [List.length_map];omega)]
 unfold eD bQ
 rw [List.map_set]
theorem aGk {nx mt:List Int} {x v:Int} (h:nx.length=8) (h2:mt.length=8) (hx:0≤x∧x<8):ov (bQ nx ++ bQ mt) (0+8+x.toNat*1) [.int .i64 v]=bQ nx ++ bQ (eD mt x v):=by
 rw [oQ (by simp;omega),List.set_append_right _ _ (by rw [List.length_map];omega),List.length_map,show 0+8+x.toNat*1 - nx.length=x.toNat by omega]
 unfold eD bQ
 rw [List.map_set]
theorem qB {nx mt:List Int} {x:Int} (h:nx.length=8) (h2:mt.length=8) (hx:0≤x∧x<8) (v:Value):Nat.ble (0+0+x.toNat*1+ [v].length) (bQ nx ++ bQ mt).length=true:=Nat.ble_eq_true_of_le (by simp;omega)
theorem aGl {nx mt:List Int} {x:Int} (h:nx.length=8) (h2:mt.length=8) (hx:0≤x∧x<8) (v:Value):Nat.ble (0+8+x.toNat*1+ [v].length) (bQ nx ++ bQ mt).length=true:=Nat.ble_eq_true_of_le (by simp;omega)
abbrev aGm (p:Nat) (nx mt:List Int):Res:=aA p (bQ nx ++ bQ mt) 340
section
variable {p:Nat} {t:TrackD} {L L1:List Res} {X i:Int}
instance track_in:Get Tryz.prog 264 [.int .i64 X] L (.bool (cX X)) L:=⟨fun {w W} hw=>by
 have e:cX X=(decide (X≥0) && decide (X≤1099511627776)):=by unfold cX;by_cases h:X<0 <;> by_cases h2:X > 1099511627776 <;> simp [h,h2] <;> omega
 rw [e]
 refine enter Tryz.func264 Tryz.ntmps264 rfl rfl fun a hs=>?_
 refine sv hs hw fun a hs=>?_
 cases c1:decide (X≥0) with
 |false=>
  rw [c1] at hs
  refine sv hs hw fun a hs=>?_
  exact rt1 hs rfl rfl ⟨rfl,hw⟩
 |true=>
  rw [c1] at hs
  refine sv hs hw fun a hs=>?_
  exact rt1 hs rfl rfl ⟨rfl,hw⟩⟩
instance track_may:Get Tryz.prog 265 [ptr p,.int .i64 X] L (.bool (srv X)) L:=⟨fun {w W} hw=>by
 refine enter Tryz.func265 Tryz.ntmps265 rfl rfl fun a hs=>?_
 refine sv hs hw fun a hs=>?_
 unfold srv
 cases c1:decide (X≥1) with
 |false=>
  rw [c1] at hs
  refine sv hs hw fun a hs=>?_
  exact rt1 hs rfl rfl ⟨rfl,hw⟩
 |true=>
  rw [c1] at hs
  refine sv hs hw fun a hs=>?_
  exact rt1 hs rfl rfl ⟨rfl,hw⟩⟩
instance track_may0:Get Tryz.prog 265 [.pointer none,.int .i64 X] L (.bool false) L:=⟨fun {w W} hw=>by
 refine enter Tryz.func265 Tryz.ntmps265 rfl rfl fun a hs=>?_
 refine sv hs hw fun a hs=>?_
 exact rt1 hs rfl rfl ⟨rfl,hw⟩⟩
instance track_Next [c:dH (fun t=>gG p t) L t L1]:Get Tryz.prog 219 [ptr p,.int .i64 X] L (.int .i64 (t.nextOf X)) L:=⟨fun {w W} hw=>by
 obtain ⟨hl,hw⟩:=nR (hw.pick c.p)
 refine enter Tryz.func219 Tryz.ntmps219 rfl rfl fun a hs=>?_
 refine sx hs hw fun a W hs hw=>?_
 unfold TrackD.nextOf
 cases c1:srv X with
 |false=>
  rw [c1] at hs
  refine sv hs hw fun a hs=>?_
  exact rt1 hs rfl rfl ⟨rfl,(iK hw hl).unpick c.p⟩
 |true=>
  rw [c1] at hs
  have hx:=p8 c1
  have hj0:=hx.1
  have hj1:X<((8:Nat):Int):=hx.2
  have hl1:=p9 (mt:=t.mat) hl.1 hx
  refine sw (P:=Tryz.prog) hs hw fun a W hs hw=>?_
  exact rt1 hs rfl rfl ⟨rfl,(iK hw hl).unpick c.p⟩⟩
theorem track_Sent [c:dH (fun t=>gG p t) L t L1]:Get Tryz.prog 262 [ptr p,.int .i64 X,.int .i64 i] L (.tuple ⟨[]⟩) (gG p (t.sent X i)::L1):=⟨fun {w W} hw=>by
 obtain ⟨hl,hw⟩:=nR (hw.pick c.p)
 have e:t.sent X i=match srv X && cX i with|false=>t|true=>⟨eD t.next X (max (nth t.next X) (w64 (i+1))),t.mat⟩:=rfl
 rw [e]
 refine enter Tryz.func262 Tryz.ntmps262 rfl rfl fun a hs=>?_
 refine sx hs hw fun a W hs hw=>?_
 cases c1:srv X with
 |false=>
  rw [c1] at hs
  refine sv hs hw fun a hs=>?_
  exact cO hs rfl ⟨rfl,iK hw hl⟩
 |true=>
  rw [c1] at hs
  refine sx hs hw fun a W hs hw=>?_
  cases c2:cX i with
  |false=>
   rw [c2] at hs
   refine sc hs ?_
   exact cO hs rfl ⟨rfl,iK hw hl⟩
  |true=>
   rw [c2] at hs
   refine sc hs ?_
   have hx:=p8 c1
   have hj0:=hx.1
   have hj1:X<((8:Nat):Int):=hx.2
   have hl1:=p9 (mt:=t.mat) hl.1 hx
   have hl3:=qB hl.1 hl.2 hx (.int .i64 (max (nth t.next X) (w64 (i+1))))
   refine bF [14] [.f 0 0,.f 0 0,.f 0 0,.f 0 0,.f 0 0,.f 0 0,.f 0 0,.f 0 0,.f 0 0,.f 0 0,.f 0 0,.f 0 0,.f 0 0,.f 0 0,.m 0] [.c0 _,.c0 _,.c0 _,.c0 _,.c0 _,.c0 _,.c0 _,.c0 _,.c0 _,.c0 _,.c0 _,.c0 _,.c0 _,.c0 _,.c1 (fun x=>undef)] (aGm p t.next t.mat::L1) (fun x=>aA p (ov (bQ t.next ++ bQ t.mat) (0+0+X.toNat*1) [.int .i64 (max (nth t.next X) (w64 (i+1)))]) 340::L1) (fun x y=>[]) (fun x y z=>[]) (fun x y z t=>[]) hs hw ?kk ⟨drs,drs,drs,drs,drs,drs,drs,drs,drs,drs,drs,drs,drs,drs,drm,trivial⟩
   case kk=>
    intro _ a W hs hw
    rw [qA hl.1 hx] at hw
    refine cO hs rfl ⟨rfl,?_⟩
    exact iK (t:=⟨_,_⟩) hw ⟨by rw [←hl.1];simp [eD],hl.2⟩⟩
end
end Go.Proofs.YtgpbngfehfbndaaGreatDoor.Sw
namespace Go.Sx
open Go.RowKit
section
variable {P:Program} {ops:Array Oper} {aD:List Oper} {Q:Exit→Act→World→Prop} {a:Act} {n:Nat} {L:List (Nat×Value)} {W:World} {d k cap:Nat} {T S S' E:TypeId} {p:String} {e:Array Edge} {x:Operand} {ad:Option Addr}
theorem xC [sl:Sl P S E] (hs:Slots a n L) (c:∀a',Slots a' n ((d,.bool (!ad.isNone))::L)→wpList P ops Q aD a' W) (hx:ev L x=some (.slice ad k cap):=by with_unfolding_all exact rfl) (hd:Nat.blt d n=true:=by with_unfolding_all exact rfl):wpList P ops Q (⟨some d,.binOp .neq S x (.const (.slice none 0 0)) S',T,p,e,none⟩::aD) a W:=by
 refine bO hs hd (W':=W) ?_ c
 have h2:(binOp .neq S (.slice ad k cap) (.slice none 0 0)).run P W= .ok (.bool (!ad.isNone)) W:=run_neq_slice_nil W S E ad k cap sl.out
 have h3:a.eval (.const (.slice none 0 0))= .slice none 0 0:=rfl
 simp only [execOp,hs.ev hx,h3,Sem.run_bind]
 simp [eqGuard,h2]
end
end Go.Sx
namespace Go.Proofs.YtgpbngfehfbndaaGreatDoor.Sw
open Go.RowKit Go.Sx
abbrev aH (m:bP) (v:Value):List Value:=[.int .i64 m.kind,.int .i64 m.from_,.int .i64 m.to_,.int .i64 m.term,.int .i64 m.ix,.int .i64 m.lterm,.int .i64 m.commit,.bool m.yes,v,.int .i64 m.snap.ix,.int .i64 m.snap.term,.string m.snap.conf,.string m.snap.data]
def MsgIn (H:Fh) (m:bP) (cs:List Value):Prop:=∃v,cs=aH m v∧fO H v m.es∧m.snap.conf.size≤1000000
theorem MsgIn.len {H:Fh}:∀(m:bP) (c:List Value),MsgIn H m c→c.length=13:=by rintro m c ⟨v,rfl,_⟩;rfl
theorem MsgIn.le {H H':Fh} (h:H.le H'):∀(m:bP) (c:List Value),MsgIn H m c→MsgIn H' m c:=by rintro m c ⟨v,rfl,h1,h2⟩;exact ⟨v,rfl,h1.le h,h2⟩
theorem MsgIn.ones {H:Fh}:∀(m:bP) (c:List Value),MsgIn H m c→∀v∈c,v.oneCell'=true:=by
 rintro m c ⟨v,rfl,h,_⟩ u hu
 obtain ⟨ad,cap,rfl⟩:=h.slice
 simp only [aH,List.mem_cons,List.not_mem_nil,or_false] at hu
 rcases hu with rfl|rfl|rfl|rfl|rfl|rfl|rfl|rfl|rfl|rfl|rfl|rfl|rfl <;> rfl
def aC (H:Fh) (v:Value) (l:List bP):Res:=Ex fun xs:List Value=>Sx.Own 38 13 v l.length xs::bN (Ch (MsgIn H) l xs):: []
def VoR (v:Value):kP→Res
 |none=>bN (v= .pointer none)
 |some o=>Ex fun q:Nat=>fW q o::bN (v=ptr q):: []
def ToR (v:Value):jK→Res
 |none=>bN (v= .pointer none)
 |some o=>Ex fun q:Nat=>gG q o::bN (v=ptr q):: []
abbrev gQ (p:Nat) (id ht hv:Int) (pl:Nat) (cm role ldr:Int) (hrd:Bool) (pv pt mv:Value) (hard:Bool) (fr:Int) (sp:Bool):Res:=aA p [.int .i64 id,.int .i64 ht,.int .i64 hv,ptr pl,.int .i64 cm,.int .i64 role,.int .i64 ldr,.bool hrd,pv,pt,mv,.bool hard,.int .i64 fr,.bool sp] 105
abbrev aK (p:Nat) (r:RaftD) (pl:Nat) (pv pt mv:Value):Res:=aA p [.int .i64 r.id,.int .i64 r.h.term,.int .i64 r.h.vote,ptr pl,.int .i64 r.commit,.int .i64 r.role,.int .i64 r.leader,.bool r.heard,pv,pt,mv,.bool r.out.hard,.int .i64 r.out.from_,.bool r.out.snap] 105
def aG (H:Fh) (p:Nat) (r:RaftD):Res:=Ex fun x:Nat×Value×Value×Value=>aK p r x.1 x.2.1 x.2.2.1 x.2.2.2::aI x.1 r.l::VoR x.2.1 r.v::ToR x.2.2.1 r.t::aC H x.2.2.2 r.out.msgs:: []
section
variable {H H':Fh} {p pl:Nat} {pv pt mv:Value} {r:RaftD} {w W:World} {R L:List Res} {l:List bP} {v:Value}
theorem qC (h:Has 0 w W (aC H v l::R)):∃ad cap xs,v= .slice ad l.length cap∧Ch (MsgIn H) l xs∧Has 0 w W (Sx.Own 38 13 v l.length xs::R):=by
 obtain ⟨xs,h⟩:=Has.open h
 have h:Has 0 w W (Sx.Own 38 13 v l.length xs::bN (Ch (MsgIn H) l xs)::R):=h
 obtain ⟨ad,cap,rfl⟩:=h.own_slice
 exact ⟨ad,cap,xs,rfl,h.told (In.tl In.hd),h.sl⟩
theorem kX {xs:List Value} (h:Has 0 w W (Sx.Own 38 13 v l.length xs::R)) (hc:Ch (MsgIn H) l xs):Has 0 w W (aC H v l::R):=Has.shut xs ((h.fact hc).pm)
theorem xD (h:Has 0 w W (aC H v l::R)) (hl:H.le H'):Has 0 w W (aC H' v l::R):=by
 obtain ⟨ad,cap,xs,rfl,hc,h⟩:=qC h
 exact kX h (hc.mono (MsgIn.le hl))
theorem cF (h:Has 0 w W (aK p r pl pv pt mv::aI pl r.l::VoR pv r.v::ToR pt r.t::aC H mv r.out.msgs::R)):Has 0 w W (aG H p r::R):=Has.shut (pl,pv,pt,mv) h
theorem dG (h:Has 0 w W (aG H p r::R)):∃pl pv pt mv,Has 0 w W (aK p r pl pv pt mv::aI pl r.l::VoR pv r.v::ToR pt r.t::aC H mv r.out.msgs::R):=by
 obtain ⟨⟨pl,pv,pt,mv⟩,h⟩:=Has.open h
 exact ⟨pl,pv,pt,mv,h⟩
theorem aB0 (h:Has 0 w W (aG H p r::R)) (hl:H.le H'):Has 0 w W (aG H' p r::R):=by
 obtain ⟨pl,pv,pt,mv,h⟩:=dG h
 have h:Has 0 w W (aC H mv r.out.msgs::aK p r pl pv pt mv::aI pl r.l::VoR pv r.v::ToR pt r.t::R):=h.pm
 exact cF ((xD h hl).pm)
theorem aB1 {b:Nat} {lo:Int} {l:List Int} {L1:List Res} (hl:l.length≤100) [c:dH (fun l=>aA b (l.map (Value.int .i64)) 2) L l L1]:Get Tryz.prog 204 [.int .i64 lo,.slice (some ⟨b,0,none⟩) l.length l.length] L (.bool (inR lo 1099511627776 l)) L:=⟨fun {w W} hw=>by
 have hr:∀{W},Has 0 w W L→Rd W 1 (.slice (some ⟨b,0,none⟩) l.length l.length) l.length (l.map (Value.int .i64)):=fun h=>(h.pick c.p).rd_lit In.hd (by simp) (by omega)
 refine enter Tryz.func204 Tryz.ntmps204 rfl rfl fun a hs=>?_
 refine sv hs hw fun a hs=>?_
 refine bX (σ:=Nat) (fun i=>[(0,.int .i64 lo),(7,.slice (some ⟨b,0,none⟩) l.length l.length),(8,.int .i64 (l.length:Int)),(9,.int .i64 (i:Int))]) (fun _=>L) (fun i=>i≤l.length∧inR lo 1099511627776 l=inR lo 1099511627776 (l.drop i)) (fun i=>l.length - i) 0 ⟨Nat.zero_le _,rfl⟩ hs ⟨rfl,rfl,rfl,rfl,trivial⟩ hw ?_
 clear hs hw
 rintro i a W ⟨hi',hh⟩ hs hw
 refine sv hs hw fun a hs=>?_
 refine cI hs (kt:=fun hc=>?_) (kf:=fun hc=>?_)
 ·have hi2:i<l.length:=by simpa using hc
  obtain ⟨o,ho,hd⟩:=dS hi2
  rw [hd] at hh
  refine sc hs ?_
  refine iA hs (hr hw) ho rfl fun a b f hs=>?_
  refine sv hs hw fun a hs=>?_
  have hq:inR lo 1099511627776 (o::l.drop (i+1))=(!decide (o<lo) && !decide (o > 1099511627776) && inR lo 1099511627776 (l.drop (i+1))):=rfl
  cases c1:decide (o<lo) with
  |true=>
   rw [c1] at hs hq
   refine sv hs hw fun a hs=>?_
   exact rt1 hs rfl rfl ⟨by rw [hh,hq];rfl,hw⟩
  |false=>
  rw [c1] at hs hq
  refine sv hs hw fun a hs=>?_
  cases c2:decide (o > 1099511627776) with
  |true=>
   rw [c2] at hs hq
   refine sv hs hw fun a hs=>?_
   exact rt1 hs rfl rfl ⟨by rw [hh,hq];rfl,hw⟩
  |false=>
   rw [c2] at hs hq
   refine sv hs hw fun a hs=>?_
   exact bR (i+1) hs hw ⟨hi2,by rw [hh,hq];simp⟩ (by omega) ⟨rfl,rfl,rfl,bS (i1 (by omega)),trivial⟩
 ·have:l.drop i= []:=List.drop_eq_nil_of_le (by simp at hc;omega)
  refine sv hs hw fun a hs=>?_
  exact rt1 hs rfl rfl ⟨by rw [hh,this];rfl,hw⟩⟩
instance raft_server {x:Int}:Get Tryz.prog 203 [.int .i64 x] L (.bool (srv x)) L:=⟨fun {w W} hw=>by
 refine enter Tryz.func203 Tryz.ntmps203 rfl rfl fun a hs=>?_
 refine sv hs hw fun a hs=>?_
 unfold srv
 cases c1:decide (x≥1) with
 |false=>
  rw [c1] at hs
  refine sv hs hw fun a hs=>?_
  exact rt1 hs rfl rfl ⟨rfl,hw⟩
 |true=>
  rw [c1] at hs
  refine sv hs hw fun a hs=>?_
  exact rt1 hs rfl rfl ⟨rfl,hw⟩⟩
theorem aGn {s:eA} (hm:eU s=false):Get Tryz.prog 153 [.agg ⟨e7 s⟩] L (.slice none 0 0) L:=⟨fun {w W} hw=>by
 refine enter Tryz.func153 Tryz.ntmps153 rfl rfl fun a hs=>?_
 refine sc hs ?_
 refine sn hs hw fun b a W hs hw=>?_
 refine sv hs hw fun a hs=>?_
 refine cl hs ((wal_may (s:=s)).ok hw) fun a W hs hw=>?_
 rw [hm] at hs
 refine sv hs hw fun a hs=>?_
 exact rt1 hs rfl rfl ⟨rfl,hw.sub (List.Sublist.cons _ (List.Sublist.refl _))⟩⟩
end
end Go.Proofs.YtgpbngfehfbndaaGreatDoor.Sw
