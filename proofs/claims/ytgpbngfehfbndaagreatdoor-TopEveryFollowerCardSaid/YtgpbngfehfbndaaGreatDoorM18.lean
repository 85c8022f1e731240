/-
  Texts of the proof, one behind the other (part 18).
-/
import Derived.Test.YtgpbngfehfbndaaGreatDoorM16
import Derived.Test.YtgpbngfehfbndaaGreatDoorM17
import Derived.WalkKit
import Derived.WalkLawsBesides
import Derived.WalkSpells
import Derived.Lib.Hide
import Derived.Deep.QuietTactic
import Derived.BigQuiet
import Derived.Test.YtgpbngfehfbndaaGreatDoorChecked
import Derived.Laws.Bits64
import Derived.Laws.Bits64b
import Derived.Laws.BitsLemmas
import Derived.Laws.DeepNot64
import Derived.WalkSmall
import Derived.Deep.Draws
import Derived.Lib.ValidLaws
import Derived.Lib.MapLaws
import Derived.Lib.TrimUEq
import Derived.Lib.RuneBytes
import Derived.Laws.RangeAny
import Derived.Laws.Strings
import GoSem.Op.String
import Derived.Laws.StructEq
import Derived.IntWalk
import Derived.Shelf.Small.Bits
import Derived.Shelf.Strconv.Itoa0
import Derived.Ground.Names2Prog
import Derived.Shelf.Slices.Clone
import Derived.Shelf.Bytes.SlSearch0
import Derived.Ground.SlbCloneProg
import Derived.Shelf.Bytes.SlClone
import Derived.Shelf.Bytes.Small
import Derived.Shelf.Unicode.ValidAny
import Derived.Test.YtgpbngfehfbndaaGreatDoorProg
import Derived.Below
import Derived.Tactics
import Derived.RegionTactic
import Derived.Deep.AppendSrc
import Derived.Laws.AppendOwn
import Derived.Laws.BytesString
import Derived.Laws.Tables
import Derived.Laws.IdiomStrings
import Derived.Laws.Small
import Derived.Maps.RangeRun
import Derived.Deep.RegionHeld3
import Derived.DataShut
import Derived.Lib.UnsafeStr
import Derived.Deep.AppendLies
set_option maxHeartbeats 16000000
set_option linter.unusedVariables false
set_option maxRecDepth 10000
namespace Go.Proofs.YtgpbngfehfbndaaGreatDoor.Sw
open Go.RowKit Go.Sx
section
variable {p:Nat} {v:VotesD} {x:Int} {l:List Int} {sl:Value} {L L1:List Res}
instance conf_HasG [c:dI (fun l=>aN sl l) L l L1]:Get Tryz.prog 131 [sl,.int .i64 x] L (.bool (has l x)) L:=⟨fun {w W} hw=>
 (aBu l sl x W ((hw.pick c.p).rd_own In.hd)).mono fun e W' ⟨h1,h2⟩=>⟨h1,hw.below h2⟩⟩
instance conf_MayG [c:dI (fun l=>aN sl l) L l L1]:Get Tryz.prog 85 [sl] L (.bool (cV l)) L:=⟨fun {w W} hw=>
 (aBv l sl W ((hw.pick c.p).rd_own In.hd)).mono fun e W' ⟨h1,h2⟩=>⟨h1,hw.below h2⟩⟩
instance vote_may [c:dI (fun v=>gF p v) L v L1]:Get Tryz.prog 208 [.pointer (some ⟨p,0,none⟩),.int .i64 x] L (.bool (v.may x)) L:=⟨fun {w W} hw=>by
 obtain ⟨a1,c1,a2,c2,a3,c3,hw⟩:=qM (hw.pick c.p);refine enter Tryz.func208 Tryz.ntmps208 rfl rfl fun a hs=>?_;refine sx hs hw fun a W hs hw=>?_;unfold VotesD.may;cases h1:has v.l x with
 |false=>
  rw [h1] at hs;refine sv hs hw fun a hs=>?_;exact rt1 hs rfl rfl ⟨rfl,(kS hw).unpick c.p⟩
 |true=>
 rw [h1] at hs;refine sx hs hw fun a W hs hw=>?_;cases h2:has v.yes x with
 |true=>
  rw [h2] at hs;refine sv hs hw fun a hs=>?_;exact rt1 hs rfl rfl ⟨rfl,(kS hw).unpick c.p⟩
 |false=>
 rw [h2] at hs;refine sx hs hw fun a W hs hw=>?_
 exact rt1 hs rfl rfl ⟨rfl,(kS hw).unpick c.p⟩⟩
instance vote_may0:Get Tryz.prog 208 [.pointer none,.int .i64 x] L (.bool false) L:=⟨fun {w W} hw=>by
 refine enter Tryz.func208 Tryz.ntmps208 rfl rfl fun a hs=>?_;refine sv hs hw fun a hs=>?_
 exact rt1 hs rfl rfl ⟨rfl,hw⟩⟩
theorem aBw (hb:v.yes.length≤1000) [c:dI (fun v=>gF p v) L v L1]:Get Tryz.prog 134 [.pointer (some ⟨p,0,none⟩),.int .i64 x] L (.bool (v.yesD x).2) (gF p (v.yesD x).1::L1):=⟨fun {w W} hw=>by
 have hw:=hw.pick c.p;refine enter Tryz.func134 Tryz.ntmps134 rfl rfl fun a hs=>?_;refine sx hs hw fun a W hs hw=>?_;unfold VotesD.yesD;cases h1:v.may x with
 |false=>
  rw [h1] at hs;refine sv hs hw fun a hs=>?_;exact rt1 hs rfl rfl ⟨rfl,hw⟩
 |true=>
 rw [h1] at hs;obtain ⟨a1,c1,a2,c2,a3,c3,hw⟩:=qM hw;refine sv hs hw fun a hs=>?_;refine sn hs hw fun b a W hs hw=>?_;refine mW hs hw (show Pick (aN (.slice a2 v.yes.length c2) v.yes) _ _ from .tl (.tl .hd)) (by omega) fun a ad cap W hs hw=>?_;refine sx hs hw fun a W hs hw=>?_
 exact rt1 hs rfl rfl ⟨rfl,kS (vt:=⟨v.l,v.yes ++ [x],v.no⟩) (hw.pm)⟩⟩
theorem aGz (hb:v.no.length≤1000) [c:dI (fun v=>gF p v) L v L1]:Get Tryz.prog 212 [.pointer (some ⟨p,0,none⟩),.int .i64 x] L (.bool (v.noD x).2) (gF p (v.noD x).1::L1):=⟨fun {w W} hw=>by
 have hw:=hw.pick c.p;refine enter Tryz.func212 Tryz.ntmps212 rfl rfl fun a hs=>?_;refine sx hs hw fun a W hs hw=>?_;unfold VotesD.noD;cases h1:v.may x with
 |false=>
  rw [h1] at hs;refine sv hs hw fun a hs=>?_;exact rt1 hs rfl rfl ⟨rfl,hw⟩
 |true=>
 rw [h1] at hs;obtain ⟨a1,c1,a2,c2,a3,c3,hw⟩:=qM hw;refine sv hs hw fun a hs=>?_;refine sn hs hw fun b a W hs hw=>?_;refine mW hs hw (show Pick (aN (.slice a3 v.no.length c3) v.no) _ _ from .tl (.tl (.tl .hd))) (by omega) fun a ad cap W hs hw=>?_;refine sx hs hw fun a W hs hw=>?_
 exact rt1 hs rfl rfl ⟨rfl,kS (vt:=⟨v.l,v.yes,v.no ++ [x]⟩) (hw.pm)⟩⟩
instance vote_Yes0:Get Tryz.prog 134 [.pointer none,.int .i64 x] L (.bool false) L:=⟨fun {w W} hw=>by
 refine enter Tryz.func134 Tryz.ntmps134 rfl rfl fun a hs=>?_;refine sx hs hw fun a W hs hw=>?_
 exact rt1 hs rfl rfl ⟨rfl,hw⟩⟩
instance vote_No0:Get Tryz.prog 212 [.pointer none,.int .i64 x] L (.bool false) L:=⟨fun {w W} hw=>by
 refine enter Tryz.func212 Tryz.ntmps212 rfl rfl fun a hs=>?_;refine sx hs hw fun a W hs hw=>?_
 exact rt1 hs rfl rfl ⟨rfl,hw⟩⟩
end
theorem aHA {α:Type} {l:List α} {i:Nat} {o:α} (f:α→Bool) (h:l[i]? =some o):((l.take (i+1)).filter f).length=((l.take i).filter f).length+(match f o with|true=>1|false=>0):=by
 rw [gB h,List.filter_append,List.length_append];cases hf:f o <;> simp [hf]
theorem aBx:∀(l:List Int) (q:Int),fP (some q) l=true→q≤7→(l.length:Int)≤7 - q
 | [],q,_,h=>by simp;omega
 |x::r,q,h,hq=>by
  simp [fP] at h;have:=aBx r x h.2 (by omega);simp;omega
theorem qN {l:List Int} (h:cV l=true):l.length≤7:=by
 unfold cV at h;cases l with
 |nil=>simp
 |cons x r=>
  simp [fP] at h;have:=aBx r x h.2 (by omega);simp;omega
theorem aHB (l yes:List Int) (v u:Value) (w:World) (r:Rd w 1 v l.length (bU l)) (r2:Rd w 1 u yes.length (bU yes)):
  Calls Tryz.prog 209 ⟨[v,u]⟩ w fun e w'=>e= .returned (.bool (tD l yes))∧Below w.heap.size w w':=by
 have hw:=Has.start (G:=0) (w:=w) (Nat.zero_le _);have hlen:=r.len;obtain ⟨ad,cap,rfl⟩:∃ad cap,v= .slice ad l.length cap:=by obtain ⟨_,ad,cap,e,_⟩:=r;exact ⟨ad,cap,e⟩
 refine enter Tryz.func209 Tryz.ntmps209 rfl rfl fun a hs=>?_;refine sv hs hw fun a hs=>?_;refine bY (σ:=Nat) (fun i=>[(0,.slice ad l.length cap),(1,u),(8,.slice ad l.length cap),(9,.int .i64 (l.length:Int)),(10,.int .i64 (i:Int)),(5,.int .i64 (((l.take i).filter fun x=>has yes x).length:Int))]) (fun _=>Old w 0:: []) (fun i=>i≤l.length) (fun i=>l.length - i) 0 (Nat.zero_le _) hs ⟨rfl,rfl,rfl,rfl,rfl,rfl,trivial⟩ hw ?_;clear hs hw;rintro i a W hi hs hw;have hi:i≤l.length:=hi;refine sv hs hw fun a hs=>?_;refine cI hs (kt:=fun hc=>?_) (kf:=fun hc=>?_)
 ·have hi':i<l.length:=by simpa using hc
  obtain ⟨o,ho,hd⟩:=dR hi';have hf:=aHA (fun x=>has yes x) ho;have hle:((l.take i).filter fun x=>has yes x).length≤i:=Nat.le_trans (List.length_filter_le _ _) (by rw [List.length_take];omega);refine sc hs ?_;refine hQ hs (hw.rd inn hw.ext.size r) ho rfl fun a b f hs=>?_;refine sv hs hw fun a hs=>?_;refine cb hs hw (aBu yes u o _ (hw.rd inn hw.ext.size r2)) fun a W hs hw=>?_;cases c:has yes o with
  |true=>
   rw [c] at hs hf;refine sv hs hw fun a hs=>?_;exact bQ (i+1) hs hw hi' (by omega) ⟨rfl,rfl,rfl,rfl,bR (i1 (by omega)),bR (by rw [i1 (by omega),hf]),trivial⟩
  |false=>
   rw [c] at hs hf;refine sv hs hw fun a hs=>?_;exact bQ (i+1) hs hw hi' (by omega) ⟨rfl,rfl,rfl,rfl,bR (i1 (by omega)),bR (by rw [hf];rfl),trivial⟩
 ·have:l.take i=l:=List.take_of_length_le (by simp at hc;omega);rw [this] at hs;have hle:(l.filter fun x=>has yes x).length≤l.length:=List.length_filter_le _ _;refine sv hs hw fun a hs=>?_;refine cb hs hw (aBv l _ _ (hw.rd inn hw.ext.size r)) fun a W hs hw=>?_;unfold tD;cases c:cV l with
  |false=>
   rw [c] at hs;refine sv hs hw fun a hs=>?_;exact rt1 hs rfl rfl ⟨rfl,hw.end inn⟩
  |true=>
   rw [c] at hs;refine sv hs hw fun a hs=>?_;refine rt1 hs rfl rfl ⟨?_,hw.end inn⟩;have h7:=qN c;rw [if_pos rfl,IntWalk.i64_in _ (by omega),Bool.true_and]
section
variable {p:Nat} {v:VotesD} {x:Int} {l:List Int} {sl:Value} {L L1:List Res}
instance conf_MajG {yes:List Int} {u:Value} {L2:List Res} [c:dI (fun l=>aN sl l) L l L1] [c2:dI (fun l=>aN u l) L yes L2]:Get Tryz.prog 209 [sl,u] L (.bool (tD l yes)) L:=⟨fun {w W} hw=>
 (aHB l yes sl u W ((hw.pick c.p).rd_own In.hd) ((hw.pick c2.p).rd_own In.hd)).mono fun e W' ⟨h1,h2⟩=>⟨h1,hw.below h2⟩⟩
instance vote_Won [c:dI (fun v=>gF p v) L v L1]:Get Tryz.prog 135 [.pointer (some ⟨p,0,none⟩)] L (.bool v.won) L:=⟨fun {w W} hw=>by
 obtain ⟨a1,c1,a2,c2,a3,c3,hw⟩:=qM (hw.pick c.p);refine enter Tryz.func135 Tryz.ntmps135 rfl rfl fun a hs=>?_;refine sv hs hw fun a hs=>?_;refine rgp [_,_,_,_,_,_,_,_,_,_,_,_,_,_] hs hw fun a W hs hw=>?_;refine sc hs ?_
 exact rt1 hs rfl rfl ⟨rfl,(kS hw).unpick c.p⟩⟩
instance vote_Won0:Get Tryz.prog 135 [.pointer none] L (.bool false) L:=⟨fun {w W} hw=>by
 refine enter Tryz.func135 Tryz.ntmps135 rfl rfl fun a hs=>?_;refine sv hs hw fun a hs=>?_;refine rgp [_,_,_,_,_,_,_,_,_,_,_,_,_,_] hs hw fun a W hs hw=>?_;refine sc hs ?_
 exact rt1 hs rfl rfl ⟨rfl,hw⟩⟩
instance vote_Lost [c:dI (fun v=>gF p v) L v L1]:Get Tryz.prog 213 [.pointer (some ⟨p,0,none⟩)] L (.bool v.lost) L:=⟨fun {w W} hw=>by
 obtain ⟨a1,c1,a2,c2,a3,c3,hw⟩:=qM (hw.pick c.p);refine enter Tryz.func213 Tryz.ntmps213 rfl rfl fun a hs=>?_;refine sv hs hw fun a hs=>?_;unfold VotesD.lost;cases he:decide ((v.l.length:Int) > 0) with
 |true=>
  refine rgp [_,_,_,_,_,_,_,_,_,_,_,_,_,_,_,_,_,_,_,_,_,_,_,_,_,_,_,_,_,_,_] hs hw fun a W hs hw=>?_;refine sc hs ?_;refine rt1 hs rfl rfl ⟨?_,(kS hw).unpick c.p⟩;rw [if_pos rfl,Bool.true_and]
 |false=>
  refine rgp [_,_,_,_,_,_,_,_,_,_,_,_,_,_,_,_,_,_,_,_,_,_,_,_,_,_,_,_,_,_,_] hs hw fun a W hs hw=>?_;refine sc hs ?_
  exact rt1 hs rfl rfl ⟨rfl,(kS hw).unpick c.p⟩⟩
instance vote_Lost0:Get Tryz.prog 213 [.pointer none] L (.bool false) L:=⟨fun {w W} hw=>by
 refine enter Tryz.func213 Tryz.ntmps213 rfl rfl fun a hs=>?_;refine sv hs hw fun a hs=>?_;refine rgp [_,_,_,_,_,_,_,_,_,_,_,_,_,_,_,_,_,_,_,_,_,_,_,_,_,_,_,_,_,_,_] hs hw fun a W hs hw=>?_;refine sc hs ?_
 exact rt1 hs rfl rfl ⟨rfl,hw⟩⟩
end
theorem aHC (l:List Int):∀u∈bU l,u.oneCell'=true:=by intro v hv;obtain ⟨x,_,rfl⟩:=List.mem_map.1 hv;rfl
section
variable {p:Nat} {v:VotesD} {x:Int} {l:List Int} {sl:Value} {L L1:List Res}
theorem tJ (hl:l.length≤1000) [c:dI (fun l=>aN sl l) L l L1]:New Tryz.prog 185 [sl] L (Option Addr×Nat) (fun s=> .slice s.1 l.length s.2) (fun s=>aN (.slice s.1 l.length s.2) l::L):=⟨fun {w W} hw=>by
 obtain ⟨ad,cap,rfl⟩:=Has.own_slice (hw.pick c.p);refine enter Tryz.func185 Tryz.ntmps185 rfl rfl fun a hs=>?_;refine sv hs hw fun a hs=>?_;refine k7 hs (c:=fun a hs=>?_);cases ad with
 |none=>
  refine sv hs hw fun a hs=>?_;have h0:l= []:=by
   have:=(hw.pick c.p).rd_own In.hd;obtain ⟨_,ad,cap,e,_,_,h|⟨b,o,h,_⟩⟩:=this
   ·exact List.eq_nil_of_length_eq_zero h
   ·injection e with e1 _ _;rw [←e1] at h;cases h
  subst h0;exact rt1 hs rfl rfl ⟨(none,0),rfl,hw.nilOwn 3 1⟩
 |some A=>
  rw [show (some A).isNone=false from rfl] at hs;refine sc hs ?_;refine pQ hs hw (c:=fun a ad W hw hs=>?_);refine sv hs hw fun a hs=>?_;refine kZ hs (hw:=hw) (k:=0) (m:=l.length) (xs:=[]) (news:=bU l) (hsrc:=fK ((hw.pick (Pick.tl c.p)).rd_own In.hd) (aHC l)) (h63:=by omega) (hb:=by omega) (c:=fun a ad2 cap2 W hs hw=>?_);rw [List.nil_append,Nat.zero_add] at hw;rw [Nat.zero_add] at hs;refine sv hs hw fun a hs=>?_
  exact rt1 hs rfl rfl ⟨(ad2,cap2),rfl,hw⟩⟩
theorem aHD (hl:l.length≤1000) [c:dI (fun l=>aN sl l) L l L1]:New Tryz.prog 133 [sl] L Nat (fun p=> .pointer (some ⟨p,0,none⟩)) (fun p=>gF p (jG l)::L):=⟨fun {w W} hw=>by
 refine enter Tryz.func133 Tryz.ntmps133 rfl rfl fun a hs=>?_;refine sx hs hw fun a W hs hw=>?_;unfold jG;cases h:cV l with
 |true=>
  rw [h] at hs;refine sv hs hw fun a hs=>?_;refine sg hs hw (fun v a W hs hw=>?_) (g:=tJ hl);refine sv hs hw fun a hs=>?_;refine sn hs hw fun b a W hs hw=>?_;refine sv hs hw fun a hs=>?_;refine rt1 hs rfl rfl ⟨b,rfl,?_⟩;have hw:=(hw.nilOwn 3 1).nilOwn 3 1;exact kS (vt:=⟨l,[],[]⟩) (x:= .slice v.1 _ v.2) (hw.pm)
 |false=>
  rw [h] at hs;refine sv hs hw fun a hs=>?_;have hw:=hw.nilOwn 3 1;have hw:Has 0 w _ (aN (.slice none 0 0) []::L):=hw;refine sg hs hw (fun v a W hs hw=>?_) (g:=tJ (l:=[]) (by simp));refine sv hs hw fun a hs=>?_;refine sn hs hw fun b a W hs hw=>?_;refine sv hs hw fun a hs=>?_;refine rt1 hs rfl rfl ⟨b,rfl,?_⟩;have hw:=(hw.nilOwn 3 1).nilOwn 3 1
  exact kS (vt:=⟨[],[],[]⟩) (x:= .slice v.1 _ v.2) (hw.sl)⟩
end
end Go.Proofs.YtgpbngfehfbndaaGreatDoor.Sw
namespace Go.Sx
open Go.RowKit
section
variable {P:Program} {ops:Array Oper} {aE:List Oper} {Q:Exit→Act→World→Prop} {a:Act} {n:Nat} {L:List (Nat×Value)} {W:World} {d:Nat} {T S:TypeId} {p:String} {e:Array Edge} {x y:Operand} {i:Nat} {q:IntKind} {s:ByteArray} {o:UInt8}
theorem yF [t:StrTy P S] (hs:Slots a n L) (ho:s.data.toList[i]? =some o) (k:∀a',Slots a' n ((d,.int .u8 (o.toNat:Int))::L)→wpList P ops Q aE a' W) (hx:ev L x=some (.string s):=by with_unfolding_all exact rfl) (hy:ev L y=some (.int q (i:Int)):=by with_unfolding_all exact rfl) (hd:Nat.blt d n=true:=by with_unfolding_all exact rfl):
  wpList P ops Q (⟨some d,.index S x y,T,p,e,none⟩::aE) a W:=by
 have h:i<s.size:=by have:=(List.getElem?_eq_some_iff.1 ho).1;rw [Array.length_toList] at this;exact this
 have h2:s[i]? =some o:=by
  rw [getElem?_pos s i h];congr 1;have:=(List.getElem?_eq_some_iff.1 ho).2;rw [←this];rfl
 refine bW hs hd (W':=W) ?_ k;simp only [execOp,hs.ev hx,hs.ev hy,Instr.index,asIntOf,Sem.run_bind,Sem.run_pure,Result.andThen_ok,run_underlying t.out];simp [h2]
end
end Go.Sx
namespace Go.Proofs.YtgpbngfehfbndaaGreatDoor.Sw
open Go.RowKit Go.Sx
def iW (s:List UInt8):List Int:=s.map fun c=>(c.toNat:Int) - 48
theorem aHE (s:List UInt8):dL s=match cV (iW s) with|false=>([],false)|true=>(iW s,true):=rfl
section
variable {L L1:List Res} {s:ByteArray}
theorem tK (hl:s.size≤1000000):New Tryz.prog 189 [.string s] L (Option Addr×Nat) (fun x=> .tuple ⟨[.slice x.1 (dL s.data.toList).1.length x.2,.bool (dL s.data.toList).2]⟩) (fun x=>aN (.slice x.1 (dL s.data.toList).1.length x.2) (dL s.data.toList).1::L):=⟨fun {w W} hw=>by
 have hll:s.data.toList.length=s.size:=Array.length_toList;have hw:=hw.nilOwn 3 1;have hw:Has 0 w W (aN (.slice none 0 0) []::L):=hw;refine enter Tryz.func189 Tryz.ntmps189 rfl rfl fun a hs=>?_;refine sv hs hw fun a hs=>?_;refine bY (σ:=Nat×Option Addr×Nat) (fun u=>[(0,.string s),(4,.slice u.2.1 (iW (s.data.toList.take u.1)).length u.2.2),(6,.string s),(7,.int .i64 (s.size:Int)),(8,.int .i64 (u.1:Int))]) (fun u=>aN (.slice u.2.1 (iW (s.data.toList.take u.1)).length u.2.2) (iW (s.data.toList.take u.1))::L) (fun u=>u.1≤s.size) (fun u=>s.size - u.1) (0,none,0) (Nat.zero_le _) hs ⟨rfl,rfl,rfl,rfl,rfl,trivial⟩ hw ?_;clear hs hw;rintro ⟨i,ad,cap⟩ a W hi hs hw;have hi:i≤s.size:=hi;simp only at hs hw;refine sv hs hw fun a hs=>?_;refine cI hs (kt:=fun hc=>?_) (kf:=fun hc=>?_)
 ·have hi':i<s.size:=by simpa using hc
  obtain ⟨o,ho,hd⟩:=dR (show i<s.data.toList.length by omega);have hn:iW (s.data.toList.take (i+1))=iW (s.data.toList.take i) ++ [(o.toNat:Int) - 48]:=by unfold iW;rw [gB ho,List.map_append];rfl
  have hk:(iW (s.data.toList.take i)).length≤1000000:=by unfold iW;rw [List.length_map,List.length_take];omega
  refine sv hs hw fun a hs=>?_;refine yF hs ho fun a hs=>?_;refine sv hs hw fun a hs=>?_;have hu:o.toNat<256:=o.toNat_lt;rw [show IntKind.i64.wrap (IntKind.i64.wrap (o.toNat:Int) - 48)=(o.toNat:Int) - 48 by rw [IntWalk.i64_in (o.toNat:Int) (by omega),IntWalk.i64_in _ (by omega)]] at hs;refine sn hs hw fun b a W hs hw=>?_;refine mW hs hw (Pick.hd:Pick (aN (.slice ad (iW (s.data.toList.take i)).length cap) (iW (s.data.toList.take i))) _ _) (by omega) fun a ad cap W hs hw=>?_;rw [←hn] at hs hw;refine sv hs hw fun a hs=>?_;exact bQ (i+1,ad,cap) hs hw hi' (by show s.size - (i+1)<s.size - i;omega) ⟨rfl,rfl,rfl,rfl,bR (i1 (by omega)),trivial⟩
 ·have:s.data.toList.take i=s.data.toList:=List.take_of_length_le (by simp at hc;omega);rw [this] at hs hw;rw [aHE];refine sx hs hw fun a W hs hw=>?_;cases h:cV (iW s.data.toList) with
  |true=>
   rw [h] at hs;refine sv hs hw fun a hs=>?_;exact rt2 hs rfl rfl rfl ⟨(ad,cap),rfl,hw⟩
  |false=>
   rw [h] at hs;refine sv hs hw fun a hs=>?_
   exact rt2 hs rfl rfl rfl ⟨(none,0),rfl,(hw.d1).nilOwn 3 1⟩⟩
end
instance mpDisk:Mp Tryz.prog 143 9 142:=⟨by kernel_rfl,by kernel_rfl⟩
theorem mH (W:World):(zeroValue 142).run Tryz.prog W= .ok (.pointer none) W:=by kernel_rfl
theorem oN (k:ByteArray) (v:Value):i7 [(k,v)] k=some v:=by simp [i7,sG]
theorem aBy (k:ByteArray) (v v':Value):fZ [(k,v)] k v'= [(k,v')]:=by simp [fZ,sG]
abbrev eU (f:Nat) (v:Value) (lasts:Nat) (there:Bool):Res:=aA f [v,.int .i64 (lasts:Int),.bool there] 148
abbrev dJ (p m:Nat) (c:Int):Res:=aA p [.map (some m),.int .i64 c] 145
abbrev ptr (p:Nat):Value:= .pointer (some ⟨p,0,none⟩)
def aB (nm:ByteArray) (p:Nat):bF→Res
 |none=>Ex fun x:Nat×Int=>dJ p x.1 x.2::bN x.1 []:: []
 |some fd=>Ex fun x:Nat×Int×Nat×Value=>dJ p x.1 x.2.1::bN x.1 [(nm,ptr x.2.2.1)]::eU x.2.2.1 x.2.2.2 fd.lasts fd.there::bP x.2.2.2 fd.b:: []
section
variable {nm:ByteArray} {p m f:Nat} {c:Int} {v:Value} {w W:World} {R L:List Res} {fd:nD} {d:bF}
theorem qO (h:Has 0 w W (aB nm p none::R)):∃m c,Has 0 w W (dJ p m c::bN m []::R):=by
 obtain ⟨⟨m,c⟩,h⟩:=Has.open (show Has 0 w W (Ex (fun x:Nat×Int=>dJ p x.1 x.2::bN x.1 []:: [])::R) from h);exact ⟨m,c,h⟩
theorem yG (h:Has 0 w W (dJ p m c::bN m []::R)):Has 0 w W (aB nm p none::R):=Has.shut (m,c) h
theorem qP (h:Has 0 w W (aB nm p (some fd)::R)):∃m c f ad cap,Has 0 w W (dJ p m c::bN m [(nm,ptr f)]::eU f (.slice ad fd.b.length cap) fd.lasts fd.there::bP (.slice ad fd.b.length cap) fd.b::R):=by
 obtain ⟨⟨m,c,f,v⟩,h⟩:=Has.open (show Has 0 w W (Ex (fun x:Nat×Int×Nat×Value=>dJ p x.1 x.2.1::bN x.1 [(nm,ptr x.2.2.1)]::eU x.2.2.1 x.2.2.2 fd.lasts fd.there::bP x.2.2.2 fd.b:: [])::R) from h);have h:Has 0 w W (dJ p m c::bN m [(nm,ptr f)]::eU f v fd.lasts fd.there::bP v fd.b::R):=h;obtain ⟨ad,cap,rfl⟩:=Has.own_slice (h.pm:Has 0 w W (bP v fd.b::dJ p m c::bN m [(nm,ptr f)]::eU f v fd.lasts fd.there::R));exact ⟨m,c,f,ad,cap,h⟩
theorem nK (h:Has 0 w W (dJ p m c::bN m [(nm,ptr f)]::eU f v fd.lasts fd.there::bP v fd.b::R)):Has 0 w W (aB nm p (some fd)::R):=Has.shut (m,c,f,v) h
theorem yH:New Tryz.prog 75 [] L Nat ptr (fun p=>aB nm p none::L):=⟨fun {w W} hw=>by
 refine enter Tryz.func75 Tryz.ntmps75 rfl rfl fun a hs=>?_;refine sv hs hw fun a hs=>?_;refine aAl hs hw (c:=fun a m W hw hs=>?_);refine sv hs hw fun a hs=>?_;refine sn hs hw fun b a W hs hw=>?_;refine sv hs hw fun a hs=>?_
 exact rt1 hs rfl rfl ⟨b,rfl,yG hw⟩⟩
def lM (s:List UInt8):Bool:=s.all (fun c=>!decide (c.toNat<97) && !decide (c.toNat > 122)) && !s.isEmpty && decide (s.length≤10)
theorem yI {s:ByteArray} (hs9:s.size≤1000):Get Tryz.prog 230 [.string s] L (.bool (lM s.data.toList)) L:=⟨fun {w W} hw=>by
 have hsl:s.data.toList.length=s.size:=by rw [Array.length_toList];rfl
 refine enter Tryz.func230 Tryz.ntmps230 rfl rfl fun a hs=>?_;refine sv hs hw fun a hs=>?_;refine bY (σ:=Nat) (fun i=>[(0,.string s),(5,.int .i64 (s.size:Int)),(6,.int .i64 (i:Int))]) (fun _=>L) (fun i=>i≤s.size∧s.data.toList.all (fun c=>!decide (c.toNat<97) && !decide (c.toNat > 122))=(s.data.toList.drop i).all (fun c=>!decide (c.toNat<97) && !decide (c.toNat > 122))) (fun i=>s.size - i) 0 ⟨Nat.zero_le _,rfl⟩ hs ⟨rfl,rfl,rfl,trivial⟩ hw ?_;clear hs hw;rintro i a W ⟨hi,hh⟩ hs hw;refine sv hs hw fun a hs=>?_;refine cI hs (kt:=fun hc=>?_) (kf:=fun hc=>?_)
 ·have hi':i<s.size:=by simpa using hc
  obtain ⟨o,ho,hd⟩:=dR (show i<s.data.toList.length by omega);rw [hd,List.all_cons] at hh;refine sv hs hw fun a hs=>?_;refine yF hs ho fun a hs=>?_;refine sv hs hw fun a hs=>?_;cases c1:decide ((o.toNat:Int)<97) with
  |true=>
   rw [c1] at hs;refine sv hs hw fun a hs=>?_;have h1:decide (o.toNat<97)=true:=decide_eq_true (by have:=of_decide_eq_true c1;omega);exact rt1 hs rfl rfl ⟨by unfold lM;rw [hh,h1];rfl,hw⟩
  |false=>
  rw [c1] at hs;have h1:decide (o.toNat<97)=false:=decide_eq_false (by have:=of_decide_eq_false c1;omega);refine sv hs hw fun a hs=>?_;refine yF hs ho fun a hs=>?_;refine sv hs hw fun a hs=>?_;cases c2:decide ((o.toNat:Int) > 122) with
  |true=>
   rw [c2] at hs;refine sv hs hw fun a hs=>?_;have h2:decide (o.toNat > 122)=true:=decide_eq_true (by have:=of_decide_eq_true c2;omega);exact rt1 hs rfl rfl ⟨by unfold lM;rw [hh,h1,h2];rfl,hw⟩
  |false=>
   rw [c2] at hs;have h2:decide (o.toNat > 122)=false:=decide_eq_false (by have:=of_decide_eq_false c2;omega);rw [h1,h2] at hh;refine sv hs hw fun a hs=>?_;exact bQ (i+1) hs hw ⟨hi',hh⟩ (by omega) ⟨rfl,rfl,bR (i1 (by omega)),trivial⟩
 ·have:s.data.toList.drop i= []:=List.drop_eq_nil_of_le (by simp at hc;omega);rw [this] at hh;refine sv hs hw fun a hs=>?_;cases c3:(!(s.toList == (⟨#[]⟩:ByteArray).toList)) with
  |false=>
   rw [c3] at hs;refine sv hs hw fun a hs=>?_;rw [Go.ByteArray.toList_eq,Go.ByteArray.toList_eq] at c3;have h3:s.data.toList.isEmpty=true:=by simp at c3;simp [c3]
   exact rt1 hs rfl rfl ⟨by unfold lM;rw [h3];simp,hw⟩
  |true=>
   rw [c3] at hs;refine sv hs hw fun a hs=>?_;rw [Go.ByteArray.toList_eq,Go.ByteArray.toList_eq] at c3;have h3:s.data.toList.isEmpty=false:=by simp at c3;simp [c3]
   refine rt1 hs rfl rfl ⟨?_,hw⟩;unfold lM;rw [h3,hh,hsl];simp
   by_cases h4:s.size≤10 <;> simp [h4] <;> omega⟩
theorem aBz (w0 W:World) (nm:ByteArray) (hns:nm.size≤1000) (hn:lM nm.data.toList=true) (d d':bF) (l:List UInt8) (v:Value) (R:List Res) (h:kQ d l=some d') (hr:∀{W},Has 0 w0 W R→RdB W v l) (hw:Has 0 w0 W (aB nm p d::R)):
  Calls Tryz.prog 239 ⟨[ptr p,.string nm,v]⟩ W fun e W'=>e= .returned (.int .i64 0)∧Has 0 w0 W' (aB nm p d'::R):=by
 have hlen:l.length≤1048576:=by
  unfold kQ at h;simp only [Option.ite_none_right_eq_some] at h;omega
 obtain ⟨vad,vcap,rfl⟩:∃ad cap,v= .slice ad l.length cap:=by
  have:=hr (hw.d1);obtain ⟨_,ad,cap,e,_⟩:=this;exact ⟨ad,cap,e⟩
 cases d with
 |none=>
  obtain ⟨m,c,hw⟩:=qO hw;refine enter Tryz.func239 Tryz.ntmps239 rfl rfl fun a hs=>?_;refine sx hs hw fun a W hs hw=>?_;refine cl hs ((yI hns).ok hw) fun a W hs hw=>?_;rw [hn] at hs;refine sv hs hw fun a hs=>?_;refine jO hs (hw:=hw) (hz:=mH) (c:=fun a hs=>?_);refine sv hs hw fun a hs=>?_;refine sn hs hw fun f a W hs hw=>?_;refine sv hs hw fun a hs=>?_;rw [show decide (((0:Nat):Int) > IntKind.i64.wrap (1048576 - (l.length:Int)))=false from decide_eq_false (by rw [IntWalk.i64_in _ (by omega)];omega)] at hs;refine sv hs hw fun a hs=>?_;refine iK hs (hw.nilB 5) (l:=[]) (m:=l) (hr:=fK (hr (hw.sl)) (kD l)) (hb:=by simp;omega) (c:=fun a ad cap W hs hw=>?_);refine sx hs hw fun a W hs hw=>?_;refine nV hs (hw:=hw) (v:=ptr f) (c:=fun W hs hw=>?_);refine sv hs hw fun a hs=>?_;refine rt1 hs rfl rfl ⟨rfl,?_⟩;have e:d'=some ⟨l,0,false⟩:=by
   unfold kQ at h;simp at h;exact h.2.symm
  subst e;exact nK (f:=f) (c:=IntKind.i64.wrap (c+1)) (hw.pm)
 |some fd=>
  obtain ⟨m,c,f,ad,cap,hw⟩:=qP hw;have hle:fd.b.length+l.length≤1048576:=by
   unfold kQ at h;simp only [Option.ite_none_right_eq_some,Option.getD_some] at h;omega
  refine enter Tryz.func239 Tryz.ntmps239 rfl rfl fun a hs=>?_;refine sx hs hw fun a W hs hw=>?_;refine cl hs ((yI hns).ok hw) fun a W hs hw=>?_;rw [hn] at hs;refine sv hs hw fun a hs=>?_;refine jO hs (hw:=hw) (hz:=mH) (c:=fun a hs=>?_);rw [oN] at hs;refine sv hs hw fun a hs=>?_;rw [show decide ((fd.b.length:Int) > IntKind.i64.wrap (1048576 - (l.length:Int)))=false from decide_eq_false (by rw [IntWalk.i64_in _ (by omega)];omega)] at hs;refine sv hs hw fun a hs=>?_;refine iK hs hw (l:=fd.b) (m:=l) (hr:=fK (hr (hw.sl)) (kD l)) (hb:=by omega) (c:=fun a ad cap W hs hw=>?_);refine sx hs hw fun a W hs hw=>?_;refine nV hs (hw:=hw) (v:=ptr f) (c:=fun W hs hw=>?_);rw [aBy] at hw;refine sv hs hw fun a hs=>?_;refine rt1 hs rfl rfl ⟨rfl,?_⟩;have e:d'=some {fd with b:=fd.b ++ l}:=by
   unfold kQ at h;simp only [Option.ite_none_right_eq_some,Option.getD_some,Option.some.injEq] at h;exact h.2.symm
  subst e;exact nK (f:=f) (c:=IntKind.i64.wrap (c+1)) (fd:={fd with b:=fd.b ++ l}) (hw.pm)
theorem aCA (w0 W:World) (nm:ByteArray) (d d':bF) (R:List Res) (h:qI d=some d') (hw:Has 0 w0 W (aB nm p d::R)):
  Calls Tryz.prog 240 ⟨[ptr p,.string nm]⟩ W fun e W'=>e= .returned (.int .i64 0)∧Has 0 w0 W' (aB nm p d'::R):=by
 cases d with
 |none=>cases h
 |some fd=>
  obtain rfl:=Option.some.inj h;obtain ⟨m,c,f,ad,cap,hw⟩:=qP hw;refine enter Tryz.func240 Tryz.ntmps240 rfl rfl fun a hs=>?_;refine sx hs hw fun a W hs hw=>?_;refine jO hs (hw:=hw) (hz:=mH) (c:=fun a hs=>?_);rw [oN] at hs;refine sx hs hw fun a W hs hw=>?_;refine rt1 hs rfl rfl ⟨rfl,?_⟩;exact nK (f:=f) (c:=IntKind.i64.wrap (c+1)) (fd:={fd with lasts:=fd.b.length,there:=true}) (hw.pm)
end
section
variable {nm:ByteArray} {p m f:Nat} {c:Int} {v:Value} {w W:World} {R L:List Res} {fd:nD} {d:bF}
theorem aCB (w0 W:World) (l:List UInt8) (v:Value) (R:List Res) (hl:l.length≤1000000000) (hr:∀{W},Has 0 w0 W R→RdB W v l) (hw:Has 0 w0 W R):
  Calls Tryz.prog 84 ⟨[v]⟩ W fun e W'=>∃s:Option Addr×Nat,e= .returned (.slice s.1 l.length s.2)∧True∧Has 0 w0 W' (bP (.slice s.1 l.length s.2) l::R):=by
 obtain ⟨ad,cap,rfl⟩:∃ad cap,v= .slice ad l.length cap:=by obtain ⟨_,ad,cap,e,_⟩:=hr hw;exact ⟨ad,cap,e⟩
 refine enter Tryz.func84 Tryz.ntmps84 rfl rfl fun a hs=>?_;refine sv hs hw fun a hs=>?_;refine k7 hs (c:=fun a hs=>?_);cases ad with
 |none=>
  refine sv hs hw fun a hs=>?_;have h0:l= []:=by
   obtain ⟨_,ad,cap,e,_,_,h|⟨b,o,h,_⟩⟩:=hr hw
   ·exact List.eq_nil_of_length_eq_zero h
   ·injection e with e1 _ _;rw [←e1] at h;cases h
  subst h0;exact rt1 hs rfl rfl ⟨(none,0),rfl,trivial,hw.nilB 5⟩
 |some A=>
  rw [show (some A).isNone=false from rfl] at hs;refine sc hs ?_;refine pQ hs hw (c:=fun a ad W hw hs=>?_);refine sv hs hw fun a hs=>?_;refine iK hs (hw:=hw) (l:=[]) (m:=l) (hr:=fK (hr (hw.d1)) (kD l)) (hb:=by simp;omega) (c:=fun a ad2 cap2 W hs hw=>?_);refine sv hs hw fun a hs=>?_;exact rt1 hs rfl rfl ⟨(ad2,cap2),rfl,trivial,hw⟩
theorem aHF (h:Has 0 w W (aB nm p d::R)):∃m c d0,(∀v,fZ d0 nm v= [(nm,v)])∧Has 0 w W (dJ p m c::bN m d0::R):=by
 cases d with
 |none=>
  obtain ⟨m,c,h⟩:=qO h;exact ⟨m,c,[],fun _=>rfl,h⟩
 |some fd=>
  obtain ⟨m,c,f,ad,cap,h⟩:=qP h;exact ⟨m,c,_,fun v=>aBy nm _ v,h.sl⟩
theorem aHG (w0 W:World) (nm:ByteArray) (hns:nm.size≤1000) (hn:lM nm.data.toList=true) (d d':bF) (l:List UInt8) (v:Value) (R:List Res) (h:nE l=some d') (hr:∀{W},Has 0 w0 W R→RdB W v l) (hw:Has 0 w0 W (aB nm p d::R)):
  Calls Tryz.prog 152 ⟨[ptr p,.string nm,v]⟩ W fun e W'=>e= .returned (.int .i64 0)∧Has 0 w0 W' (aB nm p d'::R):=by
 have hlen:l.length≤1048576∧d'=some ⟨l,l.length,true⟩:=by
  unfold nE at h;simp only [Option.ite_none_right_eq_some,Option.some.injEq] at h;exact ⟨h.1,h.2.symm⟩
 obtain ⟨hlen,rfl⟩:=hlen;obtain ⟨m,c,d0,hd,hw⟩:=aHF hw;obtain ⟨vad,vcap,rfl⟩:∃ad cap,v= .slice ad l.length cap:=by
  obtain ⟨_,ad,cap,e,_⟩:=hr (hw.d2);exact ⟨ad,cap,e⟩
 refine enter Tryz.func152 Tryz.ntmps152 rfl rfl fun a hs=>?_;refine sx hs hw fun a W hs hw=>?_;refine cl hs ((yI hns).ok hw) fun a W hs hw=>?_;rw [hn] at hs;refine sv hs hw fun a hs=>?_;rw [show decide ((l.length:Int) > 1048576)=false from decide_eq_false (by omega)] at hs;refine zG hs ?_;replace hw:Has 0 w0 W (dJ p m (IntKind.i64.wrap (c+1))::bN m d0::R):=hw;refine bG [6,10,11] [.f 0 2,.f 0 2,.f 0 2,.f 0 2,.f 0 2,.f 0 0,.m 0,.f 0 1,.f 0 1,.f 1 1,.m 1,.m 2] [.c0 _,.c0 _,.c0 _,.c0 _,.c0 _,.c0 _,.c1 (fun x=> .slice x.ad l.length x.cap),.c0 _,.c0 _,.c1 _,.c2 (fun x y=> .pointer (some ⟨y.n,0,none⟩)),.c3 (fun x y z=>undef)] (dJ p m (IntKind.i64.wrap (c+1))::bN m d0::R) (fun x=>bP (.slice x.ad l.length x.cap) l::dJ p m (IntKind.i64.wrap (c+1))::bN m d0::R) (fun x y=>eU y.n (.slice x.ad l.length x.cap) l.length true::bP (.slice x.ad l.length x.cap) l::dJ p m (IntKind.i64.wrap (c+1))::bN m d0::R) (fun x y z=>eU y.n (.slice x.ad l.length x.cap) l.length true::bP (.slice x.ad l.length x.cap) l::dJ p m (IntKind.i64.wrap (c+1))::bN m [(nm,ptr y.n)]::R) (fun x y z t=>[]) hs hw ?kk ⟨drs,drs,drs,drs,drs,drs,?m0,drs,drs,drs,drn,?m2,trivial⟩
 case m0=>
  intro x y z t LD a W hs hw;refine aG hs (hc:=aCB w0 W l _ _ (by omega) (fun h=>hr (h.d2)) hw) (k:=?_);rintro e' W' ⟨s,rfl,_,hw⟩;exact ⟨_,rfl,fun a hs=>⟨{ad:=s.1,cap:=s.2},hs,hw⟩⟩
 case m2=>
  intro x y z t LD a W hs hw;refine nV hs (hw:=hw) (v:=ptr y.n) (c:=fun W hs hw=>?_);rw [hd] at hw;exact ⟨{},hs,hw⟩
 case kk=>
  intro x y z a W hs hw;refine sv hs hw fun a hs=>?_;exact rt1 hs rfl rfl ⟨rfl,nK (f:=y.n) (fd:=⟨l,l.length,true⟩) (hw.pm)⟩
theorem aCC (w0 W:World) (nm:ByteArray) (R:List Res) (hw:Has 0 w0 W (aB nm p none::R)):
  Calls Tryz.prog 148 ⟨[ptr p,.string nm]⟩ W fun e W'=>e= .returned (.tuple ⟨[.slice none 0 0,.int .i64 13]⟩)∧Has 0 w0 W' (aB nm p none::R):=by
 obtain ⟨m,c,hw⟩:=qO hw;refine enter Tryz.func148 Tryz.ntmps148 rfl rfl fun a hs=>?_;refine sv hs hw fun a hs=>?_;refine jO hs (hw:=hw) (hz:=mH) (c:=fun a hs=>?_);refine sv hs hw fun a hs=>?_;exact rt2 hs rfl rfl rfl ⟨rfl,yG hw⟩
end
def EE (e:cD) (c:List Value):Prop:=c=bD e
theorem EE.len:∀(x:cD) (c:List Value),EE x c→c.length=4:=by rintro x c rfl;rfl
theorem qQ:∀l:List cD,Ch EE l (l.flatMap bD)
 | []=>rfl
 |x::l=>⟨bD x,l.flatMap bD,rfl,rfl,qQ l⟩
section
variable {p n cap:Nat} {s:eC} {v:Value} {ad:Option Addr} {l:LogD} {L L1:List Res}
instance log_FirstC [c:pR (fun s v=>eT p s v) L s v L1]:Get Tryz.prog 118 [.pointer (some ⟨p,0,none⟩)] L (.int .i64 (w64 (s.ix+1))) L:=⟨fun {w W} hw=>by
 have hw:=hw.pick c.p;refine enter Tryz.func118 Tryz.ntmps118 rfl rfl fun a hs=>?_;refine sv hs hw fun a hs=>?_
 exact rt1 hs rfl rfl ⟨rfl,hw.unpick c.p⟩⟩
instance log_LastC [c:pR (fun s v=>eT p s v) L s (.slice ad n cap) L1]:Get Tryz.prog 137 [.pointer (some ⟨p,0,none⟩)] L (.int .i64 (w64 (s.ix+(n:Int)))) L:=⟨fun {w W} hw=>by
 have hw:=hw.pick c.p;refine enter Tryz.func137 Tryz.ntmps137 rfl rfl fun a hs=>?_;refine sv hs hw fun a hs=>?_;refine rgp [_,_,_,_,_,_,_,_,_,_,_,_] hs hw fun a W hs hw=>?_;refine sc hs ?_
 exact rt1 hs rfl rfl ⟨rfl,hw.unpick c.p⟩⟩
instance log_First [c:dI (fun l=>aH p l) L l L1]:Get Tryz.prog 118 [.pointer (some ⟨p,0,none⟩)] L (.int .i64 l.first) L:=⟨fun {w W} hw=>by
 obtain ⟨hl,ad,cap,h⟩:=iU (hw.pick c.p)
 exact ((log_FirstC (s:=l.s)).ok h).mono fun e W' ⟨h1,h2⟩=>⟨h1,(iD h2 hl).unpick c.p⟩⟩
instance log_Last [c:dI (fun l=>aH p l) L l L1]:Get Tryz.prog 137 [.pointer (some ⟨p,0,none⟩)] L (.int .i64 l.last) L:=⟨fun {w W} hw=>by
 obtain ⟨hl,ad,cap,h⟩:=iU (hw.pick c.p)
 exact ((log_LastC (s:=l.s)).ok h).mono fun e W' ⟨h1,h2⟩=>⟨h1,(iD h2 hl).unpick c.p⟩⟩
theorem aHH {l:LogD} {i:Nat} (hi:i<l.l.length):∃e,l.l[i]? =some e∧l.l.getD i gW=e:=by
 obtain ⟨e,he,_⟩:=dR hi;exact ⟨e,he,by rw [List.getD_eq_getElem?_getD,he];rfl⟩
theorem tL {l:LogD} (h:kR l):l.first=l.s.ix+1:=IntWalk.i64_in _ (by have:=h.1;have:=h.2.1;omega)
theorem oO {l:LogD} (h:kR l):l.last=l.s.ix+(l.l.length:Int):=IntWalk.i64_in _ (by have:=h.1;have:=h.2.1;have:=h.2.2.1;omega)
instance log_Term {i:Int} [c:dI (fun l=>aH p l) L l L1]:Get Tryz.prog 120 [.pointer (some ⟨p,0,none⟩),.int .i64 i] L (.tuple ⟨[.int .i64 (l.term i).1,.bool (l.term i).2]⟩) L:=⟨fun {w W} hw=>by
 obtain ⟨hl,ad,cap,hw⟩:=iU (hw.pick c.p);have hf:=tL hl;have hla:=oO hl;have ⟨hl0,hl1,hl2,_,_⟩:=hl;refine enter Tryz.func120 Tryz.ntmps120 rfl rfl fun a hs=>?_;refine sv hs hw fun a hs=>?_;cases c1:decide (i<l.s.ix) with
 |true=>
  rw [c1] at hs;refine sv hs hw fun a hs=>?_;have e:l.term i=(0,false):=by unfold LogD.term;rw [if_pos (.inl (of_decide_eq_true c1))]
  rw [e];exact rt2 hs rfl rfl rfl ⟨rfl,(iD hw hl).unpick c.p⟩
 |false=>
 rw [c1] at hs;refine sx hs hw fun a W hs hw=>?_;rw [show w64 (l.s.ix+(l.l.length:Int))=l.last from rfl] at hs;cases c2:decide (i > l.last) with
 |true=>
  rw [c2] at hs;refine sv hs hw fun a hs=>?_;have e:l.term i=(0,false):=by unfold LogD.term;rw [if_pos (.inr (of_decide_eq_true c2))]
  rw [e];exact rt2 hs rfl rfl rfl ⟨rfl,(iD hw hl).unpick c.p⟩
 |false=>
 rw [c2] at hs;refine sv hs hw fun a hs=>?_;have g1:=of_decide_eq_false c1;have g2:=of_decide_eq_false c2;cases c3:(i == l.s.ix) with
 |true=>
  rw [c3] at hs;refine sv hs hw fun a hs=>?_;have e:l.term i=(l.s.term,true):=by unfold LogD.term;rw [if_neg (by omega),if_pos (by simpa using c3)]
  rw [e];exact rt2 hs rfl rfl rfl ⟨rfl,(iD hw hl).unpick c.p⟩
 |false=>
 rw [c3] at hs;have g3:i≠l.s.ix:=by simpa using c3
 obtain ⟨k,hk⟩:∃k:Nat,w64 (i - l.first)=(k:Int):=⟨(i - l.first).toNat,by rw [show w64 (i - l.first)=i - l.first from IntWalk.i64_in _ (by omega)];omega⟩
 have hkl:k<l.l.length:=by rw [show w64 (i - l.first)=i - l.first from IntWalk.i64_in _ (by omega)] at hk;omega
 obtain ⟨e,he,hd⟩:=aHH hkl;have et:l.term i=(e.term,true):=by unfold LogD.term LogD.at;rw [if_neg (by omega),if_neg g3,hk,Int.toNat_natCast,hd]
 rw [et];refine sc hs ?_;obtain ⟨g,cur,rfl,hcur,hcl,hkc,hcm,hw⟩:=(show Has _ _ _ (Sx.Own 137 4 _ _ _::eT p l.s _::L1) from hw.swap2).open_own (by omega);have hat:cur[k*4+1]? =some (.int .i64 e.term):=Ch.at_cur (R:=EE) (l:=l.l) (a:=e) (j:=1) (by obtain ⟨c0,h1,h2⟩:=(qQ l.l).mem EE.len he;obtain rfl:c0=_:=h1;exact h2) hcur rfl
 refine gT [_,_,_,_,_,_,_,_,_,_,_,_,_] (fun _=>_) hs hw (ho:=⟨dr,dr,dr,dr,dr,dr,dr,by
   intro LD D a W hcl hi hp hs hw;refine sv hs hw fun a hs=>?_;rw [show IntKind.i64.wrap (i - w64 (l.s.ix+1))=(k:Int) from hk] at hs;exact ⟨hs,hw⟩,by
   intro LD D a W hcl hi hp hs hw;refine eF hs (z:=[.int .i64 0,.int .i64 0,.int .i64 0,.string ⟨#[]⟩]) (h0:=by omega) (h1:=by omega) (c:=fun a hs=>?_);exact ⟨hs,hw⟩,dr,by
   intro LD D a W hcl hi hp hs hw;refine fY hs (hw:=hw) (hi:=In.hd) (hv:=by show cur[0+k*4+1]? =_;rw [show 0+k*4+1=k*4+1 by omega];exact hat) (k:=fun a hs=>?_)
   exact ⟨hs,hw⟩,dr,dr,trivial⟩) (k:=fun a W hs hw=>?_)
 refine sc hs ?_;refine rt2 hs rfl rfl rfl ⟨rfl,?_⟩
 exact (iD (hw.shut_own (k:=l.l.length) (size:=4) (cap:=cap) (xs:=l.l.flatMap bD) hcur hcl hkc hcm).swap2 hl).unpick c.p⟩
end
section
variable {p n cap:Nat} {s:eC} {v:Value} {ad:Option Addr} {l:LogD} {L L1:List Res} {i t:Int}
instance log_Fits [c:dI (fun l=>aH p l) L l L1]:Get Tryz.prog 191 [.pointer (some ⟨p,0,none⟩),.int .i64 i,.int .i64 t] L (.bool (l.fits i t)) L:=⟨fun {w W} hw=>by
 refine enter Tryz.func191 Tryz.ntmps191 rfl rfl fun a hs=>?_;refine sx hs hw fun a W hs hw=>?_;unfold LogD.fits;cases h:(l.term i).2 with
 |false=>
  rw [h] at hs;refine sv hs hw fun a hs=>?_;exact rt1 hs rfl rfl ⟨rfl,hw⟩
 |true=>
  rw [h] at hs;refine sv hs hw fun a hs=>?_
  exact rt1 hs rfl rfl ⟨rfl,hw⟩⟩
instance log_Newer [c:dI (fun l=>aH p l) L l L1]:Get Tryz.prog 211 [.pointer (some ⟨p,0,none⟩),.int .i64 i,.int .i64 t] L (.bool (l.newer i t)) L:=⟨fun {w W} hw=>by
 refine enter Tryz.func211 Tryz.ntmps211 rfl rfl fun a hs=>?_;refine sx hs hw fun a W hs hw=>?_;unfold LogD.newer;cases h:decide (t > (l.term l.last).1) with
 |true=>
  rw [h] at hs;refine sv hs hw fun a hs=>?_;exact rt1 hs rfl rfl ⟨rfl,hw⟩
 |false=>
  rw [h] at hs;refine sv hs hw fun a hs=>?_;cases h2:(t == (l.term l.last).1) with
  |false=>
   rw [h2] at hs;refine sv hs hw fun a hs=>?_;exact rt1 hs rfl rfl ⟨rfl,hw⟩
  |true=>
   rw [h2] at hs;refine sx hs hw fun a W hs hw=>?_
   exact rt1 hs rfl rfl ⟨rfl,hw⟩⟩
instance log_Snap [c:dI (fun l=>aH p l) L l L1]:Get Tryz.prog 68 [.pointer (some ⟨p,0,none⟩)] L (.agg ⟨fG l.s⟩) L:=⟨fun {w W} hw=>by
 obtain ⟨hl,ad,cap,hw⟩:=iU (hw.pick c.p);refine enter Tryz.func68 Tryz.ntmps68 rfl rfl fun a hs=>?_;refine sc hs ?_;refine sn hs hw fun b a W hs hw=>?_;refine sx hs hw fun a W hs hw=>?_;refine rc1 hs rfl rfl hw In.hd rfl ?_
 exact ⟨rfl,(iD (hw.sl) hl).unpick c.p⟩⟩
end
abbrev zEnt:List Value:=[.int .i64 0,.int .i64 0,.int .i64 0,.string ⟨#[]⟩]
theorem aHI {l:LogD} {k:Int} {j:Nat} {e:cD} (he:l.l[j]? =some e) (hk:k - l.s.ix=(j:Int)+1):jX k ((l.l.take (k - l.s.ix).toNat).reverse)=match (dL e.data.data.toList).2 && (e.kind == 3) with|true=>some ((dL e.data.data.toList).1,k)|false=>jX (k - 1) ((l.l.take (k - 1 - l.s.ix).toNat).reverse):=by
 rw [show (k - l.s.ix).toNat=j+1 by omega,show (k - 1 - l.s.ix).toNat=j by omega,gB he,List.reverse_append];rfl
section
variable {p:Nat} {l:LogD} {L L1:List Res} {i:Int}
theorem aHJ [c:dI (fun l=>aH p l) L l L1]:New Tryz.prog 119 [.pointer (some ⟨p,0,none⟩),.int .i64 i] L (Option Addr×Nat) (fun x=> .tuple ⟨[.slice x.1 (l.confAt i).1.length x.2,.int .i64 (l.confAt i).2]⟩) (fun x=>aN (.slice x.1 (l.confAt i).1.length x.2) (l.confAt i).1::L):=⟨fun {w W} hw=>by
 obtain ⟨hl,ad,cap,hw⟩:=iU (hw.pick c.p);have hf:=tL hl;have hla:=oO hl;have ⟨hl0,hl1,hl2,hl3,hl4⟩:=hl;refine enter Tryz.func119 Tryz.ntmps119 rfl rfl fun a hs=>?_;refine sx hs hw fun a W hs hw=>?_;rw [show w64 (l.s.ix+(l.l.length:Int))=l.last from rfl] at hs;refine sK hs (k:=fun a hs=>?_);rw [show (if l.last<i then l.last else i)=min i l.last by rw [Int.min_def];split <;> split <;> omega] at hs;refine sv hs hw fun a hs=>?_;have hca:l.confAt i=match jX (min i l.last) ((l.l.take (min i l.last - l.s.ix).toNat).reverse) with
  |some x=>x
  |none=>match (dL l.s.conf.data.toList).2 with
   |true=>((dL l.s.conf.data.toList).1,l.s.ix)
   |false=>([],0):=rfl
 have hm:min i l.last≤l.last:=Int.min_le_right _ _;generalize min i l.last=K at *;refine bY (σ:=Int) (fun k=>[(0,.pointer (some ⟨p,0,none⟩)),(6,.int .i64 k)]) (fun _=>eT p l.s (.slice ad l.l.length cap)::bV (.slice ad l.l.length cap) l.l::L1) (fun k=>k≤l.last∧jX K ((l.l.take (K - l.s.ix).toNat).reverse)=jX k ((l.l.take (k - l.s.ix).toNat).reverse)) (fun k=>(k - l.s.ix).toNat) K ⟨hm,rfl⟩ hs ⟨rfl,rfl,trivial⟩ hw ?_;clear hs hw;rintro k a W ⟨hk,hrev⟩ hs hw;refine sx hs hw fun a W hs hw=>?_;rw [show w64 (l.s.ix+1)=l.first from rfl] at hs;refine cI hs (kt:=fun hc=>?_) (kf:=fun hc=>?_)
 ·have hk1:l.first≤k:=by simpa using hc
  obtain ⟨j,hj⟩:∃j:Nat,k - l.first=(j:Int):=⟨(k - l.first).toNat,by omega⟩
  have hjl:j<l.l.length:=by omega
  obtain ⟨e,he,_⟩:=dR hjl;have hstep:=aHI (k:=k) he (by omega);have hes:=hl4 e (List.mem_of_getElem? he);refine sc hs ?_;obtain ⟨g,cur,rfl,hcur,hcl0,hkc,hcm,hw⟩:=(show Has _ _ _ (Sx.Own 137 4 _ _ _::eT p l.s _::L1) from hw.swap2).open_own (by omega);have hcut:cut (l.l.flatMap bD) (j*4) 4=bD e:=by obtain ⟨c0,h1,h2⟩:=(qQ l.l).mem EE.len he;obtain rfl:c0=_:=h1;exact h2
  refine fM (σ:=Nat) (V:=fun u=>[.pointer (some ⟨p,0,none⟩),.pointer (some ⟨p,0,none⟩),.pointer (some ⟨p,0+4,none⟩),.slice (some ⟨g,0,none⟩) l.l.length cap,.int .i64 k,.pointer (some ⟨p,0,none⟩),.int .i64 (w64 (l.s.ix+1)),.int .i64 (j:Int),.pointer (some ⟨g,0+j*4,none⟩),.agg ⟨bD e⟩,.pointer (some ⟨u 10,0,none⟩),.bool true])
   (Rs:=fun u D=>(if D 10 then aA (u 10) (if D 11 then bD e else zEnt) 137 else bI)::aA g cur 137::eT p l.s (.slice (some ⟨g,0,none⟩) l.l.length cap)::L1) (fun _=>0) hs hw.free (hVu:=?vu) (ho:=⟨dru,dru,dru,dru,dru,dru,dru,?c7,?c8,?c9,?c10,?c11,trivial⟩) (k:=?kk)
  case vu=>
   intro u u' j h;rcases j with _|_|_|_|_|_|_|_|_|_|_|_|j
   all_goals first|rfl|simp [h]
  case c7=>
   intro u LD D a W hcl hi hp hs hw;refine sv hs hw fun a hs=>?_;rw [show IntKind.i64.wrap (k - w64 (l.s.ix+1))=(j:Int) by rw [show w64 (l.s.ix+1)=l.first from rfl,IntWalk.i64_in _ (by omega)];exact hj] at hs;exact Or.inl ⟨hs,hw⟩
  case c8=>
   intro u LD D a W hcl hi hp hs hw;refine eF hs (z:=zEnt) (h0:=by omega) (h1:=by omega) (c:=fun a hs=>?_);exact Or.inl ⟨hs,hw⟩
  case c9=>
   intro u LD D a W hcl hi hp hs hw
   refine eE hs (z:=zEnt) (cs:=bD e) (hc:=fun m u h=>by
    rw [iJ (hw.block (In.tl In.hd)).1];have:=Ch.at_cur (R:=EE) (l:=l.l) (a:=e) (j:=m) hcut hcur h;rw [←this];congr 1;show 0+j*4+m=j*4+m
    omega) (hl:=by rfl) (c:=fun a hs=>?_)
   exact Or.inl ⟨hs,hw⟩
  case c10=>
   intro u LD D a W hcl hi hp hs hw;have h11:=Go.Sx.not_done hcl hi 11 (by kernel_rfl);simp only [hi,Bool.false_eq_true,if_false] at hw;refine sn hs hw fun b a W hs hw=>?_;refine Or.inr ⟨b,hs,?_⟩;show Has 0 w _ (aA b (if (Nat.beq 11 10 || D 11)=true then _ else _) _::_);rw [h11];exact hw.fill Upd.hd
  case c11=>
   intro u LD D a W hcl hi hp hs hw;have h10:=Go.Sx.done hp 10 (by kernel_rfl);simp only [h10,hi,Bool.false_eq_true,if_false,if_true] at hw;refine dY hs (hw:=hw) (vs:=bD e) (k:=fun W hs hw=>?_);refine Or.inl ⟨hs,?_⟩;show Has 0 w _ ((if (Nat.beq 10 11 || D 10)=true then _ else _)::_);rw [h10];exact hw
  case kk=>
   clear hs hw;intro u a W hs hw;replace hw:Has 0 w W (aA (u 10) (bD e) 137::aA g cur 137::eT p l.s (.slice (some ⟨g,0,none⟩) l.l.length cap)::L1):=hw;replace hs:Slots a 64 [(7,.pointer (some ⟨u 10,0,none⟩)),(0,.pointer (some ⟨p,0,none⟩)),(6,.int .i64 k)]:=hs.ot;generalize u 10=b7 at *;replace hw:Has 0 w W (bV (.slice (some ⟨g,0,none⟩) l.l.length cap) l.l::aA b7 [.int .i64 e.ix,.int .i64 e.term,.int .i64 e.kind,.string e.data] 137::eT p l.s (.slice (some ⟨g,0,none⟩) l.l.length cap)::L1):=hw.swap2.shut_own (k:=l.l.length) (size:=4) (cap:=cap) (xs:=l.l.flatMap bD) hcur hcl0 hkc hcm;refine sv hs hw fun a hs=>?_;refine sg hs hw (fun x a W hs hw=>?_) (g:=tK hes);refine sv hs hw fun a hs=>?_;have again:∀{a W T} {x:Option Addr×Nat} {y:List Int},((dL e.data.data.toList).2 && (e.kind == 3))=false→Slots a 64 ((6,.int .i64 (w64 (k - 1)))::T)→lk T 0=some (ptr p)→Has 0 w W (aN (.slice x.1 y.length x.2) y::bV (.slice (some ⟨g,0,none⟩) l.l.length cap) l.l::aA b7 [.int .i64 e.ix,.int .i64 e.term,.int .i64 e.kind,.string e.data] 137::eT p l.s (.slice (some ⟨g,0,none⟩) l.l.length cap)::L1)→∃k',(k'≤l.last∧jX K ((l.l.take (K - l.s.ix).toNat).reverse)=jX k' ((l.l.take (k' - l.s.ix).toNat).reverse))∧(k' - l.s.ix).toNat<(k - l.s.ix).toNat∧Slots a 64 [(0,ptr p),(6,.int .i64 k')]∧Has 0 w W (eT p l.s (.slice (some ⟨g,0,none⟩) l.l.length cap)::bV (.slice (some ⟨g,0,none⟩) l.l.length cap) l.l::L1):=by
    intro a W T x y h1 hs h0 hw;rw [h1] at hstep;rw [show w64 (k - 1)=k - 1 from IntWalk.i64_in _ (by omega)] at hs;exact ⟨k - 1,⟨by omega,hrev.trans hstep⟩,by omega,hs.of ⟨h0,rfl,trivial⟩,hw.sl⟩
   cases h1:(dL e.data.data.toList).2 with
   |false=>
    rw [h1] at hs;refine sv hs hw fun a hs=>?_;exact again (by rw [h1];rfl) hs rfl hw
   |true=>
    rw [h1] at hs;refine sv hs hw fun a hs=>?_;cases h2:(e.kind == 3) with
    |false=>
     rw [h2] at hs;refine sv hs hw fun a hs=>?_;exact again (by rw [h2,Bool.and_false]) hs rfl hw
    |true=>
     rw [h2] at hs;refine sv hs hw fun a hs=>?_;rw [h1,h2] at hstep;rw [hrev,hstep] at hca;rw [hca];refine rt2 hs rfl rfl rfl ⟨x,rfl,?_⟩;have hw:Has 0 w _ (aH p l::aN (.slice x.1 (dL e.data.data.toList).1.length x.2) (dL e.data.data.toList).1::L1):=iD (hw.sl) hl;exact hw.unpick (Pick.tl c.p)
 ·have hk1:¬l.first≤k:=by simpa using hc
  rw [show (k - l.s.ix).toNat=0 by omega] at hrev;rw [hrev] at hca;refine sv hs hw fun a hs=>?_;refine sg hs hw (fun x a W hs hw=>?_) (g:=tK hl3);refine sv hs hw fun a hs=>?_;replace hca:l.confAt i=match (dL l.s.conf.data.toList).2 with
   |true=>((dL l.s.conf.data.toList).1,l.s.ix)
   |false=>([],0):=hca
  cases h1:(dL l.s.conf.data.toList).2 with
  |true=>
   rw [h1] at hs hca;refine sc hs ?_;refine rgp [_,_,_,_,_,_,_,_] hs hw fun a W hs hw=>?_;refine sc hs ?_;rw [hca];refine rt2 hs rfl rfl rfl ⟨x,rfl,?_⟩;have hw:Has 0 w _ (aH p l::aN (.slice x.1 (dL l.s.conf.data.toList).1.length x.2) (dL l.s.conf.data.toList).1::L1):=iD (hw.pm) hl;exact hw.unpick (Pick.tl c.p)
  |false=>
   rw [h1] at hs hca;refine sv hs hw fun a hs=>?_;rw [hca];refine rt2 hs rfl rfl rfl ⟨(none,0),rfl,?_⟩;have hw:Has 0 w _ (aH p l::L1):=iD (hw.sl) hl
   exact (hw.unpick c.p).nilOwn 3 1⟩
theorem qR [c:dI (fun l=>aH p l) L l L1]:New Tryz.prog 111 [ptr p] L (Option Addr×Nat) (fun x=> .tuple ⟨[.slice x.1 l.conf.1.length x.2,.int .i64 l.conf.2]⟩) (fun x=>aN (.slice x.1 l.conf.1.length x.2) l.conf.1::L):=⟨fun {w W} hw=>by
 refine enter Tryz.func111 Tryz.ntmps111 rfl rfl fun a hs=>?_;refine sx hs hw fun a W hs hw=>?_;refine sg hs hw (fun x a W hs hw=>?_) (g:=aHJ (l:=l));refine sv hs hw fun a hs=>?_
 exact rt2 hs rfl rfl rfl ⟨x,rfl,hw⟩⟩
end
instance arTrack:Ar Tryz.prog 338 8 2:=⟨by kernel_rfl⟩
theorem qX {x:Int} (h:srv x=true):0≤x∧x<8:=by
 unfold srv at h;simp at h;omega
theorem yL {l:List Int} {x:Int} (h:l.length=8) (hx:0≤x∧x<8):l[x.toNat]? =some (nth l x):=by
 unfold nth;rw [List.getD_eq_getElem?_getD,List.getElem?_eq_getElem (by omega)];rfl
theorem qY {nx mt:List Int} {x:Int} (h:nx.length=8) (hx:0≤x∧x<8):(bU nx ++ bU mt)[0+0+x.toNat*1]? =some (.int .i64 (nth nx x)):=by
 rw [show 0+0+x.toNat*1=x.toNat by omega,List.getElem?_append_left (by rw [List.length_map];omega),List.getElem?_map,yL h hx];rfl
theorem yM {nx mt:List Int} {x:Int} (h:nx.length=8) (h2:mt.length=8) (hx:0≤x∧x<8):(bU nx ++ bU mt)[0+8+x.toNat*1]? =some (.int .i64 (nth mt x)):=by
 rw [List.getElem?_append_right (by rw [List.length_map];omega),List.length_map,List.getElem?_map,show 0+8+x.toNat*1 - nx.length=x.toNat by omega,yL h2 hx];rfl
theorem yN {l:List Value} {i:Nat} {v:Value} (h:i<l.length):ov l i [v]=l.set i v:=by
 rw [kC _ _ _ (by simp;omega),List.set_eq_take_append_cons_drop,if_pos h];simp
theorem qZ {nx mt:List Int} {x v:Int} (h:nx.length=8) (hx:0≤x∧x<8):ov (bU nx ++ bU mt) (0+0+x.toNat*1) [.int .i64 v]=bU (eG nx x v) ++ bU mt:=by
 rw [show 0+0+x.toNat*1=x.toNat by omega,yN (by simp;omega),List.set_append_left _ _ (by rw [List.length_map];omega)];unfold eG bU;rw [List.map_set]
theorem aH6 {nx mt:List Int} {x v:Int} (h:nx.length=8) (h2:mt.length=8) (hx:0≤x∧x<8):ov (bU nx ++ bU mt) (0+8+x.toNat*1) [.int .i64 v]=bU nx ++ bU (eG mt x v):=by
 rw [yN (by simp;omega),List.set_append_right _ _ (by rw [List.length_map];omega),List.length_map,show 0+8+x.toNat*1 - nx.length=x.toNat by omega];unfold eG bU;rw [List.map_set]
theorem q0 {nx mt:List Int} {x:Int} (h:nx.length=8) (h2:mt.length=8) (hx:0≤x∧x<8) (v:Value):Nat.ble (0+0+x.toNat*1+ [v].length) (bU nx ++ bU mt).length=true:=Nat.ble_eq_true_of_le (by simp;omega)
theorem aH7 {nx mt:List Int} {x:Int} (h:nx.length=8) (h2:mt.length=8) (hx:0≤x∧x<8) (v:Value):Nat.ble (0+8+x.toNat*1+ [v].length) (bU nx ++ bU mt).length=true:=Nat.ble_eq_true_of_le (by simp;omega)
abbrev aH8 (p:Nat) (nx mt:List Int):Res:=aA p (bU nx ++ bU mt) 340
section
variable {p:Nat} {t:TrackD} {L L1:List Res} {X i:Int}
instance track_in:Get Tryz.prog 264 [.int .i64 X] L (.bool (dB X)) L:=⟨fun {w W} hw=>by
 have e:dB X=(decide (X≥0) && decide (X≤1099511627776)):=by unfold dB;by_cases h:X<0 <;> by_cases h2:X > 1099511627776 <;> simp [h,h2] <;> omega
 rw [e];refine enter Tryz.func264 Tryz.ntmps264 rfl rfl fun a hs=>?_;refine sv hs hw fun a hs=>?_;cases c1:decide (X≥0) with
 |false=>
  rw [c1] at hs;refine sv hs hw fun a hs=>?_;exact rt1 hs rfl rfl ⟨rfl,hw⟩
 |true=>
  rw [c1] at hs;refine sv hs hw fun a hs=>?_
  exact rt1 hs rfl rfl ⟨rfl,hw⟩⟩
instance track_may:Get Tryz.prog 265 [ptr p,.int .i64 X] L (.bool (srv X)) L:=⟨fun {w W} hw=>by
 refine enter Tryz.func265 Tryz.ntmps265 rfl rfl fun a hs=>?_;refine sv hs hw fun a hs=>?_;unfold srv;cases c1:decide (X≥1) with
 |false=>
  rw [c1] at hs;refine sv hs hw fun a hs=>?_;exact rt1 hs rfl rfl ⟨rfl,hw⟩
 |true=>
  rw [c1] at hs;refine sv hs hw fun a hs=>?_
  exact rt1 hs rfl rfl ⟨rfl,hw⟩⟩
instance track_may0:Get Tryz.prog 265 [.pointer none,.int .i64 X] L (.bool false) L:=⟨fun {w W} hw=>by
 refine enter Tryz.func265 Tryz.ntmps265 rfl rfl fun a hs=>?_;refine sv hs hw fun a hs=>?_
 exact rt1 hs rfl rfl ⟨rfl,hw⟩⟩
instance track_Next [c:dI (fun t=>gM p t) L t L1]:Get Tryz.prog 219 [ptr p,.int .i64 X] L (.int .i64 (t.nextOf X)) L:=⟨fun {w W} hw=>by
 obtain ⟨hl,hw⟩:=oM (hw.pick c.p);refine enter Tryz.func219 Tryz.ntmps219 rfl rfl fun a hs=>?_;refine sx hs hw fun a W hs hw=>?_;unfold TrackD.nextOf;cases c1:srv X with
 |false=>
  rw [c1] at hs;refine sv hs hw fun a hs=>?_;exact rt1 hs rfl rfl ⟨rfl,(iV hw hl).unpick c.p⟩
 |true=>
  rw [c1] at hs;have hx:=qX c1;have hj0:=hx.1;have hj1:X<((8:Nat):Int):=hx.2;have hl1:=qY (mt:=t.mat) hl.1 hx;refine sw (P:=Tryz.prog) hs hw fun a W hs hw=>?_
  exact rt1 hs rfl rfl ⟨rfl,(iV hw hl).unpick c.p⟩⟩
theorem track_Sent [c:dI (fun t=>gM p t) L t L1]:Get Tryz.prog 262 [ptr p,.int .i64 X,.int .i64 i] L (.tuple ⟨[]⟩) (gM p (t.sent X i)::L1):=⟨fun {w W} hw=>by
 obtain ⟨hl,hw⟩:=oM (hw.pick c.p);have e:t.sent X i=match srv X && dB i with|false=>t|true=>⟨eG t.next X (max (nth t.next X) (w64 (i+1))),t.mat⟩:=rfl
 rw [e];refine enter Tryz.func262 Tryz.ntmps262 rfl rfl fun a hs=>?_;refine sx hs hw fun a W hs hw=>?_;cases c1:srv X with
 |false=>
  rw [c1] at hs;refine sv hs hw fun a hs=>?_;exact cP hs rfl ⟨rfl,iV hw hl⟩
 |true=>
  rw [c1] at hs;refine sx hs hw fun a W hs hw=>?_;cases c2:dB i with
  |false=>
   rw [c2] at hs;refine sc hs ?_;exact cP hs rfl ⟨rfl,iV hw hl⟩
  |true=>
   rw [c2] at hs;refine sc hs ?_;have hx:=qX c1;have hj0:=hx.1;have hj1:X<((8:Nat):Int):=hx.2;have hl1:=qY (mt:=t.mat) hl.1 hx;have hl3:=q0 hl.1 hl.2 hx (.int .i64 (max (nth t.next X) (w64 (i+1))));refine bG [14] [.f 0 0,.f 0 0,.f 0 0,.f 0 0,.f 0 0,.f 0 0,.f 0 0,.f 0 0,.f 0 0,.f 0 0,.f 0 0,.f 0 0,.f 0 0,.f 0 0,.m 0] [.c0 _,.c0 _,.c0 _,.c0 _,.c0 _,.c0 _,.c0 _,.c0 _,.c0 _,.c0 _,.c0 _,.c0 _,.c0 _,.c0 _,.c1 (fun x=>undef)] (aH8 p t.next t.mat::L1) (fun x=>aA p (ov (bU t.next ++ bU t.mat) (0+0+X.toNat*1) [.int .i64 (max (nth t.next X) (w64 (i+1)))]) 340::L1) (fun x y=>[]) (fun x y z=>[]) (fun x y z t=>[]) hs hw ?kk ⟨drs,drs,drs,drs,drs,drs,drs,drs,drs,drs,drs,drs,drs,drs,drm,trivial⟩
   case kk=>
    intro _ a W hs hw;rw [qZ hl.1 hx] at hw;refine cP hs rfl ⟨rfl,?_⟩
    exact iV (t:=⟨_,_⟩) hw ⟨by rw [←hl.1];simp [eG],hl.2⟩⟩
end
end Go.Proofs.YtgpbngfehfbndaaGreatDoor.Sw
