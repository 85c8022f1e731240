/-
  Texts of the proof, one behind the other (part 12).
-/
import Derived.Test.YtgpbngfehfbndaaGreatDoorM9
import Derived.Test.YtgpbngfehfbndaaGreatDoorM11
import Derived.WalkKit
import Derived.WalkLawsBesides
import Derived.WalkSpells
import Derived.Lib.Hide
import Derived.Deep.QuietTactic
import Derived.BigQuiet
import Derived.Laws.Bits64
import Derived.Laws.Bits64b
import Derived.Laws.BitsLemmas
import Derived.Laws.DeepNot64
import Derived.WalkSmall
import Derived.Deep.Draws
import Derived.Lib.ValidLaws
import Derived.Lib.MapLaws
import Derived.Lib.TrimUEq
import Derived.Lib.RuneBytes
import Derived.Laws.RangeAny
import Derived.Laws.Strings
import GoSem.Op.String
import Derived.Test.YtgpbngfehfbndaaGreatDoorChecked
import Derived.Laws.StructEq
import Derived.Shelf.Small.Bits
import Derived.Shelf.Strconv.Itoa0
import Derived.Ground.Names2Prog
import Derived.Shelf.Slices.Clone
import Derived.Shelf.Bytes.SlSearch0
import Derived.Ground.SlbCloneProg
import Derived.Shelf.Bytes.SlClone
import Derived.Shelf.Bytes.Small
import Derived.Shelf.Unicode.ValidAny
import Derived.Test.YtgpbngfehfbndaaGreatDoorProg
import Derived.Below
import Derived.Tactics
import Derived.RegionTactic
import Derived.Deep.AppendSrc
import Derived.Laws.AppendOwn
import Derived.Laws.BytesString
import Derived.Laws.Tables
import Derived.Laws.IdiomStrings
import Derived.Maps.RangeRun
import Derived.Deep.RegionHeld3
import Derived.Lib.UnsafeStr
import Derived.Deep.AppendLies
import Derived.IntWalk
set_option maxHeartbeats 16000000
set_option linter.unusedVariables false
set_option maxRecDepth 10000
namespace Go.Proofs.YtgpbngfehfbndaaGreatDoor.Sw
open Go.RowKit Go.Sx
instance mpDoc:Mp Tryz.prog 175 9 174:=⟨by kernel_rfl,by kernel_rfl⟩
theorem xJ (W:World):(zeroValue 174).run Tryz.prog W= .ok (.agg ⟨[dM none]⟩) W:=by kernel_rfl
abbrev DV:=Int ⊕ ByteArray
abbrev Dm:=List (ByteArray×DV)
def vOf (x:DV):Value:= .agg ⟨[dM (some x)]⟩
def cJ (d:Dm):KV:=d.map fun p=>(p.1,vOf p.2)
def d6 (d:Dm):Prop:=(d.map (·.1)).Nodup
def dD:Dm→ByteArray→Option DV
 | [],_=>none
 |p::d,k=>match ks k p.1 with|true=>some p.2|false=>dD d k
def gI (d:Dm) (k:ByteArray):Dm:=d.filter fun p=>!ks k p.1
def kJ (d:Dm) (k:ByteArray) (v:DV):Dm:=(k,v)::gI d k
theorem sS:∀(d:Dm) (k:ByteArray),(i7 (cJ d) k).getD (.agg ⟨[dM none]⟩)= .agg ⟨[dM (dD d k)]⟩
 | [],_=>rfl
 |p::d,k=>by
  simp only [cJ,List.map_cons,i7,dD];cases ks k p.1 with
  |true=>rfl
  |false=>exact sS d k
theorem xK:∀{d:Dm} {k:ByteArray},dD d k=none↔k∉d.map (·.1)
 | [],_=>by simp [dD]
 |p::d,k=>by
  simp only [dD,List.map_cons,List.mem_cons,not_or];cases hk:ks k p.1 with
  |true=>simp [kE.1 hk]
  |false=>
   have:k≠p.1:=fun h=>by rw [kE.2 h] at hk;cases hk
   simp only [this,not_false_eq_true,true_and];exact xK
theorem xL:∀{d:Dm} {k:ByteArray} {v:DV},d6 d→(dD d k=some v↔(k,v)∈d)
 | [],_,_,_=>by simp [dD]
 |p::d,k,v,h=>by
  unfold d6 at h;rw [List.map_cons,List.nodup_cons] at h;simp only [dD,List.mem_cons];cases hk:ks k p.1 with
  |true=>
   have e:=kE.1 hk;constructor
   ·intro h';injection h' with h';exact .inl (by rw [e,←h'])
   ·rintro (h'|h')
    ·rw [←h']
    ·exact absurd (List.mem_map_of_mem (f:=(·.1)) h') (by rw [e];exact h.1)
  |false=>
   have:k≠p.1:=fun h=>by rw [kE.2 h] at hk;cases hk
   simp only;rw [xL h.2];constructor
   ·exact .inr
   ·rintro (h'|h')
    ·exact absurd (by rw [←h']) this
    ·exact h'
theorem jA {d d':Dm} (p:d.Perm d'):d6 d↔d6 d':=(p.map _).nodup_iff
theorem pY {d d':Dm} (p:d.Perm d') (h:d6 d) (k:ByteArray):dD d k=dD d' k:=by
 have h':d6 d':=(jA p).1 h;cases hd:dD d k with
 |some v=>exact ((xL h').2 (p.mem_iff.1 ((xL h).1 hd))).symm
 |none=>
  rw [xK] at hd;exact (xK.2 fun hm=>hd ((p.map _).mem_iff.2 hm)).symm
theorem xM {d:Dm} (h:d6 d) (k:ByteArray):d6 (gI d k):=h.sublist (List.filter_sublist.map _)
theorem aFk {d:Dm} {k:ByteArray}:k∉(gI d k).map (·.1):=by
 intro h;obtain ⟨p,hp,rfl⟩:=List.mem_map.1 h;have:=(List.mem_filter.1 hp).2;rw [sG] at this;cases this
theorem aBH {d:Dm} (h:d6 d) (k:ByteArray) (v:DV):d6 (kJ d k v):=by
 unfold d6 kJ;rw [List.map_cons,List.nodup_cons];exact ⟨aFk,xM h k⟩
theorem xN {d d':Dm} (p:d.Perm d') (k:ByteArray):(gI d k).Perm (gI d' k):=p.filter _
theorem aBI {d d':Dm} (p:d.Perm d') (k:ByteArray) (v:DV):(kJ d k v).Perm (kJ d' k v):=(xN p k).cons _
theorem aBJ {d:Dm} {k:ByteArray} (h:k∉d.map (·.1)):(d.filter fun p=>!ks k p.1)=d:=by
 rw [List.filter_eq_self];intro p hp;cases hk:ks k p.1 with
 |false=>rfl
 |true=>exact absurd (List.mem_map_of_mem (f:=(·.1)) hp) (by rw [←kE.1 hk];exact h)
theorem aBK:∀{d:Dm} (k:ByteArray),d6 d→kF (cJ d) k=cJ (gI d k)
 | [],_,_=>rfl
 |p::d,k,h=>by
  unfold d6 at h;rw [List.map_cons,List.nodup_cons] at h;simp only [cJ,List.map_cons,kF,gI,List.filter_cons];cases hk:ks k p.1 with
  |true=>
   simp only [Bool.not_true,Bool.false_eq_true,if_false];rw [aBJ (by rw [kE.1 hk];exact h.1)]
  |false=>
   simp only [Bool.not_false,if_true,List.map_cons];have:=aBK (d:=d) k h.2;unfold cJ gI at this;rw [this]
theorem xO:∀{d:Dm} (k:ByteArray) (v:DV),d6 d→∃d',fZ (cJ d) k (vOf v)=cJ d'∧d'.Perm (kJ d k v)
 | [],k,v,_=>⟨[(k,v)],rfl,List.Perm.refl _⟩
 |p::d,k,v,h=>by
  unfold d6 at h;rw [List.map_cons,List.nodup_cons] at h;simp only [cJ,List.map_cons,fZ,kJ,gI,List.filter_cons];cases hk:ks k p.1 with
  |true=>
   refine ⟨(k,v)::d,rfl,?_⟩;simp only [Bool.not_true,Bool.false_eq_true,if_false];rw [aBJ (by rw [kE.1 hk];exact h.1)]
  |false=>
   obtain ⟨d',h1,h2⟩:=xO (d:=d) k v h.2;refine ⟨p::d',?_,?_⟩
   ·show (p.1,vOf p.2)::fZ (cJ d) k (vOf v)=_;rw [h1];rfl
   ·simp only [Bool.not_false,if_true];exact (h2.cons p).trans (List.Perm.swap _ _ _)
def bL (p:Nat) (d:Dm):Res:=Ex fun x:Nat×Dm=>aA p [.map (some x.1)] 177::bN x.1 (cJ x.2)::bO (x.2.Perm d∧d6 d):: []
section
variable {G p m:Nat} {w W:World} {R:List Res} {d d':Dm}
theorem jB (h:Has G w W (aA p [.map (some m)] 177::bN m (cJ d')::R)) (hp:d'.Perm d) (hk:d6 d):Has G w W (bL p d::R):=
 Has.shut (m,d') ((h.fact (p:=d'.Perm d∧d6 d) ⟨hp,hk⟩).perm ((List.Perm.swap _ _ _).trans (List.Perm.cons _ (List.Perm.swap _ _ _))))
theorem jC (h:Has G w W (bL p d::R)):∃m d',d'.Perm d∧d6 d∧Has G w W (aA p [.map (some m)] 177::bN m (cJ d')::R):=by
 obtain ⟨⟨m,d'⟩,h⟩:=Has.open h;have h:Has G w W (aA p [.map (some m)] 177::bN m (cJ d')::bO (d'.Perm d∧d6 d)::R):=h;obtain ⟨h1,h2⟩:=h.told (In.tl (In.tl In.hd));exact ⟨m,d',h1,h2,h.sub (List.Sublist.cons_cons _ (List.Sublist.cons_cons _ (List.Sublist.cons _ (List.Sublist.refl _))))⟩
end
theorem xP (w0 W:World) (R:List Res) (hw:Has 0 w0 W R):
  Calls Tryz.prog 172 ⟨[]⟩ W fun e W'=>∃p,e= .returned (.pointer (some ⟨p,0,none⟩))∧Has 0 w0 W' (bL p []::R):=by
 refine enter Tryz.func172 Tryz.ntmps172 rfl rfl fun a hs=>?_;refine zA hs hw ?_;clear hs;intro a hs;refine aAl hs hw (c:=?_);clear hs hw;intro a b W hw hs
 repeat (first|(refine sxv hs hw ?_;clear hs;intro a hs)|refine sxc hs ?_|(refine sxa hs hw ?_;clear hs hw;intro a b W hw hs)|(refine sxs hs hw ?_;clear hs hw;intro W hs hw))
 refine rt1 hs rfl rfl ⟨_,rfl,?_⟩;exact jB (d':=[]) hw (List.Perm.refl _) (by unfold d6;simp)
theorem aFl (x:Option DV):(gH x !=0)=x.isSome:=by rcases x with _|n|s <;> rfl
theorem aBL (w0 W:World) (p:Nat) (d:Dm) (k:ByteArray) (R:List Res) (hw:Has 0 w0 W (bL p d::R)):
  Calls Tryz.prog 99 ⟨[.pointer (some ⟨p,0,none⟩),.string k]⟩ W fun e W'=>e= .returned (.bool (dD d k).isSome)∧Has 0 w0 W' (bL p d::R):=by
 obtain ⟨m,d',hp,hk,hw⟩:=jC hw;refine enter Tryz.func99 Tryz.ntmps99 rfl rfl fun a hs=>?_;refine zA hs hw ?_;clear hs;intro a hs;refine jO hs (hw:=hw) (hz:=xJ) (c:=?_);clear hs;intro a hs;rw [sS,pY hp ((jA hp).2 hk)] at hs;refine aG hs (hc:=pV (dD d k) _) (k:=?_);rintro e0 W1 ⟨rfl,hb⟩;refine ⟨_,rfl,?_⟩;clear hs;intro a hs;replace hw:=hw.below hb;clear hb;refine zA hs hw ?_;clear hs;intro a hs;rw [aFl] at hs;exact rt1 hs rfl rfl ⟨rfl,jB hw hp hk⟩
def iA (d:Dm) (k:ByteArray) (x:Option DV):Int×Dm:=
 match x with
 |none=>(0,gI d k)
 |some v=>if (dD d k).isSome=false∧50≤d.length then (6,d) else (0,kJ d k v)
theorem sT (w0 W:World) (p:Nat) (d:Dm) (k:ByteArray) (x:Option DV) (R:List Res) (hw:Has 0 w0 W (bL p d::R)):
  Calls Tryz.prog 278 ⟨[.pointer (some ⟨p,0,none⟩),.string k,.agg ⟨[dM x]⟩]⟩ W fun e W'=>e= .returned (.int .i64 (iA d k x).1)∧Has 0 w0 W' (bL p (iA d k x).2::R):=by
 refine enter Tryz.func278 Tryz.ntmps278 rfl rfl fun a hs=>?_
 repeat (first|(refine sxv hs hw ?_;clear hs;intro a hs)|refine sxc hs ?_|(refine sxa hs hw ?_;clear hs hw;intro a b W hw hs)|(refine sxs hs hw ?_;clear hs hw;intro W hs hw))
 refine aG hs (hc:=pV x _) (k:=?_);rintro e0 W1 ⟨rfl,hb⟩;refine ⟨_,rfl,?_⟩;clear hs;intro a hs;replace hw:=hw.below hb;clear hb;refine zA hs hw ?_;clear hs;intro a hs;cases x with
 |none=>
  refine zA hs hw ?_;clear hs;intro a hs;have hw:=hw.d1;obtain ⟨m,d',hp,hk,hw⟩:=jC hw;refine zA hs hw ?_;clear hs;intro a hs;refine aEt hs (hw:=hw) (c:=?_);clear hs hw;intro W hs hw;rw [aBK k ((jA hp).2 hk)] at hw;refine zA hs hw ?_;clear hs;intro a hs;exact rt1 hs rfl rfl ⟨rfl,jB hw (xN hp k) (xM hk k)⟩
 |some v=>
  rw [show (gH (some v) == 0)=false from by rcases v with n|s <;> rfl] at hs;obtain ⟨b5,q5⟩:=nm1 hw;subst q5;have hw:Has 0 w0 _ (bL p d::aA b5 [dM (some v)] 174::R):=hw.swap2;obtain ⟨m,d2,hp,hk,hw⟩:=jC hw;have hlen:d2.length=d.length:=hp.length_eq;have hlen':(cJ d2).length=d2.length:=by simp [cJ]
  obtain ⟨d3,h3,h4⟩:=xO k v ((jA hp).2 hk);refine vZ hs (k:=?_);refine sq ?_;refine eW (M:=fun a W=>∃m d2,d2.Perm d∧Slots a 35 [(0,.pointer (some ⟨p,0,none⟩)),(1,.string k),(5,.pointer (some ⟨b5,0,none⟩)),(22,.bool (!(dD d k).isSome && decide ((d.length:Int)≥50)))]∧Has 0 w0 W (aA p [.map (some m)] 177::bN m (cJ d2)::aA b5 [dM (some v)] 174::R)) ?_ ?_
  ·clear h3 h4;refine zA hs hw ?_;clear hs;intro a hs;refine aG hs (hc:=aBL w0 _ p d k _ (jB hw hp hk)) (k:=?_);rintro e0 W1 ⟨rfl,hw1⟩;refine ⟨_,rfl,?_⟩;clear hs hw;intro a hs;have hw:=hw1;clear hw1;obtain ⟨m,d2,hp,hk,hw⟩:=jC hw;have hlen:d2.length=d.length:=hp.length_eq;have hlen':(cJ d2).length=d2.length:=by simp [cJ]
   refine zA hs hw ?_;clear hs;intro a hs;cases hg:(dD d k).isSome with
   |true=>
    rw [hg] at hs;refine zA hs hw ?_;clear hs;intro a hs;exact ⟨m,d2,hp,hs.ot,hw⟩
   |false=>
    rw [hg] at hs;refine zA hs hw ?_;clear hs;intro a hs;refine aEu hs (hw:=hw) (c:=?_);clear hs;intro a hs;rw [hlen',hlen] at hs;refine zA hs hw ?_;clear hs;intro a hs;exact ⟨m,d2,hp,hs.of ⟨rfl,rfl,rfl,aA5 (by simp),trivial⟩,hw⟩
  clear hs hw hp hlen hlen' h3 h4;rintro a W ⟨m,d2,hp,hs,hw⟩;obtain ⟨d3,h3,h4⟩:=xO k v ((jA hp).2 hk);cases hc:(!(dD d k).isSome && decide ((d.length:Int)≥50)) with
  |true=>
   rw [hc] at hs;have hR:iA d k (some v)=(6,d):=by
    simp only [Bool.and_eq_true,Bool.not_eq_true',decide_eq_true_eq] at hc;unfold iA;simp only;rw [if_pos ⟨hc.1,by omega⟩]
   refine zA hs hw ?_;clear hs;intro a hs;have hw:=jB (hw.sub (List.Sublist.cons_cons _ (List.Sublist.cons_cons _ (List.Sublist.cons _ (List.Sublist.refl _))))) hp hk;exact rt1 hs rfl rfl ⟨by rw [hR],by rw [hR];exact hw⟩
  |false=>
  rw [hc] at hs;have hR:iA d k (some v)=(0,kJ d k v):=by
   unfold iA;simp only;rw [if_neg];rintro ⟨h1,h2⟩;rw [h1] at hc;simp at hc;omega
  refine zG hs ?_;refine gT (V:=[.pointer (some ⟨p,0,none⟩),.pointer (some ⟨p,0,none⟩),.pointer (some ⟨p,0+0,none⟩),.map (some m),.string k,.agg ⟨[dM (some v)]⟩,.bool true])
   (Rs:=fun D=>aA p [.map (some m)] 177::(if D 6 then bN m (cJ d3) else bN m (cJ d2))::aA b5 [dM (some v)] 174::R) hs hw (ho:=⟨?_,?_,?_,?_,?_,?_,?c6_1,trivial⟩) (k:=?k_1)
  case c6_1=>
   intro LD D a W hcl hi hp hs hw;simp only [hi,Bool.false_eq_true,if_false] at hw;refine nV hs (hw:=hw) (v:=vOf v) (c:=?_);clear hs hw;intro W hs hw;rw [h3] at hw;refine zG hs ?_;exact ⟨hs,hw⟩
  case k_1=>
   clear hs hw;intro a W hs hw;replace hw:Has 0 w0 W (aA p [.map (some m)] 177::bN m (cJ d3)::aA b5 [dM (some v)] 174::R):=hw;refine zA hs hw ?_;clear hs;intro a hs;have hw:=jB (hw.sub (List.Sublist.cons_cons _ (List.Sublist.cons_cons _ (List.Sublist.cons _ (List.Sublist.refl _))))) (h4.trans (aBI hp k v)) (aBH hk k v);exact rt1 hs rfl rfl ⟨by rw [hR],by rw [hR];exact hw⟩
  all_goals
   intro LD D a W hcl hi hp hs hw;refine zA hs hw ?_;clear hs;intro a hs;exact ⟨hs,hw⟩
def inB (n:Int):Bool:=decide (n≥-4611686018427387904) && decide (n≤4611686018427387904)
theorem sU (n:Int) (W:World):Calls Tryz.prog 277 ⟨[.int .i64 n]⟩ W fun e W'=>e= .returned (.bool (inB n))∧Below W.heap.size W W':=by
 have hw:=Has.start (G:=0) (w:=W) (Nat.zero_le _);refine enter Tryz.func277 Tryz.ntmps277 rfl rfl fun a hs=>?_;refine zA hs hw ?_;clear hs;intro a hs;cases h:decide (n≥-4611686018427387904) with
 |true=>
  rw [h] at hs;refine zA hs hw ?_;clear hs;intro a hs;exact rt1 hs rfl rfl ⟨by simp only [inB,h];rfl,hw.end inn⟩
 |false=>
  rw [h] at hs;refine zA hs hw ?_;clear hs;intro a hs;exact rt1 hs rfl rfl ⟨by simp only [inB,h];rfl,hw.end inn⟩
def jT (d:Dm) (o:OpD):Int×Dm:=
 if o.kind=3 then (if eqV (dD d o.key) (bZ o.ok o.on o.os).1 then iA d o.key (bZ o.vk o.vn o.vs).1 else (8,d))
 else if o.kind=4 then
  if (gH (dD d o.key) !=0 && !mY (dD d o.key))=true then (7,d)
  else if (!inB (fN (dD d o.key)) || !inB (IntKind.i64.wrap (fN (dD d o.key)+o.n)))=true then (4,d)
  else iA d o.key (some (.inl (IntKind.i64.wrap (fN (dD d o.key)+o.n))))
 else iA d o.key (bZ o.vk o.vn o.vs).1
theorem aFm (w0 W:World) (H:Fh) (p:Nat) (d:Dm) (o:OpD) (R:List Res) (ho:OpOk o) (i:In (Fz H) R) (hH:(fr w0).le H) (hT:Tabs w0) (hw:Has 0 w0 W (bL p d::R)):
  Calls Tryz.prog 246 ⟨[.pointer (some ⟨p,0,none⟩),.agg ⟨bX o⟩]⟩ W fun e W'=>e= .returned (.int .i64 (jT d o).1)∧Has 0 w0 W' (bL p (jT d o).2::R):=by
 obtain ⟨kind,key,vk,vn,vs,ok,on,os,n⟩:=o;have hvs:=ho.vs;have hos:=ho.os;simp only at hvs hos;refine enter Tryz.func246 Tryz.ntmps246 rfl rfl fun a hs=>?_
 repeat (first|(refine sxv hs hw ?_;clear hs;intro a hs)|refine sxc hs ?_|(refine sxa hs hw ?_;clear hs hw;intro a b W hw hs)|(refine sxs hs hw ?_;clear hs hw;intro W hs hw))
 refine aG hs (hc:=l0 vk vn vs _ (by omega) (hT.keep (hw.endF (by repeat (first|exact i|apply In.tl)) hH))) (k:=?_);rintro e0 W1 ⟨rfl,hb⟩;refine ⟨_,rfl,?_⟩;clear hs;intro a hs;replace hw:=hw.below hb;clear hb
 repeat (first|(refine sxv hs hw ?_;clear hs;intro a hs)|refine sxc hs ?_|(refine sxa hs hw ?_;clear hs hw;intro a b W hw hs)|(refine sxs hs hw ?_;clear hs hw;intro W hs hw))
 refine dY hs (hw:=hw) (h1:=pX (bZ vk vn vs).1) (k:=?_);clear hs hw;intro W hs hw;refine zA hs hw ?_;clear hs;intro a hs;obtain ⟨bv,q1⟩:=nm1 hw;subst q1;obtain ⟨bo,q2⟩:=nm2 hw;subst q2;obtain ⟨m,d2,hp,hk,hw⟩:=jC (hw.perm ((List.Perm.cons _ (List.Perm.swap _ _ _)).trans (List.Perm.swap _ _ _)));have hw:Has 0 w0 _ (bI::aA p [.map (some m)] 177::bN m (cJ d2)::aA bv [dM (bZ vk vn vs).1] 174::aA bo [.int .i64 kind,.string key,.int .i64 vk,.int .i64 vn,.string vs,.int .i64 ok,.int .i64 on,.string os,.int .i64 n] 55::R):=hw.free;have hlk:=sS d2 key;rw [pY hp ((jA hp).2 hk)] at hlk;obtain ⟨now,hnow⟩:∃now,dD d key=now:=⟨_,rfl⟩
 rw [hnow] at hlk
 have hX:jT d ⟨kind,key,vk,vn,vs,ok,on,os,n⟩=(if kind=3 then (if eqV now (bZ ok on os).1 then iA d key (bZ vk vn vs).1 else (8,d))
   else if kind=4 then
    if (gH now !=0 && !mY now)=true then (7,d)
    else if (!inB (fN now) || !inB (IntKind.i64.wrap (fN now+n)))=true then (4,d)
    else iA d key (some (.inl (IntKind.i64.wrap (fN now+n))))
   else iA d key (bZ vk vn vs).1):=by unfold jT;simp only;rw [hnow]
 rw [hX];clear hX;obtain ⟨X,hXX⟩:∃X,(bZ vk vn vs).1=X:=⟨_,rfl⟩
 rw [hXX] at hs hw⊢;refine fM (σ:=Nat) (V:=fun u=>[.pointer (some ⟨p,0,none⟩),.pointer (some ⟨p,0,none⟩),.pointer (some ⟨p,0+0,none⟩),.map (some m),.pointer (some ⟨bo,0+1,none⟩),.string key,.agg ⟨[dM now]⟩,.pointer (some ⟨u 7,0,none⟩),.bool true])
  (Rs:=fun u D=>(if D 7 then aA (u 7) (if D 8 then [dM now] else [.nilIface]) 174 else bI)::aA p [.map (some m)] 177::bN m (cJ d2)::aA bv [dM X] 174::aA bo [.int .i64 kind,.string key,.int .i64 vk,.int .i64 vn,.string vs,.int .i64 ok,.int .i64 on,.string os,.int .i64 n] 55::R) (fun _=>0) hs hw (hVu:=?vu_1) (ho:=⟨?_,?_,?_,?_,?_,?_,?c6_1,?c7_1,?c8_1,trivial⟩) (k:=?k_1)
 case vu_1=>
  intro u u' j h;rcases j with _|_|_|_|_|_|_|_|_|j
  all_goals first|rfl|simp [h]
 case c6_1=>
  intro u LD D a W hcl hi hp hs hw;refine jO hs (hw:=hw) (hz:=xJ) (c:=?_);clear hs;intro a hs;rw [hlk] at hs;refine zG hs ?_;exact Or.inl ⟨hs,hw⟩
 case c7_1=>
  intro u LD D a W hcl hi hp hs hw;have h8:=Go.Sx.not_done hcl hi 8 (by kernel_rfl);simp only [hi,Bool.false_eq_true,if_false] at hw
  repeat (first|(refine sxv hs hw ?_;clear hs;intro a hs)|refine sxc hs ?_|(refine sxa hs hw ?_;clear hs hw;intro a b W hw hs)|(refine sxs hs hw ?_;clear hs hw;intro W hs hw))
  refine Or.inr ⟨_,hs,?_⟩;show Has 0 w0 _ (aA _ (if (Nat.beq 8 7 || D 8)=true then _ else _) _::_);rw [h8];exact hw.fill Upd.hd
 case c8_1=>
  intro u LD D a W hcl hi hp hs hw;have h7:=Go.Sx.done hp 7 (by kernel_rfl);simp only [hi,h7,Bool.false_eq_true,if_false,if_true] at hw;refine dY hs (hw:=hw) (h1:=pX now) (k:=?_);clear hs hw;intro W hs hw;refine zG hs ?_;refine Or.inl ⟨hs,?_⟩;show Has 0 w0 _ ((if (Nat.beq 7 8 || D 7)=true then _ else _)::_);rw [h7];exact hw
 case k_1=>
  clear hs hw;intro u a W hs hw;replace hw:Has 0 w0 W (aA (u 7) [dM now] 174::aA p [.map (some m)] 177::bN m (cJ d2)::aA bv [dM X] 174::aA bo [.int .i64 kind,.string key,.int .i64 vk,.int .i64 vn,.string vs,.int .i64 ok,.int .i64 on,.string os,.int .i64 n] 55::R):=hw;replace hs:Slots a 80 [(0,.pointer (some ⟨p,0,none⟩)),(3,.pointer (some ⟨bo,0,none⟩)),(5,.pointer (some ⟨bv,0,none⟩)),(7,.pointer (some ⟨u 7,0,none⟩))]:=hs.ot;generalize u 7=b7 at *;clear u;replace hw:=jB (hw.perm ((List.Perm.swap _ _ _).trans (List.Perm.cons _ (List.Perm.swap _ _ _)))) hp hk;clear hp hlk;refine zA hs hw ?_;clear hs;intro a hs
  by_cases k3:kind=3
  ·subst k3;rw [if_pos rfl];refine zA hs hw ?_;clear hs;intro a hs;refine aG hs (hc:=l0 ok on os _ (by omega) (hT.keep (hw.endF (by repeat (first|exact i|apply In.tl)) hH))) (k:=?_);rintro e0 W1 ⟨rfl,hb⟩;refine ⟨_,rfl,?_⟩;clear hs;intro a hs;replace hw:=hw.below hb;clear hb
   repeat (first|(refine sxv hs hw ?_;clear hs;intro a hs)|refine sxc hs ?_|(refine sxa hs hw ?_;clear hs hw;intro a b W hw hs)|(refine sxs hs hw ?_;clear hs hw;intro W hs hw))
   refine dY hs (hw:=hw) (h1:=pX (bZ ok on os).1) (k:=?_);clear hs hw;intro W hs hw;refine zA hs hw ?_;clear hs;intro a hs;refine aG hs (hc:=aFe now (bZ ok on os).1 _) (k:=?_);rintro e0 W1 ⟨rfl,hb⟩;refine ⟨_,rfl,?_⟩;clear hs;intro a hs;replace hw:=hw.below hb;clear hb;refine zA hs hw ?_;clear hs;intro a hs;cases he:eqV now (bZ ok on os).1 with
   |false=>
    rw [he] at hs;refine zA hs hw ?_;clear hs;intro a hs;refine rt1 hs rfl rfl ⟨rfl,?_⟩;exact hw.sub (L':=bL p d::R) (List.Sublist.cons _ (List.Sublist.cons_cons _ (List.Sublist.cons _ (List.Sublist.cons _ (List.Sublist.cons _ (List.Sublist.refl _))))))
   |true=>
    rw [he] at hs;refine zA hs hw ?_;clear hs;intro a hs;refine aG hs (hc:=sT w0 _ p d key X _ hw.swap2) (k:=?_);rintro e0 W1 ⟨rfl,hw1⟩;refine ⟨_,rfl,?_⟩;clear hs hw;intro a hs;have hw:=hw1;clear hw1;refine zA hs hw ?_;clear hs;intro a hs;refine rt1 hs rfl rfl ⟨rfl,?_⟩;exact hw.sub (List.Sublist.cons_cons _ (List.Sublist.cons _ (List.Sublist.cons _ (List.Sublist.cons _ (List.Sublist.cons _ (List.Sublist.refl _))))))
  have e3:(kind == 3)=false:=by simpa using k3
  rw [e3] at hs;rw [if_neg k3];refine zA hs hw ?_;clear hs;intro a hs
  by_cases k4:kind=4
  ·subst k4;rw [if_pos rfl];rcases now with _|g|s
   ·have hK:=fun W=>pV (none:Option DV) W;have hA:=fun W=>xD (none:Option DV) W;rw [show gH (none:Option DV)=0 from rfl] at hK⊢;rw [show fN (none:Option DV)=0 from rfl] at hA⊢;rw [show mY (none:Option DV)=false from rfl] at hA⊢;rw [if_neg (by decide)];refine zA hs hw ?_;clear hs;intro a hs;refine aG hs (hc:=hA _) (k:=?_);rintro e0 W1 ⟨rfl,hb⟩;refine ⟨_,rfl,?_⟩;clear hs;intro a hs;replace hw:=hw.below hb;clear hb;refine zA hs hw ?_;clear hs;intro a hs;refine aG hs (hc:=hK _) (k:=?_);rintro e0 W1 ⟨rfl,hb⟩;refine ⟨_,rfl,?_⟩;clear hs;intro a hs;replace hw:=hw.below hb;clear hb;refine zA hs hw ?_;clear hs;intro a hs;refine aG hs (hc:=sU 0 _) (k:=?_);rintro e0 W1 ⟨rfl,hb⟩;refine ⟨_,rfl,?_⟩;clear hs;intro a hs;replace hw:=hw.below hb;clear hb;refine zA hs hw ?_;clear hs;intro a hs;rw [show inB 0=true from rfl] at hs⊢;refine aG hs (hc:=sU (IntKind.i64.wrap (0+n)) _) (k:=?_);rintro e0 W1 ⟨rfl,hb⟩;refine ⟨_,rfl,?_⟩;clear hs;intro a hs;replace hw:=hw.below hb;clear hb;refine zA hs hw ?_;clear hs;intro a hs;cases g2:inB (IntKind.i64.wrap (0+n)) with
    |false=>
     rw [g2] at hs;refine zA hs hw ?_;clear hs;intro a hs;rw [if_pos (by rfl)];exact rt1 hs rfl rfl ⟨rfl,hw.sub (List.Sublist.cons_cons _ (List.Sublist.cons _ (List.Sublist.cons _ (List.Sublist.cons _ (List.Sublist.refl _)))))⟩
    |true=>
    rw [g2] at hs;refine zA hs hw ?_;clear hs;intro a hs;rw [if_neg (by decide)];have hV:=fun W hT=>l0 1 (IntKind.i64.wrap (0+n)) ⟨#[]⟩ W (by decide) hT;rw [show bZ 1 (IntKind.i64.wrap (0+n)) ⟨#[]⟩=(some (.inl (IntKind.i64.wrap (0+n))),0) from rfl] at hV;refine aG hs (hc:=hV _ (hT.keep (hw.endF (by repeat (first|exact i|apply In.tl)) hH))) (k:=?_);rintro e0 W1 ⟨rfl,hb⟩;refine ⟨_,rfl,?_⟩;clear hs;intro a hs;replace hw:=hw.below hb;clear hb;refine zB hs hw ?_;clear hs hw;intro a W hs hw;refine aG hs (hc:=sT w0 _ p d key (some (.inl (IntKind.i64.wrap (0+n)))) _ hw) (k:=?_);rintro e0 W1 ⟨rfl,hw1⟩;refine ⟨_,rfl,?_⟩;clear hs hw;intro a hs;have hw:=hw1;clear hw1;refine zA hs hw ?_;clear hs;intro a hs;refine rt1 hs rfl rfl ⟨rfl,?_⟩;exact hw.sub (List.Sublist.cons_cons _ (List.Sublist.cons _ (List.Sublist.cons _ (List.Sublist.cons _ (List.Sublist.refl _)))))
   ·have hK:=fun W=>pV (some (Sum.inl g):Option DV) W;have hA:=fun W=>xD (some (Sum.inl g):Option DV) W;rw [show gH (some (Sum.inl g):Option DV)=1 from rfl] at hK⊢;rw [show fN (some (Sum.inl g):Option DV)=g from rfl] at hA⊢;rw [show mY (some (Sum.inl g):Option DV)=true from rfl] at hA⊢;rw [if_neg (by decide)];refine zA hs hw ?_;clear hs;intro a hs;refine aG hs (hc:=hA _) (k:=?_);rintro e0 W1 ⟨rfl,hb⟩;refine ⟨_,rfl,?_⟩;clear hs;intro a hs;replace hw:=hw.below hb;clear hb;refine zA hs hw ?_;clear hs;intro a hs;refine aG hs (hc:=hK _) (k:=?_);rintro e0 W1 ⟨rfl,hb⟩;refine ⟨_,rfl,?_⟩;clear hs;intro a hs;replace hw:=hw.below hb;clear hb;refine zA hs hw ?_;clear hs;intro a hs;refine aG hs (hc:=sU g _) (k:=?_);rintro e0 W1 ⟨rfl,hb⟩;refine ⟨_,rfl,?_⟩;clear hs;intro a hs;replace hw:=hw.below hb;clear hb;refine zA hs hw ?_;clear hs;intro a hs;cases g1:inB g with
    |false=>
     rw [g1] at hs;refine zA hs hw ?_;clear hs;intro a hs;rw [if_pos (by rfl)];exact rt1 hs rfl rfl ⟨rfl,hw.sub (List.Sublist.cons_cons _ (List.Sublist.cons _ (List.Sublist.cons _ (List.Sublist.cons _ (List.Sublist.refl _)))))⟩
    |true=>
    rw [g1] at hs;refine zA hs hw ?_;clear hs;intro a hs;refine aG hs (hc:=sU (IntKind.i64.wrap (g+n)) _) (k:=?_);rintro e0 W1 ⟨rfl,hb⟩;refine ⟨_,rfl,?_⟩;clear hs;intro a hs;replace hw:=hw.below hb;clear hb;refine zA hs hw ?_;clear hs;intro a hs;cases g2:inB (IntKind.i64.wrap (g+n)) with
    |false=>
     rw [g2] at hs;refine zA hs hw ?_;clear hs;intro a hs;rw [if_pos (by rfl)];exact rt1 hs rfl rfl ⟨rfl,hw.sub (List.Sublist.cons_cons _ (List.Sublist.cons _ (List.Sublist.cons _ (List.Sublist.cons _ (List.Sublist.refl _)))))⟩
    |true=>
    rw [g2] at hs;refine zA hs hw ?_;clear hs;intro a hs;rw [if_neg (by decide)];have hV:=fun W hT=>l0 1 (IntKind.i64.wrap (g+n)) ⟨#[]⟩ W (by decide) hT;rw [show bZ 1 (IntKind.i64.wrap (g+n)) ⟨#[]⟩=(some (.inl (IntKind.i64.wrap (g+n))),0) from rfl] at hV;refine aG hs (hc:=hV _ (hT.keep (hw.endF (by repeat (first|exact i|apply In.tl)) hH))) (k:=?_);rintro e0 W1 ⟨rfl,hb⟩;refine ⟨_,rfl,?_⟩;clear hs;intro a hs;replace hw:=hw.below hb;clear hb;refine zB hs hw ?_;clear hs hw;intro a W hs hw;refine aG hs (hc:=sT w0 _ p d key (some (.inl (IntKind.i64.wrap (g+n)))) _ hw) (k:=?_);rintro e0 W1 ⟨rfl,hw1⟩;refine ⟨_,rfl,?_⟩;clear hs hw;intro a hs;have hw:=hw1;clear hw1;refine zA hs hw ?_;clear hs;intro a hs;refine rt1 hs rfl rfl ⟨rfl,?_⟩;exact hw.sub (List.Sublist.cons_cons _ (List.Sublist.cons _ (List.Sublist.cons _ (List.Sublist.cons _ (List.Sublist.refl _)))))
   ·have hK:=fun W=>pV (some (Sum.inr s):Option DV) W;have hA:=fun W=>xD (some (Sum.inr s):Option DV) W;rw [show gH (some (Sum.inr s):Option DV)=2 from rfl] at hK⊢;rw [show mY (some (Sum.inr s):Option DV)=false from rfl] at hA⊢;rw [if_pos (by decide)];refine zA hs hw ?_;clear hs;intro a hs;refine aG hs (hc:=hA _) (k:=?_);rintro e0 W1 ⟨rfl,hb⟩;refine ⟨_,rfl,?_⟩;clear hs;intro a hs;replace hw:=hw.below hb;clear hb;refine zA hs hw ?_;clear hs;intro a hs;refine aG hs (hc:=hK _) (k:=?_);rintro e0 W1 ⟨rfl,hb⟩;refine ⟨_,rfl,?_⟩;clear hs;intro a hs;replace hw:=hw.below hb;clear hb;refine zA hs hw ?_;clear hs;intro a hs;exact rt1 hs rfl rfl ⟨rfl,hw.sub (List.Sublist.cons_cons _ (List.Sublist.cons _ (List.Sublist.cons _ (List.Sublist.cons _ (List.Sublist.refl _)))))⟩
  have e4:(kind == 4)=false:=by simpa using k4
  rw [e4] at hs;rw [if_neg k4];refine zA hs hw ?_;clear hs;intro a hs;refine aG hs (hc:=sT w0 _ p d key X _ hw) (k:=?_);rintro e0 W1 ⟨rfl,hw1⟩;refine ⟨_,rfl,?_⟩;clear hs hw;intro a hs;have hw:=hw1;clear hw1;refine zA hs hw ?_;clear hs;intro a hs;refine rt1 hs rfl rfl ⟨rfl,?_⟩;exact hw.sub (List.Sublist.cons_cons _ (List.Sublist.cons _ (List.Sublist.cons _ (List.Sublist.cons _ (List.Sublist.refl _)))))
 all_goals
  intro u LD D a W hcl hi hp hs hw;refine zA hs hw ?_;clear hs;intro a hs;exact Or.inl ⟨hs,hw⟩
def unV:Value→DV
 | .agg ⟨[.iface _ (.int _ n)]⟩=> .inl n
 | .agg ⟨[.iface _ (.string s)]⟩=> .inr s
 |_=> .inl 0
theorem aFn (x:DV):unV (vOf x)=x:=by rcases x with n|s <;> rfl
theorem aFo {d d':Dm} (h:(cJ d).Perm (cJ d')):d.Perm d':=by
 have:=h.map fun p=>(p.1,unV p.2)
 unfold cJ at this;rw [List.map_map,List.map_map] at this;have e:((fun p:ByteArray×Value=>(p.1,unV p.2))∘fun p:ByteArray×DV=>(p.1,vOf p.2))=id:=by
  funext p;simp [aFn]
 rw [e] at this;simpa using this
theorem aFp (d:Dm):(cJ d).map (·.1)=d.map (·.1):=by simp [cJ]
structure aFq where
 dn:Dm
 left:KV
 cur:Option (ByteArray×Value)
theorem aFr (w0 W:World) (m1 m2:Nat) (d:Dm) (R:List Res) (hk:d6 d) (hw:Has 0 w0 W (bN m1 []::bN m2 (cJ d)::R)):
  Calls Tryz.prog 244 ⟨[.map (some m1),.map (some m2)]⟩ W fun e W'=>e= .returned (.tuple #[])∧∃d',d'.Perm d∧Has 0 w0 W' (bN m1 (cJ d')::bN m2 (cJ d)::R):=by
 refine enter Tryz.func244 Tryz.ntmps244 rfl rfl fun a hs=>?_;refine zA hs hw ?_;clear hs;intro a hs;refine aEw hs (hw:=hw.swap2) (c:=?_);clear hs hw;intro a it W hw hs;refine zG hs ?_;refine bY (σ:=aFq) (fun t=>[(0,.map (some m1)),(7,.pointer (some ⟨it,0,none⟩))]) (fun t=>mV m2 it (cJ d) t.left t.cur::bN m1 (cJ t.dn)::R) (fun t=>(cJ t.dn ++ t.left).Perm (cJ d)) (fun t=>t.left.length) ⟨[],cJ d,none⟩ (List.Perm.refl _) hs ⟨rfl,rfl,trivial⟩ hw ?_;clear hs hw;rintro ⟨dn,left,cur⟩ a W hp hs hw;simp only at hp hs hw;refine zG hs ?_;refine aEx hs (hw:=hw) (c1:=?_) (c2:=?_)
 ·clear hs;intro a hl hs;subst hl;refine zA hs hw ?_;clear hs;intro a hs;rw [List.append_nil] at hp;exact cP hs rfl ⟨rfl,dn,aFo hp,hw.unranged.swap2⟩
 ·clear hs hw;intro a W p left' hpl hw hs;have hp2:(cJ dn ++ p::left').Perm (cJ d):=(List.Perm.append_left _ hpl.symm).trans hp;obtain ⟨k,x,rfl⟩:∃k x,p=(k,vOf x):=by
   have:p∈cJ d:=hp2.mem_iff.1 (by simp);obtain ⟨q,_,rfl⟩:=List.mem_map.1 this;exact ⟨q.1,q.2,rfl⟩
  have hnk:k∉(cJ dn).map (·.1):=by
   have h1:((cJ dn ++ (k,vOf x)::left').map (·.1)).Nodup:=(hp2.map _).nodup_iff.2 (by rw [aFp];exact hk);rw [List.map_append,List.nodup_append] at h1;intro h2;exact h1.2.2 k h2 k (by simp) rfl
  have hnew:fZ (cJ dn) k (vOf x)=cJ (dn ++ [(k,x)]):=by
   rw [aAn _ hnk];simp [cJ]
  simp only at hs;refine zA hs hw ?_;clear hs;intro a hs;refine aEy hs (hw:=hw) (c:=?_);clear hs;intro a hs;simp only at hs
  repeat (first|(refine sxv hs hw ?_;clear hs;intro a hs)|refine sxc hs ?_|(refine sxa hs hw ?_;clear hs hw;intro a b W hw hs)|(refine sxs hs hw ?_;clear hs hw;intro W hs hw))
  refine dY hs (hw:=hw) (h1:=pX (some x)) (k:=?_);clear hs hw;intro W hs hw;refine zA hs hw ?_;clear hs;intro a hs;refine nV hs (hw:=hw) (v:=vOf x) (c:=?_);clear hs hw;intro W hs hw;rw [hnew] at hw;refine zG hs ?_;refine bQ ⟨dn ++ [(k,x)],left',some (k,vOf x)⟩ hs (hw.d1) ?_ ?_ ⟨rfl,rfl,trivial⟩
  ·show (cJ (dn ++ [(k,x)]) ++ left').Perm _;have:cJ (dn ++ [(k,x)]) ++ left'=cJ dn ++ (k,vOf x)::left':=by simp [cJ]
   rw [this];exact hp2
  ·show left'.length<left.length;rw [hpl.length_eq];simp
theorem pZ (w0 W:World) (p:Nat) (d:Dm) (R:List Res) (hw:Has 0 w0 W (bL p d::R)):
  Calls Tryz.prog 171 ⟨[.pointer (some ⟨p,0,none⟩)]⟩ W fun e W'=>∃c,e= .returned (.pointer (some ⟨c,0,none⟩))∧Has 0 w0 W' (bL c d::bL p d::R):=by
 refine enter Tryz.func171 Tryz.ntmps171 rfl rfl fun a hs=>?_;refine zC hs hw ?_;clear hs;intro a hs;refine aG hs (hc:=xP w0 _ _ hw) (k:=?_);rintro e0 W1 ⟨c,rfl,hw1⟩;refine ⟨_,rfl,?_⟩;clear hs hw;intro a hs;have hw:=hw1;clear hw1;refine zC hs hw ?_;clear hs;intro a hs;obtain ⟨m1,d1,hp1, -,hw⟩:=jC hw;obtain rfl:d1= []:=List.Perm.eq_nil hp1;obtain ⟨m2,d2,hp2,hk2,hw⟩:=jC (hw.perm ((List.Perm.cons _ (List.Perm.swap _ _ _)).trans (List.Perm.swap _ _ _)));have hw:Has 0 w0 _ (aA c [.map (some m1)] 177::aA p [.map (some m2)] 177::bN m1 (cJ [])::bN m2 (cJ d2)::R):=hw.pm;refine gT (V:=[.pointer (some ⟨c,0,none⟩),.pointer (some ⟨c,0,none⟩),.pointer (some ⟨c,0+0,none⟩),.map (some m1),.pointer (some ⟨p,0,none⟩),.pointer (some ⟨p,0,none⟩),.pointer (some ⟨p,0+0,none⟩),.map (some m2),.tuple #[]])
  (Rs:=fun D=>aA c [.map (some m1)] 177::aA p [.map (some m2)] 177::(if D 8 then Ex (fun d3:Dm=>bN m1 (cJ d3)::bO (d3.Perm d2):: []) else bN m1 (cJ []))::bN m2 (cJ d2)::R) hs hw (ho:=⟨?_,?_,?_,?_,?_,?_,?_,?_,?c8_2,trivial⟩) (k:=?k_2)
 case c8_2=>
  intro LD D a W hcl hi hp hs hw;simp only [hi,Bool.false_eq_true,if_false] at hw;have hw:Has 0 w0 W (bN m1 []::bN m2 (cJ d2)::aA c [.map (some m1)] 177::aA p [.map (some m2)] 177::R):=hw.pm;refine aG hs (hc:=aFr w0 _ m1 m2 d2 _ ((jA hp2).2 hk2) hw) (k:=?_);rintro e0 W1 ⟨rfl,d3,h3,hw1⟩;refine ⟨_,rfl,?_⟩;clear hs hw;intro a hs;have hw:=hw1;clear hw1;refine zG hs ?_;refine ⟨hs,?_⟩;have hw:=Has.shut (Ls:=fun d3:Dm=>bN m1 (cJ d3)::bO (d3.Perm d2):: []) d3 (hw.fact h3 |>.perm (List.Perm.swap _ _ _));exact hw.pm
 case k_2=>
  clear hs hw;intro a W hs hw;replace hw:Has 0 w0 W (aA c [.map (some m1)] 177::aA p [.map (some m2)] 177::Ex (fun d3:Dm=>bN m1 (cJ d3)::bO (d3.Perm d2):: [])::bN m2 (cJ d2)::R):=hw;obtain ⟨d3,hw⟩:=Has.open (hw.perm (List.Perm.trans (List.Perm.cons _ (List.Perm.swap _ _ _)) (List.Perm.swap _ _ _)));have hw:Has 0 w0 W (bN m1 (cJ d3)::bO (d3.Perm d2)::aA c [.map (some m1)] 177::aA p [.map (some m2)] 177::bN m2 (cJ d2)::R):=hw;have h3:=hw.told (In.tl In.hd);refine zA hs hw ?_;clear hs;intro a hs;have hw:Has 0 w0 _ (aA p [.map (some m2)] 177::bN m2 (cJ d2)::aA c [.map (some m1)] 177::bN m1 (cJ d3)::R):=hw.drop2.pm;have hw:=jB hw hp2 hk2;have hw:Has 0 w0 _ (aA c [.map (some m1)] 177::bN m1 (cJ d3)::bL p d::R):=hw.pm;have hw:=jB hw (h3.trans hp2) hk2;exact rt1 hs rfl rfl ⟨c,rfl,hw⟩
 all_goals
  intro LD D a W hcl hi hp hs hw;refine zA hs hw ?_;clear hs;intro a hs;exact ⟨hs,hw⟩
def fO (o:OpD):Bool:=eZ o.kind o.key o.vk o.vn o.vs o.ok o.on o.os o.n
def dN (c q:Int) (l:List OpD):Bool:=
 !(decide (c<1)) && !(decide (c > 5)) && !(decide (q<1)) && !(decide (q > 1099511627776)) && !(decide ((l.length:Int)<1)) && !(decide ((l.length:Int) > 8)) && l.all fO && decide (((eB c q l).length:Int)≤1200)
theorem sV (c q:Int) (l:List OpD) (sv:Value) (w:World) (hc:i64 c) (hq:i64 q) (ho:∀o∈l,OpOk o) (r:Rd w 9 sv l.length (l.flatMap bX)) (hT:Tabs w):
  Calls Tryz.prog 176 ⟨[.agg ⟨[.int .i64 c,.int .i64 q,sv]⟩]⟩ w fun e w'=>e= .returned (.bool (dN c q l))∧Below w.heap.size w w':=by
 have hw:=Has.start (G:=0) (w:=w) (Nat.zero_le _);obtain ⟨sad,scap,rfl⟩:∃ad cap,sv= .slice ad l.length cap:=by obtain ⟨_,ad,cap,e,_⟩:=r;exact ⟨ad,cap,e⟩
 have hlen:l.length≤9223372036854775807:=r.len;refine enter Tryz.func176 Tryz.ntmps176 rfl rfl fun a hs=>?_
 repeat (first|(refine sxv hs hw ?_;clear hs;intro a hs)|refine sxc hs ?_|(refine sxa hs hw ?_;clear hs hw;intro a b W hw hs)|(refine sxs hs hw ?_;clear hs hw;intro W hs hw))
 cases h0:decide (c<1) with
 |true=>
  rw [h0] at hs;refine zA hs hw ?_;clear hs;intro a hs;exact rt1 hs rfl rfl ⟨by simp only [dN,h0];rfl,hw.end inn⟩
 |false=>
 rw [h0] at hs;refine zA hs hw ?_;clear hs;intro a hs;cases h1:decide (c > 5) with
 |true=>
  rw [h1] at hs;refine zA hs hw ?_;clear hs;intro a hs;exact rt1 hs rfl rfl ⟨by simp only [dN,h0,h1];rfl,hw.end inn⟩
 |false=>
 rw [h1] at hs;refine zA hs hw ?_;clear hs;intro a hs;cases h2:decide (q<1) with
 |true=>
  rw [h2] at hs;refine zA hs hw ?_;clear hs;intro a hs;exact rt1 hs rfl rfl ⟨by simp only [dN,h0,h1,h2];rfl,hw.end inn⟩
 |false=>
 rw [h2] at hs;refine zA hs hw ?_;clear hs;intro a hs;cases h3:decide (q > 1099511627776) with
 |true=>
  rw [h3] at hs;refine zA hs hw ?_;clear hs;intro a hs;exact rt1 hs rfl rfl ⟨by simp only [dN,h0,h1,h2,h3];rfl,hw.end inn⟩
 |false=>
 rw [h3] at hs;refine zA hs hw ?_;clear hs;intro a hs;cases h4:decide ((l.length:Int)<1) with
 |true=>
  rw [h4] at hs;refine zA hs hw ?_;clear hs;intro a hs;exact rt1 hs rfl rfl ⟨by simp only [dN,h0,h1,h2,h3,h4];rfl,hw.end inn⟩
 |false=>
 rw [h4] at hs;refine zA hs hw ?_;clear hs;intro a hs;cases h5:decide ((l.length:Int) > 8) with
 |true=>
  rw [h5] at hs;refine zA hs hw ?_;clear hs;intro a hs;exact rt1 hs rfl rfl ⟨by simp only [dN,h0,h1,h2,h3,h4,h5];rfl,hw.end inn⟩
 |false=>
 rw [h5] at hs;refine zA hs hw ?_;clear hs;intro a hs;have h8:l.length≤8:=by simp at h5;omega
 have hmb:dN c q l=(l.all fO && decide (((eB c q l).length:Int)≤1200)):=by unfold dN;rw [h0,h1,h2,h3,h4,h5];simp
 rw [hmb];clear hmb h0 h1 h2 h3 h4 h5;obtain ⟨b1,q1⟩:=nm1 hw;subst q1;have hw:Has 0 w _ (aA b1 [.int .i64 c,.int .i64 q,.slice sad l.length scap] 66::Old w 0:: []):=hw;refine bY (σ:=Nat) (fun i=>[(1,.pointer (some ⟨b1,0,none⟩)),(36,.slice sad l.length scap),(37,.int .i64 (l.length:Int)),(38,.int .i64 (i:Int))]) (fun _=>aA b1 [.int .i64 c,.int .i64 q,.slice sad l.length scap] 66::Old w 0:: []) (fun i=>i≤l.length∧(l.take i).all fO=true) (fun i=>l.length - i) 0 ⟨Nat.zero_le _,rfl⟩ hs ⟨rfl,rfl,rfl,rfl,trivial⟩ hw ?_;clear hs hw;rintro i a W ⟨hi,ha⟩ hs hw;refine zA hs hw ?_;clear hs;intro a hs;refine cI hs (kt:=fun hcc=>?_) (kf:=fun hcc=>?_)
 ·have hi':i<l.length:=by simpa using hcc
  obtain ⟨o,hoi⟩:∃o,l[i]? =some o:=⟨l[i],List.getElem?_eq_getElem hi'⟩
  have hok:=ho o (List.mem_of_getElem? hoi);have hnext:(l.take (i+1)).all fO=fO o:=by
   rw [List.take_add_one,hoi,List.all_append,ha];simp
  have hall:fO o=false→l.all fO=false:=fun h=>by
   rw [List.all_eq_false];exact ⟨o,List.mem_of_getElem? hoi,by rw [h];simp⟩
  refine zG hs ?_;refine xI hs (r:=hw.rd inn hw.ext.size r) (ho:=hoi) (c:=?_);clear hs;intro a p off hpc hs;refine eE (z:=bX ⟨0,⟨#[]⟩,0,0,⟨#[]⟩,0,0,⟨#[]⟩,0⟩) hs (hc:=hpc) (hl:=rfl) (c:=?_);clear hs;intro a hs;obtain ⟨kind,key,vk,vn,vs,ok,on,os,n⟩:=o;simp only [bX] at hs;clear hpc;have hkey:=hok.key;have hvs:=hok.vs;have hos:=hok.os;simp only at hkey hvs hos
  repeat (first|(refine sxv hs hw ?_;clear hs;intro a hs)|refine sxc hs ?_|(refine sxa hs hw ?_;clear hs hw;intro a b W hw hs)|(refine sxs hs hw ?_;clear hs hw;intro W hs hw))
  refine aG hs (hc:=aBE kind key vk vn vs ok on os n _ (by omega) (by omega) (by omega) (hT.keep (hw.end inn))) (k:=?_);rintro e0 W1 ⟨rfl,hb⟩;refine ⟨_,rfl,?_⟩;clear hs;intro a hs;replace hw:=hw.below hb;clear hb;rw [show eZ kind key vk vn vs ok on os n=fO ⟨kind,key,vk,vn,vs,ok,on,os,n⟩ from rfl] at hs;cases hm:fO ⟨kind,key,vk,vn,vs,ok,on,os,n⟩ with
  |false=>
   rw [hm] at hs;refine zA hs hw ?_;clear hs;intro a hs;exact rt1 hs rfl rfl ⟨by rw [hall hm];rfl,hw.end inn⟩
  |true=>
   rw [hm] at hs hnext;refine zA hs hw ?_;clear hs;intro a hs;have hw:=hw.d1;exact bQ (i+1) hs hw ⟨by omega,hnext⟩ (by show l.length - (i+1)<l.length - i;omega) ⟨rfl,rfl,rfl,bR (by show IntKind.i64.wrap ((i:Int)+1)=((i+1:Nat):Int);rw [IntWalk.i64_in _ (by omega)];omega),trivial⟩
 ·have hi':i=l.length:=by simp at hcc;omega
  subst hi';rw [List.take_length] at ha;rw [ha];refine zA hs hw ?_;clear hs;intro a hs;refine aG hs (hc:=aBG c q l _ _ hc hq (by omega) ho (hw.rd inn hw.ext.size r)) (k:=?_);rintro e0 W1 ⟨ad,cap,rfl,hw1⟩;refine ⟨_,rfl,?_⟩;clear hs;intro a hs;replace hw:=hw.call hw1;clear hw1;refine zA hs hw ?_;clear hs;intro a hs;exact rt1 hs rfl rfl ⟨by simp,hw.end inn⟩
theorem p7 (c q:Int) (l:List OpD) (sv:Value) (w:World) (hc:i64 c) (hq:i64 q) (ho:∀o∈l,OpOk o) (r:Rd w 9 sv l.length (l.flatMap bX)) (hT:Tabs w):
  Calls Tryz.prog 117 ⟨[.agg ⟨[.int .i64 c,.int .i64 q,sv]⟩]⟩ w fun e w'=>∃ad cap,e= .returned (.slice ad (if dN c q l then eB c q l else []).length cap)∧(dN c q l=false→ad=none∧cap=0)∧Has 0 w w' (OwnB 5 (.slice ad (if dN c q l then eB c q l else []).length cap) (if dN c q l then eB c q l else [])::Old w 0:: []):=by
 have hw:=Has.start (G:=0) (w:=w) (Nat.zero_le _);obtain ⟨sad,scap,rfl⟩:∃ad cap,sv= .slice ad l.length cap:=by obtain ⟨_,ad,cap,e,_⟩:=r;exact ⟨ad,cap,e⟩
 have hlen:l.length≤9223372036854775807:=r.len;refine enter Tryz.func117 Tryz.ntmps117 rfl rfl fun a hs=>?_
 repeat (first|(refine sxv hs hw ?_;clear hs;intro a hs)|refine sxc hs ?_|(refine sxa hs hw ?_;clear hs hw;intro a b W hw hs)|(refine sxs hs hw ?_;clear hs hw;intro W hs hw))
 refine aG hs (hc:=sV c q l _ _ hc hq ho (hw.rd inn hw.ext.size r) (hT.keep (hw.end inn))) (k:=?_);rintro e0 W1 ⟨rfl,hb⟩;refine ⟨_,rfl,?_⟩;clear hs;intro a hs;replace hw:=hw.below hb;clear hb;cases hm:dN c q l with
 |false=>
  rw [hm] at hs;refine zA hs hw ?_;clear hs;intro a hs;have hw:=(hw.nilB 5).sub (List.Sublist.cons_cons _ (List.Sublist.cons _ (List.Sublist.refl _)));exact rt1 hs rfl rfl ⟨none,0,rfl,fun _=>⟨rfl,rfl⟩,hw⟩
 |true=>
  rw [hm] at hs;have h8:l.length≤8:=by
   unfold dN at hm;simp only [Bool.and_eq_true,Bool.not_eq_true',decide_eq_false_iff_not] at hm;omega
  refine zA hs hw ?_;clear hs;intro a hs;refine aG hs (hc:=aBG c q l _ _ hc hq (by omega) ho (hw.rd inn hw.ext.size r)) (k:=?_);rintro e0 W1 ⟨ad,cap,rfl,hw1⟩;refine ⟨_,rfl,?_⟩;clear hs;intro a hs;replace hw:=hw.call hw1;clear hw1;refine zA hs hw ?_;clear hs;intro a hs;have hw:=hw.sub (List.Sublist.cons_cons _ (List.Sublist.cons _ (List.Sublist.refl _)));exact rt1 hs rfl rfl ⟨ad,cap,rfl,fun h=>(Bool.noConfusion h),hw⟩
theorem aFu {s t:ByteArray} (h:s.toList=t.toList):s=t:=by
 rw [Go.ByteArray.toList_eq,Go.ByteArray.toList_eq] at h;apply ByteArray.ext;exact Array.toList_inj.1 h
theorem aBM (s:ByteArray):(⟨s.data.toList.toArray⟩:ByteArray)=s:=by
 apply ByteArray.ext;simp
theorem p8 {k n:Int} {s:ByteArray} {k' n':Int} {s':ByteArray}:eA k n s k' n' s'=true↔k=k'∧n=n'∧s=s':=by
 unfold eA;simp only [Bool.and_eq_true,beq_iff_eq];constructor
 ·rintro ⟨⟨h1,h2⟩,h3⟩;exact ⟨h1,h2,aFu h3⟩
 ·rintro ⟨rfl,rfl,rfl⟩;exact ⟨⟨rfl,rfl⟩,rfl⟩
theorem m9 {c q:Int} {l:List OpD} (h:dN c q l=true):(1≤c∧c≤5)∧(1≤q∧q≤1099511627776)∧(1≤l.length∧l.length≤8)∧l.all fO=true∧(eB c q l).length≤1200:=by
 unfold dN at h;simp only [Bool.and_eq_true,Bool.not_eq_true',decide_eq_false_iff_not,decide_eq_true_eq] at h;obtain ⟨⟨⟨⟨⟨⟨⟨h1,h2⟩,h3⟩,h4⟩,h5⟩,h6⟩,h7⟩,h8⟩:=h;exact ⟨by omega,by omega,by omega,h7,by omega⟩
def lB (o o':OpD):Bool:=(o.kind == o'.kind) && (o.key.toList == o'.key.toList) && eA o.vk o.vn o.vs o'.vk o'.vn o'.vs && eA o.ok o.on o.os o'.ok o'.on o'.os && (o.n == o'.n)
def l8 (l l':List OpD):Bool:=(l.zip l').all fun p=>lB p.1 p.2
theorem aFv (c q:Int) (l:List OpD):0<(eB c q l).length:=by
 have h4:0<(Ph.putI c).length:=List.length_pos_iff.2 (Ph.putI_ne_nil c);unfold eB iN;simp only [List.length_append];omega
def bK (s:List UInt8×Bool):List UInt8×Bool:=tk s (Ph.getI s.1).2.1 (Ph.getI s.1).2.2
def eQ (s:List UInt8×Bool):List UInt8×Bool:=tk s (Ph.getT s.1).2.1 (Ph.getT s.1).2.2
def dW (s:List UInt8×Bool):List UInt8×Bool:=tk s (getR s.1).2.1 (getR s.1).2.2
def dT (s:List UInt8×Bool):OpD×(List UInt8×Bool):=
 let kind:=(Ph.getI s.1).1
 let s1:=bK s
 let key:ByteArray:=⟨(Ph.getT s1.1).1.toArray⟩
 let s2:=eQ s1
 if kind=3 then
  let s3:=dW s2
  (⟨kind,key,(getR s2.1).1.1,(getR s2.1).1.2.1,(getR s2.1).1.2.2,(getR s3.1).1.1,(getR s3.1).1.2.1,(getR s3.1).1.2.2,0⟩,dW s3)
 else if kind=1 then (⟨kind,key,(getR s2.1).1.1,(getR s2.1).1.2.1,(getR s2.1).1.2.2,0,0,⟨#[]⟩,0⟩,dW s2)
 else if kind=4 then (⟨kind,key,0,0,⟨#[]⟩,0,0,⟨#[]⟩,(Ph.getI s2.1).1⟩,bK s2)
 else (⟨kind,key,0,0,⟨#[]⟩,0,0,⟨#[]⟩,0⟩,s2)
theorem aG5 (w0 W:World) (p:Nat) (sv:Value) (s:List UInt8×Bool) (R:List Res) (i:In (Old w0 0) R) (r:RdB w0 sv s.1) (hT:Tabs w0) (hw:Has 0 w0 W (aA p [sv,.bool s.2] 312::R)):
  Calls Tryz.prog 233 ⟨[.pointer (some ⟨p,0,none⟩)]⟩ W fun e W'=>e= .returned (.agg ⟨bX (dT s).1⟩)∧∃sv',RdB w0 sv' (dT s).2.1∧Has 0 w0 W' (aA p [sv',.bool (dT s).2.2] 312::R):=by
 refine enter Tryz.func233 Tryz.ntmps233 rfl rfl fun a hs=>?_
 repeat (first|(refine sxv hs hw ?_;clear hs;intro a hs)|refine sxc hs ?_|(refine sxa hs hw ?_;clear hs hw;intro a b W hw hs)|(refine sxs hs hw ?_;clear hs hw;intro W hs hw))
 have hw:=hw.swap2;refine aG hs (hc:=qB w0 _ p sv s _ (In.tl i) r hw) (k:=?_);rintro e0 W1 ⟨rfl,sv1,r1,hw'⟩;refine ⟨_,rfl,?_⟩;clear hs hw;intro a hs;have hw:=hw';clear hw';rw [show tk s (Ph.getI s.1).2.1 (Ph.getI s.1).2.2=bK s from rfl] at hw r1
 repeat (first|(refine sxv hs hw ?_;clear hs;intro a hs)|refine sxc hs ?_|(refine sxa hs hw ?_;clear hs hw;intro a b W hw hs)|(refine sxs hs hw ?_;clear hs hw;intro W hs hw))
 have hw:=hw.swap2;refine aG hs (hc:=xY _ sv1 (bK s).1 (hw.rd (In.tl (In.tl (In.tl i))) hw.ext.size r1)) (k:=?_);rintro e0 W1 ⟨rfl,rfl⟩;refine ⟨_,rfl,?_⟩;clear hs;intro a hs;refine zA hs hw ?_;clear hs;intro a hs;refine aG hs (hc:=xZ w0 _ p sv1 (bK s) _ _ _ (In.tl (In.tl i)) r1 (tA (bK s).1) hw) (k:=?_);rintro e0 W1 ⟨rfl,sv2,r2,hw'⟩;refine ⟨_,rfl,?_⟩;clear hs hw;intro a hs;have hw:=hw';clear hw';rw [show tk (bK s) (Ph.getT (bK s).1).2.1 (Ph.getT (bK s).1).2.2=eQ (bK s) from rfl] at hw r2;obtain ⟨key,hkey⟩:∃key:ByteArray,(⟨(Ph.getT (bK s).1).1.toArray⟩:ByteArray)=key:=⟨_,rfl⟩
 rw [hkey] at hs;obtain ⟨K,hK⟩:∃K,(Ph.getI s.1).1=K:=⟨_,rfl⟩
 have hD:dT s=(if K=3 then (⟨K,key,(getR (eQ (bK s)).1).1.1,(getR (eQ (bK s)).1).1.2.1,(getR (eQ (bK s)).1).1.2.2,(getR (dW (eQ (bK s))).1).1.1,(getR (dW (eQ (bK s))).1).1.2.1,(getR (dW (eQ (bK s))).1).1.2.2,0⟩,dW (dW (eQ (bK s))))
   else if K=1 then (⟨K,key,(getR (eQ (bK s)).1).1.1,(getR (eQ (bK s)).1).1.2.1,(getR (eQ (bK s)).1).1.2.2,0,0,⟨#[]⟩,0⟩,dW (eQ (bK s)))
   else if K=4 then (⟨K,key,0,0,⟨#[]⟩,0,0,⟨#[]⟩,(Ph.getI (eQ (bK s)).1).1⟩,bK (eQ (bK s)))
   else (⟨K,key,0,0,⟨#[]⟩,0,0,⟨#[]⟩,0⟩,eQ (bK s))):=by unfold dT;simp only;rw [hkey,hK]
 rw [hK] at hs hw;clear hkey hK;generalize eQ (bK s)=s2 at *;rw [hD];clear hD;refine zB hs hw ?_;clear hs hw;intro a W hs hw
 by_cases k3:K=3
 ·subst k3;refine zA hs hw ?_;clear hs;intro a hs;refine aG hs (hc:=x2 w0 _ p sv2 s2 _ (In.tl (In.tl i)) r2 hT hw) (k:=?_);rintro e0 W1 ⟨rfl,sv3,r3,hw'⟩;refine ⟨_,rfl,?_⟩;clear hs hw;intro a hs;have hw:=hw';clear hw';rw [show tk (s2) (getR (s2).1).2.1 (getR (s2).1).2.2=dW (s2) from rfl] at hw r3;refine zB hs hw ?_;clear hs hw;intro a W hs hw;refine aG hs (hc:=x2 w0 _ p sv3 (dW s2) _ (In.tl (In.tl i)) r3 hT hw) (k:=?_);rintro e0 W1 ⟨rfl,sv4,RR,hw'⟩;refine ⟨_,rfl,?_⟩;clear hs hw;intro a hs;have hw:=hw';clear hw';rw [show tk ((dW s2)) (getR ((dW s2)).1).2.1 (getR ((dW s2)).1).2.2=dW ((dW s2)) from rfl] at hw RR;refine zB hs hw ?_;clear hs hw;intro a W hs hw;have hw':=hw.sub (List.Sublist.cons_cons _ (List.Sublist.cons _ (List.Sublist.cons _ (List.Sublist.refl _))));refine rc1 hs rfl rfl hw (In.tl (In.tl In.hd)) rfl ?_;rw [if_pos rfl];exact ⟨rfl,_,RR,hw'⟩
 have e3:(K == 3)=false:=by simpa using k3
 rw [e3] at hs;refine zA hs hw ?_;clear hs;intro a hs
 by_cases k1:K=1
 ·subst k1;refine zA hs hw ?_;clear hs;intro a hs;refine aG hs (hc:=x2 w0 _ p sv2 s2 _ (In.tl (In.tl i)) r2 hT hw) (k:=?_);rintro e0 W1 ⟨rfl,sv3,RR,hw'⟩;refine ⟨_,rfl,?_⟩;clear hs hw;intro a hs;have hw:=hw';clear hw';rw [show tk (s2) (getR (s2).1).2.1 (getR (s2).1).2.2=dW (s2) from rfl] at hw RR;refine zB hs hw ?_;clear hs hw;intro a W hs hw;have hw':=hw.sub (List.Sublist.cons_cons _ (List.Sublist.cons _ (List.Sublist.cons _ (List.Sublist.refl _))));refine rc1 hs rfl rfl hw (In.tl (In.tl In.hd)) rfl ?_;rw [if_neg k3,if_pos rfl];exact ⟨rfl,_,RR,hw'⟩
 have e1:(K == 1)=false:=by simpa using k1
 rw [e1] at hs;refine zA hs hw ?_;clear hs;intro a hs
 by_cases k4:K=4
 ·subst k4;refine zA hs hw ?_;clear hs;intro a hs;refine aG hs (hc:=qB w0 _ p sv2 s2 _ (In.tl (In.tl i)) r2 hw) (k:=?_);rintro e0 W1 ⟨rfl,sv3,RR,hw'⟩;refine ⟨_,rfl,?_⟩;clear hs hw;intro a hs;have hw:=hw';clear hw';rw [show tk s2 (Ph.getI s2.1).2.1 (Ph.getI s2.1).2.2=bK s2 from rfl] at hw RR;refine zB hs hw ?_;clear hs hw;intro a W hs hw;have hw':=hw.sub (List.Sublist.cons_cons _ (List.Sublist.cons _ (List.Sublist.cons _ (List.Sublist.refl _))));refine rc1 hs rfl rfl hw (In.tl (In.tl In.hd)) rfl ?_;rw [if_neg k3,if_neg k1,if_pos rfl];exact ⟨rfl,_,RR,hw'⟩
 have e4:(K == 4)=false:=by simpa using k4
 rw [e4] at hs;have RR:=r2;refine zB hs hw ?_;clear hs hw;intro a W hs hw;have hw':=hw.sub (List.Sublist.cons_cons _ (List.Sublist.cons _ (List.Sublist.cons _ (List.Sublist.refl _))));refine rc1 hs rfl rfl hw (In.tl (In.tl In.hd)) rfl ?_;rw [if_neg k3,if_neg k1,if_neg k4];exact ⟨rfl,_,RR,hw'⟩
end Go.Proofs.YtgpbngfehfbndaaGreatDoor.Sw
