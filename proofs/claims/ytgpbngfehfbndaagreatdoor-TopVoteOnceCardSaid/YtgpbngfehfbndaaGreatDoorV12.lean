import Derived.Test.YtgpbngfehfbndaaGreatDoorV9
import Derived.Test.YtgpbngfehfbndaaGreatDoorV11
import Derived.DataShut
set_option maxHeartbeats 16000000
set_option linter.all false
set_option maxRecDepth 10000
namespace Go.Proofs.YtgpbngfehfbndaaGreatDoor.Sw
open Go.RowKit Go.Sx
open Go.Proofs.Tryz (prog)
instance mpDoc:Mp prog 175 9 174:=⟨by kernel_rfl,by kernel_rfl⟩
theorem aAT (W:World):(zeroValue 174).run prog W= .ok (.agg ⟨[dN none]⟩) W:=by kernel_rfl
abbrev DV:=Int ⊕ ByteArray
abbrev Dm:=List (ByteArray×DV)
def vOf (x:DV):Value:= .agg ⟨[dN (some x)]⟩
def cF (d:Dm):KV:=d.map fun p=>(p.1,vOf p.2)
def dY (d:Dm):Prop:=(d.map (·.1)).Nodup
def dQ:Dm→ByteArray→Option DV
 | [],_=>none
 |p::d,k=>match ks k p.1 with|true=>some p.2|false=>dQ d k
def gF (d:Dm) (k:ByteArray):Dm:=d.filter fun p=>!ks k p.1
def j5 (d:Dm) (k:ByteArray) (v:DV):Dm:=(k,v)::gF d k
theorem vZ:∀(d:Dm) (k:ByteArray),(i0 (cF d) k).getD (.agg ⟨[dN none]⟩)= .agg ⟨[dN (dQ d k)]⟩
 | [],_=>rfl
 |p::d,k=>by
  simp only [cF,List.map_cons,i0,dQ];cases ks k p.1 with
  |true=>rfl
  |false=>exact vZ d k
theorem v6:∀{d:Dm} {k:ByteArray},dQ d k=none↔k∉d.map (·.1)
 | [],_=>by simp [dQ]
 |p::d,k=>by
  simp only [dQ,List.map_cons,List.mem_cons,not_or];cases hk:ks k p.1 with
  |true=>simp [j2.1 hk]
  |false=>
   have:k≠p.1:=fun h=>by rw [j2.2 h] at hk;cases hk
   simp only [this,not_false_eq_true,true_and];exact v6
theorem v7:∀{d:Dm} {k:ByteArray} {v:DV},dY d→(dQ d k=some v↔(k,v)∈d)
 | [],_,_,_=>by simp [dQ]
 |p::d,k,v,h=>by
  unfold dY at h;rw [List.map_cons,List.nodup_cons] at h;simp only [dQ,List.mem_cons];cases hk:ks k p.1 with
  |true=>
   have e:=j2.1 hk;constructor
   ·intro h';injection h' with h';exact .inl (by rw [e,←h'])
   ·rintro (h'|h')
    ·rw [←h']
    ·exact absurd (List.mem_map_of_mem (f:=(·.1)) h') (by rw [e];exact h.1)
  |false=>
   have:k≠p.1:=fun h=>by rw [j2.2 h] at hk;cases hk
   simp only;rw [v7 h.2];constructor
   ·exact .inr
   ·rintro (h'|h')
    ·exact absurd (by rw [←h']) this
    ·exact h'
theorem jO {d d':Dm} (p:d.Perm d'):dY d↔dY d':=(p.map _).nodup_iff
theorem rY {d d':Dm} (p:d.Perm d') (h:dY d) (k:ByteArray):dQ d k=dQ d' k:=by
 have h':dY d':=(jO p).1 h;cases hd:dQ d k with
 |some v=>exact ((v7 h').2 (p.mem_iff.1 ((v7 h).1 hd))).symm
 |none=>
  rw [v6] at hd;exact (v6.2 fun hm=>hd ((p.map _).mem_iff.2 hm)).symm
theorem v8 {d:Dm} (h:dY d) (k:ByteArray):dY (gF d k):=h.sublist (List.filter_sublist.map _)
theorem aEr {d:Dm} {k:ByteArray}:k∉(gF d k).map (·.1):=by
 intro h;obtain ⟨p,hp,rfl⟩:=List.mem_map.1 h;have:=(List.mem_filter.1 hp).2;rw [rN] at this;cases this
theorem aAU {d:Dm} (h:dY d) (k:ByteArray) (v:DV):dY (j5 d k v):=by
 unfold dY j5;rw [List.map_cons,List.nodup_cons];exact ⟨aEr,v8 h k⟩
theorem wA {d d':Dm} (p:d.Perm d') (k:ByteArray):(gF d k).Perm (gF d' k):=p.filter _
theorem aAV {d d':Dm} (p:d.Perm d') (k:ByteArray) (v:DV):(j5 d k v).Perm (j5 d' k v):=(wA p k).cons _
theorem aAW {d:Dm} {k:ByteArray} (h:k∉d.map (·.1)):(d.filter fun p=>!ks k p.1)=d:=by
 rw [List.filter_eq_self];intro p hp;cases hk:ks k p.1 with
 |false=>rfl
 |true=>exact absurd (List.mem_map_of_mem (f:=(·.1)) hp) (by rw [←j2.1 hk];exact h)
theorem aAX:∀{d:Dm} (k:ByteArray),dY d→j3 (cF d) k=cF (gF d k)
 | [],_,_=>rfl
 |p::d,k,h=>by
  unfold dY at h;rw [List.map_cons,List.nodup_cons] at h;simp only [cF,List.map_cons,j3,gF,List.filter_cons];cases hk:ks k p.1 with
  |true=>
   simp only [Bool.not_true,Bool.false_eq_true,if_false];rw [aAW (by rw [j2.1 hk];exact h.1)]
  |false=>
   simp only [Bool.not_false,if_true,List.map_cons];have:=aAX (d:=d) k h.2;unfold cF gF at this;rw [this]
theorem wB:∀{d:Dm} (k:ByteArray) (v:DV),dY d→∃d',fW (cF d) k (vOf v)=cF d'∧d'.Perm (j5 d k v)
 | [],k,v,_=>⟨[(k,v)],rfl,List.Perm.refl _⟩
 |p::d,k,v,h=>by
  unfold dY at h;rw [List.map_cons,List.nodup_cons] at h;simp only [cF,List.map_cons,fW,j5,gF,List.filter_cons];cases hk:ks k p.1 with
  |true=>
   refine ⟨(k,v)::d,rfl,?_⟩;simp only [Bool.not_true,Bool.false_eq_true,if_false];rw [aAW (by rw [j2.1 hk];exact h.1)]
  |false=>
   obtain ⟨d',h1,h2⟩:=wB (d:=d) k v h.2;refine ⟨p::d',?_,?_⟩
   ·show (p.1,vOf p.2)::fW (cF d) k (vOf v)=_;rw [h1];rfl
   ·simp only [Bool.not_false,if_true];exact (h2.cons p).trans (List.Perm.swap _ _ _)
def cK (p:Nat) (d:Dm):Res:=Ex fun x:Nat×Dm=>aA p [.map (some x.1)] 177::bN x.1 (cF x.2)::bQ (x.2.Perm d∧dY d):: []
section
variable {G p m:Nat} {w W:World} {R:List Res} {d d':Dm}
theorem jP (h:Has G w W (aA p [.map (some m)] 177::bN m (cF d')::R)) (hp:d'.Perm d) (hk:dY d):Has G w W (cK p d::R):=
 Has.shut (m,d') ((h.fact (p:=d'.Perm d∧dY d) ⟨hp,hk⟩).perm ((List.Perm.swap _ _ _).trans (List.Perm.cons _ (List.Perm.swap _ _ _))))
theorem jQ (h:Has G w W (cK p d::R)):∃m d',d'.Perm d∧dY d∧Has G w W (aA p [.map (some m)] 177::bN m (cF d')::R):=by
 obtain ⟨⟨m,d'⟩,h⟩:=Has.open h;have h:Has G w W (aA p [.map (some m)] 177::bN m (cF d')::bQ (d'.Perm d∧dY d)::R):=h;obtain ⟨h1,h2⟩:=h.told (In.tl (In.tl In.hd));exact ⟨m,d',h1,h2,h.sub (List.Sublist.cons_cons _ (List.Sublist.cons_cons _ (List.Sublist.cons _ (List.Sublist.refl _))))⟩
end
theorem aAY (w0 W:World) (R:List Res) (hw:Has 0 w0 W R):
  Calls prog 172 ⟨[]⟩ W fun e W'=>∃p,e= .returned (.pointer (some ⟨p,0,none⟩))∧Has 0 w0 W' (cK p []::R):=by
 refine en Tryz.func172 Tryz.ntmps172 fun a hs=>?_;refine zA hs hw ?_;clear hs;intro a hs;refine z7 hs hw (c:=?_);clear hs hw;intro a b W hw hs
 repeat (first|(refine sxv hs hw ?_;clear hs;intro a hs)|refine sxc hs ?_|(refine sxa hs hw ?_;clear hs hw;intro a b W hw hs)|(refine sxs hs hw ?_;clear hs hw;intro W hs hw))
 refine rt1 hs rfl rfl ⟨_,rfl,?_⟩;exact jP (d':=[]) hw (List.Perm.refl _) (by unfold dY;simp)
theorem aEs (x:Option DV):(gU x !=0)=x.isSome:=by rcases x with _|n|s <;> rfl
theorem aEt (w0 W:World) (p:Nat) (d:Dm) (k:ByteArray) (R:List Res) (hw:Has 0 w0 W (cK p d::R)):
  Calls prog 99 ⟨[.pointer (some ⟨p,0,none⟩),.string k]⟩ W fun e W'=>e= .returned (.bool (dQ d k).isSome)∧Has 0 w0 W' (cK p d::R):=by
 obtain ⟨m,d',hp,hk,hw⟩:=jQ hw;refine en Tryz.func99 Tryz.ntmps99 fun a hs=>?_;refine zA hs hw ?_;clear hs;intro a hs;refine i5 hs (hw:=hw) (hz:=aAT) (c:=?_);clear hs;intro a hs;rw [vZ,rY hp ((jO hp).2 hk)] at hs;refine aH hs (hc:=pC (dQ d k) _) (k:=?_);rintro e0 W1 ⟨rfl,hb⟩;refine ⟨_,rfl,?_⟩;clear hs;intro a hs;replace hw:=hw.below hb;clear hb;refine zA hs hw ?_;clear hs;intro a hs;rw [aEs] at hs;exact rt1 hs rfl rfl ⟨rfl,jP hw hp hk⟩
def hU (d:Dm) (k:ByteArray) (x:Option DV):Int×Dm:=
 match x with
 |none=>(0,gF d k)
 |some v=>if (dQ d k).isSome=false∧50≤d.length then (6,d) else (0,j5 d k v)
theorem rZ (w0 W:World) (p:Nat) (d:Dm) (k:ByteArray) (x:Option DV) (R:List Res) (hw:Has 0 w0 W (cK p d::R)):
  Calls prog 278 ⟨[.pointer (some ⟨p,0,none⟩),.string k,.agg ⟨[dN x]⟩]⟩ W fun e W'=>e= .returned (.int .i64 (hU d k x).1)∧Has 0 w0 W' (cK p (hU d k x).2::R):=by
 refine en Tryz.func278 Tryz.ntmps278 fun a hs=>?_
 repeat (first|(refine sxv hs hw ?_;clear hs;intro a hs)|refine sxc hs ?_|(refine sxa hs hw ?_;clear hs hw;intro a b W hw hs)|(refine sxs hs hw ?_;clear hs hw;intro W hs hw))
 refine aH hs (hc:=pC x _) (k:=?_);rintro e0 W1 ⟨rfl,hb⟩;refine ⟨_,rfl,?_⟩;clear hs;intro a hs;replace hw:=hw.below hb;clear hb;refine zA hs hw ?_;clear hs;intro a hs;cases x with
 |none=>
  refine zA hs hw ?_;clear hs;intro a hs;have hw:=hw.d1;obtain ⟨m,d',hp,hk,hw⟩:=jQ hw;refine zA hs hw ?_;clear hs;intro a hs;refine aEA hs (hw:=hw) (c:=?_);clear hs hw;intro W hs hw;rw [aAX k ((jO hp).2 hk)] at hw;refine zA hs hw ?_;clear hs;intro a hs;exact rt1 hs rfl rfl ⟨rfl,jP hw (wA hp k) (v8 hk k)⟩
 |some v=>
  rw [show (gU (some v) == 0)=false from by rcases v with n|s <;> rfl] at hs;obtain ⟨b5,q5⟩:=nm1 hw;subst q5;have hw:Has 0 w0 _ (cK p d::aA b5 [dN (some v)] 174::R):=hw.swap2;obtain ⟨m,d2,hp,hk,hw⟩:=jQ hw;have hlen:d2.length=d.length:=hp.length_eq;have hlen':(cF d2).length=d2.length:=by simp [cF]
  obtain ⟨d3,h3,h4⟩:=wB k v ((jO hp).2 hk);refine uS hs (k:=?_);refine sq ?_;refine fD (M:=fun a W=>∃m d2,d2.Perm d∧Slots a 35 [(0,.pointer (some ⟨p,0,none⟩)),(1,.string k),(5,.pointer (some ⟨b5,0,none⟩)),(22,.bool (!(dQ d k).isSome && decide ((d.length:Int)≥50)))]∧Has 0 w0 W (aA p [.map (some m)] 177::bN m (cF d2)::aA b5 [dN (some v)] 174::R)) ?_ ?_
  ·clear h3 h4;refine zA hs hw ?_;clear hs;intro a hs;refine aH hs (hc:=aEt w0 _ p d k _ (jP hw hp hk)) (k:=?_);rintro e0 W1 ⟨rfl,hw1⟩;refine ⟨_,rfl,?_⟩;clear hs hw;intro a hs;have hw:=hw1;clear hw1;obtain ⟨m,d2,hp,hk,hw⟩:=jQ hw;have hlen:d2.length=d.length:=hp.length_eq;have hlen':(cF d2).length=d2.length:=by simp [cF]
   refine zA hs hw ?_;clear hs;intro a hs;cases hg:(dQ d k).isSome with
   |true=>
    rw [hg] at hs;refine zA hs hw ?_;clear hs;intro a hs;exact ⟨m,d2,hp,hs.ot,hw⟩
   |false=>
    rw [hg] at hs;refine zA hs hw ?_;clear hs;intro a hs;refine aEB hs (hw:=hw) (c:=?_);clear hs;intro a hs;rw [hlen',hlen] at hs;refine zA hs hw ?_;clear hs;intro a hs;exact ⟨m,d2,hp,hs.of ⟨rfl,rfl,rfl,zL (by simp),trivial⟩,hw⟩
  clear hs hw hp hlen hlen' h3 h4;rintro a W ⟨m,d2,hp,hs,hw⟩;obtain ⟨d3,h3,h4⟩:=wB k v ((jO hp).2 hk);cases hc:(!(dQ d k).isSome && decide ((d.length:Int)≥50)) with
  |true=>
   rw [hc] at hs;have hR:hU d k (some v)=(6,d):=by
    simp only [Bool.and_eq_true,Bool.not_eq_true',decide_eq_true_eq] at hc;unfold hU;simp only;rw [if_pos ⟨hc.1,by omega⟩]
   refine zA hs hw ?_;clear hs;intro a hs;have hw:=jP (hw.sub (List.Sublist.cons_cons _ (List.Sublist.cons_cons _ (List.Sublist.cons _ (List.Sublist.refl _))))) hp hk;exact rt1 hs rfl rfl ⟨by rw [hR],by rw [hR];exact hw⟩
  |false=>
  rw [hc] at hs;have hR:hU d k (some v)=(0,j5 d k v):=by
   unfold hU;simp only;rw [if_neg];rintro ⟨h1,h2⟩;rw [h1] at hc;simp at hc;omega
  refine zG hs ?_;refine gS (V:=[.pointer (some ⟨p,0,none⟩),.pointer (some ⟨p,0,none⟩),.pointer (some ⟨p,0+0,none⟩),.map (some m),.string k,.agg ⟨[dN (some v)]⟩,.bool true])
   (Rs:=fun D=>aA p [.map (some m)] 177::(if D 6 then bN m (cF d3) else bN m (cF d2))::aA b5 [dN (some v)] 174::R) hs hw (ho:=⟨?_,?_,?_,?_,?_,?_,?c6_1,trivial⟩) (k:=?k_1)
  case c6_1=>
   intro LD D a W hcl hi hp hs hw;simp only [hi,Bool.false_eq_true,if_false] at hw;refine nI hs (hw:=hw) (v:=vOf v) (c:=?_);clear hs hw;intro W hs hw;rw [h3] at hw;refine zG hs ?_;exact ⟨hs,hw⟩
  case k_1=>
   clear hs hw;intro a W hs hw;replace hw:Has 0 w0 W (aA p [.map (some m)] 177::bN m (cF d3)::aA b5 [dN (some v)] 174::R):=hw;refine zA hs hw ?_;clear hs;intro a hs;have hw:=jP (hw.sub (List.Sublist.cons_cons _ (List.Sublist.cons_cons _ (List.Sublist.cons _ (List.Sublist.refl _))))) (h4.trans (aAV hp k v)) (aAU hk k v);exact rt1 hs rfl rfl ⟨by rw [hR],by rw [hR];exact hw⟩
  all_goals
   intro LD D a W hcl hi hp hs hw;refine zA hs hw ?_;clear hs;intro a hs;exact ⟨hs,hw⟩
def inB (n:Int):Bool:=decide (n≥-4611686018427387904) && decide (n≤4611686018427387904)
theorem r5 (n:Int) (W:World):Calls prog 277 ⟨[.int .i64 n]⟩ W fun e W'=>e= .returned (.bool (inB n))∧Below W.heap.size W W':=by
 have hw:=Has.start (G:=0) (w:=W) (Nat.zero_le _);refine en Tryz.func277 Tryz.ntmps277 fun a hs=>?_;refine zA hs hw ?_;clear hs;intro a hs;cases h:decide (n≥-4611686018427387904) with
 |true=>
  rw [h] at hs;refine zA hs hw ?_;clear hs;intro a hs;exact rt1 hs rfl rfl ⟨by simp only [inB,h];rfl,hw.end inn⟩
 |false=>
  rw [h] at hs;refine zA hs hw ?_;clear hs;intro a hs;exact rt1 hs rfl rfl ⟨by simp only [inB,h];rfl,hw.end inn⟩
def jR (d:Dm) (o:OpD):Int×Dm:=
 if o.kind=3 then (if eqV (dQ d o.key) (bV o.ok o.on o.os).1 then hU d o.key (bV o.vk o.vn o.vs).1 else (8,d))
 else if o.kind=4 then
  if (gU (dQ d o.key) !=0 && !mI (dQ d o.key))=true then (7,d)
  else if (!inB (fR (dQ d o.key)) || !inB (IntKind.i64.wrap (fR (dQ d o.key)+o.n)))=true then (4,d)
  else hU d o.key (some (.inl (IntKind.i64.wrap (fR (dQ d o.key)+o.n))))
 else hU d o.key (bV o.vk o.vn o.vs).1
theorem aEu (w0 W:World) (H:Fh) (p:Nat) (d:Dm) (o:OpD) (R:List Res) (ho:OpOk o) (i:In (Fz H) R) (hH:(fr w0).le H) (hT:Tabs w0) (hw:Has 0 w0 W (cK p d::R)):
  Calls prog 246 ⟨[.pointer (some ⟨p,0,none⟩),.agg ⟨bZ o⟩]⟩ W fun e W'=>e= .returned (.int .i64 (jR d o).1)∧Has 0 w0 W' (cK p (jR d o).2::R):=by
 obtain ⟨kind,key,vk,vn,vs,ok,on,os,n⟩:=o;have hvs:=ho.vs;have hos:=ho.os;simp only at hvs hos;refine en Tryz.func246 Tryz.ntmps246 fun a hs=>?_
 repeat (first|(refine sxv hs hw ?_;clear hs;intro a hs)|refine sxc hs ?_|(refine sxa hs hw ?_;clear hs hw;intro a b W hw hs)|(refine sxs hs hw ?_;clear hs hw;intro W hs hw))
 refine aH hs (hc:=lO vk vn vs _ (by omega) (hT.keep (hw.endF (by repeat (first|exact i|apply In.tl)) hH))) (k:=?_);rintro e0 W1 ⟨rfl,hb⟩;refine ⟨_,rfl,?_⟩;clear hs;intro a hs;replace hw:=hw.below hb;clear hb
 repeat (first|(refine sxv hs hw ?_;clear hs;intro a hs)|refine sxc hs ?_|(refine sxa hs hw ?_;clear hs hw;intro a b W hw hs)|(refine sxs hs hw ?_;clear hs hw;intro W hs hw))
 refine d7 hs (hw:=hw) (h1:=pE (bV vk vn vs).1) (k:=?_);clear hs hw;intro W hs hw;refine zA hs hw ?_;clear hs;intro a hs;obtain ⟨bv,q1⟩:=nm1 hw;subst q1;obtain ⟨bo,q2⟩:=nm2 hw;subst q2;obtain ⟨m,d2,hp,hk,hw⟩:=jQ (hw.perm ((List.Perm.cons _ (List.Perm.swap _ _ _)).trans (List.Perm.swap _ _ _)));have hw:Has 0 w0 _ (bT::aA p [.map (some m)] 177::bN m (cF d2)::aA bv [dN (bV vk vn vs).1] 174::aA bo [.int .i64 kind,.string key,.int .i64 vk,.int .i64 vn,.string vs,.int .i64 ok,.int .i64 on,.string os,.int .i64 n] 55::R):=hw.free;have hlk:=vZ d2 key;rw [rY hp ((jO hp).2 hk)] at hlk;obtain ⟨now,hnow⟩:∃now,dQ d key=now:=⟨_,rfl⟩
 rw [hnow] at hlk
 have hX:jR d ⟨kind,key,vk,vn,vs,ok,on,os,n⟩=(if kind=3 then (if eqV now (bV ok on os).1 then hU d key (bV vk vn vs).1 else (8,d))
   else if kind=4 then
    if (gU now !=0 && !mI now)=true then (7,d)
    else if (!inB (fR now) || !inB (IntKind.i64.wrap (fR now+n)))=true then (4,d)
    else hU d key (some (.inl (IntKind.i64.wrap (fR now+n))))
   else hU d key (bV vk vn vs).1):=by unfold jR;simp only;rw [hnow]
 rw [hX];clear hX;obtain ⟨X,hXX⟩:∃X,(bV vk vn vs).1=X:=⟨_,rfl⟩
 rw [hXX] at hs hw⊢;refine fV (σ:=Nat) (V:=fun u=>[.pointer (some ⟨p,0,none⟩),.pointer (some ⟨p,0,none⟩),.pointer (some ⟨p,0+0,none⟩),.map (some m),.pointer (some ⟨bo,0+1,none⟩),.string key,.agg ⟨[dN now]⟩,.pointer (some ⟨u 7,0,none⟩),.bool true])
  (Rs:=fun u D=>(if D 7 then aA (u 7) (if D 8 then [dN now] else [.nilIface]) 174 else bT)::aA p [.map (some m)] 177::bN m (cF d2)::aA bv [dN X] 174::aA bo [.int .i64 kind,.string key,.int .i64 vk,.int .i64 vn,.string vs,.int .i64 ok,.int .i64 on,.string os,.int .i64 n] 55::R) (fun _=>0) hs hw (hVu:=?vu_1) (ho:=⟨?_,?_,?_,?_,?_,?_,?c6_1,?c7_1,?c8_1,trivial⟩) (k:=?k_1)
 case vu_1=>
  intro u u' j h;rcases j with _|_|_|_|_|_|_|_|_|j
  all_goals first|rfl|simp [h]
 case c6_1=>
  intro u LD D a W hcl hi hp hs hw;refine i5 hs (hw:=hw) (hz:=aAT) (c:=?_);clear hs;intro a hs;rw [hlk] at hs;refine zG hs ?_;exact Or.inl ⟨hs,hw⟩
 case c7_1=>
  intro u LD D a W hcl hi hp hs hw;have h8:=Go.Sx.not_done hcl hi 8 (by kernel_rfl);simp only [hi,Bool.false_eq_true,if_false] at hw
  repeat (first|(refine sxv hs hw ?_;clear hs;intro a hs)|refine sxc hs ?_|(refine sxa hs hw ?_;clear hs hw;intro a b W hw hs)|(refine sxs hs hw ?_;clear hs hw;intro W hs hw))
  refine Or.inr ⟨_,hs,?_⟩;show Has 0 w0 _ (aA _ (if (Nat.beq 8 7 || D 8)=true then _ else _) _::_);rw [h8];exact hw.fill Upd.hd
 case c8_1=>
  intro u LD D a W hcl hi hp hs hw;have h7:=Go.Sx.done hp 7 (by kernel_rfl);simp only [hi,h7,Bool.false_eq_true,if_false,if_true] at hw;refine d7 hs (hw:=hw) (h1:=pE now) (k:=?_);clear hs hw;intro W hs hw;refine zG hs ?_;refine Or.inl ⟨hs,?_⟩;show Has 0 w0 _ ((if (Nat.beq 7 8 || D 7)=true then _ else _)::_);rw [h7];exact hw
 case k_1=>
  clear hs hw;intro u a W hs hw;replace hw:Has 0 w0 W (aA (u 7) [dN now] 174::aA p [.map (some m)] 177::bN m (cF d2)::aA bv [dN X] 174::aA bo [.int .i64 kind,.string key,.int .i64 vk,.int .i64 vn,.string vs,.int .i64 ok,.int .i64 on,.string os,.int .i64 n] 55::R):=hw;replace hs:Slots a 80 [(0,.pointer (some ⟨p,0,none⟩)),(3,.pointer (some ⟨bo,0,none⟩)),(5,.pointer (some ⟨bv,0,none⟩)),(7,.pointer (some ⟨u 7,0,none⟩))]:=hs.ot;generalize u 7=b7 at *;clear u;replace hw:=jP (hw.perm ((List.Perm.swap _ _ _).trans (List.Perm.cons _ (List.Perm.swap _ _ _)))) hp hk;clear hp hlk;refine zA hs hw ?_;clear hs;intro a hs
  by_cases k3:kind=3
  ·subst k3;rw [if_pos rfl];refine zA hs hw ?_;clear hs;intro a hs;refine aH hs (hc:=lO ok on os _ (by omega) (hT.keep (hw.endF (by repeat (first|exact i|apply In.tl)) hH))) (k:=?_);rintro e0 W1 ⟨rfl,hb⟩;refine ⟨_,rfl,?_⟩;clear hs;intro a hs;replace hw:=hw.below hb;clear hb
   repeat (first|(refine sxv hs hw ?_;clear hs;intro a hs)|refine sxc hs ?_|(refine sxa hs hw ?_;clear hs hw;intro a b W hw hs)|(refine sxs hs hw ?_;clear hs hw;intro W hs hw))
   refine d7 hs (hw:=hw) (h1:=pE (bV ok on os).1) (k:=?_);clear hs hw;intro W hs hw;refine zA hs hw ?_;clear hs;intro a hs;refine aH hs (hc:=aEl now (bV ok on os).1 _) (k:=?_);rintro e0 W1 ⟨rfl,hb⟩;refine ⟨_,rfl,?_⟩;clear hs;intro a hs;replace hw:=hw.below hb;clear hb;refine zA hs hw ?_;clear hs;intro a hs;cases he:eqV now (bV ok on os).1 with
   |false=>
    rw [he] at hs;refine zA hs hw ?_;clear hs;intro a hs;refine rt1 hs rfl rfl ⟨rfl,?_⟩;exact hw.sub (L':=cK p d::R) (List.Sublist.cons _ (List.Sublist.cons_cons _ (List.Sublist.cons _ (List.Sublist.cons _ (List.Sublist.cons _ (List.Sublist.refl _))))))
   |true=>
    rw [he] at hs;refine zA hs hw ?_;clear hs;intro a hs;refine aH hs (hc:=rZ w0 _ p d key X _ hw.swap2) (k:=?_);rintro e0 W1 ⟨rfl,hw1⟩;refine ⟨_,rfl,?_⟩;clear hs hw;intro a hs;have hw:=hw1;clear hw1;refine zA hs hw ?_;clear hs;intro a hs;refine rt1 hs rfl rfl ⟨rfl,?_⟩;exact hw.sub (List.Sublist.cons_cons _ (List.Sublist.cons _ (List.Sublist.cons _ (List.Sublist.cons _ (List.Sublist.cons _ (List.Sublist.refl _))))))
  have e3:(kind == 3)=false:=by simpa using k3
  rw [e3] at hs;rw [if_neg k3];refine zA hs hw ?_;clear hs;intro a hs
  by_cases k4:kind=4
  ·subst k4;rw [if_pos rfl];rcases now with _|g|s
   ·have hK:=fun W=>pC (none:Option DV) W;have hA:=fun W=>vT (none:Option DV) W;rw [show gU (none:Option DV)=0 from rfl] at hK⊢;rw [show fR (none:Option DV)=0 from rfl] at hA⊢;rw [show mI (none:Option DV)=false from rfl] at hA⊢;rw [if_neg (by decide)];refine zA hs hw ?_;clear hs;intro a hs;refine aH hs (hc:=hA _) (k:=?_);rintro e0 W1 ⟨rfl,hb⟩;refine ⟨_,rfl,?_⟩;clear hs;intro a hs;replace hw:=hw.below hb;clear hb;refine zA hs hw ?_;clear hs;intro a hs;refine aH hs (hc:=hK _) (k:=?_);rintro e0 W1 ⟨rfl,hb⟩;refine ⟨_,rfl,?_⟩;clear hs;intro a hs;replace hw:=hw.below hb;clear hb;refine zA hs hw ?_;clear hs;intro a hs;refine aH hs (hc:=r5 0 _) (k:=?_);rintro e0 W1 ⟨rfl,hb⟩;refine ⟨_,rfl,?_⟩;clear hs;intro a hs;replace hw:=hw.below hb;clear hb;refine zA hs hw ?_;clear hs;intro a hs;rw [show inB 0=true from rfl] at hs⊢;refine aH hs (hc:=r5 (IntKind.i64.wrap (0+n)) _) (k:=?_);rintro e0 W1 ⟨rfl,hb⟩;refine ⟨_,rfl,?_⟩;clear hs;intro a hs;replace hw:=hw.below hb;clear hb;refine zA hs hw ?_;clear hs;intro a hs;cases g2:inB (IntKind.i64.wrap (0+n)) with
    |false=>
     rw [g2] at hs;refine zA hs hw ?_;clear hs;intro a hs;rw [if_pos (by rfl)];exact rt1 hs rfl rfl ⟨rfl,hw.sub (List.Sublist.cons_cons _ (List.Sublist.cons _ (List.Sublist.cons _ (List.Sublist.cons _ (List.Sublist.refl _)))))⟩
    |true=>
    rw [g2] at hs;refine zA hs hw ?_;clear hs;intro a hs;rw [if_neg (by decide)];have hV:=fun W hT=>lO 1 (IntKind.i64.wrap (0+n)) ⟨#[]⟩ W (by decide) hT;rw [show bV 1 (IntKind.i64.wrap (0+n)) ⟨#[]⟩=(some (.inl (IntKind.i64.wrap (0+n))),0) from rfl] at hV;refine aH hs (hc:=hV _ (hT.keep (hw.endF (by repeat (first|exact i|apply In.tl)) hH))) (k:=?_);rintro e0 W1 ⟨rfl,hb⟩;refine ⟨_,rfl,?_⟩;clear hs;intro a hs;replace hw:=hw.below hb;clear hb;refine zB hs hw ?_;clear hs hw;intro a W hs hw;refine aH hs (hc:=rZ w0 _ p d key (some (.inl (IntKind.i64.wrap (0+n)))) _ hw) (k:=?_);rintro e0 W1 ⟨rfl,hw1⟩;refine ⟨_,rfl,?_⟩;clear hs hw;intro a hs;have hw:=hw1;clear hw1;refine zA hs hw ?_;clear hs;intro a hs;refine rt1 hs rfl rfl ⟨rfl,?_⟩;exact hw.sub (List.Sublist.cons_cons _ (List.Sublist.cons _ (List.Sublist.cons _ (List.Sublist.cons _ (List.Sublist.refl _)))))
   ·have hK:=fun W=>pC (some (Sum.inl g):Option DV) W;have hA:=fun W=>vT (some (Sum.inl g):Option DV) W;rw [show gU (some (Sum.inl g):Option DV)=1 from rfl] at hK⊢;rw [show fR (some (Sum.inl g):Option DV)=g from rfl] at hA⊢;rw [show mI (some (Sum.inl g):Option DV)=true from rfl] at hA⊢;rw [if_neg (by decide)];refine zA hs hw ?_;clear hs;intro a hs;refine aH hs (hc:=hA _) (k:=?_);rintro e0 W1 ⟨rfl,hb⟩;refine ⟨_,rfl,?_⟩;clear hs;intro a hs;replace hw:=hw.below hb;clear hb;refine zA hs hw ?_;clear hs;intro a hs;refine aH hs (hc:=hK _) (k:=?_);rintro e0 W1 ⟨rfl,hb⟩;refine ⟨_,rfl,?_⟩;clear hs;intro a hs;replace hw:=hw.below hb;clear hb;refine zA hs hw ?_;clear hs;intro a hs;refine aH hs (hc:=r5 g _) (k:=?_);rintro e0 W1 ⟨rfl,hb⟩;refine ⟨_,rfl,?_⟩;clear hs;intro a hs;replace hw:=hw.below hb;clear hb;refine zA hs hw ?_;clear hs;intro a hs;cases g1:inB g with
    |false=>
     rw [g1] at hs;refine zA hs hw ?_;clear hs;intro a hs;rw [if_pos (by rfl)];exact rt1 hs rfl rfl ⟨rfl,hw.sub (List.Sublist.cons_cons _ (List.Sublist.cons _ (List.Sublist.cons _ (List.Sublist.cons _ (List.Sublist.refl _)))))⟩
    |true=>
    rw [g1] at hs;refine zA hs hw ?_;clear hs;intro a hs;refine aH hs (hc:=r5 (IntKind.i64.wrap (g+n)) _) (k:=?_);rintro e0 W1 ⟨rfl,hb⟩;refine ⟨_,rfl,?_⟩;clear hs;intro a hs;replace hw:=hw.below hb;clear hb;refine zA hs hw ?_;clear hs;intro a hs;cases g2:inB (IntKind.i64.wrap (g+n)) with
    |false=>
     rw [g2] at hs;refine zA hs hw ?_;clear hs;intro a hs;rw [if_pos (by rfl)];exact rt1 hs rfl rfl ⟨rfl,hw.sub (List.Sublist.cons_cons _ (List.Sublist.cons _ (List.Sublist.cons _ (List.Sublist.cons _ (List.Sublist.refl _)))))⟩
    |true=>
    rw [g2] at hs;refine zA hs hw ?_;clear hs;intro a hs;rw [if_neg (by decide)];have hV:=fun W hT=>lO 1 (IntKind.i64.wrap (g+n)) ⟨#[]⟩ W (by decide) hT;rw [show bV 1 (IntKind.i64.wrap (g+n)) ⟨#[]⟩=(some (.inl (IntKind.i64.wrap (g+n))),0) from rfl] at hV;refine aH hs (hc:=hV _ (hT.keep (hw.endF (by repeat (first|exact i|apply In.tl)) hH))) (k:=?_);rintro e0 W1 ⟨rfl,hb⟩;refine ⟨_,rfl,?_⟩;clear hs;intro a hs;replace hw:=hw.below hb;clear hb;refine zB hs hw ?_;clear hs hw;intro a W hs hw;refine aH hs (hc:=rZ w0 _ p d key (some (.inl (IntKind.i64.wrap (g+n)))) _ hw) (k:=?_);rintro e0 W1 ⟨rfl,hw1⟩;refine ⟨_,rfl,?_⟩;clear hs hw;intro a hs;have hw:=hw1;clear hw1;refine zA hs hw ?_;clear hs;intro a hs;refine rt1 hs rfl rfl ⟨rfl,?_⟩;exact hw.sub (List.Sublist.cons_cons _ (List.Sublist.cons _ (List.Sublist.cons _ (List.Sublist.cons _ (List.Sublist.refl _)))))
   ·have hK:=fun W=>pC (some (Sum.inr s):Option DV) W;have hA:=fun W=>vT (some (Sum.inr s):Option DV) W;rw [show gU (some (Sum.inr s):Option DV)=2 from rfl] at hK⊢;rw [show mI (some (Sum.inr s):Option DV)=false from rfl] at hA⊢;rw [if_pos (by decide)];refine zA hs hw ?_;clear hs;intro a hs;refine aH hs (hc:=hA _) (k:=?_);rintro e0 W1 ⟨rfl,hb⟩;refine ⟨_,rfl,?_⟩;clear hs;intro a hs;replace hw:=hw.below hb;clear hb;refine zA hs hw ?_;clear hs;intro a hs;refine aH hs (hc:=hK _) (k:=?_);rintro e0 W1 ⟨rfl,hb⟩;refine ⟨_,rfl,?_⟩;clear hs;intro a hs;replace hw:=hw.below hb;clear hb;refine zA hs hw ?_;clear hs;intro a hs;exact rt1 hs rfl rfl ⟨rfl,hw.sub (List.Sublist.cons_cons _ (List.Sublist.cons _ (List.Sublist.cons _ (List.Sublist.cons _ (List.Sublist.refl _)))))⟩
  have e4:(kind == 4)=false:=by simpa using k4
  rw [e4] at hs;rw [if_neg k4];refine zA hs hw ?_;clear hs;intro a hs;refine aH hs (hc:=rZ w0 _ p d key X _ hw) (k:=?_);rintro e0 W1 ⟨rfl,hw1⟩;refine ⟨_,rfl,?_⟩;clear hs hw;intro a hs;have hw:=hw1;clear hw1;refine zA hs hw ?_;clear hs;intro a hs;refine rt1 hs rfl rfl ⟨rfl,?_⟩;exact hw.sub (List.Sublist.cons_cons _ (List.Sublist.cons _ (List.Sublist.cons _ (List.Sublist.cons _ (List.Sublist.refl _)))))
 all_goals
  intro u LD D a W hcl hi hp hs hw;refine zA hs hw ?_;clear hs;intro a hs;exact Or.inl ⟨hs,hw⟩
def unV:Value→DV
 | .agg ⟨[.iface _ (.int _ n)]⟩=> .inl n
 | .agg ⟨[.iface _ (.string s)]⟩=> .inr s
 |_=> .inl 0
theorem aEv (x:DV):unV (vOf x)=x:=by rcases x with n|s <;> rfl
theorem aEw {d d':Dm} (h:(cF d).Perm (cF d')):d.Perm d':=by
 have:=h.map fun p=>(p.1,unV p.2)
 unfold cF at this;rw [List.map_map,List.map_map] at this;have e:((fun p:ByteArray×Value=>(p.1,unV p.2))∘fun p:ByteArray×DV=>(p.1,vOf p.2))=id:=by
  funext p;simp [aEv]
 rw [e] at this;simpa using this
theorem aEx (d:Dm):(cF d).map (·.1)=d.map (·.1):=by simp [cF]
structure aEy where
 dn:Dm
 left:KV
 cur:Option (ByteArray×Value)
theorem aEz (w0 W:World) (m1 m2:Nat) (d:Dm) (R:List Res) (hk:dY d) (hw:Has 0 w0 W (bN m1 []::bN m2 (cF d)::R)):
  Calls prog 244 ⟨[.map (some m1),.map (some m2)]⟩ W fun e W'=>e= .returned (.tuple #[])∧∃d',d'.Perm d∧Has 0 w0 W' (bN m1 (cF d')::bN m2 (cF d)::R):=by
 refine en Tryz.func244 Tryz.ntmps244 fun a hs=>?_;refine zA hs hw ?_;clear hs;intro a hs;refine aED hs (hw:=hw.swap2) (c:=?_);clear hs hw;intro a it W hw hs;refine zG hs ?_;refine bX (σ:=aEy) (fun t=>[(0,.map (some m1)),(7,.pointer (some ⟨it,0,none⟩))]) (fun t=>mF m2 it (cF d) t.left t.cur::bN m1 (cF t.dn)::R) (fun t=>(cF t.dn ++ t.left).Perm (cF d)) (fun t=>t.left.length) ⟨[],cF d,none⟩ (List.Perm.refl _) hs ⟨rfl,rfl,trivial⟩ hw ?_;clear hs hw;rintro ⟨dn,left,cur⟩ a W hp hs hw;simp only at hp hs hw;refine zG hs ?_;refine aEE hs (hw:=hw) (c1:=?_) (c2:=?_)
 ·clear hs;intro a hl hs;subst hl;refine zA hs hw ?_;clear hs;intro a hs;rw [List.append_nil] at hp;exact cO hs rfl ⟨rfl,dn,aEw hp,hw.unranged.swap2⟩
 ·clear hs hw;intro a W p left' hpl hw hs;have hp2:(cF dn ++ p::left').Perm (cF d):=(List.Perm.append_left _ hpl.symm).trans hp;obtain ⟨k,x,rfl⟩:∃k x,p=(k,vOf x):=by
   have:p∈cF d:=hp2.mem_iff.1 (by simp);obtain ⟨q,_,rfl⟩:=List.mem_map.1 this;exact ⟨q.1,q.2,rfl⟩
  have hnk:k∉(cF dn).map (·.1):=by
   have h1:((cF dn ++ (k,vOf x)::left').map (·.1)).Nodup:=(hp2.map _).nodup_iff.2 (by rw [aEx];exact hk);rw [List.map_append,List.nodup_append] at h1;intro h2;exact h1.2.2 k h2 k (by simp) rfl
  have hnew:fW (cF dn) k (vOf x)=cF (dn ++ [(k,x)]):=by
   rw [aAA _ hnk];simp [cF]
  simp only at hs;refine zA hs hw ?_;clear hs;intro a hs;refine aEF hs (hw:=hw) (c:=?_);clear hs;intro a hs;simp only at hs
  repeat (first|(refine sxv hs hw ?_;clear hs;intro a hs)|refine sxc hs ?_|(refine sxa hs hw ?_;clear hs hw;intro a b W hw hs)|(refine sxs hs hw ?_;clear hs hw;intro W hs hw))
  refine d7 hs (hw:=hw) (h1:=pE (some x)) (k:=?_);clear hs hw;intro W hs hw;refine zA hs hw ?_;clear hs;intro a hs;refine nI hs (hw:=hw) (v:=vOf x) (c:=?_);clear hs hw;intro W hs hw;rw [hnew] at hw;refine zG hs ?_;refine bS ⟨dn ++ [(k,x)],left',some (k,vOf x)⟩ hs (hw.d1) ?_ ?_ ⟨rfl,rfl,trivial⟩
  ·show (cF (dn ++ [(k,x)]) ++ left').Perm _;have:cF (dn ++ [(k,x)]) ++ left'=cF dn ++ (k,vOf x)::left':=by simp [cF]
   rw [this];exact hp2
  ·show left'.length<left.length;rw [hpl.length_eq];simp
theorem aAZ (w0 W:World) (p:Nat) (d:Dm) (R:List Res) (hw:Has 0 w0 W (cK p d::R)):
  Calls prog 171 ⟨[.pointer (some ⟨p,0,none⟩)]⟩ W fun e W'=>∃c,e= .returned (.pointer (some ⟨c,0,none⟩))∧Has 0 w0 W' (cK c d::cK p d::R):=by
 refine en Tryz.func171 Tryz.ntmps171 fun a hs=>?_;refine zC hs hw ?_;clear hs;intro a hs;refine aH hs (hc:=aAY w0 _ _ hw) (k:=?_);rintro e0 W1 ⟨c,rfl,hw1⟩;refine ⟨_,rfl,?_⟩;clear hs hw;intro a hs;have hw:=hw1;clear hw1;refine zC hs hw ?_;clear hs;intro a hs;obtain ⟨m1,d1,hp1, -,hw⟩:=jQ hw;obtain rfl:d1= []:=List.Perm.eq_nil hp1;obtain ⟨m2,d2,hp2,hk2,hw⟩:=jQ (hw.perm ((List.Perm.cons _ (List.Perm.swap _ _ _)).trans (List.Perm.swap _ _ _)));have hw:Has 0 w0 _ (aA c [.map (some m1)] 177::aA p [.map (some m2)] 177::bN m1 (cF [])::bN m2 (cF d2)::R):=hw.pm;refine gS (V:=[.pointer (some ⟨c,0,none⟩),.pointer (some ⟨c,0,none⟩),.pointer (some ⟨c,0+0,none⟩),.map (some m1),.pointer (some ⟨p,0,none⟩),.pointer (some ⟨p,0,none⟩),.pointer (some ⟨p,0+0,none⟩),.map (some m2),.tuple #[]])
  (Rs:=fun D=>aA c [.map (some m1)] 177::aA p [.map (some m2)] 177::(if D 8 then Ex (fun d3:Dm=>bN m1 (cF d3)::bQ (d3.Perm d2):: []) else bN m1 (cF []))::bN m2 (cF d2)::R) hs hw (ho:=⟨?_,?_,?_,?_,?_,?_,?_,?_,?c8_2,trivial⟩) (k:=?k_2)
 case c8_2=>
  intro LD D a W hcl hi hp hs hw;simp only [hi,Bool.false_eq_true,if_false] at hw;have hw:Has 0 w0 W (bN m1 []::bN m2 (cF d2)::aA c [.map (some m1)] 177::aA p [.map (some m2)] 177::R):=hw.pm;refine aH hs (hc:=aEz w0 _ m1 m2 d2 _ ((jO hp2).2 hk2) hw) (k:=?_);rintro e0 W1 ⟨rfl,d3,h3,hw1⟩;refine ⟨_,rfl,?_⟩;clear hs hw;intro a hs;have hw:=hw1;clear hw1;refine zG hs ?_;refine ⟨hs,?_⟩;have hw:=Has.shut (Ls:=fun d3:Dm=>bN m1 (cF d3)::bQ (d3.Perm d2):: []) d3 (hw.fact h3 |>.perm (List.Perm.swap _ _ _));exact hw.pm
 case k_2=>
  clear hs hw;intro a W hs hw;replace hw:Has 0 w0 W (aA c [.map (some m1)] 177::aA p [.map (some m2)] 177::Ex (fun d3:Dm=>bN m1 (cF d3)::bQ (d3.Perm d2):: [])::bN m2 (cF d2)::R):=hw;obtain ⟨d3,hw⟩:=Has.open (hw.perm (List.Perm.trans (List.Perm.cons _ (List.Perm.swap _ _ _)) (List.Perm.swap _ _ _)));have hw:Has 0 w0 W (bN m1 (cF d3)::bQ (d3.Perm d2)::aA c [.map (some m1)] 177::aA p [.map (some m2)] 177::bN m2 (cF d2)::R):=hw;have h3:=hw.told (In.tl In.hd);refine zA hs hw ?_;clear hs;intro a hs;have hw:Has 0 w0 _ (aA p [.map (some m2)] 177::bN m2 (cF d2)::aA c [.map (some m1)] 177::bN m1 (cF d3)::R):=hw.drop2.pm;have hw:=jP hw hp2 hk2;have hw:Has 0 w0 _ (aA c [.map (some m1)] 177::bN m1 (cF d3)::cK p d::R):=hw.pm;have hw:=jP hw (h3.trans hp2) hk2;exact rt1 hs rfl rfl ⟨c,rfl,hw⟩
 all_goals
  intro LD D a W hcl hi hp hs hw;refine zA hs hw ?_;clear hs;intro a hs;exact ⟨hs,hw⟩
def fL (o:OpD):Bool:=e7 o.kind o.key o.vk o.vn o.vs o.ok o.on o.os o.n
def dO (c q:Int) (l:List OpD):Bool:=
 !(decide (c<1)) && !(decide (c > 5)) && !(decide (q<1)) && !(decide (q > 1099511627776)) && !(decide ((l.length:Int)<1)) && !(decide ((l.length:Int) > 8)) && l.all fL && decide (((eA c q l).length:Int)≤1200)
theorem r6 (c q:Int) (l:List OpD) (sv:Value) (w:World) (hc:i64 c) (hq:i64 q) (ho:∀o∈l,OpOk o) (r:Rd w 9 sv l.length (l.flatMap bZ)) (hT:Tabs w):
  Calls prog 176 ⟨[.agg ⟨[.int .i64 c,.int .i64 q,sv]⟩]⟩ w fun e w'=>e= .returned (.bool (dO c q l))∧Below w.heap.size w w':=by
 have hw:=Has.start (G:=0) (w:=w) (Nat.zero_le _);obtain ⟨sad,scap,rfl⟩:∃ad cap,sv= .slice ad l.length cap:=by obtain ⟨_,ad,cap,e,_⟩:=r;exact ⟨ad,cap,e⟩
 have hlen:l.length≤9223372036854775807:=r.len;refine en Tryz.func176 Tryz.ntmps176 fun a hs=>?_
 repeat (first|(refine sxv hs hw ?_;clear hs;intro a hs)|refine sxc hs ?_|(refine sxa hs hw ?_;clear hs hw;intro a b W hw hs)|(refine sxs hs hw ?_;clear hs hw;intro W hs hw))
 cases h0:decide (c<1) with
 |true=>
  rw [h0] at hs;refine zA hs hw ?_;clear hs;intro a hs;exact rt1 hs rfl rfl ⟨by simp only [dO,h0];rfl,hw.end inn⟩
 |false=>
 rw [h0] at hs;refine zA hs hw ?_;clear hs;intro a hs;cases h1:decide (c > 5) with
 |true=>
  rw [h1] at hs;refine zA hs hw ?_;clear hs;intro a hs;exact rt1 hs rfl rfl ⟨by simp only [dO,h0,h1];rfl,hw.end inn⟩
 |false=>
 rw [h1] at hs;refine zA hs hw ?_;clear hs;intro a hs;cases h2:decide (q<1) with
 |true=>
  rw [h2] at hs;refine zA hs hw ?_;clear hs;intro a hs;exact rt1 hs rfl rfl ⟨by simp only [dO,h0,h1,h2];rfl,hw.end inn⟩
 |false=>
 rw [h2] at hs;refine zA hs hw ?_;clear hs;intro a hs;cases h3:decide (q > 1099511627776) with
 |true=>
  rw [h3] at hs;refine zA hs hw ?_;clear hs;intro a hs;exact rt1 hs rfl rfl ⟨by simp only [dO,h0,h1,h2,h3];rfl,hw.end inn⟩
 |false=>
 rw [h3] at hs;refine zA hs hw ?_;clear hs;intro a hs;cases h4:decide ((l.length:Int)<1) with
 |true=>
  rw [h4] at hs;refine zA hs hw ?_;clear hs;intro a hs;exact rt1 hs rfl rfl ⟨by simp only [dO,h0,h1,h2,h3,h4];rfl,hw.end inn⟩
 |false=>
 rw [h4] at hs;refine zA hs hw ?_;clear hs;intro a hs;cases h5:decide ((l.length:Int) > 8) with
 |true=>
  rw [h5] at hs;refine zA hs hw ?_;clear hs;intro a hs;exact rt1 hs rfl rfl ⟨by simp only [dO,h0,h1,h2,h3,h4,h5];rfl,hw.end inn⟩
 |false=>
 rw [h5] at hs;refine zA hs hw ?_;clear hs;intro a hs;have h8:l.length≤8:=by simp at h5;omega
 have hmb:dO c q l=(l.all fL && decide (((eA c q l).length:Int)≤1200)):=by unfold dO;rw [h0,h1,h2,h3,h4,h5];simp
 rw [hmb];clear hmb h0 h1 h2 h3 h4 h5;obtain ⟨b1,q1⟩:=nm1 hw;subst q1;have hw:Has 0 w _ (aA b1 [.int .i64 c,.int .i64 q,.slice sad l.length scap] 66::Old w 0:: []):=hw;refine bX (σ:=Nat) (fun i=>[(1,.pointer (some ⟨b1,0,none⟩)),(36,.slice sad l.length scap),(37,.int .i64 (l.length:Int)),(38,.int .i64 (i:Int))]) (fun _=>aA b1 [.int .i64 c,.int .i64 q,.slice sad l.length scap] 66::Old w 0:: []) (fun i=>i≤l.length∧(l.take i).all fL=true) (fun i=>l.length - i) 0 ⟨Nat.zero_le _,rfl⟩ hs ⟨rfl,rfl,rfl,rfl,trivial⟩ hw ?_;clear hs hw;rintro i a W ⟨hi,ha⟩ hs hw;refine zA hs hw ?_;clear hs;intro a hs;refine cI hs (kt:=fun hcc=>?_) (kf:=fun hcc=>?_)
 ·have hi':i<l.length:=by simpa using hcc
  obtain ⟨o,hoi⟩:∃o,l[i]? =some o:=⟨l[i],List.getElem?_eq_getElem hi'⟩
  have hok:=ho o (List.mem_of_getElem? hoi);have hnext:(l.take (i+1)).all fL=fL o:=by
   rw [List.take_add_one,hoi,List.all_append,ha];simp
  have hall:fL o=false→l.all fL=false:=fun h=>by
   rw [List.all_eq_false];exact ⟨o,List.mem_of_getElem? hoi,by rw [h];simp⟩
  refine zG hs ?_;refine vY hs (r:=hw.rd inn hw.ext.size r) (ho:=hoi) (c:=?_);clear hs;intro a p off hpc hs;refine eC (z:=bZ ⟨0,⟨#[]⟩,0,0,⟨#[]⟩,0,0,⟨#[]⟩,0⟩) hs (hc:=hpc) (hl:=rfl) (c:=?_);clear hs;intro a hs;obtain ⟨kind,key,vk,vn,vs,ok,on,os,n⟩:=o;simp only [bZ] at hs;clear hpc;have hkey:=hok.key;have hvs:=hok.vs;have hos:=hok.os;simp only at hkey hvs hos
  repeat (first|(refine sxv hs hw ?_;clear hs;intro a hs)|refine sxc hs ?_|(refine sxa hs hw ?_;clear hs hw;intro a b W hw hs)|(refine sxs hs hw ?_;clear hs hw;intro W hs hw))
  refine aH hs (hc:=aAQ kind key vk vn vs ok on os n _ (by omega) (by omega) (by omega) (hT.keep (hw.end inn))) (k:=?_);rintro e0 W1 ⟨rfl,hb⟩;refine ⟨_,rfl,?_⟩;clear hs;intro a hs;replace hw:=hw.below hb;clear hb;rw [show e7 kind key vk vn vs ok on os n=fL ⟨kind,key,vk,vn,vs,ok,on,os,n⟩ from rfl] at hs;cases hm:fL ⟨kind,key,vk,vn,vs,ok,on,os,n⟩ with
  |false=>
   rw [hm] at hs;refine zA hs hw ?_;clear hs;intro a hs;exact rt1 hs rfl rfl ⟨by rw [hall hm];rfl,hw.end inn⟩
  |true=>
   rw [hm] at hs hnext;refine zA hs hw ?_;clear hs;intro a hs;have hw:=hw.d1;exact bS (i+1) hs hw ⟨by omega,hnext⟩ (by show l.length - (i+1)<l.length - i;omega) ⟨rfl,rfl,rfl,bU (by show IntKind.i64.wrap ((i:Int)+1)=((i+1:Nat):Int);rw [IntWalk.i64_in _ (by omega)];omega),trivial⟩
 ·have hi':i=l.length:=by simp at hcc;omega
  subst hi';rw [List.take_length] at ha;rw [ha];refine zA hs hw ?_;clear hs;intro a hs;refine aH hs (hc:=aAS c q l _ _ hc hq (by omega) ho (hw.rd inn hw.ext.size r)) (k:=?_);rintro e0 W1 ⟨ad,cap,rfl,hw1⟩;refine ⟨_,rfl,?_⟩;clear hs;intro a hs;replace hw:=hw.call hw1;clear hw1;refine zA hs hw ?_;clear hs;intro a hs;exact rt1 hs rfl rfl ⟨by simp,hw.end inn⟩
theorem pF (c q:Int) (l:List OpD) (sv:Value) (w:World) (hc:i64 c) (hq:i64 q) (ho:∀o∈l,OpOk o) (r:Rd w 9 sv l.length (l.flatMap bZ)) (hT:Tabs w):
  Calls prog 117 ⟨[.agg ⟨[.int .i64 c,.int .i64 q,sv]⟩]⟩ w fun e w'=>∃ad cap,e= .returned (.slice ad (if dO c q l then eA c q l else []).length cap)∧(dO c q l=false→ad=none∧cap=0)∧Has 0 w w' (OwnB 5 (.slice ad (if dO c q l then eA c q l else []).length cap) (if dO c q l then eA c q l else [])::Old w 0:: []):=by
 have hw:=Has.start (G:=0) (w:=w) (Nat.zero_le _);obtain ⟨sad,scap,rfl⟩:∃ad cap,sv= .slice ad l.length cap:=by obtain ⟨_,ad,cap,e,_⟩:=r;exact ⟨ad,cap,e⟩
 have hlen:l.length≤9223372036854775807:=r.len;refine en Tryz.func117 Tryz.ntmps117 fun a hs=>?_
 repeat (first|(refine sxv hs hw ?_;clear hs;intro a hs)|refine sxc hs ?_|(refine sxa hs hw ?_;clear hs hw;intro a b W hw hs)|(refine sxs hs hw ?_;clear hs hw;intro W hs hw))
 refine aH hs (hc:=r6 c q l _ _ hc hq ho (hw.rd inn hw.ext.size r) (hT.keep (hw.end inn))) (k:=?_);rintro e0 W1 ⟨rfl,hb⟩;refine ⟨_,rfl,?_⟩;clear hs;intro a hs;replace hw:=hw.below hb;clear hb;cases hm:dO c q l with
 |false=>
  rw [hm] at hs;refine zA hs hw ?_;clear hs;intro a hs;have hw:=(hw.nilB 5).sub (List.Sublist.cons_cons _ (List.Sublist.cons _ (List.Sublist.refl _)));exact rt1 hs rfl rfl ⟨none,0,rfl,fun _=>⟨rfl,rfl⟩,hw⟩
 |true=>
  rw [hm] at hs;have h8:l.length≤8:=by
   unfold dO at hm;simp only [Bool.and_eq_true,Bool.not_eq_true',decide_eq_false_iff_not] at hm;omega
  refine zA hs hw ?_;clear hs;intro a hs;refine aH hs (hc:=aAS c q l _ _ hc hq (by omega) ho (hw.rd inn hw.ext.size r)) (k:=?_);rintro e0 W1 ⟨ad,cap,rfl,hw1⟩;refine ⟨_,rfl,?_⟩;clear hs;intro a hs;replace hw:=hw.call hw1;clear hw1;refine zA hs hw ?_;clear hs;intro a hs;have hw:=hw.sub (List.Sublist.cons_cons _ (List.Sublist.cons _ (List.Sublist.refl _)));exact rt1 hs rfl rfl ⟨ad,cap,rfl,fun h=>(Bool.noConfusion h),hw⟩
theorem aFC {s t:ByteArray} (h:s.toList=t.toList):s=t:=by
 rw [Go.ByteArray.toList_eq,Go.ByteArray.toList_eq] at h;apply ByteArray.ext;exact Array.toList_inj.1 h
theorem aA0 (s:ByteArray):(⟨s.data.toList.toArray⟩:ByteArray)=s:=by
 apply ByteArray.ext;simp
theorem pG {k n:Int} {s:ByteArray} {k' n':Int} {s':ByteArray}:d9 k n s k' n' s'=true↔k=k'∧n=n'∧s=s':=by
 unfold d9;simp only [Bool.and_eq_true,beq_iff_eq];constructor
 ·rintro ⟨⟨h1,h2⟩,h3⟩;exact ⟨h1,h2,aFC h3⟩
 ·rintro ⟨rfl,rfl,rfl⟩;exact ⟨⟨rfl,rfl⟩,rfl⟩
theorem mK {c q:Int} {l:List OpD} (h:dO c q l=true):(1≤c∧c≤5)∧(1≤q∧q≤1099511627776)∧(1≤l.length∧l.length≤8)∧l.all fL=true∧(eA c q l).length≤1200:=by
 unfold dO at h;simp only [Bool.and_eq_true,Bool.not_eq_true',decide_eq_false_iff_not,decide_eq_true_eq] at h;obtain ⟨⟨⟨⟨⟨⟨⟨h1,h2⟩,h3⟩,h4⟩,h5⟩,h6⟩,h7⟩,h8⟩:=h;exact ⟨by omega,by omega,by omega,h7,by omega⟩
def kW (o o':OpD):Bool:=(o.kind == o'.kind) && (o.key.toList == o'.key.toList) && d9 o.vk o.vn o.vs o'.vk o'.vn o'.vs && d9 o.ok o.on o.os o'.ok o'.on o'.os && (o.n == o'.n)
def lQ (l l':List OpD):Bool:=(l.zip l').all fun p=>kW p.1 p.2
theorem aFD (c q:Int) (l:List OpD):0<(eA c q l).length:=by
 have h4:0<(Ph.putI c).length:=List.length_pos_iff.2 (Ph.putI_ne_nil c);unfold eA iJ;simp only [List.length_append];omega
theorem aF1 {n:Int} (h:(Lit.int .i64 n).wf=true):i64 n:=by
 have:=(Lit.wf_int_iff .i64 n).1 h;show -9223372036854775808≤n∧n≤9223372036854775807;simpa [IntKind.min,IntKind.max,IntKind.signed,IntKind.bits] using this
def bI (s:List UInt8×Bool):List UInt8×Bool:=tk s (Ph.getI s.1).2.1 (Ph.getI s.1).2.2
def eT (s:List UInt8×Bool):List UInt8×Bool:=tk s (Ph.getT s.1).2.1 (Ph.getT s.1).2.2
def dW (s:List UInt8×Bool):List UInt8×Bool:=tk s (getR s.1).2.1 (getR s.1).2.2
def dT (s:List UInt8×Bool):OpD×(List UInt8×Bool):=
 let kind:=(Ph.getI s.1).1
 let s1:=bI s
 let key:ByteArray:=⟨(Ph.getT s1.1).1.toArray⟩
 let s2:=eT s1
 if kind=3 then
  let s3:=dW s2
  (⟨kind,key,(getR s2.1).1.1,(getR s2.1).1.2.1,(getR s2.1).1.2.2,(getR s3.1).1.1,(getR s3.1).1.2.1,(getR s3.1).1.2.2,0⟩,dW s3)
 else if kind=1 then (⟨kind,key,(getR s2.1).1.1,(getR s2.1).1.2.1,(getR s2.1).1.2.2,0,0,⟨#[]⟩,0⟩,dW s2)
 else if kind=4 then (⟨kind,key,0,0,⟨#[]⟩,0,0,⟨#[]⟩,(Ph.getI s2.1).1⟩,bI s2)
 else (⟨kind,key,0,0,⟨#[]⟩,0,0,⟨#[]⟩,0⟩,s2)
theorem aFf (w0 W:World) (p:Nat) (sv:Value) (s:List UInt8×Bool) (R:List Res) (i:In (Old w0 0) R) (r:RdB w0 sv s.1) (hT:Tabs w0) (hw:Has 0 w0 W (aA p [sv,.bool s.2] 312::R)):
  Calls prog 233 ⟨[.pointer (some ⟨p,0,none⟩)]⟩ W fun e W'=>e= .returned (.agg ⟨bZ (dT s).1⟩)∧∃sv',RdB w0 sv' (dT s).2.1∧Has 0 w0 W' (aA p [sv',.bool (dT s).2.2] 312::R):=by
 refine en Tryz.func233 Tryz.ntmps233 fun a hs=>?_
 repeat (first|(refine sxv hs hw ?_;clear hs;intro a hs)|refine sxc hs ?_|(refine sxa hs hw ?_;clear hs hw;intro a b W hw hs)|(refine sxs hs hw ?_;clear hs hw;intro W hs hw))
 have hw:=hw.swap2;refine aH hs (hc:=pL w0 _ p sv s _ (In.tl i) r hw) (k:=?_);rintro e0 W1 ⟨rfl,sv1,r1,hw'⟩;refine ⟨_,rfl,?_⟩;clear hs hw;intro a hs;have hw:=hw';clear hw';rw [show tk s (Ph.getI s.1).2.1 (Ph.getI s.1).2.2=bI s from rfl] at hw r1
 repeat (first|(refine sxv hs hw ?_;clear hs;intro a hs)|refine sxc hs ?_|(refine sxa hs hw ?_;clear hs hw;intro a b W hw hs)|(refine sxs hs hw ?_;clear hs hw;intro W hs hw))
 have hw:=hw.swap2;refine aH hs (hc:=sE _ sv1 (bI s).1 (hw.rd (In.tl (In.tl (In.tl i))) hw.ext.size r1)) (k:=?_);rintro e0 W1 ⟨rfl,rfl⟩;refine ⟨_,rfl,?_⟩;clear hs;intro a hs;refine zA hs hw ?_;clear hs;intro a hs;refine aH hs (hc:=wI w0 _ p sv1 (bI s) _ _ _ (In.tl (In.tl i)) r1 (pK (bI s).1) hw) (k:=?_);rintro e0 W1 ⟨rfl,sv2,r2,hw'⟩;refine ⟨_,rfl,?_⟩;clear hs hw;intro a hs;have hw:=hw';clear hw';rw [show tk (bI s) (Ph.getT (bI s).1).2.1 (Ph.getT (bI s).1).2.2=eT (bI s) from rfl] at hw r2;obtain ⟨key,hkey⟩:∃key:ByteArray,(⟨(Ph.getT (bI s).1).1.toArray⟩:ByteArray)=key:=⟨_,rfl⟩
 rw [hkey] at hs;obtain ⟨K,hK⟩:∃K,(Ph.getI s.1).1=K:=⟨_,rfl⟩
 have hD:dT s=(if K=3 then (⟨K,key,(getR (eT (bI s)).1).1.1,(getR (eT (bI s)).1).1.2.1,(getR (eT (bI s)).1).1.2.2,(getR (dW (eT (bI s))).1).1.1,(getR (dW (eT (bI s))).1).1.2.1,(getR (dW (eT (bI s))).1).1.2.2,0⟩,dW (dW (eT (bI s))))
   else if K=1 then (⟨K,key,(getR (eT (bI s)).1).1.1,(getR (eT (bI s)).1).1.2.1,(getR (eT (bI s)).1).1.2.2,0,0,⟨#[]⟩,0⟩,dW (eT (bI s)))
   else if K=4 then (⟨K,key,0,0,⟨#[]⟩,0,0,⟨#[]⟩,(Ph.getI (eT (bI s)).1).1⟩,bI (eT (bI s)))
   else (⟨K,key,0,0,⟨#[]⟩,0,0,⟨#[]⟩,0⟩,eT (bI s))):=by unfold dT;simp only;rw [hkey,hK]
 rw [hK] at hs hw;clear hkey hK;generalize eT (bI s)=s2 at *;rw [hD];clear hD;refine zB hs hw ?_;clear hs hw;intro a W hs hw
 by_cases k3:K=3
 ·subst k3;refine zA hs hw ?_;clear hs;intro a hs;refine aH hs (hc:=wJ w0 _ p sv2 s2 _ (In.tl (In.tl i)) r2 hT hw) (k:=?_);rintro e0 W1 ⟨rfl,sv3,r3,hw'⟩;refine ⟨_,rfl,?_⟩;clear hs hw;intro a hs;have hw:=hw';clear hw';rw [show tk (s2) (getR (s2).1).2.1 (getR (s2).1).2.2=dW (s2) from rfl] at hw r3;refine zB hs hw ?_;clear hs hw;intro a W hs hw;refine aH hs (hc:=wJ w0 _ p sv3 (dW s2) _ (In.tl (In.tl i)) r3 hT hw) (k:=?_);rintro e0 W1 ⟨rfl,sv4,RR,hw'⟩;refine ⟨_,rfl,?_⟩;clear hs hw;intro a hs;have hw:=hw';clear hw';rw [show tk ((dW s2)) (getR ((dW s2)).1).2.1 (getR ((dW s2)).1).2.2=dW ((dW s2)) from rfl] at hw RR;refine zB hs hw ?_;clear hs hw;intro a W hs hw;have hw':=hw.sub (List.Sublist.cons_cons _ (List.Sublist.cons _ (List.Sublist.cons _ (List.Sublist.refl _))));refine rc1 hs rfl rfl hw (In.tl (In.tl In.hd)) rfl ?_;rw [if_pos rfl];exact ⟨rfl,_,RR,hw'⟩
 have e3:(K == 3)=false:=by simpa using k3
 rw [e3] at hs;refine zA hs hw ?_;clear hs;intro a hs
 by_cases k1:K=1
 ·subst k1;refine zA hs hw ?_;clear hs;intro a hs;refine aH hs (hc:=wJ w0 _ p sv2 s2 _ (In.tl (In.tl i)) r2 hT hw) (k:=?_);rintro e0 W1 ⟨rfl,sv3,RR,hw'⟩;refine ⟨_,rfl,?_⟩;clear hs hw;intro a hs;have hw:=hw';clear hw';rw [show tk (s2) (getR (s2).1).2.1 (getR (s2).1).2.2=dW (s2) from rfl] at hw RR;refine zB hs hw ?_;clear hs hw;intro a W hs hw;have hw':=hw.sub (List.Sublist.cons_cons _ (List.Sublist.cons _ (List.Sublist.cons _ (List.Sublist.refl _))));refine rc1 hs rfl rfl hw (In.tl (In.tl In.hd)) rfl ?_;rw [if_neg k3,if_pos rfl];exact ⟨rfl,_,RR,hw'⟩
 have e1:(K == 1)=false:=by simpa using k1
 rw [e1] at hs;refine zA hs hw ?_;clear hs;intro a hs
 by_cases k4:K=4
 ·subst k4;refine zA hs hw ?_;clear hs;intro a hs;refine aH hs (hc:=pL w0 _ p sv2 s2 _ (In.tl (In.tl i)) r2 hw) (k:=?_);rintro e0 W1 ⟨rfl,sv3,RR,hw'⟩;refine ⟨_,rfl,?_⟩;clear hs hw;intro a hs;have hw:=hw';clear hw';rw [show tk s2 (Ph.getI s2.1).2.1 (Ph.getI s2.1).2.2=bI s2 from rfl] at hw RR;refine zB hs hw ?_;clear hs hw;intro a W hs hw;have hw':=hw.sub (List.Sublist.cons_cons _ (List.Sublist.cons _ (List.Sublist.cons _ (List.Sublist.refl _))));refine rc1 hs rfl rfl hw (In.tl (In.tl In.hd)) rfl ?_;rw [if_neg k3,if_neg k1,if_pos rfl];exact ⟨rfl,_,RR,hw'⟩
 have e4:(K == 4)=false:=by simpa using k4
 rw [e4] at hs;have RR:=r2;refine zB hs hw ?_;clear hs hw;intro a W hs hw;have hw':=hw.sub (List.Sublist.cons_cons _ (List.Sublist.cons _ (List.Sublist.cons _ (List.Sublist.refl _))));refine rc1 hs rfl rfl hw (In.tl (In.tl In.hd)) rfl ?_;rw [if_neg k3,if_neg k1,if_neg k4];exact ⟨rfl,_,RR,hw'⟩
end Go.Proofs.YtgpbngfehfbndaaGreatDoor.Sw
