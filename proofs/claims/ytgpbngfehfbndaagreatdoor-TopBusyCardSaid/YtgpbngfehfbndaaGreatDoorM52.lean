/-
  Texts of the proof, one behind the other (part 52).
-/
import Derived.Test.YtgpbngfehfbndaaGreatDoorM48
import Derived.Test.YtgpbngfehfbndaaGreatDoorChecked
import Derived.Test.YtgpbngfehfbndaaGreatDoorProg
set_option maxHeartbeats 16000000
set_option linter.unusedVariables false
set_option maxRecDepth 10000
namespace Go.Proofs.YtgpbngfehfbndaaGreatDoor.Sw
open Go.RowKit Go.Sx
def i3 (l:List Int) (x:Int):List Int×Bool:=match cV l && has l x && cV (l.filter fun y=>y !=x) with|false=>([],false)|true=>(l.filter fun y=>y !=x,true)
namespace RaftD
end RaftD
def vJ (d:bF) (s:cN) (add:Bool) (id:Int):Option (bF×cN×List bS×Int):=
 if s.r.role≠2 then some (d,s,[],9)
 else if (match add with|true=>iR s.r.l.conf.1 id|false=>i3 s.r.l.conf.1 id).2=false then some (d,s,[],1)
 else if (s.r.propose 3 ⟨(d8 (match add with|true=>iR s.r.l.conf.1 id|false=>i3 s.r.l.conf.1 id).1).toArray⟩).2.2.2≠0 then some (d,s,[],(s.r.propose 3 ⟨(d8 (match add with|true=>iR s.r.l.conf.1 id|false=>i3 s.r.l.conf.1 id).1).toArray⟩).2.2.2)
 else (lK d {s with r:=(s.r.propose 3 ⟨(d8 (match add with|true=>iR s.r.l.conf.1 id|false=>i3 s.r.l.conf.1 id).1).toArray⟩).1} (s.r.propose 3 ⟨(d8 (match add with|true=>iR s.r.l.conf.1 id|false=>i3 s.r.l.conf.1 id).1).toArray⟩).2.2.1).map fun x=>(x.1,x.2.1,x.2.2,0)
def vK (w:bC) (id:Int) (add:Bool) (who:Int):Option (bC×Int):=
 match at? w.servers id,at? w.sd id with
 |none,_=>some (w,12)
 |some s,some d=>(vJ d s add who).map fun x=>(uQ w id (x.1,x.2.1,x.2.2.1) w.n,x.2.2.2)
 |_,none=>none
section
variable {w0 W:World} {R L:List Res} {x y:Int} {b3 g cap:Nat} {l A B:List Int}
abbrev vL (b3:Nat):Value:= .func (.func 188) ⟨[]⟩ ⟨[ptr b3]⟩
theorem zZ (A B:List Int):cS (A ++ B)=cS A ++ cS B:=List.map_append
theorem pD (A:List Int):(cS A).length=A.length:=List.length_map _
theorem aDa (hw:Has 0 w0 W (aA b3 [.int .i64 x] 3::R)):
  Calls Tryz.prog 188 ⟨[.int .i64 y] ++ [ptr b3]⟩ W fun e W'=>e= .returned (.bool (y == x))∧Has 0 w0 W' (aA b3 [.int .i64 x] 3::R):=by
 show Calls Tryz.prog 188 ⟨[.int .i64 y,ptr b3]⟩ W _;refine enter Tryz.func188 Tryz.ntmps188 rfl rfl fun a hs=>?_;refine sv hs hw fun a hs=>?_;exact rt1 hs rfl rfl ⟨rfl,hw⟩
theorem aJc {v:Value} (l:List Int) (hl:l.length≤1000) (r:∀{W},Has 0 w0 W (aA b3 [.int .i64 x] 3::R)→Rd W 1 v l.length (bU l)) (hw:Has 0 w0 W (aA b3 [.int .i64 x] 3::R)):
  Calls Tryz.prog 256 ⟨[v,vL b3]⟩ W fun e W'=>e= .returned (.int .i64 (if (l.takeWhile (· !=x)).length<l.length then ((l.takeWhile (· !=x)).length:Int) else -1))∧Has 0 w0 W' (aA b3 [.int .i64 x] 3::R):=by
 obtain ⟨sad,scap,rfl⟩:∃ad cap,v= .slice ad l.length cap:=by obtain ⟨_,ad,cap,e,_⟩:=r hw;exact ⟨ad,cap,e⟩
 refine enter Tryz.func256 Tryz.ntmps256 rfl rfl fun a hs=>?_;refine sv hs hw fun a hs=>?_;refine bY (σ:=Nat) (fun j=>[(0,.slice sad l.length scap),(1,vL b3),(7,.int .i64 (l.length:Int)),(8,.int .i64 (j:Int))]) (fun _=>aA b3 [.int .i64 x] 3::R) (fun j=>j≤l.length∧(l.takeWhile (· !=x)).length=j+((l.drop j).takeWhile (· !=x)).length) (fun j=>l.length - j) 0 ⟨Nat.zero_le _,by simp⟩ hs ⟨rfl,rfl,rfl,rfl,trivial⟩ hw ?_;clear hs hw;rintro j a W ⟨hj,ha⟩ hs hw;refine sv hs hw fun a hs=>?_;refine cI hs (kt:=fun hcc=>?_) (kf:=fun hcc=>?_)
 ·have hj':j<l.length:=by simpa using hcc
  obtain ⟨o,ho,hd⟩:=dR hj';rw [hd] at ha;refine sv hs hw fun a hs=>?_;refine hQ hs (r:=r hw) (hi:=ho) (hlen:=rfl) (c:=fun a b o2 hs=>?_);refine sN hs (vs:=[.int .i64 o]) (cs:=[ptr b3]) (hf:=by kernel_rfl) (hc:=aDa (y:=o) hw) (k:=?_);rintro e0 W1 ⟨rfl,hw⟩;refine ⟨_,rfl,fun a hs=>?_⟩;cases hq:o == x with
  |true=>
   rw [hq] at hs;have h9:(l.takeWhile (· !=x)).length=j:=by
    rw [ha,List.takeWhile_cons,show (o !=x)=!(o == x) from rfl,hq];rfl
   refine sv hs hw fun a hs=>?_;exact rt1 hs rfl rfl ⟨by rw [h9,if_pos hj'],hw⟩
  |false=>
   rw [hq] at hs;refine sv hs hw fun a hs=>?_;refine bQ (j+1) hs hw ⟨hj',?_⟩ (by show l.length - (j+1)<l.length - j;omega) ⟨rfl,rfl,rfl,bR (i1 (by omega)),trivial⟩;rw [ha,List.takeWhile_cons,show (o !=x)=!(o == x) from rfl,hq];simp;omega
 ·have h9:l.drop j= []:=List.drop_eq_nil_of_le (by simp at hcc;omega);rw [h9] at ha;have hl9:l.length≤(l.takeWhile (· !=x)).length:=by simp at hcc ha;omega
  refine sv hs hw fun a hs=>?_;exact rt1 hs rfl rfl ⟨by rw [if_neg (by omega)],hw⟩
theorem aJd (X S:List Int) (p y:Int) (ext:List Value):(cS (X ++ p::y::S) ++ ext)[X.length+1]? =some (.int .i64 y):=by
 rw [List.getElem?_append_left (by simp),List.getElem?_map,List.getElem?_append_right (by omega)];simp
theorem aDb (X S:List Int) (p y:Int) (ext:List Value):ov (cS (X ++ p::S) ++ ext) X.length [.int .i64 y]=cS (X ++ y::S) ++ ext:=by
 rw [zZ,zZ,List.append_assoc,List.append_assoc];rw [kC _ _ _ (by rw [List.length_append,pD,List.length_append,pD];simp;omega)];rw [List.take_left' (pD X),List.drop_append,pD,List.drop_eq_nil_of_le (by rw [pD];simp)];simp
theorem aDc:∀{l:List Int},(l.takeWhile (· !=x)).length<l.length→∃A B,l=A ++ x::B∧x∉A∧(l.takeWhile (· !=x)).length=A.length
 | [],h=>by simp at h
 |z::l,h=>by
  by_cases hz:z=x
  ·exact ⟨[],l,by rw [hz];rfl,by simp,by rw [List.takeWhile_cons,if_neg (by simp [hz]),List.length_nil]⟩
  ·rw [List.takeWhile_cons,if_pos (by simp [hz])] at h⊢;obtain ⟨A,B,h1,h2,h3⟩:=aDc (l:=l) (by simp at h;omega);exact ⟨z::A,B,by rw [h1];rfl,by simp only [List.mem_cons,not_or];exact ⟨fun e=>hz e.symm,h2⟩,by simp [h3]⟩
theorem z1 {l:List Int} (h:x∉l):l.filter (· !=x)=l:=List.filter_eq_self.2 fun z hz=>by
 simp only [bne_iff_ne,ne_eq];intro e;exact h (e▸hz)
theorem aDd:∀{l:List Int},¬(l.takeWhile (· !=x)).length<l.length→x∉l
 | [],_=>by simp
 |z::l,h=>by
  by_cases hz:z=x
  ·rw [List.takeWhile_cons,if_neg (by simp [hz])] at h;simp at h
  ·rw [List.takeWhile_cons,if_pos (by simp [hz])] at h;have:=aDd (l:=l) (by simp at h;omega);simp only [List.mem_cons,not_or];exact ⟨fun e=>hz e.symm,this⟩
theorem aJe {ad:Option Addr} (l:List Int) (hl:l.length≤1000) (hnd:l.Nodup) (hw:Has 0 w0 W (aN (.slice ad l.length cap) l::aA b3 [.int .i64 x] 3::R)):
  Calls Tryz.prog 187 ⟨[.slice ad l.length cap,vL b3]⟩ W fun e W'=>∃s:Option Addr×Nat,e= .returned (.slice s.1 (l.filter (· !=x)).length s.2)∧True∧Has 0 w0 W' (aN (.slice s.1 (l.filter (· !=x)).length s.2) (l.filter (· !=x))::aA b3 [.int .i64 x] 3::R):=by
 refine enter Tryz.func187 Tryz.ntmps187 rfl rfl fun a hs=>?_;refine sv hs hw fun a hs=>?_;refine cl hs (aJc l hl (R:=aN (.slice ad l.length cap) l::R) (fun h=>h.rd_own (In.tl In.hd)) hw.swap2) fun a W hs hw=>?_
 by_cases hk:(l.takeWhile (· !=x)).length<l.length
 ·rw [if_pos hk] at hs;obtain ⟨A,B,rfl,hA,hAk⟩:=aDc hk;rw [hAk] at hs;have hB:x∉B:=fun h=>by
   have:=(List.nodup_append.1 hnd).2.1;exact (List.nodup_cons.1 this).1 h
  have hf:(A ++ x::B).filter (· !=x)=A ++ B:=by
   rw [List.filter_append,z1 hA,List.filter_cons,if_neg (by simp),z1 hB]
  rw [hf];have hn:(A ++ x::B).length=A.length+B.length+1:=by rw [List.length_append,List.length_cons];omega
  obtain ⟨g,cur,rfl,hcur,hcl,hkc,hcm,hw⟩:=(hw.swap2).open_own (by omega);have hx:=yT hcur;rw [hx] at hw;have hxl:cur.length=(A ++ x::B).length+(cur.drop (A ++ x::B).length).length:=by rw [List.length_drop];omega
  generalize cur.drop (A ++ x::B).length=ext at *;have hneg:(((A.length:Nat):Int) == -1)=false:=by simp
  refine sv hs hw fun a hs=>?_;rw [hneg] at hs;refine sv hs hw fun a hs=>?_;rw [show IntKind.i64.wrap ((A.length:Int)+1)=((A.length+1:Nat):Int) from i1 (by omega)] at hs;have hw:=hw.swap2;refine bY (σ:=List Int×Int×List Int) (fun z=>[(0,.slice (some ⟨g,0,none⟩) (A ++ x::B).length cap),(1,vL b3),(5,.int .i64 (z.1.length:Nat)),(6,.int .i64 ((z.1.length+1:Nat):Int))]) (fun z=>aA b3 [.int .i64 x] 3::aA g (cS (z.1 ++ z.2.1::z.2.2) ++ ext) 3::R) (fun z=>z.1 ++ z.2.2=A ++ B∧x∉z.2.2) (fun z=>z.2.2.length) (A,x,B) ⟨rfl,hB⟩ hs ⟨rfl,rfl,rfl,rfl,trivial⟩ hw ?_;clear hs hw;rintro ⟨X,p,S⟩ a W ⟨hPS,hxS⟩ hs hw;simp only at hPS hxS hs hw;have hXS:=congrArg List.length hPS;rw [List.length_append,List.length_append] at hXS;refine sv hs hw fun a hs=>?_;refine cI hs (kt:=fun hcc=>?_) (kf:=fun hcc=>?_)
  ·have hc':=of_decide_eq_true hcc;cases S with
   |nil=>simp at hXS;omega
   |cons y S=>
   rw [List.length_cons] at hXS;have hyx:(y == x)=false:=by
    simp only [beq_eq_false_iff_ne,ne_eq];intro e;exact hxS (by rw [←e];simp)
   refine sv hs hw fun a hs=>?_;refine eF hs (z:=[.int .i64 0]) (h0:=by omega) (h1:=by omega) (c:=fun a hs=>?_)
   refine fY hs (hw:=hw) (hi:=In.tl In.hd) (v:= .int .i64 y) (hv:=by
    rw [show 0+((X.length+1:Nat):Int).toNat* [Value.int .i64 0].length=X.length+1 by simp]
    exact aJd _ _ _ _ _) (k:=fun a hs=>?_)
   refine sv hs hw fun a hs=>?_;refine sN hs (vs:=[.int .i64 y]) (cs:=[ptr b3]) (hf:=by kernel_rfl) (hc:=aDa (y:=y) hw) (k:=?_);rintro e0 W1 ⟨rfl,hw⟩;refine ⟨_,rfl,fun a hs=>?_⟩;rw [hyx] at hs;refine sv hs hw fun a hs=>?_;refine eF hs (z:=[.int .i64 0]) (h0:=by omega) (h1:=by omega) (c:=fun a hs=>?_);have ho:0+((X.length:Nat):Int).toNat* [Value.int .i64 0].length=X.length:=by simp
   rw [ho] at hs;refine dY hs (hw:=hw) (hu:=Upd.tl Upd.hd) (vs:=[.int .i64 y]) (hl:=by rw [Nat.ble_eq];simp) (k:=fun W hs hw=>?_);rw [aDb] at hw;refine sv hs hw fun a hs=>?_;refine bQ (X ++ [y],y,S) hs (by show Has 0 w0 W (aA b3 [.int .i64 x] 3::aA g (cS ((X ++ [y]) ++ y::S) ++ ext) 3::R);rw [show (X ++ [y]) ++ y::S=X ++ y::y::S by simp];exact hw) ⟨by show (X ++ [y]) ++ S=A ++ B;rw [←hPS];simp,fun h=>hxS (by simp [h])⟩ (by show S.length<(y::S).length;simp) ⟨rfl,rfl,bR (by rw [i1 (by omega)];simp),bR (by rw [i1 (by omega)];simp),trivial⟩
  ·have hc':=of_decide_eq_false hcc;cases S with
   |cons y S=>exfalso;rw [List.length_cons] at hXS;omega
   |nil=>
   rw [List.append_nil] at hPS;rw [List.length_nil] at hXS;rw [←hPS];refine sv hs hw fun a hs=>?_;refine tC (z:=[.int .i64 0]) (m:=X.length) (k:=(A ++ x::B).length) hs (by omega) hkc (c:=fun a hs=>?_);rw [show gU g [Value.int .i64 0].length (A ++ x::B).length cap X.length= .slice (some ⟨g,X.length,none⟩) 1 (cap - X.length) by unfold gU;rw [if_neg (by omega),show (A ++ x::B).length=X.length+1 by omega,Nat.add_sub_cancel_left];simp] at hs;refine aCw (z:=[.int .i64 0]) (o:=X.length) (c':=cap - X.length) hs hw.swap2 (by decide) (by decide) (by simp) fun W hs hw=>?_;rw [aDb] at hw;refine sv hs hw fun a hs=>?_;refine qE (z:=[.int .i64 0]) (m:=X.length) (k:=(A ++ x::B).length) (cap:=cap) (g:=g) (o:=0) hs (by omega) hkc (by omega) (c:=fun a hs=>?_);refine sv hs hw fun a hs=>?_;refine rt1 hs rfl rfl ⟨(some ⟨g,0,none⟩,cap),rfl,trivial,?_⟩;refine hw.shut_own (k:=X.length) (size:=1) (cap:=cap) (xs:=bU X) ?_ ?_ (by omega) hcm
   ·rw [Nat.mul_one,zZ,List.append_assoc,List.take_left' (pD _)]
   ·simp at hxl hcl⊢;omega
 ·rw [if_neg hk] at hs;have hx:=aDd hk;rw [z1 hx];refine sv hs hw fun a hs=>?_;exact rt1 hs rfl rfl ⟨(ad,cap),rfl,trivial,hw.swap2⟩
theorem aDe:∀{l:List Int} {q:Int},fP (some q) l=true→(∀z∈l,q<z)∧l.Nodup
 | [],_,_=>⟨by simp,List.nodup_nil⟩
 |z::l,q,h=>by
  unfold fP at h;simp only [Bool.and_eq_true,Bool.not_eq_true',decide_eq_false_iff_not] at h;obtain ⟨⟨⟨h1,h2⟩,h3⟩,h4⟩:=h;obtain ⟨h5,h6⟩:=aDe h4;refine ⟨fun y hy=>?_,List.nodup_cons.2 ⟨fun h7=>?_,h6⟩⟩
  ·simp only [List.mem_cons] at hy;rcases hy with rfl|hy
   ·omega
   ·have:=h5 y hy;omega
  ·have:=h5 z h7;omega
theorem aJf {l:List Int} (h:cV l=true):l.Nodup:=by
 unfold cV at h;have h:=(Bool.and_eq_true_iff.1 h).1;cases l with
 |nil=>exact List.nodup_nil
 |cons z l=>
  unfold fP at h;simp only [Bool.and_eq_true] at h;obtain ⟨h5,h6⟩:=aDe h.2;exact List.nodup_cons.2 ⟨fun h7=>by have:=h5 z h7;omega,h6⟩
theorem aJg {sl:Value} (hl:l.length≤7) (hc:cV l=true) [c:dI (fun l=>aN sl l) L l R]:New Tryz.prog 113 [sl,.int .i64 x] L (Option Addr×Nat) (fun s=> .tuple ⟨[.slice s.1 (i3 l x).1.length s.2,.bool (i3 l x).2]⟩) (fun s=>aN (.slice s.1 (i3 l x).1.length s.2) (i3 l x).1::L):=⟨fun {w W} hw=>by
 refine enter Tryz.func113 Tryz.ntmps113 rfl rfl fun a hs=>?_;refine sc hs ?_;refine sn hs hw fun b3 a W hs hw=>?_;refine sv hs hw fun a hs=>?_;refine sg hs hw (fun s a W hs hw=>?_) (g:=tJ (l:=l) (by omega));refine aAt hs (k:=fun a hs=>?_);refine cle hs (aJe (x:=x) (b3:=b3) l (by omega) (aJf hc) hw) fun s2 a W _ hs hw=>?_;have e:i3 l x=match cV l && has l x && cV (l.filter (· !=x)) with|false=>([],false)|true=>(l.filter (· !=x),true):=rfl
 rw [e,hc];generalize l.filter (· !=x)=m at *;refine sv hs hw fun a hs=>?_;have drop:∀{W},Has 0 w W (aN (.slice s2.1 m.length s2.2) m::aA b3 [.int .i64 x] 3::L)→Has 0 w W (aN (.slice none 0 0) []::L):=fun h=>(h.d2).nilOwn 3 1;have hw:Has 0 w W (aN (.slice s2.1 m.length s2.2) m::aA b3 [.int .i64 x] 3::L):=hw;refine sx hs hw fun a W hs hw=>?_;rw [hc] at hs;refine sx hs hw fun a W hs hw=>?_;cases c1:has l x with
 |false=>
  rw [c1] at hs;refine sv hs hw fun a hs=>?_;exact rt2 hs rfl rfl rfl ⟨(none,0),rfl,drop hw⟩
 |true=>
 rw [c1] at hs;refine sx hs hw fun a W hs hw=>?_;cases c2:cV m with
 |false=>
  rw [c2] at hs;refine sv hs hw fun a hs=>?_;exact rt2 hs rfl rfl rfl ⟨(none,0),rfl,drop hw⟩
 |true=>
  rw [c2] at hs;refine sv hs hw fun a hs=>?_
  exact rt2 hs rfl rfl rfl ⟨s2,rfl,hw.sl⟩⟩
end
section
variable {H H':Fh} {p q pk pr pt:Nat} {s s':cN} {w0 W:World} {R L:List Res} {d d':bF} {k k':dX} {o:fQ} {ms:List bS} {err id:Int}
def i5 (s:cN) (add:Bool) (id:Int):List Int×Bool:=match add with|true=>iR s.r.l.conf.1 id|false=>i3 s.r.l.conf.1 id
theorem aJh (add:Bool):vJ d s add id=(if s.r.role≠2 then some (d,s,[],9)
 else if (i5 s add id).2=false then some (d,s,[],1)
 else if (s.r.propose 3 ⟨(d8 (i5 s add id).1).toArray⟩).2.2.2≠0 then some (d,s,[],(s.r.propose 3 ⟨(d8 (i5 s add id).1).toArray⟩).2.2.2)
 else (lK d {s with r:=(s.r.propose 3 ⟨(d8 (i5 s add id).1).toArray⟩).1} (s.r.propose 3 ⟨(d8 (i5 s add id).1).toArray⟩).2.2.1).map fun x=>(x.1,x.2.1,x.2.2,0)):=by
 unfold vJ i5;cases add <;> rfl
theorem aJi (l:List Int):(d8 l).length≤l.length:=by
 unfold d8;split <;> simp
theorem aJj (l:List Int) (x:Int):(iR l x).1.length≤l.length+1:=by
 unfold iR;split
 ·simp
 ·rw [yR];simp
theorem aJk (l:List Int) (x:Int):(i3 l x).1.length≤l.length:=by
 unfold i3;split
 ·simp
 ·exact List.length_filter_le _ _
theorem aJl (add:Bool) (hc:cV s.r.l.conf.1=true) (h:vJ d s add id=some (d',s',ms,err)) (hH:(fr w0).le H) (hT:Tabs w0) (hw:Has 0 w0 W (cC H p q s::aB nameS q d::Fz H::R)):
  Calls Tryz.prog 64 ⟨[ptr p,.bool add,.int .i64 id]⟩ W fun e W'=>∃(v:Value) (H':Fh),e= .returned (.tuple ⟨[v,.int .i64 err]⟩)∧H.le H'∧Has 0 w0 W' (aD H' v ms::cC H' p q s'::aB nameS q d'::Fz H'::R):=by
 obtain ⟨h1,h2,pk,pr,pt,hw⟩:=iY hw;obtain ⟨hmm,hvv⟩:=uG h1;have ht:=mJ h2;have h7:s.r.l.conf.1.length≤7:=oQ s.r.l s.r.l.last;rw [aJh] at h;have fin0:∀{W},Has 0 w0 W (aP p pk pr pt::aV pk q s.k::aF H pr s.r::aO H pt s.t::aB nameS q d::Fz H::R)→Has 0 w0 W (aD H (.slice none 0 0) []::cC H p q s::aB nameS q d::Fz H::R):=fun {W} g=>by
  have g:=gN g h1 h2;exact j0 (H:=H) (l:=[]) (g.nilOwn 38 13) rfl
 refine enter Tryz.func64 Tryz.ntmps64 rfl rfl fun a hs=>?_;refine sv hs hw fun a hs=>?_;refine cl hs (uH hw) fun a W hs hw=>?_;refine sv hs hw fun a hs=>?_;have hw:Has 0 w0 W (aF H pr s.r::aP p pk pr pt::aV pk q s.k::aO H pt s.t::aB nameS q d::Fz H::R):=hw.pm;refine cl hs (uD hw) fun a W hs hw=>?_;refine sv hs hw fun a hs=>?_;rw [show (s.r.role !=2)=!(s.r.role == 2) from rfl] at hs;cases c2:s.r.role == 2 with
 |false=>
  rw [c2] at hs;rw [if_pos (by simpa using c2)] at h;injection h with h;injection h with e1 h;injection h with e2 h;injection h with e3 e4;subst e1 e2 e3 e4;refine sv hs hw fun a hs=>?_;exact rt2 hs rfl rfl rfl ⟨_,H,rfl,Fh.le.refl H,fin0 (hw.pm)⟩
 |true=>
 rw [c2] at hs;rw [if_neg (by simpa using c2)] at h;obtain ⟨pl,pv,pu,mv,hw⟩:=dG hw;refine sv hs hw fun a hs=>?_;refine cl hs (oS hw) fun a W hs hw=>?_;refine sg hs hw (fun x a W hs hw=>?_) (g:=qR (l:=s.r.l));refine sv hs hw fun a hs=>?_;refine sg hs hw (fun y a W hs hw=>?_) (g:=aHi (l:=s.r.l.conf.1) (x:=id) h7);refine sv hs hw fun a hs=>?_;have hNl:(i5 s add id).1.length≤8:=by
  unfold i5;cases add
  ·exact Nat.le_trans (aJk _ _) (by omega)
  ·exact Nat.le_trans (aJj _ _) (by omega)
 refine eW (M:=fun a W=>∃(lad:Option Addr) (lcap:Nat),Slots a 71 [(0,ptr p),(10,.slice lad (i5 s add id).1.length lcap),(11,.bool (i5 s add id).2)]∧Has 0 w0 W (aN (.slice lad (i5 s add id).1.length lcap) (i5 s add id).1::aK pr s.r pl pv pu mv::aH pl s.r.l::VoR pv s.r.v::ToR pu s.r.t::aD H mv s.r.out.msgs::aP p pk pr pt::aV pk q s.k::aO H pt s.t::aB nameS q d::Fz H::R)) ?_ ?_
 ·cases add with
  |true=>
   refine sc hs ?_;exact ⟨y.1,y.2,hs.ot,hw.sl⟩
  |false=>
   refine sv hs hw fun a hs=>?_;refine sg hs hw (fun z a W hs hw=>?_) (g:=aJg (l:=s.r.l.conf.1) (x:=id) h7 hc);refine sv hs hw fun a hs=>?_;exact ⟨z.1,z.2,hs.ot,hw.sl⟩
 clear hs hw;rintro a W ⟨lad,lcap,hs,hw⟩;generalize i5 s add id=N at *;obtain ⟨lc,lok⟩:=N;simp only at hs hw h hNl;have hw:Has 0 w0 W (aK pr s.r pl pv pu mv::aH pl s.r.l::VoR pv s.r.v::ToR pu s.r.t::aD H mv s.r.out.msgs::Fz H::aN (.slice lad lc.length lcap) lc::aP p pk pr pt::aV pk q s.k::aO H pt s.t::aB nameS q d::R):=hw.pm;have hw:=cG hw;refine sv hs hw fun a hs=>?_;cases lok with
 |false=>
  rw [if_pos rfl] at h;injection h with h;injection h with e1 h;injection h with e2 h;injection h with e3 e4;subst e1 e2 e3 e4;refine sv hs hw fun a hs=>?_;exact rt2 hs rfl rfl rfl ⟨_,H,rfl,Fh.le.refl H,fin0 (hw.sl)⟩
 |true=>
 rw [if_neg (by simp)] at h;obtain ⟨P,hP⟩:∃P,P=s.r.propose 3 ⟨(d8 lc).toArray⟩:=⟨_,rfl⟩
 rw [←hP] at h;have hBsz:(⟨(d8 lc).toArray⟩:ByteArray).size≤1000000:=by
  have:=aJi lc;show (d8 lc).toArray.size≤1000000;rw [List.size_toArray];omega
 have hprop:∀{W} {R:List Res},Has 0 w0 W (aF H pr s.r::Fz H::R)→Calls Tryz.prog 114 ⟨[ptr pr,.int .i64 3,.string ⟨(d8 lc).toArray⟩]⟩ W fun e W'=>∃(H':Fh) (x:Option Addr×Nat),e= .returned (.tuple ⟨[.int .i64 P.2.1,.agg ⟨aU P.2.2.1 (.slice x.1 P.2.2.1.msgs.length x.2)⟩,.int .i64 P.2.2.2]⟩)∧H.le H'∧Has 0 w0 W' (aD H' (.slice x.1 P.2.2.1.msgs.length x.2) P.2.2.1.msgs::aF H' pr P.1::Fz H'::R):=by
  intro W R hw;rw [hP];exact aCe 3 _ hBsz hmm hw
 have hPe:P.2.2.2≠0→P.1=s.r:=by rw [hP];exact aCv _ _ _
 clear hP;replace hs:Slots a 71 [(48,.bool false),(0,ptr p),(10,.slice lad lc.length lcap)]:=hs.ot;refine sc hs ?_;refine fM (G:=0) (w:=w0) (σ:=Un) (V:=fun u=>[ptr p,ptr p,.pointer (some ⟨p,0+1,none⟩),ptr pr,.slice lad lc.length lcap,.string ⟨(d8 lc).toArray⟩,.tuple ⟨[.int .i64 P.2.1,.agg ⟨aU P.2.2.1 (.slice (u 6).ad P.2.2.1.msgs.length (u 6).cap)⟩,.int .i64 P.2.2.2]⟩,.tuple ⟨[.int .i64 P.2.1,.agg ⟨aU P.2.2.1 (.slice (u 7).ad P.2.2.1.msgs.length (u 7).cap)⟩,.int .i64 P.2.2.2]⟩,.int .i64 P.2.1,.agg ⟨aU P.2.2.1 (.slice (u 9).ad P.2.2.1.msgs.length (u 9).cap)⟩,.int .i64 P.2.2.2,ptr (u 11).n,.int .i64 P.2.1,.bool true,.int .i64 P.2.2.2])
  (Rs:=fun u D=>(if D 11 then aA (u 11).n (if D 13 then aU P.2.2.1 (.slice (u 6).ad P.2.2.1.msgs.length (u 6).cap) else aU bT (.slice none 0 0)) 103 else bI)::bO ((D 7=true→u 7=u 6)∧(D 9=true→u 9=u 6))::(if D 6 then FzF (u 6).H (Fh.le H (u 6).H) else Fz H)::(if D 6 then aD (u 6).H (.slice (u 6).ad P.2.2.1.msgs.length (u 6).cap) P.2.2.1.msgs else bI)::(if D 6 then aF (u 6).H pr P.1 else aF H pr s.r)::aN (.slice lad lc.length lcap) lc::aP p pk pr pt::aV pk q s.k::aO H pt s.t::aB nameS q d::R) (fun _=>{}) hs ?h0 (hVu:=?vu) (ho:=⟨dru,dru,dru,dru,dru,?c5,?c6,?c7,dru,?c9,dru,?c11,dru,?c13,dru,trivial⟩) (k:=?kk)
 case h0=>exact (((hw.pm:Has 0 w0 W (aF H pr s.r::Fz H::aN (.slice lad lc.length lcap) lc::aP p pk pr pt::aV pk q s.k::aO H pt s.t::aB nameS q d::R)).free.fact (show (false=true→({}:Un)= {})∧(false=true→({}:Un)= {}) from ⟨fun _=>rfl,fun _=>rfl⟩)).free).pm
 case vu=>
  intro u u' j h;rcases j with _|_|_|_|_|_|_|_|_|_|_|_|_|_|_|j
  all_goals first|rfl|simp [h]
 case c5=>
  intro u LD D a W hcl hi hp hs hw;have hw:Has 0 w0 W ((if D 11 then aA (u 11).n (if D 13 then aU P.2.2.1 (.slice (u 6).ad P.2.2.1.msgs.length (u 6).cap) else aU bT (.slice none 0 0)) 103 else bI)::bO ((D 7=true→u 7=u 6)∧(D 9=true→u 9=u 6))::(if D 6 then FzF (u 6).H (Fh.le H (u 6).H) else Fz H)::(if D 6 then aD (u 6).H (.slice (u 6).ad P.2.2.1.msgs.length (u 6).cap) P.2.2.1.msgs else bI)::(if D 6 then aF (u 6).H pr P.1 else aF H pr s.r)::aN (.slice lad lc.length lcap) lc::aP p pk pr pt::aV pk q s.k::aO H pt s.t::aB nameS q d::R):=hw;refine kG hs hw (fun a W hs hw=>?_) (g:=aCU (l:=lc));exact Or.inl ⟨hs,hw⟩
 case c6=>
  intro u LD D a W hcl hi hp hs hw;have n7:=Go.Sx.not_done hcl hi 7 (by kernel_rfl);have n9:=Go.Sx.not_done hcl n7 9 (by kernel_rfl);have n13:=Go.Sx.not_done hcl hi 13 (by kernel_rfl);simp only [hi,n13,Bool.false_eq_true,if_false] at hw;have hw:Has 0 w0 W (aF H pr s.r::Fz H::(if D 11=true then aA (u 11).n (aU bT (.slice none 0 0)) 103 else bI)::aN (.slice lad lc.length lcap) lc::aP p pk pr pt::aV pk q s.k::aO H pt s.t::aB nameS q d::R):=hw.sl;refine aG hs (hc:=hprop hw) (k:=?_);rintro e' W' ⟨H2,x,rfl,hle2,hw⟩;refine ⟨_,rfl,fun a hs=>?_⟩;refine Or.inr ⟨{ad:=x.1,cap:=x.2,H:=H2},hs,?_⟩;have hw:Has 0 w0 W' (Fz H2::aD H2 (.slice x.1 P.2.2.1.msgs.length x.2) P.2.2.1.msgs::aF H2 pr P.1::(if D 11=true then aA (u 11).n (aU bT (.slice none 0 0)) 103 else bI)::aN (.slice lad lc.length lcap) lc::aP p pk pr pt::aV pk q s.k::aO H pt s.t::aB nameS q d::R):=hw.pm;have hw:=(hw.fzf hle2).fact (show (false=true→u 7=({ad:=x.1,cap:=x.2,H:=H2}:Un))∧(false=true→u 9=({ad:=x.1,cap:=x.2,H:=H2}:Un)) from ⟨fun h=>(by cases h),fun h=>(by cases h)⟩);show Has 0 w0 W' ((if D 11=true then aA (u 11).n (if D 13=true then _ else aU bT (.slice none 0 0)) 103 else bI)::bO ((D 7=true→u 7=_)∧(D 9=true→u 9=_))::FzF H2 (Fh.le H H2)::aD H2 (.slice x.1 P.2.2.1.msgs.length x.2) P.2.2.1.msgs::aF H2 pr P.1::aN (.slice lad lc.length lcap) lc::aP p pk pr pt::aV pk q s.k::aO H pt s.t::aB nameS q d::R);rw [n7,n9,n13];exact hw.pm
 case c7=>
  intro u LD D a W hcl hi hp hs hw;have n9:=Go.Sx.not_done hcl hi 9 (by kernel_rfl);refine sv hs hw fun a hs=>?_;refine Or.inr ⟨u 6,hs,?_⟩;show Has 0 w0 _ ((if D 11 then aA (u 11).n (if D 13 then aU P.2.2.1 (.slice (u 6).ad P.2.2.1.msgs.length (u 6).cap) else aU bT (.slice none 0 0)) 103 else bI)::bO ((true=true→u 6=u 6)∧(D 9=true→u 9=u 6))::(if D 6 then FzF (u 6).H (Fh.le H (u 6).H) else Fz H)::(if D 6 then aD (u 6).H (.slice (u 6).ad P.2.2.1.msgs.length (u 6).cap) P.2.2.1.msgs else bI)::(if D 6 then aF (u 6).H pr P.1 else aF H pr s.r)::aN (.slice lad lc.length lcap) lc::aP p pk pr pt::aV pk q s.k::aO H pt s.t::aB nameS q d::R);rw [n9];have hw:=hw.fact (show (true=true→u 6=u 6)∧(false=true→u 9=u 6) from ⟨fun _=>rfl,fun h=>(by cases h)⟩);exact hw.sl
 case c9=>
  intro u LD D a W hcl hi hp hs hw;have h7:=Go.Sx.done hp 7 (by kernel_rfl);have hf:=hw.told (In.tl In.hd);refine sv hs hw fun a hs=>?_;rw [hf.1 h7] at hs;refine Or.inr ⟨u 6,hs,?_⟩;show Has 0 w0 _ ((if D 11 then aA (u 11).n (if D 13 then aU P.2.2.1 (.slice (u 6).ad P.2.2.1.msgs.length (u 6).cap) else aU bT (.slice none 0 0)) 103 else bI)::bO ((D 7=true→u 7=u 6)∧(true=true→u 6=u 6))::(if D 6 then FzF (u 6).H (Fh.le H (u 6).H) else Fz H)::(if D 6 then aD (u 6).H (.slice (u 6).ad P.2.2.1.msgs.length (u 6).cap) P.2.2.1.msgs else bI)::(if D 6 then aF (u 6).H pr P.1 else aF H pr s.r)::aN (.slice lad lc.length lcap) lc::aP p pk pr pt::aV pk q s.k::aO H pt s.t::aB nameS q d::R);have hw:=hw.fact (show (D 7=true→u 7=u 6)∧(true=true→u 6=u 6) from ⟨hf.1,fun _=>rfl⟩);exact hw.sl
 case c11=>
  intro u LD D a W hcl hi hp hs hw;have n13:=Go.Sx.not_done hcl hi 13 (by kernel_rfl);simp only [hi,Bool.false_eq_true,if_false] at hw;refine sn hs hw fun b a W hs hw=>?_;refine Or.inr ⟨{n:=b},hs,?_⟩;show Has 0 w0 _ (aA b (if (Nat.beq 13 11 || D 13)=true then _ else _) _::_);rw [n13];exact hw.fill Upd.hd
 case c13=>
  intro u LD D a W hcl hi hp hs hw;have h11:=Go.Sx.done hp 11 (by kernel_rfl);have h9:=Go.Sx.done hp 9 (by kernel_rfl);have hf:=hw.told (In.tl In.hd);simp only [h11,hi,Bool.false_eq_true,if_false,if_true] at hw;refine dY hs (hw:=hw) (vs:=aU P.2.2.1 (.slice (u 9).ad P.2.2.1.msgs.length (u 9).cap)) (k:=fun W hs hw=>?_);refine Or.inl ⟨hs,?_⟩;have hw:Has 0 w0 W (aA (u 11).n (aU P.2.2.1 (.slice (u 9).ad P.2.2.1.msgs.length (u 9).cap)) 103::bO ((D 7=true→u 7=u 6)∧(D 9=true→u 9=u 6))::(if D 6 then FzF (u 6).H (Fh.le H (u 6).H) else Fz H)::(if D 6 then aD (u 6).H (.slice (u 6).ad P.2.2.1.msgs.length (u 6).cap) P.2.2.1.msgs else bI)::(if D 6 then aF (u 6).H pr P.1 else aF H pr s.r)::aN (.slice lad lc.length lcap) lc::aP p pk pr pt::aV pk q s.k::aO H pt s.t::aB nameS q d::R):=hw;rw [show (aU P.2.2.1 (.slice (u 9).ad P.2.2.1.msgs.length (u 9).cap))=(aU P.2.2.1 (.slice (u 6).ad P.2.2.1.msgs.length (u 6).cap)) from by rw [hf.2 h9]] at hw;show Has 0 w0 _ ((if D 11=true then _ else _)::_);rw [h11];exact hw
 case kk=>
 intro u a W hs hw;have hw:Has 0 w0 W (FzF (u 6).H (Fh.le H (u 6).H)::aD (u 6).H (.slice (u 6).ad P.2.2.1.msgs.length (u 6).cap) P.2.2.1.msgs::aF (u 6).H pr P.1::aA (u 11).n (aU P.2.2.1 (.slice (u 6).ad P.2.2.1.msgs.length (u 6).cap)) 103::aN (.slice lad lc.length lcap) lc::aP p pk pr pt::aV pk q s.k::aO H pt s.t::aB nameS q d::R):=hw.sl;obtain ⟨hle1,hw⟩:=hw.unfzf;have hw:=hw.lz hle1;replace hs:Slots a 71 [(0,ptr p),(13,ptr (u 11).n),(14,.int .i64 P.2.2.2)]:=hs.ot;obtain ⟨H1,hH1⟩:∃H1,H1=(u 6).H:=⟨_,rfl⟩
 obtain ⟨oad,hoad⟩:∃oad,oad=(u 6).ad:=⟨_,rfl⟩
 obtain ⟨ocap,hocap⟩:∃ocap,ocap=(u 6).cap:=⟨_,rfl⟩
 obtain ⟨b11,hb11⟩:∃b11,b11=(u 11).n:=⟨_,rfl⟩
 rw [←hH1] at hle1;have hw:Has 0 w0 W (aP p pk pr pt::aV pk q s.k::aF H1 pr P.1::aO H1 pt s.t::aB nameS q d::Fz H1::aD H1 (.slice oad P.2.2.1.msgs.length ocap) P.2.2.1.msgs::aA b11 (aU P.2.2.1 (.slice oad P.2.2.1.msgs.length ocap)) 103::R):=by rw [hH1,hoad,hocap,hb11];exact hw.sl
 rw [←hb11] at hs;clear hH1 hoad hocap hb11;refine sv hs hw fun a hs=>?_;rw [show (P.2.2.2 !=0)=!(P.2.2.2 == 0) from rfl] at hs;cases c6:P.2.2.2 == 0 with
 |false=>
  rw [c6] at hs;have g6:P.2.2.2≠0:=by simpa using c6
  rw [if_pos g6] at h;injection h with h;injection h with e1 h;injection h with e2 h;injection h with e3 e4;subst e1 e2 e3 e4;rw [hPe g6] at hw;refine sv hs hw fun a hs=>?_;refine rt2 hs rfl rfl rfl ⟨_,H1,rfl,hle1,?_⟩;have hw:Has 0 w0 W (aP p pk pr pt::aV pk q s.k::aF H1 pr s.r::aO H1 pt s.t::aB nameS q d::Fz H1::R):=hw.sl;exact j0 (H:=H1) (l:=[]) ((gN hw h1 h2).nilOwn 38 13) rfl
 |true=>
 rw [c6] at hs;have g6:¬P.2.2.2≠0:=by simpa using c6
 rw [if_neg g6,Option.map_eq_some_iff] at h;obtain ⟨⟨d2,s2,ms2⟩,h3,h4⟩:=h;injection h4 with e1 h4;injection h4 with e2 h4;injection h4 with e3 e4;subst e1 e2 e3 e4;refine sx hs hw fun a W hs hw=>?_;refine aG hs (hc:=uF (s:={s with r:=P.1}) h3 ht.1 (hH.trans hle1) hT hw) (k:=?_);rintro e' W ⟨v2,H2,rfl,hle2,hw⟩;refine ⟨_,rfl,fun a hs=>?_⟩;obtain ⟨h1',h2',pk,pr,pt,hw⟩:=iY hw.swap2;refine sv hs hw fun a hs=>?_;refine rt2 hs rfl rfl rfl ⟨v2,H2,rfl,hle1.trans hle2,?_⟩;exact ((gN hw h1' h2').swap2).sl
theorem z2 {w w':bC} {who:Int} (add:Bool) (hc:∀s,at? w.servers id=some s→cV s.r.l.conf.1=true) (h:vK w id add who=some (w',err)) (hH:(fr w0).le H) (hT:Tabs w0) (hw:Has 0 w0 W (bH H p w::Fz H::R)):
  Calls Tryz.prog 38 ⟨[ptr p,.int .i64 id,.bool add,.int .i64 who]⟩ W fun e W'=>∃H':Fh,e= .returned (.int .i64 err)∧H.le H'∧Has 0 w0 W' (bH H' p w'::Fz H'::R):=by
 obtain ⟨k,hw⟩:=j8 hw;refine enter Tryz.func38 Tryz.ntmps38 rfl rfl fun a hs=>?_;refine sv hs hw fun a hs=>?_;refine cl hs (kX id hw) fun a W hs hw=>?_;unfold vK at h;unfold dQ at hs;cases c1:at? w.servers id with
 |none=>
  rw [c1] at hs h;injection h with h;injection h with e1 e2;subst e1 e2;refine sv hs hw fun a hs=>?_;exact rt1 hs rfl rfl ⟨H,rfl,Fh.le.refl H,eI hw⟩
 |some s=>
 rw [c1] at hs h;cases c2:at? w.sd id with
 |none=>rw [c2] at h;cases h
 |some d=>
 rw [c2] at h;obtain ⟨⟨d2,s2,ms,e9⟩,h1,h2⟩:=Option.map_eq_some_iff.1 h;injection h2 with e1 e2;subst e2;obtain ⟨rs,rd,tk,gv⟩:=vA (w0:=w0) (p:=p) (k:=k) (w:=w) c1 c2;refine sv hs hw fun a hs=>?_;have hw:=tk hw;have hw:Has 0 w0 W (cC H (k.ps id) (k.qs id) s::aB nameS (k.qs id) d::Fz H::aS p k::bB k w::aW k w::aZ k w::aX k w::aM (H) k.pn (w.n)::aQ (H) k.ps k.qs rs::aC nameS k.qs rd::aT (H) k.pc k.qc w.clients::aC nameQ k.qc w.cd::R):=hw.pm;refine aG hs (hc:=aJl add (hc s c1) h1 hH hT hw) (k:=?_);rintro e' W ⟨v',H3,rfl,hle3,hw⟩;refine ⟨_,rfl,fun a hs=>?_⟩;have hw:=hw.lz hle3;have hw:Has 0 w0 W (aS p k::aM H3 k.pn w.n::aD H3 v' ms::Fz H3::cC H3 (k.ps id) (k.qs id) s2::aB nameS (k.qs id) d2::bB k w::aW k w::aZ k w::aX k w::aQ H3 k.ps k.qs rs::aC nameS k.qs rd::aT H3 k.pc k.qc w.clients::aC nameQ k.qc w.cd::R):=hw.pm;refine sv hs hw fun a hs=>?_;refine aG hs (hc:=u7 hw) (k:=?_);rintro e' W ⟨H4,rfl,hle4,hw⟩;refine ⟨_,rfl,fun a hs=>?_⟩;have hw:=hw.lz hle4;refine sv hs hw fun a hs=>?_;refine rt1 hs rfl rfl ⟨H4,rfl,hle3.trans hle4,?_⟩;rw [←e1];have hw:Has 0 w0 W (cC (H4) (k.ps id) (k.qs id) (s2)::aB nameS (k.qs id) (d2)::aS p k::bB k w::aW k w::aZ k w::aX k w::aM (H4) k.pn ((iE w.n ms))::aQ (H4) k.ps k.qs rs::aC nameS k.qs rd::aT (H4) k.pc k.qc w.clients::aC nameQ k.qc w.cd::Fz H4::R):=hw.pm;exact gv hw
end
set_option maxRecDepth 100000
def aDf (w:bC) (id:Int):Bool:=match at? w.servers id with|some s=>cV s.r.l.conf.1|none=>true
def r5 (w:bC) (id:Int) (add:Bool) (who:Int):Option (bC×Int):=if aDf w id=true then vK w id add who else none
theorem z6 {w:bC} {id who:Int} {add:Bool} {x:bC×Int} (h:r5 w id add who=some x):(∀s,at? w.servers id=some s→cV s.r.l.conf.1=true)∧vK w id add who=some x:=by
 unfold r5 at h;split at h
 ·rename_i h1;unfold aDf at h1;exact ⟨fun s hs=>by rw [hs] at h1;exact h1,h⟩
 ·cases h
def vM (b:Bool):Int:=match b with|true=>1|false=>0
def vN (b:Bool):Int:=IntKind.i64.wrap (2+IntKind.i64.wrap (3*vM b))
def aJm (add:Bool):Option Bool:=
 (rS 3 1).bind fun t=>(kA 4 t 1).bind fun l=>(r5 l.1.w 1 true 4).bind fun x=>(r5 x.1 1 add (vN add)).bind fun y=>(j9 ⟨y.1,l.1.ok && x.2 == 0⟩).bind fun q=>(r5 q.w 1 add (vN add)).map fun z=>
 l.2 && (l.1.ok && (x.2 == 0 && (y.2 == 10 && (z.2 == 0 && q.ok))))
theorem aJn (add:Bool):aJm add=some true:=by
 cases add
 ·decide +kernel
 ·decide +kernel
section
variable {w0 W:World} {R L:List Res} {H H':Fh} {p q:Nat} {k:WPt} {w w':bC} {t t':TD} {n m c id err:Int} {s:cN} {d d':bF}
theorem aDg (b:Bool) (hw:Has 0 w0 W R):Calls Tryz.prog 39 ⟨[.bool b]⟩ W fun e W'=>e= .returned (.int .i64 (vM b))∧Has 0 w0 W' R:=by
 refine enter Tryz.func39 Tryz.ntmps39 rfl rfl fun a hs=>?_;refine sv hs hw fun a hs=>?_;cases b with
 |true=>
  refine sv hs hw fun a hs=>?_;exact rt1 hs rfl rfl ⟨rfl,hw⟩
 |false=>
  refine sv hs hw fun a hs=>?_;exact rt1 hs rfl rfl ⟨rfl,hw⟩
theorem walk_TopBusy (add:Bool) (w:World) (hT:Tabs w):
  Calls Tryz.prog 7 ⟨[.bool add]⟩ w fun e w'=>e= .returned (.bool true)∧Below w.heap.size w w':=by
 have hw:=Has.startF w;obtain ⟨W,hWw⟩:∃W,W=w:=⟨_,rfl⟩
 have hw:Has 0 w W (Fz (fr w):: []):=by rw [hWw];exact hw
 suffices hh:Calls Tryz.prog 7 ⟨[.bool add]⟩ W fun e w'=>e= .returned (.bool true)∧Below w.heap.size w w' by rw [hWw] at hh;exact hh
 clear hWw;obtain ⟨H,hHd⟩:∃H,H=fr w:=⟨_,rfl⟩
 rw [←hHd] at hw;have hH:(fr w).le H:=by rw [hHd];exact Fh.le.refl _
 clear hHd;obtain ⟨w0,hw0⟩:∃w0,w0=w:=⟨_,rfl⟩
 rw [←hw0] at hw hH hT⊢;clear hw0;obtain ⟨t1,ht1,he⟩:=Option.bind_eq_some_iff.1 (aJn add);obtain ⟨⟨t2,lb⟩,ht2,he⟩:=Option.bind_eq_some_iff.1 he;obtain ⟨⟨w3,e3⟩,ht3,he⟩:=Option.bind_eq_some_iff.1 he;obtain ⟨⟨w4,e4⟩,ht4,he⟩:=Option.bind_eq_some_iff.1 he;obtain ⟨t5,ht5,he⟩:=Option.bind_eq_some_iff.1 he;obtain ⟨⟨w6,e6⟩,ht6,he⟩:=Option.map_eq_some_iff.1 he;simp only [Bool.and_eq_true] at he;obtain ⟨g1,o2,g3,g4,g6,o5⟩:=he;subst g1;obtain ⟨hc3,kt3⟩:=z6 ht3;obtain ⟨hc4,kt4⟩:=z6 ht4;obtain ⟨hc6,kt6⟩:=z6 ht6;simp only at hc3 kt3 hc4 kt4 hc6 kt6 g3 g4 g6 o2;have g3:e3=0:=by simpa using g3
 have g4:e4=10:=by simpa using g4
 have g6:e6=0:=by simpa using g6
 subst g3 g4 g6;refine enter Tryz.func7 Tryz.ntmps7 rfl rfl fun a hs=>?_;refine sv hs hw fun a hs=>?_;refine ch hs hH (vI hH hT hw) fun H a W _ hH hs hw=>?_;refine sv hs hw fun a hs=>?_;refine aG hs (hc:=(show Calls Tryz.prog 10 ⟨[.int .i64 3,.int .i64 1]⟩ W _ from vF (n:=3) (m:=1) (by omega) (by omega) ht1 hH hT hw)) (k:=?_);rintro e' W ⟨p,H2,rfl,hle2,hw⟩;refine ⟨_,rfl,fun a hs=>?_⟩;have hH:=hH.trans hle2;refine sv hs hw fun a hs=>?_;refine ch hs hH (vH ht2 o2 hH hT hw) fun H3 a W _ hH hs hw=>?_;obtain ⟨pw,hw⟩:=fJ hw;have hw:Has 0 w0 W (cH p pw 3 1 t2.ok::bH H3 pw t2.w::Fz H3:: []):=hw;refine sv hs hw fun a hs=>?_;refine ch hs hH (z2 true hc3 kt3 hH hT (hw.pm:Has 0 w0 W (bH H3 pw t2.w::Fz H3::cH p pw 3 1 t2.ok:: []))) fun H4 a W _ hH hs hw=>?_;have hw:Has 0 w0 W (cH p pw 3 1 true::bH H4 pw w3::Fz H4:: []):=by rw [←o2];exact hw.pm
 refine cl hs (rT hw) fun a W hs hw=>?_;have hw:Has 0 w0 W (cH p pw 3 1 true::bH H4 pw w3::Fz H4:: []):=hw;refine sc hs ?_;refine bG [6,9] [.f 0 1,.f 0 1,.f 0 1,.f 0 1,.f 0 1,.f 0 0,.m 0,.f 1 1,.f 1 1,.m 1,.f 2 2] [.c0 _,.c0 _,.c0 _,.c0 _,.c0 _,.c0 _,.c1 (fun x=> .int .i64 (vM add)),.c1 _,.c1 _,.c2 (fun x y=> .int .i64 10),.c2 _] (cH p pw 3 1 true::bH H4 pw w3::Fz H4:: []) (fun x=>cH p pw 3 1 true::bH H4 pw w3::Fz H4:: []) (fun x y=>FzF y.H (Fh.le H4 y.H)::cH p pw 3 1 true::bH y.H pw w4:: []) (fun x y z=>[]) (fun x y z t=>[]) hs hw ?kk ⟨drs,drs,drs,drs,drs,drs,?m0,drs,drs,?m1,drs,trivial⟩
 case m0=>
  intro x y z t LD a W hs hw;refine cl hs (aDg add hw) fun a W hs hw=>?_;exact ⟨{},hs,hw⟩
 case m1=>
  intro x y z t LD a W hs hw;have hw:Has 0 w0 W (bH H4 pw w3::Fz H4::cH p pw 3 1 true:: []):=hw.pm;refine aG hs (hc:=z2 (who:=vN add) add hc4 kt4 hH hT hw) (k:=?_);rintro e' W' ⟨H5,rfl,hle5,hw⟩;refine ⟨_,rfl,fun a hs=>?_⟩;have hw:Has 0 w0 W' (Fz H5::cH p pw 3 1 true::bH H5 pw w4:: []):=hw.pm;exact ⟨{H:=H5},hs,hw.fzf hle5⟩
 case kk=>
 intro _ x5 a W hs hw;obtain ⟨hle5,hw⟩:=hw.unfzf;obtain ⟨H5,hH5⟩:∃H5,H5=x5.H:=⟨_,rfl⟩
 rw [←hH5] at hle5 hw;clear hH5;have hH:=hH.trans hle5;replace hs:Slots a 55 [(0,.bool add),(4,ptr p),(5,.int .i64 10)]:=hs.ot;have hw:Has 0 w0 W (cH p pw 3 1 true::bH H5 pw w4::Fz H5:: []):=hw.pm;have hw:=eJ (t:=⟨w4,true⟩) hw;refine sv hs hw fun a hs=>?_;have ht5:j9 ⟨w4,true⟩=some t5:=by rw [o2] at ht5;exact ht5
 refine ch hs hH (rU (t:=⟨w4,true⟩) rfl ht5 hH hT hw) fun H6 a W _ hH hs hw=>?_;obtain ⟨pw,hw⟩:=fJ hw;rw [o5] at hw;replace hs:Slots a 55 [(0,.bool add),(4,ptr p),(5,.int .i64 10)]:=hs.ot;refine sc hs ?_;refine bG [6,9] [.f 0 1,.f 0 1,.f 0 1,.f 0 1,.f 0 1,.f 0 0,.m 0,.f 1 1,.f 1 1,.m 1,.f 2 2] [.c0 _,.c0 _,.c0 _,.c0 _,.c0 _,.c0 _,.c1 (fun x=> .int .i64 (vM add)),.c1 _,.c1 _,.c2 (fun x y=> .int .i64 0),.c2 _] (cH p pw 3 1 true::bH H6 pw t5.w::Fz H6:: []) (fun x=>cH p pw 3 1 true::bH H6 pw t5.w::Fz H6:: []) (fun x y=>FzF y.H (Fh.le H6 y.H)::cH p pw 3 1 true::bH y.H pw w6:: []) (fun x y z=>[]) (fun x y z t=>[]) hs hw ?kk ⟨drs,drs,drs,drs,drs,drs,?m0,drs,drs,?m1,drs,trivial⟩
 case m0=>
  intro x y z t LD a W hs hw;refine cl hs (aDg add hw) fun a W hs hw=>?_;exact ⟨{},hs,hw⟩
 case m1=>
  intro x y z t LD a W hs hw;have hw:Has 0 w0 W (bH H6 pw t5.w::Fz H6::cH p pw 3 1 true:: []):=hw.pm;refine aG hs (hc:=z2 (who:=vN add) add hc6 kt6 hH hT hw) (k:=?_);rintro e' W' ⟨H7,rfl,hle7,hw⟩;refine ⟨_,rfl,fun a hs=>?_⟩;have hw:Has 0 w0 W' (Fz H7::cH p pw 3 1 true::bH H7 pw w6:: []):=hw.pm;exact ⟨{H:=H7},hs,hw.fzf hle7⟩
 case kk=>
 intro _ x7 a W hs hw;obtain ⟨hle7,hw⟩:=hw.unfzf;have hH:=hH.trans hle7;have hw:Has 0 w0 W (cH p pw 3 1 true::bH x7.H pw w6::Fz x7.H:: []):=hw.pm;replace hs:Slots a 55 [(4,ptr p),(5,.int .i64 10),(6,.int .i64 0)]:=hs.ot;refine sv hs hw fun a hs=>?_;exact rt1 hs rfl rfl ⟨rfl,hw.endF (In.tl (In.tl In.hd)) hH⟩
end
end Go.Proofs.YtgpbngfehfbndaaGreatDoor.Sw
