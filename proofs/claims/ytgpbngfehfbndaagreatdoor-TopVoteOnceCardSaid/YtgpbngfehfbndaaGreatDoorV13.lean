import Derived.Test.YtgpbngfehfbndaaGreatDoorV12
set_option maxHeartbeats 16000000
set_option linter.all false
set_option maxRecDepth 10000
namespace Go.Proofs.YtgpbngfehfbndaaGreatDoor.Sw
open Go.RowKit Go.Sx
open Go.Proofs.Tryz (prog)
def goD:List OpD→Dm→Int×Dm
 | [],d=>(0,d)
 |o::l,d=>if fL o=false then (1,d) else if (jR d o).1=0 then goD l (jR d o).2 else ((jR d o).1,d)
def i7 (d:Dm) (l:List OpD):Int×Dm:=
 if l.length=0∨8<l.length then (1,d) else if (goD l d).1=0 then (0,(goD l d).2) else ((goD l d).1,d)
structure OpW (o:OpD):Prop where
 key:o.key.size≤9223372036854775807
 vs:o.vs.size≤9223372036854775807
 os:o.os.size≤9223372036854775807
 ok:fL o=true→OpOk o
theorem OpOk.w {o:OpD} (h:OpOk o):OpW o:=⟨by have:=h.key;omega,by have:=h.vs;omega,by have:=h.os;omega,fun _=>h⟩
theorem aFA (w0 W : World) (H : Fh) (p : Nat) (d : Dm) (l : List OpD) (sv : Value) (R : List Res) (ho : ∀ o ∈ l, OpW o) (r : RdH H 9 sv l.length (l.flatMap bZ)) (i : In (Fz H) R) (hH : (fr w0).le H) (hT : Tabs w0) (hw : Has 0 w0 W (cK p d :: R)) :
    Calls prog 173 ⟨[.pointer (some ⟨p, 0, none⟩), sv]⟩ W fun e W' => e = .returned (.int .i64 (i7 d l).1) ∧ Has 0 w0 W' (cK p (i7 d l).2 :: R) := by
  obtain ⟨sad, scap, rfl⟩ := r.slice;have hlen := r.len;refine en Tryz.func173 Tryz.ntmps173 fun a hs => ?_;refine zC hs hw ?_; clear hs; intro a hs;cases h0 : ((l.length : Int) == 0) with
  | true =>
    rw [h0] at hs;refine zC hs hw ?_; clear hs; intro a hs;have hX : i7 d l = (1, d) := by
      unfold i7
      rw [if_pos (.inl (by have : (l.length : Int) = 0 := by simpa using h0
                           omega))]
    exact rt1 hs rfl rfl ⟨by rw [hX], by rw [hX]; exact hw⟩
  | false =>
  rw [h0] at hs;refine zC hs hw ?_; clear hs; intro a hs;cases h8 : decide ((l.length : Int) > 8) with
  | true =>
    rw [h8] at hs;refine zC hs hw ?_; clear hs; intro a hs;have hX : i7 d l = (1, d) := by
      unfold i7;rw [if_pos (.inr (by have := of_decide_eq_true h8; omega))]
    exact rt1 hs rfl rfl ⟨by rw [hX], by rw [hX]; exact hw⟩
  | false =>
  rw [h8] at hs;refine zC hs hw ?_; clear hs; intro a hs;have hX : i7 d l = (if (goD l d).1 = 0 then (0, (goD l d).2) else ((goD l d).1, d)) := by
    unfold i7;rw [if_neg];rintro (h | h)
    · rw [h] at h0; simp at h0
    · have := of_decide_eq_false h8; omega
  rw [hX];clear hX h0 h8;refine aH hs (hc := aAZ w0 _ p d _ hw) (k := ?_); rintro e0 W1 ⟨c, rfl, hw1⟩; refine ⟨_, rfl, ?_⟩; clear hs hw; intro a hs; have hw := hw1; clear hw1;refine zC hs hw ?_; clear hs; intro a hs;refine bX (σ := Nat × Dm) (fun t => [(0, .pointer (some ⟨p, 0, none⟩)), (5, .pointer (some ⟨c, 0, none⟩)), (23, .slice sad l.length scap), (24, .int .i64 (l.length : Int)), (25, .int .i64 (t.1 : Int))]) (fun t => cK c t.2 :: cK p d :: R) (fun t => t.1 ≤ l.length ∧ goD (l.drop t.1) t.2 = goD l d) (fun t => l.length - t.1) (0, d) ⟨Nat.zero_le _, rfl⟩ hs ⟨rfl, rfl, rfl, rfl, rfl, trivial⟩ hw ?_;clear hs hw;rintro ⟨j, dc⟩ a W ⟨hj, hgo⟩ hs hw;simp only at hj hgo hs hw;refine zC hs hw ?_; clear hs; intro a hs;refine cI hs (kt := fun hcc => ?_) (kf := fun hcc => ?_)
  · have hj' : j < l.length := by have := of_decide_eq_true hcc; omega
    obtain ⟨o, hoi⟩ : ∃ o, l[j]? = some o := ⟨l[j], List.getElem?_eq_getElem hj'⟩
    have hok := ho o (List.mem_of_getElem? hoi);have hdrop : l.drop j = o :: l.drop (j + 1) := by
      rw [List.drop_eq_getElem_cons hj'];congr 1;rw [List.getElem?_eq_getElem hj'] at hoi;exact Option.some.inj hoi
    rw [hdrop] at hgo;simp only [goD] at hgo;refine zG hs ?_;refine vY hs (r := hw.rdH (by repeat (first | exact i | apply In.tl)) r) (ho := hoi) (c := ?_); clear hs; intro a q off hpc hs;refine eC (z := bZ ⟨0, ⟨#[]⟩, 0, 0, ⟨#[]⟩, 0, 0, ⟨#[]⟩, 0⟩) hs (hc := hpc) (hl := rfl) (c := ?_); clear hs; intro a hs;clear hpc;have hM := fun W hT => aAQ o.kind o.key o.vk o.vn o.vs o.ok o.on o.os o.n W hok.key hok.vs hok.os hT;have hM : ∀ W, Tabs W → Calls prog 245 ⟨[.agg ⟨bZ o⟩]⟩ W fun e w' => e = .returned (.bool (fL o)) ∧ Below W.heap.size W w' := hM
    repeat (first | (refine sxv hs hw ?_; clear hs; intro a hs) | refine sxc hs ?_ | (refine sxa hs hw ?_; clear hs hw; intro a b W hw hs) | (refine sxs hs hw ?_; clear hs hw; intro W hs hw) | ((with_reducible first | refine gD hs (k := ?_) | refine gE hs (k := ?_)); clear hs; intro a hs))
    obtain ⟨b7, q7⟩ := nm1 hw; subst q7;have hw : Has 0 w0 _ (aA b7 (bZ o) 55 :: cK c dc :: cK p d :: R) := hw;refine aH hs (hc := hM _ (hT.keep (hw.endF (by repeat (first | exact i | apply In.tl)) hH))) (k := ?_); rintro e0 W1 ⟨rfl, hb⟩; refine ⟨_, rfl, ?_⟩; clear hs; intro a hs; replace hw := hw.below hb; clear hb;refine zC hs hw ?_; clear hs; intro a hs;cases hm : fL o with
    | false =>
      rw [hm] at hs hgo;rw [if_pos rfl] at hgo;refine zC hs hw ?_; clear hs; intro a hs;rw [← hgo, if_neg (by show ¬ (1 : Int) = 0; decide)];exact rt1 hs rfl rfl ⟨rfl, hw.d2⟩
    | true =>
    rw [hm] at hs hgo;rw [if_neg (by decide)] at hgo;refine zC hs hw ?_; clear hs; intro a hs;refine aH hs (hc := aEu w0 _ H c dc o _ (hok.ok hm) (by repeat (first | exact i | apply In.tl)) hH hT hw.swap2) (k := ?_); rintro e0 W1 ⟨rfl, hw1⟩; refine ⟨_, rfl, ?_⟩; clear hs hw; intro a hs; have hw := hw1; clear hw1;refine zC hs hw ?_; clear hs; intro a hs;cases he : ((jR dc o).1 != 0) with
    | true =>
      rw [he] at hs;rw [if_neg (by simpa using he)] at hgo;refine zC hs hw ?_; clear hs; intro a hs;rw [← hgo, if_neg (by simpa using he)];exact rt1 hs rfl rfl ⟨rfl, hw.d2⟩
    | false =>
    rw [he] at hs;rw [if_pos (by simpa using he)] at hgo;refine zC hs hw ?_; clear hs; intro a hs;exact bS (j + 1, (jR dc o).2) hs hw.drop2 ⟨by show j + 1 ≤ l.length; omega, hgo⟩ (by show l.length - (j + 1) < l.length - j; omega) ⟨rfl, rfl, rfl, rfl, bU (by show IntKind.i64.wrap ((j : Int) + 1) = ((j + 1 : Nat) : Int); rw [IntWalk.i64_in _ (by omega)]; omega), trivial⟩
  · have hj' : j = l.length := by have := of_decide_eq_false hcc; omega
    subst hj';rw [List.drop_length] at hgo;rw [← hgo];simp only [goD, if_true];obtain ⟨m1, d1, hp1, hk1, hw⟩ := jQ hw;have hw : Has 0 w0 _ (cK p d :: aA c [.map (some m1)] 177 :: bN m1 (cF d1) :: R) := hw.pm;obtain ⟨m2, d2, hp2, hk2, hw⟩ := jQ hw;refine zD hs hw ?_; clear hs hw; intro a W hs hw;have hw : Has 0 w0 _ (aA p [.map (some m1)] 177 :: bN m1 (cF d1) :: bN m2 (cF d2) :: aA c [.map (some m1)] 177 :: R) := hw.pm;have hw := jP hw hp1 hk1;exact rt1 hs rfl rfl ⟨rfl, hw.sub (List.Sublist.cons_cons _ (List.Sublist.cons _ (List.Sublist.cons _ (List.Sublist.refl _))))⟩
theorem aFB (w0 W:World) (H:Fh) (p:Nat) (d:Dm) (l:List OpD) (sv:Value) (R:List Res) (ho:∀o∈l,OpOk o) (r:RdH H 9 sv l.length (l.flatMap bZ)) (i:In (Fz H) R) (hH:(fr w0).le H) (hT:Tabs w0) (hw:Has 0 w0 W (cK p d::R)):
  Calls prog 173 ⟨[.pointer (some ⟨p,0,none⟩),sv]⟩ W fun e W'=>e= .returned (.int .i64 (i7 d l).1)∧Has 0 w0 W' (cK p (i7 d l).2::R):=
 aFA w0 W H p d l sv R (fun o h=>(ho o h).w) r i hH hT hw
def aA1 (a b:ByteArray):Bool:=Ph.lessL a.data.toList b.data.toList
def pH:Dm→ByteArray→DV→Dm
 | [],k,v=>[(k,v)]
 |p::d,k,v=>match aA1 p.1 k with
  |false=>(k,v)::gF (p::d) k
  |true=>match ks k p.1 with
   |true=>pH d k v
   |false=>p::pH d k v
theorem aFE (p:ByteArray×DV) (d:Dm) (k:ByteArray):gF (p::d) k=match ks k p.1 with|true=>gF d k|false=>p::gF d k:=by
 unfold gF;rw [List.filter_cons];cases ks k p.1 <;> rfl
theorem wC:∀(d:Dm) (k:ByteArray) (v:DV),(pH d k v).Perm (j5 d k v)
 | [],k,v=>List.Perm.refl _
 |p::d,k,v=>by
  have ih:=wC d k v;unfold j5 at ih⊢;simp only [pH];cases aA1 p.1 k with
  |false=>exact List.Perm.refl _
  |true=>
   simp only;rw [aFE];cases ks k p.1 with
   |true=>exact ih
   |false=>exact (ih.cons p).trans (List.Perm.swap _ _ _)
def pI (d:Dm) (k:ByteArray) (x:Option DV):Int×Dm:=
 match x with
 |none=>(0,gF d k)
 |some v=>if (dQ d k).isSome=false∧50≤d.length then (6,d) else (0,pH d k v)
def doL (d:Dm) (o:OpD):Int×Dm:=
 if o.kind=3 then (if eqV (dQ d o.key) (bV o.ok o.on o.os).1 then pI d o.key (bV o.vk o.vn o.vs).1 else (8,d))
 else if o.kind=4 then
  if (gU (dQ d o.key) !=0 && !mI (dQ d o.key))=true then (7,d)
  else if (!inB (fR (dQ d o.key)) || !inB (IntKind.i64.wrap (fR (dQ d o.key)+o.n)))=true then (4,d)
  else pI d o.key (some (.inl (IntKind.i64.wrap (fR (dQ d o.key)+o.n))))
 else pI d o.key (bV o.vk o.vn o.vs).1
def goL:List OpD→Dm→Int×Dm
 | [],d=>(0,d)
 |o::l,d=>if fL o=false then (1,d) else if (doL d o).1=0 then goL l (doL d o).2 else ((doL d o).1,d)
def fE (d:Dm) (l:List OpD):Int×Dm:=
 if l.length=0∨8<l.length then (1,d) else if (goL l d).1=0 then (0,(goL l d).2) else ((goL l d).1,d)
def r7 (a b:Int×Dm):Prop:=a.1=b.1∧a.2.Perm b.2∧dY b.2
theorem wD {d d':Dm} (hp:d'.Perm d) (hk:dY d) (k:ByteArray) (x:Option DV):r7 (hU d' k x) (pI d k x):=by
 cases x with
 |none=>exact ⟨rfl,wA hp k,v8 hk k⟩
 |some v=>
  unfold hU pI;simp only;rw [rY hp ((jO hp).2 hk),hp.length_eq]
  by_cases h:(dQ d k).isSome=false∧50≤d.length
  ·rw [if_pos h,if_pos h];exact ⟨rfl,hp,hk⟩
  ·rw [if_neg h,if_neg h];exact ⟨rfl,(aAV hp k v).trans (wC d k v).symm,(jO (wC d k v)).2 (aAU hk k v)⟩
theorem aFF {d d':Dm} (hp:d'.Perm d) (hk:dY d) (o:OpD):r7 (jR d' o) (doL d o):=by
 unfold jR doL;rw [rY hp ((jO hp).2 hk)];split
 ·split
  ·exact wD hp hk _ _
  ·exact ⟨rfl,hp,hk⟩
 ·split
  ·split
   ·exact ⟨rfl,hp,hk⟩
   ·split
    ·exact ⟨rfl,hp,hk⟩
    ·exact wD hp hk _ _
  ·exact wD hp hk _ _
theorem aA2:∀(l:List OpD) {d d':Dm},d'.Perm d→dY d→r7 (goD l d') (goL l d)
 | [],d,d',hp,hk=>⟨rfl,hp,hk⟩
 |o::l,d,d',hp,hk=>by
  unfold goD goL;obtain ⟨h1,h2,h3⟩:=aFF hp hk o
  by_cases hm:fL o=false
  ·rw [if_pos hm,if_pos hm];exact ⟨rfl,hp,hk⟩
  ·rw [if_neg hm,if_neg hm,h1]
   by_cases he:(doL d o).1=0
   ·rw [if_pos he,if_pos he];exact aA2 l h2 h3
   ·rw [if_neg he,if_neg he];exact ⟨rfl,hp,hk⟩
theorem aFG {d d':Dm} (hp:d'.Perm d) (hk:dY d) (l:List OpD):r7 (i7 d' l) (fE d l):=by
 unfold i7 fE;obtain ⟨h1,h2,h3⟩:=aA2 l hp hk
 by_cases h:l.length=0∨8<l.length
 ·rw [if_pos h,if_pos h];exact ⟨rfl,hp,hk⟩
 ·rw [if_neg h,if_neg h,h1]
  by_cases he:(goL l d).1=0
  ·rw [if_pos he,if_pos he];exact ⟨rfl,h2,h3⟩
  ·rw [if_neg he,if_neg he];exact ⟨rfl,hp,hk⟩
theorem aFH {G p:Nat} {w W:World} {R:List Res} {d d':Dm} (h:Has G w W (cK p d::R)) (hp:d.Perm d'):Has G w W (cK p d'::R):=by
 obtain ⟨m,d2,h1,h2,h3⟩:=jQ h;exact jP h3 (h1.trans hp) ((jO hp).1 h2)
theorem aFI {G p:Nat} {w W:World} {R:List Res} {d:Dm} (h:Has G w W (cK p d::R)):dY d:=by
 obtain ⟨m,d2,h1,h2,h3⟩:=jQ h;exact h2
theorem aFJ (w0 W:World) (H:Fh) (p:Nat) (d:Dm) (l:List OpD) (sv:Value) (R:List Res) (ho:∀o∈l,OpOk o) (r:RdH H 9 sv l.length (l.flatMap bZ)) (i:In (Fz H) R) (hH:(fr w0).le H) (hT:Tabs w0) (hw:Has 0 w0 W (cK p d::R)):
  Calls prog 173 ⟨[.pointer (some ⟨p,0,none⟩),sv]⟩ W fun e W'=>e= .returned (.int .i64 (fE d l).1)∧Has 0 w0 W' (cK p (fE d l).2::R):=by
 have hk:=aFI hw;obtain ⟨h1,h2,h3⟩:=aFG (List.Perm.refl d) hk l;refine (aFB w0 W H p d l sv R ho r i hH hT hw).mono ?_;rintro e W' ⟨rfl,h⟩;exact ⟨by rw [h1],aFH h h2⟩
theorem aA3 (l m:List UInt8) (v u:Value) (w:World) (r:RdB w v l) (r':RdB w u m):
  Calls prog 160 ⟨[v,u]⟩ w fun e w'=>e= .returned (.bool (l == m))∧Below w.heap.size w w':=by
 have hw:=Has.start (G:=0) (w:=w) (Nat.zero_le _);refine en Tryz.func160 Tryz.ntmps160 fun a hs=>?_;refine zA hs hw ?_;clear hs;intro a hs;refine iF (hs:=hs) (r:=r) (k:=?_);clear hs;intro a hs;refine zA hs hw ?_;clear hs;intro a hs;refine iF (hs:=hs) (r:=r') (k:=?_);clear hs;intro a hs;refine zA hs hw ?_;clear hs;intro a hs;have e:((⟨l.toArray⟩:ByteArray).toList == (⟨m.toArray⟩:ByteArray).toList)=(l == m):=by
  rw [Go.ByteArray.toList_eq,Go.ByteArray.toList_eq]
 rw [e] at hs;exact rt1 hs rfl rfl ⟨rfl,hw.end inn⟩
theorem aA4 {W:World} {sad:Option Addr} {scap:Nat} {l:List OpD} {i:Nat} {o:OpD} (r:Rd W 9 (.slice sad l.length scap) l.length (l.flatMap bZ)) (h:l[i]? =some o):
  ∃g off,sad=some ⟨g,off,none⟩∧g<W.heap.size∧∀j u,(bZ o)[j]? =some u→W.cell? ⟨g,off+i*9+j,none⟩=some u:=by
 have hi:i<l.length:=(List.getElem?_eq_some_iff.1 h).1;obtain ⟨h1,ad,cap,e,h3,h4,h5⟩:=r;injection e with e1 e2 e3;subst e1;rcases h5 with h5|⟨b,off,rfl,hlt,hc⟩
 ·omega
 ·refine ⟨b,off,rfl,hlt,fun j u hu=>?_⟩;rw [Nat.add_assoc];refine hc _ _ ?_;have e:=(congrArg (fun t=>t[j]?) (vX l i o h)).trans hu;simp only [List.getElem?_take] at e;split at e
  ·rw [List.getElem?_drop] at e;exact e
  ·cases e
theorem aFK {l l':List OpD} {i:Nat} {o o':OpD} (h:l[i]? =some o) (h':l'[i]? =some o') (e:lQ (l.take i) (l'.take i)=true):lQ (l.take (i+1)) (l'.take (i+1))=kW o o':=by
 unfold lQ at *;have h1:=(List.getElem?_eq_some_iff.1 h).1;have h2:=(List.getElem?_eq_some_iff.1 h').1;rw [List.take_add_one,List.take_add_one,h,h',List.zip_append (by simp;omega),List.all_append,e];simp
theorem aFL {l l':List OpD} {i:Nat} {o o':OpD} (h:l[i]? =some o) (h':l'[i]? =some o') (e:kW o o'=false):lQ l l'=false:=by
 unfold lQ;rw [List.all_eq_false];exact ⟨(o,o'),List.mem_of_getElem? (i:=i) (by rw [List.getElem?_zip_eq_some];exact ⟨h,h'⟩),by rw [e];simp⟩
abbrev cG (H:Fh) (sv:Value) (l:List OpD):Prop:=RdH H 9 sv l.length (l.flatMap bZ)
instance arTold:Ar prog 269 6 268:=⟨by kernel_rfl⟩
theorem aFM (l:List OpD):∀u∈l.flatMap bZ,u.oneCell'=true:=by
 intro u hu;obtain ⟨o,_,ho⟩:=List.mem_flatMap.1 hu;simp only [bZ,List.mem_cons,List.not_mem_nil,or_false] at ho;rcases ho with rfl|rfl|rfl|rfl|rfl|rfl|rfl|rfl|rfl <;> rfl
theorem r8 (w0 W:World) (H:Fh) (l:List OpD) (sv:Value) (R:List Res) (hl:l.length≤1000) (r:RdH H 9 sv l.length (l.flatMap bZ)) (hw:Has 0 w0 W (Fz H::R)):
  Calls prog 180 ⟨[sv]⟩ W fun e W'=>∃sv' H',e= .returned sv'∧H.le H'∧RdH H' 9 sv' l.length (l.flatMap bZ)∧Has 0 w0 W' (Fz H'::R):=by
 obtain ⟨sad,scap,rfl⟩:=r.slice;refine en Tryz.func180 Tryz.ntmps180 fun a hs=>?_;refine zA hs hw ?_;clear hs;intro a hs;refine kR hs (c:=?_);clear hs;intro a hs;cases sad with
 |none=>
  refine zA hs hw ?_;clear hs;intro a hs;have h0:l= []:=by
   obtain ⟨_,ad,cap,e,_,_,h|⟨b,o,cs,T,z,h,_⟩⟩:=r
   ·exact List.eq_nil_of_length_eq_zero h
   ·injection e with e1 _ _;rw [←e1] at h;cases h
  subst h0;exact rt1 hs rfl rfl ⟨_,H,rfl,Fh.le.refl _,RdH.nil H 9 0 (by omega),hw⟩
 |some A=>
  rw [show (some A).isNone=false from rfl] at hs;refine zG hs ?_;refine o6 hs hw (c:=?_);clear hs hw;intro a ad W hw hs;refine zA hs hw ?_;clear hs;intro a hs;refine lL hs (hw:=hw) (k:=0) (m:=l.length) (xs:=[]) (news:=l.flatMap bZ) (hsrc:=eZ (hw.rdH (In.tl In.hd) r) (aFM l)) (h63:=by omega) (hb:=by omega) (c:=?_);clear hs hw;intro a ad2 cap2 W hs hw;refine zA hs hw ?_;clear hs;intro a hs;rw [List.nil_append,Nat.zero_add] at hw;rw [Nat.zero_add] at hs;obtain ⟨H',h1,h2,h3⟩:=hw.freeze_own;exact rt1 hs rfl rfl ⟨_,H',rfl,h1,h3,h2⟩
structure cT where
 c:Int
 q:Int
 l:List OpD
structure cC where
 place:Int
 b:cT
 err:Int
def aK (b:cT) (sv:Value):List Value:=[.int .i64 b.c,.int .i64 b.q,sv]
def aI (r:cC) (sv:Value):List Value:=[.int .i64 r.place,.int .i64 r.b.c,.int .i64 r.b.q,sv,.int .i64 r.err]
def BatIn (H:Fh) (b:cT) (cs:List Value):Prop:=∃sv,cs=aK b sv∧cG H sv b.l
def RowIn (H:Fh) (r:cC) (cs:List Value):Prop:=∃sv,cs=aI r sv∧cG H sv r.b.l
def TolIn (H:Fh) (x:Int×cC) (cs:List Value):Prop:=∃sv,cs= .int .i64 x.1::aI x.2 sv∧cG H sv x.2.b.l
structure iK (b:cT):Prop where
 c:i64 b.c
 q:i64 b.q
 ops:∀o∈b.l,OpOk o
def dS (b:cT):Bool:=dO b.c b.q b.l
def zeroRow:cC:=⟨0,⟨0,0,[]⟩,0⟩
abbrev zrc:List Value:=[.int .i64 0,.int .i64 0,.int .i64 0,.slice none 0 0,.int .i64 0]
theorem BatIn.len {H:Fh}:∀(b:cT) (c:List Value),BatIn H b c→c.length=3:=by rintro b c ⟨sv,rfl,_⟩;rfl
theorem RowIn.len {H:Fh}:∀(b:cC) (c:List Value),RowIn H b c→c.length=5:=by rintro b c ⟨sv,rfl,_⟩;rfl
theorem TolIn.len {H:Fh}:∀(b:Int×cC) (c:List Value),TolIn H b c→c.length=6:=by rintro b c ⟨sv,rfl,_⟩;rfl
theorem BatIn.le {H H':Fh} (h:H.le H'):∀(b:cT) (c:List Value),BatIn H b c→BatIn H' b c:=by rintro b c ⟨sv,rfl,h1⟩;exact ⟨sv,rfl,h1.le h⟩
theorem RowIn.le {H H':Fh} (h:H.le H'):∀(b:cC) (c:List Value),RowIn H b c→RowIn H' b c:=by rintro b c ⟨sv,rfl,h1⟩;exact ⟨sv,rfl,h1.le h⟩
theorem TolIn.le {H H':Fh} (h:H.le H'):∀(b:Int×cC) (c:List Value),TolIn H b c→TolIn H' b c:=by rintro b c ⟨sv,rfl,h1⟩;exact ⟨sv,rfl,h1.le h⟩
theorem RowIn.ones {H:Fh}:∀(b:cC) (c:List Value),RowIn H b c→∀v∈c,v.oneCell'=true:=by
 rintro b c ⟨sv,rfl,h⟩ v hv;obtain ⟨ad,cap,rfl⟩:=h.slice;simp only [aI,List.mem_cons,List.not_mem_nil,or_false] at hv;rcases hv with rfl|rfl|rfl|rfl|rfl <;> rfl
theorem TolIn.ones {H:Fh}:∀(b:Int×cC) (c:List Value),TolIn H b c→∀v∈c,v.oneCell'=true:=by
 rintro b c ⟨sv,rfl,h⟩ v hv;rcases List.mem_cons.1 hv with rfl|hv
 ·rfl
 ·exact RowIn.ones b.2 _ ⟨sv,rfl,h⟩ v hv
theorem j6 (H:Fh):cG H (.slice none 0 0) []:=RdH.nil H 9 0 (by omega)
structure dZ where
 place:Int
 d:Dm
 told:List (Int×cC)
def dA (pl:Int) (pd:Nat) (xs:List Value):List Value:= .int .i64 pl:: .pointer (some ⟨pd,0,none⟩)::xs
def i8 (H:Fh) (told:List (Int×cC)) (xs:List Value):Prop:=told.length=6∧Ch (TolIn H) told xs
def aU (H:Fh) (p:Nat) (f:dZ):Res:=Ex fun x:Nat×List Value=>aA p (dA f.place x.1 x.2) 271::cK x.1 f.d::bQ (i8 H f.told x.2):: []
section
variable {G p pd:Nat} {w W:World} {R:List Res} {f:dZ} {H H':Fh} {xs:List Value}
theorem mL (h:Has G w W (aA p (dA f.place pd xs) 271::cK pd f.d::R)) (ht:i8 H f.told xs):Has G w W (aU H p f::R):=
 Has.shut (pd,xs) ((h.fact ht).perm ((List.Perm.swap _ _ _).trans (List.Perm.cons _ (List.Perm.swap _ _ _))))
theorem pJ (h:Has G w W (aU H p f::R)):∃pd xs,i8 H f.told xs∧Has G w W (aA p (dA f.place pd xs) 271::cK pd f.d::R):=by
 obtain ⟨⟨pd,xs⟩,h⟩:=Has.open h;have h:Has G w W (aA p (dA f.place pd xs) 271::cK pd f.d::bQ (i8 H f.told xs)::R):=h;exact ⟨pd,xs,h.told (In.tl (In.tl In.hd)),h.sub (List.Sublist.cons_cons _ (List.Sublist.cons_cons _ (List.Sublist.cons _ (List.Sublist.refl _))))⟩
theorem j7 (h:Has G w W (aU H p f::R)) (hl:H.le H'):Has G w W (aU H' p f::R):=by
 obtain ⟨pd,xs,⟨h1,h2⟩,h3⟩:=pJ h;exact mL h3 ⟨h1,h2.mono (TolIn.le hl)⟩
end
theorem aFN {H:Fh} {told:List (Int×cC)} {xs:List Value} (h:i8 H told xs):xs.length=36:=by
 have:=h.2.length TolIn.len;rw [h.1] at this;omega
theorem aA5 {H:Fh} {told:List (Int×cC)} {xs:List Value} (h:i8 H told xs) {c:Nat} {x:Int×cC} (hx:told[c]? =some x):∃sv,cG H sv x.2.b.l∧cut xs (c*6) 6= .int .i64 x.1::aI x.2 sv:=by
 obtain ⟨cs,⟨sv,rfl,h1⟩,h2,h3⟩:=h.2.get TolIn.len hx;exact ⟨sv,h1,h3⟩
theorem aFO {H:Fh} {told:List (Int×cC)} {xs:List Value} (h:i8 H told xs) {c:Nat} (hc:c<6) {x:Int×cC} {sv:Value} (hx:cG H sv x.2.b.l):i8 H (told.set c x) (ov xs (c*6) (.int .i64 x.1::aI x.2 sv)):=
 ⟨by rw [List.length_set];exact h.1,h.2.set TolIn.len (by rw [h.1];exact hc) ⟨sv,rfl,hx⟩⟩
theorem aA6 {H:Fh} {told:List (Int×cC)} {xs:List Value} (pl:Int) (pd:Nat) (h:i8 H told xs):(dA pl pd xs).length=38:=by
 have:=aFN h;simp [dA,this]
theorem aFP {H:Fh} {told:List (Int×cC)} {xs:List Value} (pl:Int) (pd:Nat) (h:i8 H told xs):(dA pl pd xs).all (·.oneCell')=true:=by
 rw [List.all_eq_true];intro v hv;simp only [dA,List.mem_cons] at hv;rcases hv with rfl|rfl|hv
 ·rfl
 ·rfl
 ·exact h.2.ones TolIn.ones v hv
abbrev iL:List Value:=[.int .i64 0,.int .i64 0,.int .i64 0,.int .i64 0,.slice none 0 0,.int .i64 0]
theorem aFQ (H:Fh):i8 H (List.replicate 6 (0,zeroRow)) (iL ++ (iL ++ (iL ++ (iL ++ (iL ++ (iL ++ [])))))):=by
 have z:TolIn H (0,zeroRow) iL:=⟨_,rfl,j6 H⟩
 exact ⟨rfl,_,_,rfl,z,_,_,rfl,z,_,_,rfl,z,_,_,rfl,z,_,_,rfl,z,_,_,rfl,z,rfl⟩
def fY:dZ:=⟨0,[],List.replicate 6 (0,zeroRow)⟩
theorem aFR (cs:List Value) (n:Nat) (h:cs.length=n):cut cs 0 n=cs:=by
 rw [gB,List.drop_zero,List.take_of_length_le (by omega)]
theorem aFS (cs vs:List Value) (h:vs.length=cs.length):ov cs 0 vs=vs:=by
 rw [jK _ _ _ (by omega),List.take_zero,List.nil_append,Nat.zero_add,h,List.drop_length,List.append_nil]
theorem aA7 (w0 W:World) (H:Fh) (R:List Res) (hw:Has 0 w0 W R):
  Calls prog 155 ⟨[]⟩ W fun e W'=>∃p,e= .returned (.pointer (some ⟨p,0,none⟩))∧Has 0 w0 W' (aU H p fY::R):=by
 refine en Tryz.func155 Tryz.ntmps155 fun a hs=>?_;refine zA hs hw ?_;clear hs;intro a hs;refine aH hs (hc:=aAY w0 _ _ hw) (k:=?_);rintro e0 W1 ⟨c,rfl,hw1⟩;refine ⟨_,rfl,?_⟩;clear hs hw;intro a hs;have hw:=hw1;clear hw1
 repeat (first|(refine sxv hs hw ?_;clear hs;intro a hs)|refine sxc hs ?_|(refine sxa hs hw ?_;clear hs hw;intro a b W hw hs)|(refine sxs hs hw ?_;clear hs hw;intro W hs hw))
 refine rt1 hs rfl rfl ⟨_,rfl,?_⟩;exact mL (H:=H) (f:=fY) (pd:=c) (xs:=iL ++ (iL ++ (iL ++ (iL ++ (iL ++ (iL ++ [])))))) (by with_unfolding_all exact hw) (aFQ H)
def cN (f:dZ) (c:Int):Int:=if 1≤c∧c≤5 then ((f.told[c.toNat]?).map (·.1)).getD 0 else 0
theorem aFT (c:Int) (W:World):Calls prog 270 ⟨[.int .i64 c]⟩ W fun e W'=>e= .returned (.bool (decide (1≤c∧c≤5)))∧Below W.heap.size W W':=by
 have hw:=Has.start (G:=0) (w:=W) (Nat.zero_le _);refine en Tryz.func270 Tryz.ntmps270 fun a hs=>?_;refine zA hs hw ?_;clear hs;intro a hs;cases h:decide (c≥1) with
 |true=>
  rw [h] at hs;refine zA hs hw ?_;clear hs;intro a hs;have:decide (c≤5)=decide (1≤c∧c≤5):=by
   have:=of_decide_eq_true h
   by_cases h5:c≤5
   ·rw [decide_eq_true h5,decide_eq_true ⟨this,h5⟩]
   ·rw [decide_eq_false h5,decide_eq_false fun h=>h5 h.2]
  exact rt1 hs rfl rfl ⟨by rw [←this];rfl,hw.end inn⟩
 |false=>
  rw [h] at hs;refine zA hs hw ?_;clear hs;intro a hs;have:decide (1≤c∧c≤5)=false:=decide_eq_false fun h'=>(of_decide_eq_false h) h'.1;exact rt1 hs rfl rfl ⟨by rw [this];rfl,hw.end inn⟩
theorem r9 (w0 W:World) (H:Fh) (p:Nat) (f:dZ) (c:Int) (R:List Res) (hw:Has 0 w0 W (aU H p f::R)):
  Calls prog 234 ⟨[.pointer (some ⟨p,0,none⟩),.int .i64 c]⟩ W fun e W'=>e= .returned (.int .i64 (cN f c))∧Has 0 w0 W' (aU H p f::R):=by
 refine en Tryz.func234 Tryz.ntmps234 fun a hs=>?_;refine zC hs hw ?_;clear hs;intro a hs;refine aH hs (hc:=aFT c _) (k:=?_);rintro e0 W1 ⟨rfl,hb⟩;refine ⟨_,rfl,?_⟩;clear hs;intro a hs;replace hw:=hw.below hb;clear hb;refine zC hs hw ?_;clear hs;intro a hs;cases h:decide (1≤c∧c≤5) with
 |false=>
  rw [h] at hs;refine zC hs hw ?_;clear hs;intro a hs;have hX:cN f c=0:=by unfold cN;rw [if_neg (of_decide_eq_false h)]
  exact rt1 hs rfl rfl ⟨by rw [hX],hw⟩
 |true=>
  rw [h] at hs;have h15:=of_decide_eq_true h;obtain ⟨pd,xs,ht,hw⟩:=pJ hw;refine zC hs hw ?_;clear hs;intro a hs;refine lM hs (h0:=by omega) (h1:=by omega) (c:=?_);clear hs;intro a hs;refine zC hs hw ?_;clear hs;intro a hs;obtain ⟨x,hx⟩:∃x,f.told[c.toNat]? =some x:=⟨f.told[c.toNat]'(by rw [ht.1];omega),List.getElem?_eq_getElem _⟩
  have hX:cN f c=x.1:=by
   unfold cN;rw [if_pos h15,hx];rfl
  refine gC hs (hw:=hw) (hi:=In.hd) (v:= .int .i64 x.1) (hv:=?_) (k:=?_)
  ·show (dA f.place pd xs)[0+2+c.toNat*6+0]? =_;rw [show 0+2+c.toNat*6+0=c.toNat*6+1+1 by omega];obtain ⟨sv,_,h6⟩:=aA5 ht hx;have:=congrArg (fun t=>t[0]?) h6;simp only [gB,List.getElem?_take,List.getElem?_drop] at this;simpa [dA] using this
  ·clear hs;intro a hs;refine zC hs hw ?_;clear hs;intro a hs;exact rt1 hs rfl rfl ⟨by rw [hX],mL hw ht⟩
theorem aA8 (w0 W:World) (H:Fh) (p:Nat) (f:dZ) (R:List Res) (hw:Has 0 w0 W (aU H p f::R)):
  Calls prog 183 ⟨[.pointer (some ⟨p,0,none⟩)]⟩ W fun e W'=>∃q,e= .returned (.pointer (some ⟨q,0,none⟩))∧Has 0 w0 W' (aU H q f::aU H p f::R):=by
 refine en Tryz.func183 Tryz.ntmps183 fun a hs=>?_;obtain ⟨pd,xs,ht,hw⟩:=pJ hw;have hl:=aA6 f.place pd ht;refine zC hs hw ?_;clear hs;intro a hs;refine uQ hs (hw:=hw) (hi:=In.hd) (hl:=by rw [hl];rfl) (k:=?_);clear hs;intro a hs;replace hs:Slots a 15 [(8,.agg ⟨dA f.place pd xs⟩),(0,.pointer (some ⟨p,0,none⟩))]:=hs.of ⟨congrArg (fun x=>some (Value.agg ⟨x⟩)) (aFR _ 38 hl),rfl,trivial⟩
 repeat (first|(refine sxv hs hw ?_;clear hs;intro a hs)|refine sxc hs ?_|(refine sxa hs hw ?_;clear hs hw;intro a b W hw hs)|(refine sxs hs hw ?_;clear hs hw;intro W hs hw)|((with_reducible first|refine gD hs (k:=?_)|refine gE hs (k:=?_));clear hs;intro a hs))
 obtain ⟨q,q1⟩:=nm1 hw;subst q1;refine d7 hs (vs:=dA f.place pd xs) (hw:=hw) (hz:=by rw [hl];rfl) (h1:=aFP _ _ ht) (hl:=by rw [hl];rfl) (k:=?_);clear hs hw;intro W hs hw;rw [aFS _ _ (by rw [hl];rfl)] at hw;refine zC hs hw ?_;clear hs;intro a hs;have hw:Has 0 w0 W (cK pd f.d::aA q (dA f.place pd xs) 271::aA p (dA f.place pd xs) 271::R):=hw.pm;refine aH hs (hc:=aAZ w0 _ pd f.d _ hw) (k:=?_);rintro e0 W1 ⟨c,rfl,hw1⟩;refine ⟨_,rfl,?_⟩;clear hs hw;intro a hs;have hw:=hw1;clear hw1;have hw:Has 0 w0 _ (aA q (dA f.place pd xs) 271::cK c f.d::aA p (dA f.place pd xs) 271::cK pd f.d::R):=hw.pm;refine zD hs hw ?_;clear hs hw;intro a W hs hw;rw [aDk] at hw;have hw:Has 0 w0 _ (aA q (dA f.place c xs) 271::cK c f.d::aA p (dA f.place pd xs) 271::cK pd f.d::R):=hw;have hw:=mL hw ht;have hw:Has 0 w0 _ (aA p (dA f.place pd xs) 271::cK pd f.d::aU H q f::R):=hw.pm;have hw:=(mL hw ht).swap2;exact rt1 hs rfl rfl ⟨q,rfl,hw⟩
theorem wE (w0 W:World) (H:Fh) (r:cC) (sv:Value) (R:List Res) (hl:r.b.l.length≤1000) (hr:cG H sv r.b.l) (hw:Has 0 w0 W (Fz H::R)):
  Calls prog 235 ⟨[.agg ⟨aI r sv⟩]⟩ W fun e W'=>∃sv' H',e= .returned (.agg ⟨aI r sv'⟩)∧H.le H'∧cG H' sv' r.b.l∧Has 0 w0 W' (Fz H'::R):=by
 obtain ⟨sad,scap,rfl⟩:=hr.slice;refine en Tryz.func235 Tryz.ntmps235 fun a hs=>?_
 repeat (first|(refine sxv hs hw ?_;clear hs;intro a hs)|refine sxc hs ?_|(refine sxa hs hw ?_;clear hs hw;intro a b W hw hs)|(refine sxs hs hw ?_;clear hs hw;intro W hs hw))
 obtain ⟨b2,q2⟩:=nm1 hw;subst q2;obtain ⟨b1,q1⟩:=nm2 hw;subst q1;have hw:Has 0 w0 _ (Fz H::aA b2 [.int .i64 0,.int .i64 0,.int .i64 0,.slice none 0 0,.int .i64 0] 68::aA b1 (aI r (.slice sad r.b.l.length scap)) 68::R):=hw.pm;refine aH hs (hc:=r8 w0 _ H r.b.l _ _ hl hr hw) (k:=?_);rintro e0 W1 ⟨sv',H',rfl,h1,h2,hw1⟩;refine ⟨_,rfl,?_⟩;clear hs hw;intro a hs;have hw:=hw1;clear hw1;obtain ⟨tad,tcap,rfl⟩:=h2.slice;refine zB hs hw ?_;clear hs hw;intro a W hs hw;refine rc1 hs rfl rfl hw (In.tl In.hd) rfl ?_;exact ⟨_,H',rfl,h1,h2,hw.drop2.drop2⟩
theorem aA9 (w0 W:World) (H:Fh) (r:cC) (sv:Value) (R:List Res) (hl:r.b.l.length≤1000) (hr:cG H sv r.b.l) (hw:Has 0 w0 W (Fz H::R)):
  Calls prog 103 ⟨[.agg ⟨aI r sv⟩]⟩ W fun e W'=>∃sv' H',e= .returned (.agg ⟨aI r sv'⟩)∧H.le H'∧cG H' sv' r.b.l∧Has 0 w0 W' (Fz H'::R):=by
 obtain ⟨sad,scap,rfl⟩:=hr.slice;refine en Tryz.func103 Tryz.ntmps103 fun a hs=>?_
 repeat (first|(refine sxv hs hw ?_;clear hs;intro a hs)|refine sxc hs ?_|(refine sxa hs hw ?_;clear hs hw;intro a b W hw hs)|(refine sxs hs hw ?_;clear hs hw;intro W hs hw))
 obtain ⟨b2,q2⟩:=nm1 hw;subst q2;obtain ⟨b1,q1⟩:=nm2 hw;subst q1;have hw:Has 0 w0 _ (Fz H::aA b2 [.int .i64 0,.int .i64 0,.int .i64 0,.slice none 0 0,.int .i64 0] 68::aA b1 (aI r (.slice sad r.b.l.length scap)) 68::R):=hw.pm;refine aH hs (hc:=r8 w0 _ H r.b.l _ _ hl hr hw) (k:=?_);rintro e0 W1 ⟨sv',H',rfl,h1,h2,hw1⟩;refine ⟨_,rfl,?_⟩;clear hs hw;intro a hs;have hw:=hw1;clear hw1;obtain ⟨tad,tcap,rfl⟩:=h2.slice;refine zB hs hw ?_;clear hs hw;intro a W hs hw;refine rc1 hs rfl rfl hw (In.tl In.hd) rfl ?_;exact ⟨_,H',rfl,h1,h2,hw.drop2.drop2⟩
theorem aFg {k n:Int} {s:ByteArray} (t:List UInt8) (h:(bV k n s).2=0) (h0: -9223372036854775808≤n) (h1:n≤9223372036854775807) (hs:s.size≤1000000):
  getR (cS k n s ++ t)=((k,n,s),(cS k n s).length,0):=by
 have hd:s.data.toList.length=s.size:=by rw [Array.length_toList];rfl
 have hO:=h;unfold bV at h;have he:s.size=0→s=⟨#[]⟩:=fun h=>by
  apply ByteArray.ext;exact Array.eq_empty_of_size_eq_zero h
 split at h
 ·rename_i c;obtain ⟨rfl,rfl,hz⟩:=c;have g:=Ph.getI_putI 0 t (by omega) (by omega);have e:cS 0 0 s=Ph.putI 0:=by simp [cS]
  rw [e,getR.eq_1,g,he hz];simp
 ·split at h
  ·rename_i c;obtain ⟨rfl,hz⟩:=c;have e:cS 1 n s=Ph.putI 1 ++ Ph.putI n:=by simp [cS]
   have g:=Ph.getI_putI 1 (Ph.putI n ++ t) (by omega) (by omega);have g2:=Ph.getI_putI n t h0 h1;rw [e,List.append_assoc,getR.eq_1,g,he hz];simp only [List.drop_left,g2,List.length_append];simp
  ·split at h
   ·rename_i c;obtain ⟨rfl,rfl,hz,hv⟩:=c;have e:cS 2 0 s=Ph.putI 2 ++ Ph.putT s.data.toList:=by simp [cS]
    have g:=Ph.getI_putI 2 (Ph.putT s.data.toList ++ t) (by omega) (by omega);have g2:=Ph.getT_putT s.data.toList t (by omega);rw [e,List.append_assoc,getR.eq_1,g];simp only [List.drop_left,g2,List.length_append,aA0,hO];simp
   ·cases h
def fS:Nat→Int→List OpD→(List UInt8×Bool)→List OpD×(List UInt8×Bool)
 |0,_,l,s=>(l,s)
 |f+1,n,l,s=>if 0<n∧s.2=false∧l.length≤8 then fS f (n - 1) (l ++ [(dT s).1]) (dT s).2 else (l,s)
def kX (b:List UInt8):(Int×Int×List OpD)×(List UInt8×Bool):=
 let s1:=bI (b,false)
 let s2:=bI s1
 let r:=fS 10 (Ph.getI s2.1).1 [] (bI s2)
 (((Ph.getI b).1,(Ph.getI s1.1).1,r.1),r.2)
def decode (b:List UInt8):Option (Int×Int×List OpD):=
 let p:=kX b
 if p.2.2=false∧dO p.1.1 p.1.2.1 p.1.2.2=true∧eA p.1.1 p.1.2.1 p.1.2.2=b then some p.1 else none
theorem pM (n:Int) (t:List UInt8) (h:i64 n):bI (Ph.putI n ++ t,false)=(t,false)∧(Ph.getI (Ph.putI n ++ t)).1=n:=by
 unfold bI tk;simp only;rw [Ph.getI_putI n t h.1 h.2];simp
theorem aFh (s:ByteArray) (t:List UInt8) (h:s.size≤1000000):eT (Ph.putT s.data.toList ++ t,false)=(t,false)∧(⟨(Ph.getT (Ph.putT s.data.toList ++ t)).1.toArray⟩:ByteArray)=s:=by
 have hd:s.data.toList.length=s.size:=by rw [Array.length_toList];rfl
 unfold eT tk;simp only;rw [Ph.getT_putT s.data.toList t (by omega)];refine ⟨?_,aA0 s⟩;simp
theorem wK {k n:Int} {s:ByteArray} (t:List UInt8) (h:(bV k n s).2=0) (hn:i64 n) (hs:s.size≤1000000):dW (cS k n s ++ t,false)=(t,false)∧(getR (cS k n s ++ t)).1=(k,n,s):=by
 unfold dW tk;simp only;rw [aFg t h hn.1 hn.2 hs];simp
theorem aFi (o:OpD) (t:List UInt8) (hm:fL o=true) (ho:OpOk o):dT (opB o ++ t,false)=(o,(t,false)):=by
 obtain ⟨kind,key,vk,vn,vs,ok,on,os,n⟩:=o;obtain ⟨hk,hvk,hvn,hok,hon,hn,hkey,hvs,hos⟩:=ho;simp only at hk hvk hvn hok hon hn hkey hvs hos;simp only [fL,e7,Bool.and_eq_true,beq_iff_eq] at hm;obtain ⟨⟨⟨-,hv⟩,hO⟩,hm⟩:=hm;have key0:∀x:List UInt8,bI (Ph.putI kind ++ (Ph.putT key.data.toList ++ x),false)=(Ph.putT key.data.toList ++ x,false)∧(Ph.getI (Ph.putI kind ++ (Ph.putT key.data.toList ++ x))).1=kind:=fun x=>pM kind _ hk;have key1:∀x:List UInt8,eT (Ph.putT key.data.toList ++ x,false)=(x,false)∧(⟨(Ph.getT (Ph.putT key.data.toList ++ x)).1.toArray⟩:ByteArray)=key:=fun x=>aFh key x hkey
 have main:∀x:List UInt8,dT (Ph.putI kind ++ (Ph.putT key.data.toList ++ x),false)=(if kind=3 then
   (⟨kind,key,(getR x).1.1,(getR x).1.2.1,(getR x).1.2.2,(getR (dW (x,false)).1).1.1,(getR (dW (x,false)).1).1.2.1,(getR (dW (x,false)).1).1.2.2,0⟩,dW (dW (x,false)))
   else if kind=1 then (⟨kind,key,(getR x).1.1,(getR x).1.2.1,(getR x).1.2.2,0,0,⟨#[]⟩,0⟩,dW (x,false))
   else if kind=4 then (⟨kind,key,0,0,⟨#[]⟩,0,0,⟨#[]⟩,(Ph.getI x).1⟩,bI (x,false))
   else (⟨kind,key,0,0,⟨#[]⟩,0,0,⟨#[]⟩,0⟩,(x,false))):=fun x=>by
  unfold dT;simp only;rw [(key0 x).1,(key0 x).2];simp only;rw [(key1 x).1,(key1 x).2]
 have hA:opB ⟨kind,key,vk,vn,vs,ok,on,os,n⟩ ++ t=Ph.putI kind ++ (Ph.putT key.data.toList ++ ((if kind=3 then cS vk vn vs ++ cS ok on os else if kind=1 then cS vk vn vs else if kind=4 then Ph.putI n else []) ++ t)):=by
  unfold opB;simp only [List.append_assoc]
 rw [hA,main];clear main hA key0 key1;split at hm
 ·rename_i k1;subst k1;simp only [Bool.and_eq_true,beq_iff_eq] at hm;obtain ⟨⟨-,h2⟩,rfl⟩:=hm;obtain ⟨rfl,rfl,rfl⟩:=pG.1 h2;obtain ⟨g1,g2⟩:=wK t hv hvn hvs;rw [if_neg (by decide),if_pos rfl,if_neg (by decide),if_pos rfl,g1,g2]
 ·rename_i k1;split at hm
  ·rename_i k2;subst k2;simp only [Bool.and_eq_true,beq_iff_eq] at hm;obtain ⟨⟨h1,h2⟩,rfl⟩:=hm;obtain ⟨rfl,rfl,rfl⟩:=pG.1 h1;obtain ⟨rfl,rfl,rfl⟩:=pG.1 h2;rw [if_neg (by decide),if_neg (by decide),if_neg (by decide),if_neg (by decide),if_neg (by decide),if_neg (by decide),List.nil_append]
  ·split at hm
   ·rename_i k3;subst k3;simp only [Bool.and_eq_true,beq_iff_eq] at hm;obtain ⟨-,rfl⟩:=hm;obtain ⟨g1,g2⟩:=wK (cS ok on os ++ t) hv hvn hvs;obtain ⟨g3,g4⟩:=wK t hO hon hos;rw [if_pos rfl,if_pos rfl,List.append_assoc,g1,g2];simp only;rw [g3,g4]
   ·split at hm
    ·rename_i k4;subst k4;simp only [Bool.and_eq_true] at hm;obtain ⟨⟨⟨h1,h2⟩, -⟩, -⟩:=hm;obtain ⟨rfl,rfl,rfl⟩:=pG.1 h1;obtain ⟨rfl,rfl,rfl⟩:=pG.1 h2;obtain ⟨g1,g2⟩:=pM n t hn;rw [if_neg (by decide),if_neg (by decide),if_pos rfl,if_neg (by decide),if_neg (by decide),if_pos rfl,g1,g2]
    ·cases hm
theorem aFj (f:Nat) (acc:List OpD) (s:List UInt8×Bool):fS f 0 acc s=(acc,s):=by
 cases f with
 |zero=>rfl
 |succ f=>rw [fS,if_neg (by omega)]
theorem aAi:∀(l:List OpD) (f:Nat) (acc:List OpD) (t:List UInt8),acc.length+l.length≤8→l.length≤f→l.all fL=true→(∀o∈l,OpOk o)→fS f (l.length:Int) acc (l.flatMap opB ++ t,false)=(acc ++ l,(t,false))
 | [],f,acc,t,_,_,_,_=>by
  rw [show (([]:List OpD).length:Int)=0 from rfl,aFj];simp
 |o::l,0,acc,t,_,hf,_,_=>by simp at hf
 |o::l,f+1,acc,t,h8,hf,hm,ho=>by
  simp only [List.length_cons] at h8 hf;rw [List.all_cons,Bool.and_eq_true] at hm;rw [fS,if_pos ⟨by simp only [List.length_cons];omega,rfl,by omega⟩,List.flatMap_cons,List.append_assoc,aFi o _ hm.1 (ho o (by simp))];simp only;have e:((o::l).length:Int) - 1=(l.length:Int):=by simp only [List.length_cons];omega
  rw [e,aAi l f (acc ++ [o]) t (by simp;omega) (by omega) hm.2 fun x hx=>ho x (by simp [hx])];simp
theorem aFk {c q:Int} {l:List OpD} (t:List UInt8) (h:dO c q l=true) (ho:∀o∈l,OpOk o):kX (eA c q l ++ t)=((c,q,l),(t,false)):=by
 obtain ⟨hc,hq,hl,hm, -⟩:=mK h;have e:eA c q l ++ t=Ph.putI c ++ (Ph.putI q ++ (Ph.putI l.length ++ (l.flatMap opB ++ t))):=by
  unfold eA iJ;simp only [List.append_assoc]
 obtain ⟨g1,g2⟩:=pM c (Ph.putI q ++ (Ph.putI l.length ++ (l.flatMap opB ++ t))) ⟨by omega,by omega⟩;obtain ⟨g3,g4⟩:=pM q (Ph.putI l.length ++ (l.flatMap opB ++ t)) ⟨by omega,by omega⟩;obtain ⟨g5,g6⟩:=pM l.length (l.flatMap opB ++ t) ⟨by omega,by omega⟩;unfold kX;simp only;rw [e,g1,g2];simp only;rw [g3,g4];simp only;rw [g5,g6,aAi l 10 [] t (by simp;omega) (by omega) hm ho];rfl
theorem aFl {c q:Int} {l:List OpD} (h:dO c q l=true) (ho:∀o∈l,OpOk o):decode (eA c q l)=some (c,q,l):=by
 have:=aFk [] h ho;rw [List.append_nil] at this;unfold decode;simp only;rw [this,if_pos ⟨rfl,h,rfl⟩]
theorem aFm {b:List UInt8} {c q:Int} {l:List OpD} (h:decode b=some (c,q,l)):dO c q l=true∧eA c q l=b∧(kX b).1=(c,q,l):=by
 unfold decode at h;simp only at h;split at h
 ·rename_i hh;have e:=Option.some.inj h;rw [e] at hh;exact ⟨hh.2.1,hh.2.2,e⟩
 ·cases h
theorem aFn (y:Nat) (h:y<18446744073709551616):i64 (Ph.unzig y):=by
 unfold Ph.unzig i64;split <;> omega
theorem aAj:∀(l:List UInt8) (i u:Nat),u<128 ^ i→i≤9→i64 (Ph.getN i u l).1
 | [],i,u,_,_=>by rw [Ph.getN_end];simp [i64]
 |c::t,i,u,hu,hi=>by
  have hc:=c.toNat_lt;rw [Ph.getN];split
  ·simp [i64]
  ·rename_i c1;split
   ·rename_i c2;have h8:i≤8:=by omega
    exact aAj t (i+1) _ (Ph.sum_small u c.toNat i hu h8 (by omega)).2 (by omega)
   ·rename_i c2;split
    ·simp [i64]
    ·refine aFn _ ?_
     by_cases h8:i≤8
     ·have h1:=(Ph.sum_small u c.toNat i hu h8 (by omega)).2;have h2:128 ^ (i+1)≤128 ^ 9:=Nat.pow_le_pow_right (by omega) (by omega);have h3:(128:Nat) ^ 9=9223372036854775808:=by decide
      omega
     ·obtain rfl:i=9:=by omega
      have h3:(128:Nat) ^ 9=9223372036854775808:=by decide
      rw [h3] at hu;have:c.toNat≤1:=by omega
      have h4:c.toNat % 128*128 ^ 9≤9223372036854775808:=by
       rw [h3,Nat.mod_eq_of_lt (by omega)];omega
      omega
theorem nR (l:List UInt8):i64 (Ph.getI l).1:=aAj l 0 0 (by simp) (by omega)
theorem aAk (l:List UInt8):i64 (getR l).1.1∧i64 (getR l).1.2.1∧(getR l).1.2.2.size≤l.length:=by
 have h1:=nR (l.drop (Ph.getI l).2.1);have z:i64 0:=⟨by omega,by omega⟩
 have e0:(⟨#[]⟩:ByteArray).size=0:=rfl;unfold getR;simp only;split
 ·exact ⟨z,z,by simp [e0]⟩
 ·split
  ·exact ⟨z,z,by simp [e0]⟩
  ·split
   ·split
    ·exact ⟨z,z,by simp [e0]⟩
    ·exact ⟨⟨by simp,by simp⟩,h1,by simp [e0]⟩
   ·split
    ·split
     ·exact ⟨z,z,by simp [e0]⟩
     ·have:=sF (l.drop (Ph.getI l).2.1);rw [List.length_drop] at this;split
      ·exact ⟨z,z,by simp [e0]⟩
      ·exact ⟨⟨by simp,by simp⟩,z,by simp only;omega⟩
    ·exact ⟨z,z,by simp [e0]⟩
theorem lS (s:List UInt8×Bool) (n:Nat) (err:Int):(tk s n err).1.length≤s.1.length:=by
 unfold tk;simp only;split
 ·exact Nat.le_refl _
 ·rw [List.length_drop];omega
theorem aFo (s:List UInt8×Bool) (h:s.1.length≤1000000):OpOk (dT s).1∧(dT s).2.1.length≤s.1.length:=by
 have h1:(bI s).1.length≤s.1.length:=lS _ _ _;have h2:(eT (bI s)).1.length≤(bI s).1.length:=lS _ _ _;have k0:=nR s.1;have hkey:=sF (bI s).1;unfold dT;simp only;generalize eT (bI s)=s2 at *;have h3:(dW s2).1.length≤s2.1.length:=lS _ _ _;have h4:(dW (dW s2)).1.length≤(dW s2).1.length:=lS _ _ _;have h5:(bI s2).1.length≤s2.1.length:=lS _ _ _;obtain ⟨a1,a2,a3⟩:=aAk s2.1;obtain ⟨b1,b2,b3⟩:=aAk (dW s2).1;have c1:=nR s2.1;have z:i64 0:=⟨by omega,by omega⟩
 have e0:(⟨#[]⟩:ByteArray).size≤1000000:=by show 0≤_;omega
 split
 ·exact ⟨⟨k0,a1,a2,b1,b2,z,by simp only;omega,by simp only;omega,by simp only;omega⟩,by simp only;omega⟩
 ·split
  ·exact ⟨⟨k0,a1,a2,z,z,z,by simp only;omega,by simp only;omega,e0⟩,by simp only;omega⟩
  ·split
   ·exact ⟨⟨k0,z,z,z,z,c1,by simp only;omega,e0,e0⟩,by simp only;omega⟩
   ·exact ⟨⟨k0,z,z,z,z,z,by simp only;omega,e0,e0⟩,by simp only;omega⟩
theorem aAl:∀(f:Nat) (n:Int) (l:List OpD) (s:List UInt8×Bool),s.1.length≤1000000→l.length≤9→(∀o∈l,OpOk o)→(fS f n l s).1.length≤9∧∀o∈(fS f n l s).1,OpOk o
 |0,n,l,s,_,h9,ho=>⟨h9,ho⟩
 |f+1,n,l,s,hs,h9,ho=>by
  rw [fS];split
  ·rename_i c;obtain ⟨g1,g2⟩:=aFo s hs;refine aAl f (n - 1) _ _ (by omega) (by simp;omega) fun o h=>?_;rcases List.mem_append.1 h with h|h
   ·exact ho o h
   ·rw [List.mem_singleton] at h;rw [h];exact g1
  ·exact ⟨h9,ho⟩
theorem aAm (b:List UInt8) (h:b.length≤1000000):i64 (kX b).1.1∧i64 (kX b).1.2.1∧(kX b).1.2.2.length≤9∧∀o∈(kX b).1.2.2,OpOk o:=by
 have h1:(bI (b,false)).1.length≤b.length:=lS _ _ _;have h2:(bI (bI (b,false))).1.length≤(bI (b,false)).1.length:=lS _ _ _;have h3:(bI (bI (bI (b,false)))).1.length≤(bI (bI (b,false))).1.length:=lS _ _ _;have:=aAl 10 (Ph.getI (bI (bI (b,false))).1).1 [] (bI (bI (bI (b,false)))) (by omega) (by simp) (by simp);exact ⟨nR _,nR _,this.1,this.2⟩
theorem aAn {b:List UInt8} {c q:Int} {l:List OpD} (hb:b.length≤1000000) (h:decode b=some (c,q,l)):i64 c∧i64 q∧l.length≤9∧∀o∈l,OpOk o:=by
 have:=aAm b hb;rw [(aFm h).2.2] at this;exact this
def fB (b:List UInt8):(Int×Int×List OpD)×Int:=match decode b with|none=>((0,0,[]),1)|some p=>(p,0)
theorem aFs {n:Int} {l:List OpD} {s:List UInt8×Bool} (h0:0<n) (h1:s.2=false) (h2:l.length≤8):fS (10 - l.length) n l s=fS (10 - (l.length+1)) (n - 1) (l ++ [(dT s).1]) (dT s).2:=by
 rw [show 10 - l.length=(10 - (l.length+1))+1 by omega,fS,if_pos ⟨h0,h1,h2⟩]
theorem aFt {n:Int} {l:List OpD} {s:List UInt8×Bool} (h:(decide (n > 0) && !s.2 && decide ((l.length:Int)≤8))=false) (f:Nat):fS f n l s=(l,s):=by
 cases f with
 |zero=>rfl
 |succ f=>
  rw [fS,if_neg];rintro ⟨h0,h1,h2⟩;rw [h1] at h;simp at h;omega
structure aFu where
 n:Int
 v:Value
 l:List OpD
 sv:Value
 s:List UInt8×Bool
set_option maxRecDepth 10000 in
theorem aFv (b:List UInt8) (sv:Value) (w:World) (hb:b.length≤1000000) (r:RdB w sv b) (hT:Tabs w):
  Calls prog 158 ⟨[sv]⟩ w fun e w'=>∃ad cap,e= .returned (.tuple #[.agg ⟨[.int .i64 (fB b).1.1,.int .i64 (fB b).1.2.1,.slice ad (fB b).1.2.2.length cap]⟩,.int .i64 (fB b).2])∧Has 0 w w' (Sx.Own 55 9 (.slice ad (fB b).1.2.2.length cap) (fB b).1.2.2.length ((fB b).1.2.2.flatMap bZ)::Old w 0:: []):=by
 have hw:=Has.start (G:=0) (w:=w) (Nat.zero_le _);have hok:=aAm b hb;obtain ⟨sad,scap,rfl⟩:∃ad cap,sv= .slice ad b.length cap:=by obtain ⟨_,ad,cap,e,_⟩:=r;exact ⟨ad,cap,e⟩
 refine en Tryz.func158 Tryz.ntmps158 fun a hs=>?_
 repeat (first|(refine sxv hs hw ?_;clear hs;intro a hs)|refine sxc hs ?_|(refine sxa hs hw ?_;clear hs hw;intro a b W hw hs)|(refine sxs hs hw ?_;clear hs hw;intro W hs hw))
 obtain ⟨bp,q1⟩:=nm1 hw;subst q1;obtain ⟨b0,q2⟩:=nm2 hw;subst q2;have hw:Has 0 w _ (aA bp [.slice sad b.length scap,.bool (b,false).2] 312::aA b0 [.int .i64 0,.int .i64 0,.slice none 0 0] 66::Old w 0:: []):=hw;refine aH hs (hc:=pL w _ bp _ (b,false) _ (In.tl In.hd) r hw) (k:=?_);rintro e0 W1 ⟨rfl,sv1,r1,hw'⟩;refine ⟨_,rfl,?_⟩;clear hs hw;intro a hs;have hw:=hw';clear hw';rw [show tk (b,false) (Ph.getI (b,false).1).2.1 (Ph.getI (b,false).1).2.2=bI (b,false) from rfl] at hw r1
 repeat (first|(refine sxv hs hw ?_;clear hs;intro a hs)|refine sxc hs ?_|(refine sxa hs hw ?_;clear hs hw;intro a b W hw hs)|(refine sxs hs hw ?_;clear hs hw;intro W hs hw))
 obtain ⟨bx,q3⟩:=nm1 hw;subst q3;have hw:=hw.swap2;refine aH hs (hc:=pL w _ bp sv1 (bI (b,false)) _ (In.tl (In.tl In.hd)) r1 hw) (k:=?_);rintro e0 W1 ⟨rfl,sv2,r2,hw'⟩;refine ⟨_,rfl,?_⟩;clear hs hw;intro a hs;have hw:=hw';clear hw';rw [show tk (bI (b,false)) (Ph.getI (bI (b,false)).1).2.1 (Ph.getI (bI (b,false)).1).2.2=bI (bI (b,false)) from rfl] at hw r2;refine zB hs hw ?_;clear hs hw;intro a W hs hw;refine aH hs (hc:=pL w _ bp sv2 (bI (bI (b,false))) _ (In.tl (In.tl In.hd)) r2 hw) (k:=?_);rintro e0 W1 ⟨rfl,sv3,r3,hw'⟩;refine ⟨_,rfl,?_⟩;clear hs hw;intro a hs;have hw:=hw';clear hw';rw [show tk (bI (bI (b,false))) (Ph.getI (bI (bI (b,false))).1).2.1 (Ph.getI (bI (bI (b,false))).1).2.2=bI (bI (bI (b,false))) from rfl] at hw r3;refine zA hs hw ?_;clear hs;intro a hs;have hN:=nR (bI (bI (b,false))).1;have hdec:kX b=(((Ph.getI (b,false).1).1,(Ph.getI (bI (b,false)).1).1,(fS 10 (Ph.getI (bI (bI (b,false))).1).1 [] (bI (bI (bI (b,false))))).1),(fS 10 (Ph.getI (bI (bI (b,false))).1).1 [] (bI (bI (bI (b,false))))).2):=rfl;clear r1 r2;generalize (Ph.getI (bI (bI (b,false))).1).1=N at *;generalize bI (bI (bI (b,false)))=s3 at *;generalize (Ph.getI (bI (b,false)).1).1=q at *;generalize (Ph.getI (b,false).1).1=c at *;replace hw:=(hw.nilOwn 55 9).swap2;have hw:Has 0 w W1 (aA bp [sv3,.bool s3.2] 312::Sx.Own 55 9 (.slice none 0 0) ([]:List OpD).length (([]:List OpD).flatMap bZ)::aA bx [.int .i64 c,.int .i64 q,.slice none 0 0] 66::aA b0 [.int .i64 0,.int .i64 0,.slice none 0 0] 66::Old w 0:: []):=hw;refine bX (σ:=aFu) (fun t=>[(0,.slice sad b.length scap),(2,.pointer (some ⟨b0,0,none⟩)),(4,.pointer (some ⟨bp,0,none⟩)),(5,.pointer (some ⟨bx,0,none⟩)),(6,.int .i64 t.n)])
  (fun t=>aA bp [t.sv,.bool t.s.2] 312::Sx.Own 55 9 t.v t.l.length (t.l.flatMap bZ)::aA bx [.int .i64 c,.int .i64 q,t.v] 66::aA b0 [.int .i64 0,.int .i64 0,.slice none 0 0] 66::Old w 0:: [])
  (fun t=>RdB w t.sv t.s.1∧i64 t.n∧t.l.length≤9∧fS (10 - t.l.length) t.n t.l t.s=fS 10 N [] s3) (fun t=>10 - t.l.length) ⟨N,.slice none 0 0,[],sv3,s3⟩ ⟨r3,hN,by simp,rfl⟩ hs ⟨rfl,rfl,rfl,rfl,rfl,trivial⟩ hw ?_
 clear hs hw r3 hN;rintro ⟨n,v,l,sv,s⟩ a W ⟨hr,hn,hl,hrd⟩ hs hw;simp only at hr hn hl hrd hs hw;obtain ⟨vad,vcap,rfl⟩:∃ad cap,v= .slice ad l.length cap:=by
  obtain ⟨_,ad,cap,e,_⟩:=hw.rd_own (In.tl In.hd);exact ⟨ad,cap,e⟩
 refine sq ?_;refine sq ?_;refine fD (M:=fun a W=>Slots a 61 [(0,.slice sad b.length scap),(2,.pointer (some ⟨b0,0,none⟩)),(4,.pointer (some ⟨bp,0,none⟩)),(5,.pointer (some ⟨bx,0,none⟩)),(6,.int .i64 n),(33,.bool (decide (n > 0) && !s.2 && decide ((l.length:Int)≤8)))]∧Has 0 w W (aA bp [sv,.bool s.2] 312::Sx.Own 55 9 (.slice vad l.length vcap) l.length (l.flatMap bZ)::aA bx [.int .i64 c,.int .i64 q,.slice vad l.length vcap] 66::aA b0 [.int .i64 0,.int .i64 0,.slice none 0 0] 66::Old w 0:: [])) ?_ ?_
 ·refine zA hs hw ?_;clear hs;intro a hs;cases k0:decide (n > 0) with
  |false=>
   rw [k0] at hs;refine zA hs hw ?_;clear hs;intro a hs;exact ⟨hs.ot,hw⟩
  |true=>
  rw [k0] at hs;refine zA hs hw ?_;clear hs;intro a hs;cases k1:s.2 with
  |true=>
   rw [k1] at hs hw;refine zA hs hw ?_;clear hs;intro a hs;exact ⟨hs.ot,hw⟩
  |false=>
  rw [k1] at hs hw;refine zA hs hw ?_;clear hs;intro a hs;exact ⟨hs.of ⟨rfl,rfl,rfl,rfl,rfl,zL (by simp),trivial⟩,hw⟩
 clear hs hw;rintro a W ⟨hs,hw⟩;refine cI hs (kt:=fun hcc=>?_) (kf:=fun hcc=>?_)
 ·obtain ⟨h0,h1,h2⟩:0<n∧s.2=false∧l.length≤8:=by
   simp only [Bool.and_eq_true,decide_eq_true_eq,Bool.not_eq_true'] at hcc;exact ⟨by omega,hcc.1.2,by omega⟩
  rw [aFs h0 h1 h2] at hrd;replace hs:Slots a 61 [(0,.slice sad b.length scap),(2,.pointer (some ⟨b0,0,none⟩)),(4,.pointer (some ⟨bp,0,none⟩)),(5,.pointer (some ⟨bx,0,none⟩)),(6,.int .i64 n)]:=hs.ot;refine zG hs ?_;have hw:Has 0 w W (aA bp [sv,.bool s.2] 312::Sx.Own 55 9 (.slice vad l.length vcap) l.length (l.flatMap bZ)::bT::bT::aA bx [.int .i64 c,.int .i64 q,.slice vad l.length vcap] 66::aA b0 [.int .i64 0,.int .i64 0,.slice none 0 0] 66::Old w 0:: []):=hw.free.free.perm (((List.Perm.cons _ (List.Perm.swap _ _ _)).trans (List.Perm.swap _ _ _)).trans (List.Perm.cons _ ((List.Perm.cons _ (List.Perm.swap _ _ _)).trans (List.Perm.swap _ _ _))));refine fV (σ:=Value×Option Addr×Nat) (V:=fun u=>[.pointer (some ⟨bx,0+2,none⟩),.slice vad l.length vcap,.pointer (some ⟨bp,0,none⟩),.agg ⟨bZ (dT s).1⟩,.slice (some ⟨(u 4).2.2,0,none⟩) 1 1,.slice (u 5).2.1 (l.length+1) (u 5).2.2,.pointer (some ⟨bx,0+2,none⟩),.bool true])
   (Rs:=fun u D=>(if D 3 then aA bp [(u 3).1,.bool (dT s).2.2] 312 else aA bp [sv,.bool s.2] 312)::(if D 5 then Sx.Own 55 9 (.slice (u 5).2.1 (l.length+1) (u 5).2.2) (l.length+1) (l.flatMap bZ ++ bZ (dT s).1) else Sx.Own 55 9 (.slice vad l.length vcap) l.length (l.flatMap bZ))::(if D 4 then aA (u 4).2.2 (bZ (dT s).1) 55 else bT)::(if D 3 then bQ (RdB w (u 3).1 (dT s).2.1) else bT)::(if D 7 then aA bx [.int .i64 c,.int .i64 q,.slice (u 5).2.1 (l.length+1) (u 5).2.2] 66 else aA bx [.int .i64 c,.int .i64 q,.slice vad l.length vcap] 66)::aA b0 [.int .i64 0,.int .i64 0,.slice none 0 0] 66::Old w 0:: []) (fun _=>(.bool true,none,0)) hs hw (hVu:=?vu_c) (ho:=⟨?_,?c1_c,?_,?c3_c,?c4_c,?c5_c,?_,?c7_c,trivial⟩) (k:=?k_c)
  case vu_c=>
   intro u u' j h;rcases j with _|_|_|_|_|_|j
   all_goals first|rfl|simp [h]
  case c1_c=>
   intro u LD D a W hcl hi hp hs hw;have h5:=Go.Sx.not_done hcl hi 5 (by kernel_rfl);have h7:=Go.Sx.not_done hcl h5 7 (by kernel_rfl);have hw0:=hw;simp only [h7,Bool.false_eq_true,if_false] at hw;refine zA hs hw ?_;clear hs;intro a hs;exact Or.inl ⟨hs,hw0⟩
  case c3_c=>
   intro u LD D a W hcl hi hp hs hw;have h4:=Go.Sx.not_done hcl hi 4 (by kernel_rfl);have h5:=Go.Sx.not_done hcl h4 5 (by kernel_rfl);have h7:=Go.Sx.not_done hcl h5 7 (by kernel_rfl);simp only [hi,h4,h5,h7,Bool.false_eq_true,if_false] at hw;refine aH hs (hc:=aFf w _ bp sv s _ inn hr hT hw) (k:=?_);rintro e0 W1 ⟨rfl,sv2,r2,hw'⟩;refine ⟨_,rfl,?_⟩;clear hs hw;intro a hs;refine zG hs ?_;refine Or.inr ⟨(sv2,none,0),hs,?_⟩;show Has 0 w _ (_::(if (Nat.beq 5 3 || D 5)=true then _ else _)::(if (Nat.beq 4 3 || D 4)=true then _ else _)::_::(if (Nat.beq 7 3 || D 7)=true then _ else _)::_);rw [h4,h5,h7];exact (hw'.fact r2).fill (Upd.tl (Upd.tl (Upd.tl Upd.hd)))
  case c4_c=>
   intro u LD D a W hcl hi hp hs hw;have h3:=Go.Sx.done hp 3 (by kernel_rfl);have h5:=Go.Sx.not_done hcl hi 5 (by kernel_rfl);have h7:=Go.Sx.not_done hcl h5 7 (by kernel_rfl);simp only [hi,h3,h5,h7,Bool.false_eq_true,if_false,if_true] at hw
   repeat (first|(refine sxv hs hw ?_;clear hs;intro a hs)|refine sxc hs ?_|(refine sxa hs hw ?_;clear hs hw;intro a b W hw hs)|(refine sxs hs hw ?_;clear hs hw;intro W hs hw))
   refine Or.inr ⟨(.bool true,none,_),hs,?_⟩;show Has 0 w _ ((if (Nat.beq 3 4 || D 3)=true then _ else _)::(if (Nat.beq 5 4 || D 5)=true then _ else _)::_::(if (Nat.beq 3 4 || D 3)=true then _ else _)::(if (Nat.beq 7 4 || D 7)=true then _ else _)::_);rw [h3,h5,h7];exact hw.fill (Upd.tl (Upd.tl Upd.hd))
  case c5_c=>
   intro u LD D a W hcl hi hp hs hw;have h4:=Go.Sx.done hp 4 (by kernel_rfl);have h7:=Go.Sx.not_done hcl hi 7 (by kernel_rfl);simp only [hi,h4,h7,Bool.false_eq_true,if_false,if_true] at hw;refine rM hs hw (k:=l.length) (h63:=by omega) (hb:=by omega) (c:=?_);clear hs hw;intro a ad cap W hs hw;refine zG hs ?_;refine Or.inr ⟨(.bool true,ad,cap),hs,?_⟩;show Has 0 w _ (_::_::(if (Nat.beq 4 5 || D 4)=true then _ else _)::_::(if (Nat.beq 7 5 || D 7)=true then _ else _)::_);rw [h4,h7];exact hw
  case c7_c=>
   intro u LD D a W hcl hi hp hs hw;have h5:=Go.Sx.done hp 5 (by kernel_rfl);simp only [hi,h5,Bool.false_eq_true,if_false,if_true] at hw
   repeat (first|(refine sxv hs hw ?_;clear hs;intro a hs)|refine sxc hs ?_|(refine sxa hs hw ?_;clear hs hw;intro a b W hw hs)|(refine sxs hs hw ?_;clear hs hw;intro W hs hw))
   refine Or.inl ⟨hs,?_⟩;show Has 0 w _ (_::(if (Nat.beq 5 7 || D 5)=true then _ else _)::_::_::_::_);rw [h5];exact hw
  case k_c=>
   clear hs hw;intro u a W hs hw;replace hw:Has 0 w W (aA bp [(u 3).1,.bool (dT s).2.2] 312::Sx.Own 55 9 (.slice (u 5).2.1 (l.length+1) (u 5).2.2) (l.length+1) (l.flatMap bZ ++ bZ (dT s).1)::aA (u 4).2.2 (bZ (dT s).1) 55::bQ (RdB w (u 3).1 (dT s).2.1)::aA bx [.int .i64 c,.int .i64 q,.slice (u 5).2.1 (l.length+1) (u 5).2.2] 66::aA b0 [.int .i64 0,.int .i64 0,.slice none 0 0] 66::Old w 0:: []):=hw;have hr':=hw.told (In.tl (In.tl (In.tl In.hd)));replace hw:=hw.sub (L':=aA bp [(u 3).1,.bool (dT s).2.2] 312::Sx.Own 55 9 (.slice (u 5).2.1 (l.length+1) (u 5).2.2) (l.length+1) (l.flatMap bZ ++ bZ (dT s).1)::aA bx [.int .i64 c,.int .i64 q,.slice (u 5).2.1 (l.length+1) (u 5).2.2] 66::aA b0 [.int .i64 0,.int .i64 0,.slice none 0 0] 66::Old w 0:: []) (List.Sublist.cons_cons _ (List.Sublist.cons_cons _ (List.Sublist.cons _ (List.Sublist.cons _ (List.Sublist.refl _)))));replace hs:Slots a 61 [(0,.slice sad b.length scap),(2,.pointer (some ⟨b0,0,none⟩)),(4,.pointer (some ⟨bp,0,none⟩)),(5,.pointer (some ⟨bx,0,none⟩)),(6,.int .i64 n)]:=hs.ot;generalize (u 3).1=sv2 at *;generalize (u 5).2.1=ad2 at *;generalize (u 5).2.2=cap2 at *;clear u;refine zA hs hw ?_;clear hs;intro a hs;have e1:IntKind.i64.wrap (n - 1)=n - 1:=nQ (by have:=hn.1;omega) (by have:=hn.2;omega);rw [e1] at hs;have e2:l.length+1=(l ++ [(dT s).1]).length:=by simp
   have e3:l.flatMap bZ ++ bZ (dT s).1=(l ++ [(dT s).1]).flatMap bZ:=by simp
   rw [e2,e3] at hw;rw [e2] at hrd;exact bS ⟨n - 1,_,l ++ [(dT s).1],sv2,(dT s).2⟩ hs hw ⟨hr',⟨by have:=hn.1;show _≤n - 1;omega,by have:=hn.2;show n - 1≤_;omega⟩,by simp;omega,hrd⟩ (by simp only [List.length_append,List.length_singleton];omega) ⟨rfl,rfl,rfl,rfl,rfl,trivial⟩
  all_goals
   intro u LD D a W hcl hi hp hs hw;refine zA hs hw ?_;clear hs;intro a hs;exact Or.inl ⟨hs,hw⟩
 ·rw [aFt hcc] at hrd;rw [←hrd] at hdec;clear hrd;rw [hdec] at hok;obtain ⟨hc,hq, -,ho⟩:=hok;simp only at hc hq ho;have hD:∀p:Prop,(s.2=false∧dO c q l=true∧eA c q l=b↔p)→((p→fB b=((c,q,l),0))∧(¬p→fB b=((0,0,[]),1))):=fun p hp=>by
   constructor
   ·intro h;have:decode b=some (c,q,l):=by unfold decode;simp only [hdec];rw [if_pos (hp.2 h)]
    unfold fB;rw [this]
   ·intro h;have:decode b=none:=by unfold decode;simp only [hdec];rw [if_neg fun k=>h (hp.1 k)]
    unfold fB;rw [this]
  have hZ:=(hD _ Iff.rfl).2;have hY:=(hD _ Iff.rfl).1;clear hD hdec;refine zA hs hw ?_;clear hs;intro a hs;refine aH hs (hc:=pF c q l _ _ hc hq ho (hw.rd_own (In.tl In.hd)) (hT.keep (hw.end inn))) (k:=?_);rintro e0 W1 ⟨ad,cap,rfl,hnil,hw1⟩;refine ⟨_,rfl,?_⟩;clear hs;intro a hs;replace hw:=hw.call hw1;clear hw1;refine zA hs hw ?_;clear hs;intro a hs;cases k1:s.2 with
  |true=>
   rw [k1] at hs hw;refine zB hs hw ?_;clear hs hw;intro a W hs hw;refine rc2 hs rfl rfl hw (In.tl (In.tl (In.tl (In.tl In.hd)))) rfl rfl ?_;rw [hZ (by rw [k1];simp)];exact ⟨none,0,rfl,(hw.nilOwn 55 9).sub (List.Sublist.cons_cons _ (List.Sublist.cons _ (List.Sublist.cons _ (List.Sublist.cons _ (List.Sublist.cons _ (List.Sublist.cons _ (List.Sublist.refl _)))))))⟩
  |false=>
  rw [k1] at hs hw;refine zA hs hw ?_;clear hs;intro a hs;cases hm:dO c q l with
  |false=>
   obtain ⟨rfl,rfl⟩:=hnil hm;refine kR hs (c:=?_);clear hs;intro a hs;refine zB hs hw ?_;clear hs hw;intro a W hs hw;refine rc2 hs rfl rfl hw (In.tl (In.tl (In.tl (In.tl In.hd)))) rfl rfl ?_;rw [hZ (by rw [hm];simp)];exact ⟨none,0,rfl,(hw.nilOwn 55 9).sub (List.Sublist.cons_cons _ (List.Sublist.cons _ (List.Sublist.cons _ (List.Sublist.cons _ (List.Sublist.cons _ (List.Sublist.cons _ (List.Sublist.refl _)))))))⟩
  |true=>
  rw [hm] at hs hw;simp only [if_true] at hs hw;obtain ⟨A,rfl⟩:∃A,ad=some A:=by
   obtain ⟨_,ad',cap',e,_,_,h|⟨g,o,h,_⟩⟩:=hw.rd_own In.hd
   ·have:=aFD c q l;omega
   ·injection e with e1 _ _;exact ⟨_,e1.trans h⟩
  refine kR hs (c:=?_);clear hs;intro a hs;rw [show (some A).isNone=false from rfl] at hs;refine zA hs hw ?_;clear hs;intro a hs;refine aH hs (hc:=aA3 (eA c q l) b _ _ _ (hw.rd_own In.hd) (hw.rd inn hw.ext.size r)) (k:=?_);rintro e0 W1 ⟨rfl,hb⟩;refine ⟨_,rfl,?_⟩;clear hs;intro a hs;replace hw:=hw.below hb;clear hb;cases he:(eA c q l == b) with
  |false=>
   rw [he] at hs;refine zB hs hw ?_;clear hs hw;intro a W hs hw;refine rc2 hs rfl rfl hw (In.tl (In.tl (In.tl (In.tl In.hd)))) rfl rfl ?_;rw [hZ (by rw [beq_eq_false_iff_ne] at he;exact fun h=>he h.2.2)];exact ⟨none,0,rfl,(hw.nilOwn 55 9).sub (List.Sublist.cons_cons _ (List.Sublist.cons _ (List.Sublist.cons _ (List.Sublist.cons _ (List.Sublist.cons _ (List.Sublist.cons _ (List.Sublist.refl _)))))))⟩
  |true=>
   rw [he] at hs;refine zB hs hw ?_;clear hs hw;intro a W hs hw;refine rc2 hs rfl rfl hw (In.tl (In.tl (In.tl (In.tl In.hd)))) rfl rfl ?_;rw [hY ⟨k1,hm,by simpa using he⟩];exact ⟨_,_,rfl,hw.sub (List.Sublist.cons _ (List.Sublist.cons _ (List.Sublist.cons_cons _ (List.Sublist.cons _ (List.Sublist.cons _ (List.Sublist.refl _))))))⟩
theorem wM (b:List UInt8) (c q:Int) (l:List OpD) (err:Int) (h:fB b=((c,q,l),err)) (sv:Value) (w:World) (hb:b.length≤1000000) (r:RdB w sv b) (hT:Tabs w):
  Calls prog 158 ⟨[sv]⟩ w fun e w'=>∃ad cap,e= .returned (.tuple #[.agg ⟨[.int .i64 c,.int .i64 q,.slice ad l.length cap]⟩,.int .i64 err])∧Has 0 w w' (Sx.Own 55 9 (.slice ad l.length cap) l.length (l.flatMap bZ)::Old w 0:: []):=by
 have:=aFv b sv w hb r hT;rw [h] at this;exact this
abbrev kd:OpD:=⟨2,⟨#[107]⟩,0,0,⟨#[]⟩,0,0,⟨#[]⟩,0⟩
end Go.Proofs.YtgpbngfehfbndaaGreatDoor.Sw
