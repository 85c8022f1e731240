/-
  Texts of the proof, one behind the other (part 13).
-/
import Derived.Test.YtgpbngfehfbndaaGreatDoorM12
import Derived.WalkKit
import Derived.WalkLawsBesides
import Derived.WalkSpells
import Derived.Lib.Hide
import Derived.Deep.QuietTactic
import Derived.BigQuiet
import Derived.Laws.Bits64
import Derived.Laws.Bits64b
import Derived.Laws.BitsLemmas
import Derived.Laws.DeepNot64
import Derived.WalkSmall
import Derived.Deep.Draws
import Derived.Lib.ValidLaws
import Derived.Lib.MapLaws
import Derived.Lib.TrimUEq
import Derived.Lib.RuneBytes
import Derived.Laws.RangeAny
import Derived.Laws.Strings
import GoSem.Op.String
import Derived.Test.YtgpbngfehfbndaaGreatDoorChecked
import Derived.Laws.StructEq
import Derived.Shelf.Small.Bits
import Derived.Shelf.Strconv.Itoa0
import Derived.Ground.Names2Prog
import Derived.Shelf.Slices.Clone
import Derived.Shelf.Bytes.SlSearch0
import Derived.Ground.SlbCloneProg
import Derived.Shelf.Bytes.SlClone
import Derived.Shelf.Bytes.Small
import Derived.Shelf.Unicode.ValidAny
import Derived.Test.YtgpbngfehfbndaaGreatDoorProg
import Derived.Below
import Derived.Tactics
import Derived.RegionTactic
import Derived.Deep.AppendSrc
import Derived.Laws.AppendOwn
import Derived.Laws.BytesString
import Derived.Laws.Tables
import Derived.Laws.IdiomStrings
import Derived.Maps.RangeRun
import Derived.Deep.RegionHeld3
import Derived.Lib.UnsafeStr
import Derived.Deep.AppendLies
import Derived.IntWalk
set_option maxHeartbeats 16000000
set_option linter.unusedVariables false
set_option maxRecDepth 10000
namespace Go.Proofs.YtgpbngfehfbndaaGreatDoor.Sw
open Go.RowKit Go.Sx
def goD:List OpD→Dm→Int×Dm
 | [],d=>(0,d)
 |o::l,d=>if fO o=false then (1,d) else if (jT d o).1=0 then goD l (jT d o).2 else ((jT d o).1,d)
def jD (d:Dm) (l:List OpD):Int×Dm:=
 if l.length=0∨8<l.length then (1,d) else if (goD l d).1=0 then (0,(goD l d).2) else ((goD l d).1,d)
structure OpW (o:OpD):Prop where
 key:o.key.size≤9223372036854775807
 vs:o.vs.size≤9223372036854775807
 os:o.os.size≤9223372036854775807
 ok:fO o=true→OpOk o
theorem OpOk.w {o:OpD} (h:OpOk o):OpW o:=⟨by have:=h.key;omega,by have:=h.vs;omega,by have:=h.os;omega,fun _=>h⟩
theorem aFs (w0 W : World) (H : Fh) (p : Nat) (d : Dm) (l : List OpD) (sv : Value) (R : List Res) (ho : ∀ o ∈ l, OpW o) (r : RdH H 9 sv l.length (l.flatMap bX)) (i : In (Fz H) R) (hH : (fr w0).le H) (hT : Tabs w0) (hw : Has 0 w0 W (bL p d :: R)) :
    Calls Tryz.prog 173 ⟨[.pointer (some ⟨p, 0, none⟩), sv]⟩ W fun e W' => e = .returned (.int .i64 (jD d l).1) ∧ Has 0 w0 W' (bL p (jD d l).2 :: R) := by
  obtain ⟨sad, scap, rfl⟩ := r.slice;have hlen := r.len;refine enter Tryz.func173 Tryz.ntmps173 rfl rfl fun a hs => ?_;refine zC hs hw ?_; clear hs; intro a hs;cases h0 : ((l.length : Int) == 0) with
  | true =>
    rw [h0] at hs;refine zC hs hw ?_; clear hs; intro a hs;have hX : jD d l = (1, d) := by
      unfold jD
      rw [if_pos (.inl (by have : (l.length : Int) = 0 := by simpa using h0
                           omega))]
    exact rt1 hs rfl rfl ⟨by rw [hX], by rw [hX]; exact hw⟩
  | false =>
  rw [h0] at hs;refine zC hs hw ?_; clear hs; intro a hs;cases h8 : decide ((l.length : Int) > 8) with
  | true =>
    rw [h8] at hs;refine zC hs hw ?_; clear hs; intro a hs;have hX : jD d l = (1, d) := by
      unfold jD;rw [if_pos (.inr (by have := of_decide_eq_true h8; omega))]
    exact rt1 hs rfl rfl ⟨by rw [hX], by rw [hX]; exact hw⟩
  | false =>
  rw [h8] at hs;refine zC hs hw ?_; clear hs; intro a hs;have hX : jD d l = (if (goD l d).1 = 0 then (0, (goD l d).2) else ((goD l d).1, d)) := by
    unfold jD;rw [if_neg];rintro (h | h)
    · rw [h] at h0; simp at h0
    · have := of_decide_eq_false h8; omega
  rw [hX];clear hX h0 h8;refine aG hs (hc := pZ w0 _ p d _ hw) (k := ?_); rintro e0 W1 ⟨c, rfl, hw1⟩; refine ⟨_, rfl, ?_⟩; clear hs hw; intro a hs; have hw := hw1; clear hw1;refine zC hs hw ?_; clear hs; intro a hs;refine bY (σ := Nat × Dm) (fun t => [(0, .pointer (some ⟨p, 0, none⟩)), (5, .pointer (some ⟨c, 0, none⟩)), (23, .slice sad l.length scap), (24, .int .i64 (l.length : Int)), (25, .int .i64 (t.1 : Int))]) (fun t => bL c t.2 :: bL p d :: R) (fun t => t.1 ≤ l.length ∧ goD (l.drop t.1) t.2 = goD l d) (fun t => l.length - t.1) (0, d) ⟨Nat.zero_le _, rfl⟩ hs ⟨rfl, rfl, rfl, rfl, rfl, trivial⟩ hw ?_;clear hs hw;rintro ⟨j, dc⟩ a W ⟨hj, hgo⟩ hs hw;simp only at hj hgo hs hw;refine zC hs hw ?_; clear hs; intro a hs;refine cI hs (kt := fun hcc => ?_) (kf := fun hcc => ?_)
  · have hj' : j < l.length := by have := of_decide_eq_true hcc; omega
    obtain ⟨o, hoi⟩ : ∃ o, l[j]? = some o := ⟨l[j], List.getElem?_eq_getElem hj'⟩
    have hok := ho o (List.mem_of_getElem? hoi);have hdrop : l.drop j = o :: l.drop (j + 1) := by
      rw [List.drop_eq_getElem_cons hj'];congr 1;rw [List.getElem?_eq_getElem hj'] at hoi;exact Option.some.inj hoi
    rw [hdrop] at hgo;simp only [goD] at hgo;refine zG hs ?_;refine xI hs (r := hw.rdH (by repeat (first | exact i | apply In.tl)) r) (ho := hoi) (c := ?_); clear hs; intro a q off hpc hs;refine eE (z := bX ⟨0, ⟨#[]⟩, 0, 0, ⟨#[]⟩, 0, 0, ⟨#[]⟩, 0⟩) hs (hc := hpc) (hl := rfl) (c := ?_); clear hs; intro a hs;clear hpc;have hM := fun W hT => aBE o.kind o.key o.vk o.vn o.vs o.ok o.on o.os o.n W hok.key hok.vs hok.os hT;have hM : ∀ W, Tabs W → Calls Tryz.prog 245 ⟨[.agg ⟨bX o⟩]⟩ W fun e w' => e = .returned (.bool (fO o)) ∧ Below W.heap.size W w' := hM
    repeat (first | (refine sxv hs hw ?_; clear hs; intro a hs) | refine sxc hs ?_ | (refine sxa hs hw ?_; clear hs hw; intro a b W hw hs) | (refine sxs hs hw ?_; clear hs hw; intro W hs hw) | ((with_reducible first | refine eX hs (k := ?_) | refine eY hs (k := ?_)); clear hs; intro a hs))
    obtain ⟨b7, q7⟩ := nm1 hw; subst q7;have hw : Has 0 w0 _ (aA b7 (bX o) 55 :: bL c dc :: bL p d :: R) := hw;refine aG hs (hc := hM _ (hT.keep (hw.endF (by repeat (first | exact i | apply In.tl)) hH))) (k := ?_); rintro e0 W1 ⟨rfl, hb⟩; refine ⟨_, rfl, ?_⟩; clear hs; intro a hs; replace hw := hw.below hb; clear hb;refine zC hs hw ?_; clear hs; intro a hs;cases hm : fO o with
    | false =>
      rw [hm] at hs hgo;rw [if_pos rfl] at hgo;refine zC hs hw ?_; clear hs; intro a hs;rw [← hgo, if_neg (by show ¬ (1 : Int) = 0; decide)];exact rt1 hs rfl rfl ⟨rfl, hw.d2⟩
    | true =>
    rw [hm] at hs hgo;rw [if_neg (by decide)] at hgo;refine zC hs hw ?_; clear hs; intro a hs;refine aG hs (hc := aFm w0 _ H c dc o _ (hok.ok hm) (by repeat (first | exact i | apply In.tl)) hH hT hw.swap2) (k := ?_); rintro e0 W1 ⟨rfl, hw1⟩; refine ⟨_, rfl, ?_⟩; clear hs hw; intro a hs; have hw := hw1; clear hw1;refine zC hs hw ?_; clear hs; intro a hs;cases he : ((jT dc o).1 != 0) with
    | true =>
      rw [he] at hs;rw [if_neg (by simpa using he)] at hgo;refine zC hs hw ?_; clear hs; intro a hs;rw [← hgo, if_neg (by simpa using he)];exact rt1 hs rfl rfl ⟨rfl, hw.d2⟩
    | false =>
    rw [he] at hs;rw [if_pos (by simpa using he)] at hgo;refine zC hs hw ?_; clear hs; intro a hs;exact bQ (j + 1, (jT dc o).2) hs hw.drop2 ⟨by show j + 1 ≤ l.length; omega, hgo⟩ (by show l.length - (j + 1) < l.length - j; omega) ⟨rfl, rfl, rfl, rfl, bR (by show IntKind.i64.wrap ((j : Int) + 1) = ((j + 1 : Nat) : Int); rw [IntWalk.i64_in _ (by omega)]; omega), trivial⟩
  · have hj' : j = l.length := by have := of_decide_eq_false hcc; omega
    subst hj';rw [List.drop_length] at hgo;rw [← hgo];simp only [goD, if_true];obtain ⟨m1, d1, hp1, hk1, hw⟩ := jC hw;have hw : Has 0 w0 _ (bL p d :: aA c [.map (some m1)] 177 :: bN m1 (cJ d1) :: R) := hw.pm;obtain ⟨m2, d2, hp2, hk2, hw⟩ := jC hw;refine zD hs hw ?_; clear hs hw; intro a W hs hw;have hw : Has 0 w0 _ (aA p [.map (some m1)] 177 :: bN m1 (cJ d1) :: bN m2 (cJ d2) :: aA c [.map (some m1)] 177 :: R) := hw.pm;have hw := jB hw hp1 hk1;exact rt1 hs rfl rfl ⟨rfl, hw.sub (List.Sublist.cons_cons _ (List.Sublist.cons _ (List.Sublist.cons _ (List.Sublist.refl _))))⟩
theorem aFt (w0 W:World) (H:Fh) (p:Nat) (d:Dm) (l:List OpD) (sv:Value) (R:List Res) (ho:∀o∈l,OpOk o) (r:RdH H 9 sv l.length (l.flatMap bX)) (i:In (Fz H) R) (hH:(fr w0).le H) (hT:Tabs w0) (hw:Has 0 w0 W (bL p d::R)):
  Calls Tryz.prog 173 ⟨[.pointer (some ⟨p,0,none⟩),sv]⟩ W fun e W'=>e= .returned (.int .i64 (jD d l).1)∧Has 0 w0 W' (bL p (jD d l).2::R):=
 aFs w0 W H p d l sv R (fun o h=>(ho o h).w) r i hH hT hw
def aBN (a b:ByteArray):Bool:=Ph.lessL a.data.toList b.data.toList
def p9:Dm→ByteArray→DV→Dm
 | [],k,v=>[(k,v)]
 |p::d,k,v=>match aBN p.1 k with
  |false=>(k,v)::gI (p::d) k
  |true=>match ks k p.1 with
   |true=>p9 d k v
   |false=>p::p9 d k v
theorem aFw (p:ByteArray×DV) (d:Dm) (k:ByteArray):gI (p::d) k=match ks k p.1 with|true=>gI d k|false=>p::gI d k:=by
 unfold gI;rw [List.filter_cons];cases ks k p.1 <;> rfl
theorem xQ:∀(d:Dm) (k:ByteArray) (v:DV),(p9 d k v).Perm (kJ d k v)
 | [],k,v=>List.Perm.refl _
 |p::d,k,v=>by
  have ih:=xQ d k v;unfold kJ at ih⊢;simp only [p9];cases aBN p.1 k with
  |false=>exact List.Perm.refl _
  |true=>
   simp only;rw [aFw];cases ks k p.1 with
   |true=>exact ih
   |false=>exact (ih.cons p).trans (List.Perm.swap _ _ _)
def qA (d:Dm) (k:ByteArray) (x:Option DV):Int×Dm:=
 match x with
 |none=>(0,gI d k)
 |some v=>if (dD d k).isSome=false∧50≤d.length then (6,d) else (0,p9 d k v)
def doL (d:Dm) (o:OpD):Int×Dm:=
 if o.kind=3 then (if eqV (dD d o.key) (bZ o.ok o.on o.os).1 then qA d o.key (bZ o.vk o.vn o.vs).1 else (8,d))
 else if o.kind=4 then
  if (gH (dD d o.key) !=0 && !mY (dD d o.key))=true then (7,d)
  else if (!inB (fN (dD d o.key)) || !inB (IntKind.i64.wrap (fN (dD d o.key)+o.n)))=true then (4,d)
  else qA d o.key (some (.inl (IntKind.i64.wrap (fN (dD d o.key)+o.n))))
 else qA d o.key (bZ o.vk o.vn o.vs).1
def goL:List OpD→Dm→Int×Dm
 | [],d=>(0,d)
 |o::l,d=>if fO o=false then (1,d) else if (doL d o).1=0 then goL l (doL d o).2 else ((doL d o).1,d)
def dO (d:Dm) (l:List OpD):Int×Dm:=
 if l.length=0∨8<l.length then (1,d) else if (goL l d).1=0 then (0,(goL l d).2) else ((goL l d).1,d)
def sW (a b:Int×Dm):Prop:=a.1=b.1∧a.2.Perm b.2∧d6 b.2
theorem xR {d d':Dm} (hp:d'.Perm d) (hk:d6 d) (k:ByteArray) (x:Option DV):sW (iA d' k x) (qA d k x):=by
 cases x with
 |none=>exact ⟨rfl,xN hp k,xM hk k⟩
 |some v=>
  unfold iA qA;simp only;rw [pY hp ((jA hp).2 hk),hp.length_eq]
  by_cases h:(dD d k).isSome=false∧50≤d.length
  ·rw [if_pos h,if_pos h];exact ⟨rfl,hp,hk⟩
  ·rw [if_neg h,if_neg h];exact ⟨rfl,(aBI hp k v).trans (xQ d k v).symm,(jA (xQ d k v)).2 (aBH hk k v)⟩
theorem aFx {d d':Dm} (hp:d'.Perm d) (hk:d6 d) (o:OpD):sW (jT d' o) (doL d o):=by
 unfold jT doL;rw [pY hp ((jA hp).2 hk)];split
 ·split
  ·exact xR hp hk _ _
  ·exact ⟨rfl,hp,hk⟩
 ·split
  ·split
   ·exact ⟨rfl,hp,hk⟩
   ·split
    ·exact ⟨rfl,hp,hk⟩
    ·exact xR hp hk _ _
  ·exact xR hp hk _ _
theorem aBO:∀(l:List OpD) {d d':Dm},d'.Perm d→d6 d→sW (goD l d') (goL l d)
 | [],d,d',hp,hk=>⟨rfl,hp,hk⟩
 |o::l,d,d',hp,hk=>by
  unfold goD goL;obtain ⟨h1,h2,h3⟩:=aFx hp hk o
  by_cases hm:fO o=false
  ·rw [if_pos hm,if_pos hm];exact ⟨rfl,hp,hk⟩
  ·rw [if_neg hm,if_neg hm,h1]
   by_cases he:(doL d o).1=0
   ·rw [if_pos he,if_pos he];exact aBO l h2 h3
   ·rw [if_neg he,if_neg he];exact ⟨rfl,hp,hk⟩
theorem aFy {d d':Dm} (hp:d'.Perm d) (hk:d6 d) (l:List OpD):sW (jD d' l) (dO d l):=by
 unfold jD dO;obtain ⟨h1,h2,h3⟩:=aBO l hp hk
 by_cases h:l.length=0∨8<l.length
 ·rw [if_pos h,if_pos h];exact ⟨rfl,hp,hk⟩
 ·rw [if_neg h,if_neg h,h1]
  by_cases he:(goL l d).1=0
  ·rw [if_pos he,if_pos he];exact ⟨rfl,h2,h3⟩
  ·rw [if_neg he,if_neg he];exact ⟨rfl,hp,hk⟩
theorem aFz {G p:Nat} {w W:World} {R:List Res} {d d':Dm} (h:Has G w W (bL p d::R)) (hp:d.Perm d'):Has G w W (bL p d'::R):=by
 obtain ⟨m,d2,h1,h2,h3⟩:=jC h;exact jB h3 (h1.trans hp) ((jA hp).1 h2)
theorem aGA {G p:Nat} {w W:World} {R:List Res} {d:Dm} (h:Has G w W (bL p d::R)):d6 d:=by
 obtain ⟨m,d2,h1,h2,h3⟩:=jC h;exact h2
theorem aBP (w0 W:World) (H:Fh) (p:Nat) (d:Dm) (l:List OpD) (sv:Value) (R:List Res) (ho:∀o∈l,OpOk o) (r:RdH H 9 sv l.length (l.flatMap bX)) (i:In (Fz H) R) (hH:(fr w0).le H) (hT:Tabs w0) (hw:Has 0 w0 W (bL p d::R)):
  Calls Tryz.prog 173 ⟨[.pointer (some ⟨p,0,none⟩),sv]⟩ W fun e W'=>e= .returned (.int .i64 (dO d l).1)∧Has 0 w0 W' (bL p (dO d l).2::R):=by
 have hk:=aGA hw;obtain ⟨h1,h2,h3⟩:=aFy (List.Perm.refl d) hk l;refine (aFt w0 W H p d l sv R ho r i hH hT hw).mono ?_;rintro e W' ⟨rfl,h⟩;exact ⟨by rw [h1],aFz h h2⟩
theorem aBQ (l m:List UInt8) (v u:Value) (w:World) (r:RdB w v l) (r':RdB w u m):
  Calls Tryz.prog 160 ⟨[v,u]⟩ w fun e w'=>e= .returned (.bool (l == m))∧Below w.heap.size w w':=by
 have hw:=Has.start (G:=0) (w:=w) (Nat.zero_le _);refine enter Tryz.func160 Tryz.ntmps160 rfl rfl fun a hs=>?_;refine zA hs hw ?_;clear hs;intro a hs;refine mS (hs:=hs) (r:=r) (k:=?_);clear hs;intro a hs;refine zA hs hw ?_;clear hs;intro a hs;refine mS (hs:=hs) (r:=r') (k:=?_);clear hs;intro a hs;refine zA hs hw ?_;clear hs;intro a hs;have e:((⟨l.toArray⟩:ByteArray).toList == (⟨m.toArray⟩:ByteArray).toList)=(l == m):=by
  rw [Go.ByteArray.toList_eq,Go.ByteArray.toList_eq]
 rw [e] at hs;exact rt1 hs rfl rfl ⟨rfl,hw.end inn⟩
theorem aBR {W:World} {sad:Option Addr} {scap:Nat} {l:List OpD} {i:Nat} {o:OpD} (r:Rd W 9 (.slice sad l.length scap) l.length (l.flatMap bX)) (h:l[i]? =some o):
  ∃g off,sad=some ⟨g,off,none⟩∧g<W.heap.size∧∀j u,(bX o)[j]? =some u→W.cell? ⟨g,off+i*9+j,none⟩=some u:=by
 have hi:i<l.length:=(List.getElem?_eq_some_iff.1 h).1;obtain ⟨h1,ad,cap,e,h3,h4,h5⟩:=r;injection e with e1 e2 e3;subst e1;rcases h5 with h5|⟨b,off,rfl,hlt,hc⟩
 ·omega
 ·refine ⟨b,off,rfl,hlt,fun j u hu=>?_⟩;rw [Nat.add_assoc];refine hc _ _ ?_;have e:=(congrArg (fun t=>t[j]?) (xH l i o h)).trans hu;simp only [List.getElem?_take] at e;split at e
  ·rw [List.getElem?_drop] at e;exact e
  ·cases e
theorem aGB {l l':List OpD} {i:Nat} {o o':OpD} (h:l[i]? =some o) (h':l'[i]? =some o') (e:l8 (l.take i) (l'.take i)=true):l8 (l.take (i+1)) (l'.take (i+1))=lB o o':=by
 unfold l8 at *;have h1:=(List.getElem?_eq_some_iff.1 h).1;have h2:=(List.getElem?_eq_some_iff.1 h').1;rw [List.take_add_one,List.take_add_one,h,h',List.zip_append (by simp;omega),List.all_append,e];simp
theorem aGC {l l':List OpD} {i:Nat} {o o':OpD} (h:l[i]? =some o) (h':l'[i]? =some o') (e:lB o o'=false):l8 l l'=false:=by
 unfold l8;rw [List.all_eq_false];exact ⟨(o,o'),List.mem_of_getElem? (i:=i) (by rw [List.getElem?_zip_eq_some];exact ⟨h,h'⟩),by rw [e];simp⟩
abbrev cL (H:Fh) (sv:Value) (l:List OpD):Prop:=RdH H 9 sv l.length (l.flatMap bX)
instance arTold:Ar Tryz.prog 269 6 268:=⟨by kernel_rfl⟩
theorem aGD (l:List OpD):∀u∈l.flatMap bX,u.oneCell'=true:=by
 intro u hu;obtain ⟨o,_,ho⟩:=List.mem_flatMap.1 hu;simp only [bX,List.mem_cons,List.not_mem_nil,or_false] at ho;rcases ho with rfl|rfl|rfl|rfl|rfl|rfl|rfl|rfl|rfl <;> rfl
theorem sX (w0 W:World) (H:Fh) (l:List OpD) (sv:Value) (R:List Res) (hl:l.length≤1000) (r:RdH H 9 sv l.length (l.flatMap bX)) (hw:Has 0 w0 W (Fz H::R)):
  Calls Tryz.prog 180 ⟨[sv]⟩ W fun e W'=>∃sv' H',e= .returned sv'∧H.le H'∧RdH H' 9 sv' l.length (l.flatMap bX)∧Has 0 w0 W' (Fz H'::R):=by
 obtain ⟨sad,scap,rfl⟩:=r.slice;refine enter Tryz.func180 Tryz.ntmps180 rfl rfl fun a hs=>?_;refine zA hs hw ?_;clear hs;intro a hs;refine k7 hs (c:=?_);clear hs;intro a hs;cases sad with
 |none=>
  refine zA hs hw ?_;clear hs;intro a hs;have h0:l= []:=by
   obtain ⟨_,ad,cap,e,_,_,h|⟨b,o,cs,T,z,h,_⟩⟩:=r
   ·exact List.eq_nil_of_length_eq_zero h
   ·injection e with e1 _ _;rw [←e1] at h;cases h
  subst h0;exact rt1 hs rfl rfl ⟨_,H,rfl,Fh.le.refl _,RdH.nil H 9 0 (by omega),hw⟩
 |some A=>
  rw [show (some A).isNone=false from rfl] at hs;refine zG hs ?_;refine pQ hs hw (c:=?_);clear hs hw;intro a ad W hw hs;refine zA hs hw ?_;clear hs;intro a hs;refine kZ hs (hw:=hw) (k:=0) (m:=l.length) (xs:=[]) (news:=l.flatMap bX) (hsrc:=fK (hw.rdH (In.tl In.hd) r) (aGD l)) (h63:=by omega) (hb:=by omega) (c:=?_);clear hs hw;intro a ad2 cap2 W hs hw;refine zA hs hw ?_;clear hs;intro a hs;rw [List.nil_append,Nat.zero_add] at hw;rw [Nat.zero_add] at hs;obtain ⟨H',h1,h2,h3⟩:=hw.freeze_own;exact rt1 hs rfl rfl ⟨_,H',rfl,h1,h3,h2⟩
structure cU where
 c:Int
 q:Int
 l:List OpD
structure cF where
 place:Int
 b:cU
 err:Int
def aL (b:cU) (sv:Value):List Value:=[.int .i64 b.c,.int .i64 b.q,sv]
def aJ (r:cF) (sv:Value):List Value:=[.int .i64 r.place,.int .i64 r.b.c,.int .i64 r.b.q,sv,.int .i64 r.err]
def BatIn (H:Fh) (b:cU) (cs:List Value):Prop:=∃sv,cs=aL b sv∧cL H sv b.l
def RowIn (H:Fh) (r:cF) (cs:List Value):Prop:=∃sv,cs=aJ r sv∧cL H sv r.b.l
def TolIn (H:Fh) (x:Int×cF) (cs:List Value):Prop:=∃sv,cs= .int .i64 x.1::aJ x.2 sv∧cL H sv x.2.b.l
structure iB (b:cU):Prop where
 c:i64 b.c
 q:i64 b.q
 ops:∀o∈b.l,OpOk o
def dS (b:cU):Bool:=dN b.c b.q b.l
def zeroRow:cF:=⟨0,⟨0,0,[]⟩,0⟩
abbrev zrc:List Value:=[.int .i64 0,.int .i64 0,.int .i64 0,.slice none 0 0,.int .i64 0]
theorem BatIn.len {H:Fh}:∀(b:cU) (c:List Value),BatIn H b c→c.length=3:=by rintro b c ⟨sv,rfl,_⟩;rfl
theorem RowIn.len {H:Fh}:∀(b:cF) (c:List Value),RowIn H b c→c.length=5:=by rintro b c ⟨sv,rfl,_⟩;rfl
theorem TolIn.len {H:Fh}:∀(b:Int×cF) (c:List Value),TolIn H b c→c.length=6:=by rintro b c ⟨sv,rfl,_⟩;rfl
theorem BatIn.le {H H':Fh} (h:H.le H'):∀(b:cU) (c:List Value),BatIn H b c→BatIn H' b c:=by rintro b c ⟨sv,rfl,h1⟩;exact ⟨sv,rfl,h1.le h⟩
theorem RowIn.le {H H':Fh} (h:H.le H'):∀(b:cF) (c:List Value),RowIn H b c→RowIn H' b c:=by rintro b c ⟨sv,rfl,h1⟩;exact ⟨sv,rfl,h1.le h⟩
theorem TolIn.le {H H':Fh} (h:H.le H'):∀(b:Int×cF) (c:List Value),TolIn H b c→TolIn H' b c:=by rintro b c ⟨sv,rfl,h1⟩;exact ⟨sv,rfl,h1.le h⟩
theorem RowIn.ones {H:Fh}:∀(b:cF) (c:List Value),RowIn H b c→∀v∈c,v.oneCell'=true:=by
 rintro b c ⟨sv,rfl,h⟩ v hv;obtain ⟨ad,cap,rfl⟩:=h.slice;simp only [aJ,List.mem_cons,List.not_mem_nil,or_false] at hv;rcases hv with rfl|rfl|rfl|rfl|rfl <;> rfl
theorem TolIn.ones {H:Fh}:∀(b:Int×cF) (c:List Value),TolIn H b c→∀v∈c,v.oneCell'=true:=by
 rintro b c ⟨sv,rfl,h⟩ v hv;rcases List.mem_cons.1 hv with rfl|hv
 ·rfl
 ·exact RowIn.ones b.2 _ ⟨sv,rfl,h⟩ v hv
theorem kL (H:Fh):cL H (.slice none 0 0) []:=RdH.nil H 9 0 (by omega)
structure dZ where
 place:Int
 d:Dm
 told:List (Int×cF)
def dE (pl:Int) (pd:Nat) (xs:List Value):List Value:= .int .i64 pl:: .pointer (some ⟨pd,0,none⟩)::xs
def jE (H:Fh) (told:List (Int×cF)) (xs:List Value):Prop:=told.length=6∧Ch (TolIn H) told xs
def aY (H:Fh) (p:Nat) (f:dZ):Res:=Ex fun x:Nat×List Value=>aA p (dE f.place x.1 x.2) 271::bL x.1 f.d::bO (jE H f.told x.2):: []
section
variable {G p pd:Nat} {w W:World} {R:List Res} {f:dZ} {H H':Fh} {xs:List Value}
theorem l9 (h:Has G w W (aA p (dE f.place pd xs) 271::bL pd f.d::R)) (ht:jE H f.told xs):Has G w W (aY H p f::R):=
 Has.shut (pd,xs) ((h.fact ht).perm ((List.Perm.swap _ _ _).trans (List.Perm.cons _ (List.Perm.swap _ _ _))))
theorem oB (h:Has G w W (aY H p f::R)):∃pd xs,jE H f.told xs∧Has G w W (aA p (dE f.place pd xs) 271::bL pd f.d::R):=by
 obtain ⟨⟨pd,xs⟩,h⟩:=Has.open h;have h:Has G w W (aA p (dE f.place pd xs) 271::bL pd f.d::bO (jE H f.told xs)::R):=h;exact ⟨pd,xs,h.told (In.tl (In.tl In.hd)),h.sub (List.Sublist.cons_cons _ (List.Sublist.cons_cons _ (List.Sublist.cons _ (List.Sublist.refl _))))⟩
theorem kM (h:Has G w W (aY H p f::R)) (hl:H.le H'):Has G w W (aY H' p f::R):=by
 obtain ⟨pd,xs,⟨h1,h2⟩,h3⟩:=oB h;exact l9 h3 ⟨h1,h2.mono (TolIn.le hl)⟩
end
theorem aGE {H:Fh} {told:List (Int×cF)} {xs:List Value} (h:jE H told xs):xs.length=36:=by
 have:=h.2.length TolIn.len;rw [h.1] at this;omega
theorem aBS {H:Fh} {told:List (Int×cF)} {xs:List Value} (h:jE H told xs) {c:Nat} {x:Int×cF} (hx:told[c]? =some x):∃sv,cL H sv x.2.b.l∧cut xs (c*6) 6= .int .i64 x.1::aJ x.2 sv:=by
 obtain ⟨cs,⟨sv,rfl,h1⟩,h2,h3⟩:=h.2.get TolIn.len hx;exact ⟨sv,h1,h3⟩
theorem aGF {H:Fh} {told:List (Int×cF)} {xs:List Value} (h:jE H told xs) {c:Nat} (hc:c<6) {x:Int×cF} {sv:Value} (hx:cL H sv x.2.b.l):jE H (told.set c x) (ov xs (c*6) (.int .i64 x.1::aJ x.2 sv)):=
 ⟨by rw [List.length_set];exact h.1,h.2.set TolIn.len (by rw [h.1];exact hc) ⟨sv,rfl,hx⟩⟩
theorem aBT {H:Fh} {told:List (Int×cF)} {xs:List Value} (pl:Int) (pd:Nat) (h:jE H told xs):(dE pl pd xs).length=38:=by
 have:=aGE h;simp [dE,this]
theorem aGG {H:Fh} {told:List (Int×cF)} {xs:List Value} (pl:Int) (pd:Nat) (h:jE H told xs):(dE pl pd xs).all (·.oneCell')=true:=by
 rw [List.all_eq_true];intro v hv;simp only [dE,List.mem_cons] at hv;rcases hv with rfl|rfl|hv
 ·rfl
 ·rfl
 ·exact h.2.ones TolIn.ones v hv
abbrev iO:List Value:=[.int .i64 0,.int .i64 0,.int .i64 0,.int .i64 0,.slice none 0 0,.int .i64 0]
theorem aGH (H:Fh):jE H (List.replicate 6 (0,zeroRow)) (iO ++ (iO ++ (iO ++ (iO ++ (iO ++ (iO ++ [])))))):=by
 have z:TolIn H (0,zeroRow) iO:=⟨_,rfl,kL H⟩
 exact ⟨rfl,_,_,rfl,z,_,_,rfl,z,_,_,rfl,z,_,_,rfl,z,_,_,rfl,z,_,_,rfl,z,rfl⟩
def gC:dZ:=⟨0,[],List.replicate 6 (0,zeroRow)⟩
theorem aGI (cs:List Value) (n:Nat) (h:cs.length=n):cut cs 0 n=cs:=by
 rw [gG,List.drop_zero,List.take_of_length_le (by omega)]
theorem aGJ (cs vs:List Value) (h:vs.length=cs.length):ov cs 0 vs=vs:=by
 rw [kC _ _ _ (by omega),List.take_zero,List.nil_append,Nat.zero_add,h,List.drop_length,List.append_nil]
theorem aBU (w0 W:World) (H:Fh) (R:List Res) (hw:Has 0 w0 W R):
  Calls Tryz.prog 155 ⟨[]⟩ W fun e W'=>∃p,e= .returned (.pointer (some ⟨p,0,none⟩))∧Has 0 w0 W' (aY H p gC::R):=by
 refine enter Tryz.func155 Tryz.ntmps155 rfl rfl fun a hs=>?_;refine zA hs hw ?_;clear hs;intro a hs;refine aG hs (hc:=xP w0 _ _ hw) (k:=?_);rintro e0 W1 ⟨c,rfl,hw1⟩;refine ⟨_,rfl,?_⟩;clear hs hw;intro a hs;have hw:=hw1;clear hw1
 repeat (first|(refine sxv hs hw ?_;clear hs;intro a hs)|refine sxc hs ?_|(refine sxa hs hw ?_;clear hs hw;intro a b W hw hs)|(refine sxs hs hw ?_;clear hs hw;intro W hs hw))
 refine rt1 hs rfl rfl ⟨_,rfl,?_⟩;exact l9 (H:=H) (f:=gC) (pd:=c) (xs:=iO ++ (iO ++ (iO ++ (iO ++ (iO ++ (iO ++ [])))))) (by with_unfolding_all exact hw) (aGH H)
def cT (f:dZ) (c:Int):Int:=if 1≤c∧c≤5 then ((f.told[c.toNat]?).map (·.1)).getD 0 else 0
theorem aGK (c:Int) (W:World):Calls Tryz.prog 270 ⟨[.int .i64 c]⟩ W fun e W'=>e= .returned (.bool (decide (1≤c∧c≤5)))∧Below W.heap.size W W':=by
 have hw:=Has.start (G:=0) (w:=W) (Nat.zero_le _);refine enter Tryz.func270 Tryz.ntmps270 rfl rfl fun a hs=>?_;refine zA hs hw ?_;clear hs;intro a hs;cases h:decide (c≥1) with
 |true=>
  rw [h] at hs;refine zA hs hw ?_;clear hs;intro a hs;have:decide (c≤5)=decide (1≤c∧c≤5):=by
   have:=of_decide_eq_true h
   by_cases h5:c≤5
   ·rw [decide_eq_true h5,decide_eq_true ⟨this,h5⟩]
   ·rw [decide_eq_false h5,decide_eq_false fun h=>h5 h.2]
  exact rt1 hs rfl rfl ⟨by rw [←this];rfl,hw.end inn⟩
 |false=>
  rw [h] at hs;refine zA hs hw ?_;clear hs;intro a hs;have:decide (1≤c∧c≤5)=false:=decide_eq_false fun h'=>(of_decide_eq_false h) h'.1;exact rt1 hs rfl rfl ⟨by rw [this];rfl,hw.end inn⟩
theorem sY (w0 W:World) (H:Fh) (p:Nat) (f:dZ) (c:Int) (R:List Res) (hw:Has 0 w0 W (aY H p f::R)):
  Calls Tryz.prog 234 ⟨[.pointer (some ⟨p,0,none⟩),.int .i64 c]⟩ W fun e W'=>e= .returned (.int .i64 (cT f c))∧Has 0 w0 W' (aY H p f::R):=by
 refine enter Tryz.func234 Tryz.ntmps234 rfl rfl fun a hs=>?_;refine zC hs hw ?_;clear hs;intro a hs;refine aG hs (hc:=aGK c _) (k:=?_);rintro e0 W1 ⟨rfl,hb⟩;refine ⟨_,rfl,?_⟩;clear hs;intro a hs;replace hw:=hw.below hb;clear hb;refine zC hs hw ?_;clear hs;intro a hs;cases h:decide (1≤c∧c≤5) with
 |false=>
  rw [h] at hs;refine zC hs hw ?_;clear hs;intro a hs;have hX:cT f c=0:=by unfold cT;rw [if_neg (of_decide_eq_false h)]
  exact rt1 hs rfl rfl ⟨by rw [hX],hw⟩
 |true=>
  rw [h] at hs;have h15:=of_decide_eq_true h;obtain ⟨pd,xs,ht,hw⟩:=oB hw;refine zC hs hw ?_;clear hs;intro a hs;refine lY hs (h0:=by omega) (h1:=by omega) (c:=?_);clear hs;intro a hs;refine zC hs hw ?_;clear hs;intro a hs;obtain ⟨x,hx⟩:∃x,f.told[c.toNat]? =some x:=⟨f.told[c.toNat]'(by rw [ht.1];omega),List.getElem?_eq_getElem _⟩
  have hX:cT f c=x.1:=by
   unfold cT;rw [if_pos h15,hx];rfl
  refine fY hs (hw:=hw) (hi:=In.hd) (v:= .int .i64 x.1) (hv:=?_) (k:=?_)
  ·show (dE f.place pd xs)[0+2+c.toNat*6+0]? =_;rw [show 0+2+c.toNat*6+0=c.toNat*6+1+1 by omega];obtain ⟨sv,_,h6⟩:=aBS ht hx;have:=congrArg (fun t=>t[0]?) h6;simp only [gG,List.getElem?_take,List.getElem?_drop] at this;simpa [dE] using this
  ·clear hs;intro a hs;refine zC hs hw ?_;clear hs;intro a hs;exact rt1 hs rfl rfl ⟨by rw [hX],l9 hw ht⟩
theorem xS (w0 W:World) (H:Fh) (p:Nat) (f:dZ) (R:List Res) (hw:Has 0 w0 W (aY H p f::R)):
  Calls Tryz.prog 183 ⟨[.pointer (some ⟨p,0,none⟩)]⟩ W fun e W'=>∃q,e= .returned (.pointer (some ⟨q,0,none⟩))∧Has 0 w0 W' (aY H q f::aY H p f::R):=by
 refine enter Tryz.func183 Tryz.ntmps183 rfl rfl fun a hs=>?_;obtain ⟨pd,xs,ht,hw⟩:=oB hw;have hl:=aBT f.place pd ht;refine zC hs hw ?_;clear hs;intro a hs;refine vX hs (hw:=hw) (hi:=In.hd) (hl:=by rw [hl];rfl) (k:=?_);clear hs;intro a hs;replace hs:Slots a 15 [(8,.agg ⟨dE f.place pd xs⟩),(0,.pointer (some ⟨p,0,none⟩))]:=hs.of ⟨congrArg (fun x=>some (Value.agg ⟨x⟩)) (aGI _ 38 hl),rfl,trivial⟩
 repeat (first|(refine sxv hs hw ?_;clear hs;intro a hs)|refine sxc hs ?_|(refine sxa hs hw ?_;clear hs hw;intro a b W hw hs)|(refine sxs hs hw ?_;clear hs hw;intro W hs hw)|((with_reducible first|refine eX hs (k:=?_)|refine eY hs (k:=?_));clear hs;intro a hs))
 obtain ⟨q,q1⟩:=nm1 hw;subst q1;refine dY hs (vs:=dE f.place pd xs) (hw:=hw) (hz:=by rw [hl];rfl) (h1:=aGG _ _ ht) (hl:=by rw [hl];rfl) (k:=?_);clear hs hw;intro W hs hw;rw [aGJ _ _ (by rw [hl];rfl)] at hw;refine zC hs hw ?_;clear hs;intro a hs;have hw:Has 0 w0 W (bL pd f.d::aA q (dE f.place pd xs) 271::aA p (dE f.place pd xs) 271::R):=hw.pm;refine aG hs (hc:=pZ w0 _ pd f.d _ hw) (k:=?_);rintro e0 W1 ⟨c,rfl,hw1⟩;refine ⟨_,rfl,?_⟩;clear hs hw;intro a hs;have hw:=hw1;clear hw1;have hw:Has 0 w0 _ (aA q (dE f.place pd xs) 271::bL c f.d::aA p (dE f.place pd xs) 271::bL pd f.d::R):=hw.pm;refine zD hs hw ?_;clear hs hw;intro a W hs hw;rw [aEd] at hw;have hw:Has 0 w0 _ (aA q (dE f.place c xs) 271::bL c f.d::aA p (dE f.place pd xs) 271::bL pd f.d::R):=hw;have hw:=l9 hw ht;have hw:Has 0 w0 _ (aA p (dE f.place pd xs) 271::bL pd f.d::aY H q f::R):=hw.pm;have hw:=(l9 hw ht).swap2;exact rt1 hs rfl rfl ⟨q,rfl,hw⟩
theorem xT (w0 W:World) (H:Fh) (r:cF) (sv:Value) (R:List Res) (hl:r.b.l.length≤1000) (hr:cL H sv r.b.l) (hw:Has 0 w0 W (Fz H::R)):
  Calls Tryz.prog 235 ⟨[.agg ⟨aJ r sv⟩]⟩ W fun e W'=>∃sv' H',e= .returned (.agg ⟨aJ r sv'⟩)∧H.le H'∧cL H' sv' r.b.l∧Has 0 w0 W' (Fz H'::R):=by
 obtain ⟨sad,scap,rfl⟩:=hr.slice;refine enter Tryz.func235 Tryz.ntmps235 rfl rfl fun a hs=>?_
 repeat (first|(refine sxv hs hw ?_;clear hs;intro a hs)|refine sxc hs ?_|(refine sxa hs hw ?_;clear hs hw;intro a b W hw hs)|(refine sxs hs hw ?_;clear hs hw;intro W hs hw))
 obtain ⟨b2,q2⟩:=nm1 hw;subst q2;obtain ⟨b1,q1⟩:=nm2 hw;subst q1;have hw:Has 0 w0 _ (Fz H::aA b2 [.int .i64 0,.int .i64 0,.int .i64 0,.slice none 0 0,.int .i64 0] 68::aA b1 (aJ r (.slice sad r.b.l.length scap)) 68::R):=hw.pm;refine aG hs (hc:=sX w0 _ H r.b.l _ _ hl hr hw) (k:=?_);rintro e0 W1 ⟨sv',H',rfl,h1,h2,hw1⟩;refine ⟨_,rfl,?_⟩;clear hs hw;intro a hs;have hw:=hw1;clear hw1;obtain ⟨tad,tcap,rfl⟩:=h2.slice;refine zB hs hw ?_;clear hs hw;intro a W hs hw;refine rc1 hs rfl rfl hw (In.tl In.hd) rfl ?_;exact ⟨_,H',rfl,h1,h2,hw.drop2.drop2⟩
theorem aBV (w0 W:World) (H:Fh) (r:cF) (sv:Value) (R:List Res) (hl:r.b.l.length≤1000) (hr:cL H sv r.b.l) (hw:Has 0 w0 W (Fz H::R)):
  Calls Tryz.prog 103 ⟨[.agg ⟨aJ r sv⟩]⟩ W fun e W'=>∃sv' H',e= .returned (.agg ⟨aJ r sv'⟩)∧H.le H'∧cL H' sv' r.b.l∧Has 0 w0 W' (Fz H'::R):=by
 obtain ⟨sad,scap,rfl⟩:=hr.slice;refine enter Tryz.func103 Tryz.ntmps103 rfl rfl fun a hs=>?_
 repeat (first|(refine sxv hs hw ?_;clear hs;intro a hs)|refine sxc hs ?_|(refine sxa hs hw ?_;clear hs hw;intro a b W hw hs)|(refine sxs hs hw ?_;clear hs hw;intro W hs hw))
 obtain ⟨b2,q2⟩:=nm1 hw;subst q2;obtain ⟨b1,q1⟩:=nm2 hw;subst q1;have hw:Has 0 w0 _ (Fz H::aA b2 [.int .i64 0,.int .i64 0,.int .i64 0,.slice none 0 0,.int .i64 0] 68::aA b1 (aJ r (.slice sad r.b.l.length scap)) 68::R):=hw.pm;refine aG hs (hc:=sX w0 _ H r.b.l _ _ hl hr hw) (k:=?_);rintro e0 W1 ⟨sv',H',rfl,h1,h2,hw1⟩;refine ⟨_,rfl,?_⟩;clear hs hw;intro a hs;have hw:=hw1;clear hw1;obtain ⟨tad,tcap,rfl⟩:=h2.slice;refine zB hs hw ?_;clear hs hw;intro a W hs hw;refine rc1 hs rfl rfl hw (In.tl In.hd) rfl ?_;exact ⟨_,H',rfl,h1,h2,hw.drop2.drop2⟩
theorem aG6 {k n:Int} {s:ByteArray} (t:List UInt8) (h:(bZ k n s).2=0) (h0: -9223372036854775808≤n) (h1:n≤9223372036854775807) (hs:s.size≤1000000):
  getR (cY k n s ++ t)=((k,n,s),(cY k n s).length,0):=by
 have hd:s.data.toList.length=s.size:=by rw [Array.length_toList];rfl
 have hO:=h;unfold bZ at h;have he:s.size=0→s=⟨#[]⟩:=fun h=>by
  apply ByteArray.ext;exact Array.eq_empty_of_size_eq_zero h
 split at h
 ·rename_i c;obtain ⟨rfl,rfl,hz⟩:=c;have g:=Ph.getI_putI 0 t (by omega) (by omega);have e:cY 0 0 s=Ph.putI 0:=by simp [cY]
  rw [e,getR.eq_1,g,he hz];simp
 ·split at h
  ·rename_i c;obtain ⟨rfl,hz⟩:=c;have e:cY 1 n s=Ph.putI 1 ++ Ph.putI n:=by simp [cY]
   have g:=Ph.getI_putI 1 (Ph.putI n ++ t) (by omega) (by omega);have g2:=Ph.getI_putI n t h0 h1;rw [e,List.append_assoc,getR.eq_1,g,he hz];simp only [List.drop_left,g2,List.length_append];simp
  ·split at h
   ·rename_i c;obtain ⟨rfl,rfl,hz,hv⟩:=c;have e:cY 2 0 s=Ph.putI 2 ++ Ph.putT s.data.toList:=by simp [cY]
    have g:=Ph.getI_putI 2 (Ph.putT s.data.toList ++ t) (by omega) (by omega);have g2:=Ph.getT_putT s.data.toList t (by omega);rw [e,List.append_assoc,getR.eq_1,g];simp only [List.drop_left,g2,List.length_append,aBM,hO];simp
   ·cases h
def fU:Nat→Int→List OpD→(List UInt8×Bool)→List OpD×(List UInt8×Bool)
 |0,_,l,s=>(l,s)
 |f+1,n,l,s=>if 0<n∧s.2=false∧l.length≤8 then fU f (n - 1) (l ++ [(dT s).1]) (dT s).2 else (l,s)
def lC (b:List UInt8):(Int×Int×List OpD)×(List UInt8×Bool):=
 let s1:=bK (b,false)
 let s2:=bK s1
 let r:=fU 10 (Ph.getI s2.1).1 [] (bK s2)
 (((Ph.getI b).1,(Ph.getI s1.1).1,r.1),r.2)
def decode (b:List UInt8):Option (Int×Int×List OpD):=
 let p:=lC b
 if p.2.2=false∧dN p.1.1 p.1.2.1 p.1.2.2=true∧eB p.1.1 p.1.2.1 p.1.2.2=b then some p.1 else none
theorem qC (n:Int) (t:List UInt8) (h:i64 n):bK (Ph.putI n ++ t,false)=(t,false)∧(Ph.getI (Ph.putI n ++ t)).1=n:=by
 unfold bK tk;simp only;rw [Ph.getI_putI n t h.1 h.2];simp
theorem aG7 (s:ByteArray) (t:List UInt8) (h:s.size≤1000000):eQ (Ph.putT s.data.toList ++ t,false)=(t,false)∧(⟨(Ph.getT (Ph.putT s.data.toList ++ t)).1.toArray⟩:ByteArray)=s:=by
 have hd:s.data.toList.length=s.size:=by rw [Array.length_toList];rfl
 unfold eQ tk;simp only;rw [Ph.getT_putT s.data.toList t (by omega)];refine ⟨?_,aBM s⟩;simp
theorem x3 {k n:Int} {s:ByteArray} (t:List UInt8) (h:(bZ k n s).2=0) (hn:i64 n) (hs:s.size≤1000000):dW (cY k n s ++ t,false)=(t,false)∧(getR (cY k n s ++ t)).1=(k,n,s):=by
 unfold dW tk;simp only;rw [aG6 t h hn.1 hn.2 hs];simp
theorem aG8 (o:OpD) (t:List UInt8) (hm:fO o=true) (ho:OpOk o):dT (opB o ++ t,false)=(o,(t,false)):=by
 obtain ⟨kind,key,vk,vn,vs,ok,on,os,n⟩:=o;obtain ⟨hk,hvk,hvn,hok,hon,hn,hkey,hvs,hos⟩:=ho;simp only at hk hvk hvn hok hon hn hkey hvs hos;simp only [fO,eZ,Bool.and_eq_true,beq_iff_eq] at hm;obtain ⟨⟨⟨-,hv⟩,hO⟩,hm⟩:=hm;have key0:∀x:List UInt8,bK (Ph.putI kind ++ (Ph.putT key.data.toList ++ x),false)=(Ph.putT key.data.toList ++ x,false)∧(Ph.getI (Ph.putI kind ++ (Ph.putT key.data.toList ++ x))).1=kind:=fun x=>qC kind _ hk;have key1:∀x:List UInt8,eQ (Ph.putT key.data.toList ++ x,false)=(x,false)∧(⟨(Ph.getT (Ph.putT key.data.toList ++ x)).1.toArray⟩:ByteArray)=key:=fun x=>aG7 key x hkey
 have main:∀x:List UInt8,dT (Ph.putI kind ++ (Ph.putT key.data.toList ++ x),false)=(if kind=3 then
   (⟨kind,key,(getR x).1.1,(getR x).1.2.1,(getR x).1.2.2,(getR (dW (x,false)).1).1.1,(getR (dW (x,false)).1).1.2.1,(getR (dW (x,false)).1).1.2.2,0⟩,dW (dW (x,false)))
   else if kind=1 then (⟨kind,key,(getR x).1.1,(getR x).1.2.1,(getR x).1.2.2,0,0,⟨#[]⟩,0⟩,dW (x,false))
   else if kind=4 then (⟨kind,key,0,0,⟨#[]⟩,0,0,⟨#[]⟩,(Ph.getI x).1⟩,bK (x,false))
   else (⟨kind,key,0,0,⟨#[]⟩,0,0,⟨#[]⟩,0⟩,(x,false))):=fun x=>by
  unfold dT;simp only;rw [(key0 x).1,(key0 x).2];simp only;rw [(key1 x).1,(key1 x).2]
 have hA:opB ⟨kind,key,vk,vn,vs,ok,on,os,n⟩ ++ t=Ph.putI kind ++ (Ph.putT key.data.toList ++ ((if kind=3 then cY vk vn vs ++ cY ok on os else if kind=1 then cY vk vn vs else if kind=4 then Ph.putI n else []) ++ t)):=by
  unfold opB;simp only [List.append_assoc]
 rw [hA,main];clear main hA key0 key1;split at hm
 ·rename_i k1;subst k1;simp only [Bool.and_eq_true,beq_iff_eq] at hm;obtain ⟨⟨-,h2⟩,rfl⟩:=hm;obtain ⟨rfl,rfl,rfl⟩:=p8.1 h2;obtain ⟨g1,g2⟩:=x3 t hv hvn hvs;rw [if_neg (by decide),if_pos rfl,if_neg (by decide),if_pos rfl,g1,g2]
 ·rename_i k1;split at hm
  ·rename_i k2;subst k2;simp only [Bool.and_eq_true,beq_iff_eq] at hm;obtain ⟨⟨h1,h2⟩,rfl⟩:=hm;obtain ⟨rfl,rfl,rfl⟩:=p8.1 h1;obtain ⟨rfl,rfl,rfl⟩:=p8.1 h2;rw [if_neg (by decide),if_neg (by decide),if_neg (by decide),if_neg (by decide),if_neg (by decide),if_neg (by decide),List.nil_append]
  ·split at hm
   ·rename_i k3;subst k3;simp only [Bool.and_eq_true,beq_iff_eq] at hm;obtain ⟨-,rfl⟩:=hm;obtain ⟨g1,g2⟩:=x3 (cY ok on os ++ t) hv hvn hvs;obtain ⟨g3,g4⟩:=x3 t hO hon hos;rw [if_pos rfl,if_pos rfl,List.append_assoc,g1,g2];simp only;rw [g3,g4]
   ·split at hm
    ·rename_i k4;subst k4;simp only [Bool.and_eq_true] at hm;obtain ⟨⟨⟨h1,h2⟩, -⟩, -⟩:=hm;obtain ⟨rfl,rfl,rfl⟩:=p8.1 h1;obtain ⟨rfl,rfl,rfl⟩:=p8.1 h2;obtain ⟨g1,g2⟩:=qC n t hn;rw [if_neg (by decide),if_neg (by decide),if_pos rfl,if_neg (by decide),if_neg (by decide),if_pos rfl,g1,g2]
    ·cases hm
theorem aG9 (f:Nat) (acc:List OpD) (s:List UInt8×Bool):fU f 0 acc s=(acc,s):=by
 cases f with
 |zero=>rfl
 |succ f=>rw [fU,if_neg (by omega)]
theorem aB3:∀(l:List OpD) (f:Nat) (acc:List OpD) (t:List UInt8),acc.length+l.length≤8→l.length≤f→l.all fO=true→(∀o∈l,OpOk o)→fU f (l.length:Int) acc (l.flatMap opB ++ t,false)=(acc ++ l,(t,false))
 | [],f,acc,t,_,_,_,_=>by
  rw [show (([]:List OpD).length:Int)=0 from rfl,aG9];simp
 |o::l,0,acc,t,_,hf,_,_=>by simp at hf
 |o::l,f+1,acc,t,h8,hf,hm,ho=>by
  simp only [List.length_cons] at h8 hf;rw [List.all_cons,Bool.and_eq_true] at hm;rw [fU,if_pos ⟨by simp only [List.length_cons];omega,rfl,by omega⟩,List.flatMap_cons,List.append_assoc,aG8 o _ hm.1 (ho o (by simp))];simp only;have e:((o::l).length:Int) - 1=(l.length:Int):=by simp only [List.length_cons];omega
  rw [e,aB3 l f (acc ++ [o]) t (by simp;omega) (by omega) hm.2 fun x hx=>ho x (by simp [hx])];simp
theorem aGa {c q:Int} {l:List OpD} (t:List UInt8) (h:dN c q l=true) (ho:∀o∈l,OpOk o):lC (eB c q l ++ t)=((c,q,l),(t,false)):=by
 obtain ⟨hc,hq,hl,hm, -⟩:=m9 h;have e:eB c q l ++ t=Ph.putI c ++ (Ph.putI q ++ (Ph.putI l.length ++ (l.flatMap opB ++ t))):=by
  unfold eB iN;simp only [List.append_assoc]
 obtain ⟨g1,g2⟩:=qC c (Ph.putI q ++ (Ph.putI l.length ++ (l.flatMap opB ++ t))) ⟨by omega,by omega⟩;obtain ⟨g3,g4⟩:=qC q (Ph.putI l.length ++ (l.flatMap opB ++ t)) ⟨by omega,by omega⟩;obtain ⟨g5,g6⟩:=qC l.length (l.flatMap opB ++ t) ⟨by omega,by omega⟩;unfold lC;simp only;rw [e,g1,g2];simp only;rw [g3,g4];simp only;rw [g5,g6,aB3 l 10 [] t (by simp;omega) (by omega) hm ho];rfl
theorem aGb {c q:Int} {l:List OpD} (h:dN c q l=true) (ho:∀o∈l,OpOk o):decode (eB c q l)=some (c,q,l):=by
 have:=aGa [] h ho;rw [List.append_nil] at this;unfold decode;simp only;rw [this,if_pos ⟨rfl,h,rfl⟩]
theorem aGc {b:List UInt8} {c q:Int} {l:List OpD} (h:decode b=some (c,q,l)):dN c q l=true∧eB c q l=b∧(lC b).1=(c,q,l):=by
 unfold decode at h;simp only at h;split at h
 ·rename_i hh;have e:=Option.some.inj h;rw [e] at hh;exact ⟨hh.2.1,hh.2.2,e⟩
 ·cases h
theorem aGd (y:Nat) (h:y<18446744073709551616):i64 (Ph.unzig y):=by
 unfold Ph.unzig i64;split <;> omega
theorem aB4:∀(l:List UInt8) (i u:Nat),u<128 ^ i→i≤9→i64 (Ph.getN i u l).1
 | [],i,u,_,_=>by rw [Ph.getN_end];simp [i64]
 |c::t,i,u,hu,hi=>by
  have hc:=c.toNat_lt;rw [Ph.getN];split
  ·simp [i64]
  ·rename_i c1;split
   ·rename_i c2;have h8:i≤8:=by omega
    exact aB4 t (i+1) _ (Ph.sum_small u c.toNat i hu h8 (by omega)).2 (by omega)
   ·rename_i c2;split
    ·simp [i64]
    ·refine aGd _ ?_
     by_cases h8:i≤8
     ·have h1:=(Ph.sum_small u c.toNat i hu h8 (by omega)).2;have h2:128 ^ (i+1)≤128 ^ 9:=Nat.pow_le_pow_right (by omega) (by omega);have h3:(128:Nat) ^ 9=9223372036854775808:=by decide
      omega
     ·obtain rfl:i=9:=by omega
      have h3:(128:Nat) ^ 9=9223372036854775808:=by decide
      rw [h3] at hu;have:c.toNat≤1:=by omega
      have h4:c.toNat % 128*128 ^ 9≤9223372036854775808:=by
       rw [h3,Nat.mod_eq_of_lt (by omega)];omega
      omega
theorem oF (l:List UInt8):i64 (Ph.getI l).1:=aB4 l 0 0 (by simp) (by omega)
theorem aB5 (l:List UInt8):i64 (getR l).1.1∧i64 (getR l).1.2.1∧(getR l).1.2.2.size≤l.length:=by
 have h1:=oF (l.drop (Ph.getI l).2.1);have z:i64 0:=⟨by omega,by omega⟩
 have e0:(⟨#[]⟩:ByteArray).size=0:=rfl;unfold getR;simp only;split
 ·exact ⟨z,z,by simp [e0]⟩
 ·split
  ·exact ⟨z,z,by simp [e0]⟩
  ·split
   ·split
    ·exact ⟨z,z,by simp [e0]⟩
    ·exact ⟨⟨by simp,by simp⟩,h1,by simp [e0]⟩
   ·split
    ·split
     ·exact ⟨z,z,by simp [e0]⟩
     ·have:=s8 (l.drop (Ph.getI l).2.1);rw [List.length_drop] at this;split
      ·exact ⟨z,z,by simp [e0]⟩
      ·exact ⟨⟨by simp,by simp⟩,z,by simp only;omega⟩
    ·exact ⟨z,z,by simp [e0]⟩
theorem mC (s:List UInt8×Bool) (n:Nat) (err:Int):(tk s n err).1.length≤s.1.length:=by
 unfold tk;simp only;split
 ·exact Nat.le_refl _
 ·rw [List.length_drop];omega
theorem aGe (s:List UInt8×Bool) (h:s.1.length≤1000000):OpOk (dT s).1∧(dT s).2.1.length≤s.1.length:=by
 have h1:(bK s).1.length≤s.1.length:=mC _ _ _;have h2:(eQ (bK s)).1.length≤(bK s).1.length:=mC _ _ _;have k0:=oF s.1;have hkey:=s8 (bK s).1;unfold dT;simp only;generalize eQ (bK s)=s2 at *;have h3:(dW s2).1.length≤s2.1.length:=mC _ _ _;have h4:(dW (dW s2)).1.length≤(dW s2).1.length:=mC _ _ _;have h5:(bK s2).1.length≤s2.1.length:=mC _ _ _;obtain ⟨a1,a2,a3⟩:=aB5 s2.1;obtain ⟨b1,b2,b3⟩:=aB5 (dW s2).1;have c1:=oF s2.1;have z:i64 0:=⟨by omega,by omega⟩
 have e0:(⟨#[]⟩:ByteArray).size≤1000000:=by show 0≤_;omega
 split
 ·exact ⟨⟨k0,a1,a2,b1,b2,z,by simp only;omega,by simp only;omega,by simp only;omega⟩,by simp only;omega⟩
 ·split
  ·exact ⟨⟨k0,a1,a2,z,z,z,by simp only;omega,by simp only;omega,e0⟩,by simp only;omega⟩
  ·split
   ·exact ⟨⟨k0,z,z,z,z,c1,by simp only;omega,e0,e0⟩,by simp only;omega⟩
   ·exact ⟨⟨k0,z,z,z,z,z,by simp only;omega,e0,e0⟩,by simp only;omega⟩
theorem aB6:∀(f:Nat) (n:Int) (l:List OpD) (s:List UInt8×Bool),s.1.length≤1000000→l.length≤9→(∀o∈l,OpOk o)→(fU f n l s).1.length≤9∧∀o∈(fU f n l s).1,OpOk o
 |0,n,l,s,_,h9,ho=>⟨h9,ho⟩
 |f+1,n,l,s,hs,h9,ho=>by
  rw [fU];split
  ·rename_i c;obtain ⟨g1,g2⟩:=aGe s hs;refine aB6 f (n - 1) _ _ (by omega) (by simp;omega) fun o h=>?_;rcases List.mem_append.1 h with h|h
   ·exact ho o h
   ·rw [List.mem_singleton] at h;rw [h];exact g1
  ·exact ⟨h9,ho⟩
theorem aB7 (b:List UInt8) (h:b.length≤1000000):i64 (lC b).1.1∧i64 (lC b).1.2.1∧(lC b).1.2.2.length≤9∧∀o∈(lC b).1.2.2,OpOk o:=by
 have h1:(bK (b,false)).1.length≤b.length:=mC _ _ _;have h2:(bK (bK (b,false))).1.length≤(bK (b,false)).1.length:=mC _ _ _;have h3:(bK (bK (bK (b,false)))).1.length≤(bK (bK (b,false))).1.length:=mC _ _ _;have:=aB6 10 (Ph.getI (bK (bK (b,false))).1).1 [] (bK (bK (bK (b,false)))) (by omega) (by simp) (by simp);exact ⟨oF _,oF _,this.1,this.2⟩
theorem aB8 {b:List UInt8} {c q:Int} {l:List OpD} (hb:b.length≤1000000) (h:decode b=some (c,q,l)):i64 c∧i64 q∧l.length≤9∧∀o∈l,OpOk o:=by
 have:=aB7 b hb;rw [(aGc h).2.2] at this;exact this
def e7 (b:List UInt8):(Int×Int×List OpD)×Int:=match decode b with|none=>((0,0,[]),1)|some p=>(p,0)
theorem aGi {n:Int} {l:List OpD} {s:List UInt8×Bool} (h0:0<n) (h1:s.2=false) (h2:l.length≤8):fU (10 - l.length) n l s=fU (10 - (l.length+1)) (n - 1) (l ++ [(dT s).1]) (dT s).2:=by
 rw [show 10 - l.length=(10 - (l.length+1))+1 by omega,fU,if_pos ⟨h0,h1,h2⟩]
theorem aGj {n:Int} {l:List OpD} {s:List UInt8×Bool} (h:(decide (n > 0) && !s.2 && decide ((l.length:Int)≤8))=false) (f:Nat):fU f n l s=(l,s):=by
 cases f with
 |zero=>rfl
 |succ f=>
  rw [fU,if_neg];rintro ⟨h0,h1,h2⟩;rw [h1] at h;simp at h;omega
structure aGk where
 n:Int
 v:Value
 l:List OpD
 sv:Value
 s:List UInt8×Bool
set_option maxRecDepth 10000 in
theorem aGl (b:List UInt8) (sv:Value) (w:World) (hb:b.length≤1000000) (r:RdB w sv b) (hT:Tabs w):
  Calls Tryz.prog 158 ⟨[sv]⟩ w fun e w'=>∃ad cap,e= .returned (.tuple #[.agg ⟨[.int .i64 (e7 b).1.1,.int .i64 (e7 b).1.2.1,.slice ad (e7 b).1.2.2.length cap]⟩,.int .i64 (e7 b).2])∧Has 0 w w' (Sx.Own 55 9 (.slice ad (e7 b).1.2.2.length cap) (e7 b).1.2.2.length ((e7 b).1.2.2.flatMap bX)::Old w 0:: []):=by
 have hw:=Has.start (G:=0) (w:=w) (Nat.zero_le _);have hok:=aB7 b hb;obtain ⟨sad,scap,rfl⟩:∃ad cap,sv= .slice ad b.length cap:=by obtain ⟨_,ad,cap,e,_⟩:=r;exact ⟨ad,cap,e⟩
 refine enter Tryz.func158 Tryz.ntmps158 rfl rfl fun a hs=>?_
 repeat (first|(refine sxv hs hw ?_;clear hs;intro a hs)|refine sxc hs ?_|(refine sxa hs hw ?_;clear hs hw;intro a b W hw hs)|(refine sxs hs hw ?_;clear hs hw;intro W hs hw))
 obtain ⟨bp,q1⟩:=nm1 hw;subst q1;obtain ⟨b0,q2⟩:=nm2 hw;subst q2;have hw:Has 0 w _ (aA bp [.slice sad b.length scap,.bool (b,false).2] 312::aA b0 [.int .i64 0,.int .i64 0,.slice none 0 0] 66::Old w 0:: []):=hw;refine aG hs (hc:=qB w _ bp _ (b,false) _ (In.tl In.hd) r hw) (k:=?_);rintro e0 W1 ⟨rfl,sv1,r1,hw'⟩;refine ⟨_,rfl,?_⟩;clear hs hw;intro a hs;have hw:=hw';clear hw';rw [show tk (b,false) (Ph.getI (b,false).1).2.1 (Ph.getI (b,false).1).2.2=bK (b,false) from rfl] at hw r1
 repeat (first|(refine sxv hs hw ?_;clear hs;intro a hs)|refine sxc hs ?_|(refine sxa hs hw ?_;clear hs hw;intro a b W hw hs)|(refine sxs hs hw ?_;clear hs hw;intro W hs hw))
 obtain ⟨bx,q3⟩:=nm1 hw;subst q3;have hw:=hw.swap2;refine aG hs (hc:=qB w _ bp sv1 (bK (b,false)) _ (In.tl (In.tl In.hd)) r1 hw) (k:=?_);rintro e0 W1 ⟨rfl,sv2,r2,hw'⟩;refine ⟨_,rfl,?_⟩;clear hs hw;intro a hs;have hw:=hw';clear hw';rw [show tk (bK (b,false)) (Ph.getI (bK (b,false)).1).2.1 (Ph.getI (bK (b,false)).1).2.2=bK (bK (b,false)) from rfl] at hw r2;refine zB hs hw ?_;clear hs hw;intro a W hs hw;refine aG hs (hc:=qB w _ bp sv2 (bK (bK (b,false))) _ (In.tl (In.tl In.hd)) r2 hw) (k:=?_);rintro e0 W1 ⟨rfl,sv3,r3,hw'⟩;refine ⟨_,rfl,?_⟩;clear hs hw;intro a hs;have hw:=hw';clear hw';rw [show tk (bK (bK (b,false))) (Ph.getI (bK (bK (b,false))).1).2.1 (Ph.getI (bK (bK (b,false))).1).2.2=bK (bK (bK (b,false))) from rfl] at hw r3;refine zA hs hw ?_;clear hs;intro a hs;have hN:=oF (bK (bK (b,false))).1;have hdec:lC b=(((Ph.getI (b,false).1).1,(Ph.getI (bK (b,false)).1).1,(fU 10 (Ph.getI (bK (bK (b,false))).1).1 [] (bK (bK (bK (b,false))))).1),(fU 10 (Ph.getI (bK (bK (b,false))).1).1 [] (bK (bK (bK (b,false))))).2):=rfl;clear r1 r2;generalize (Ph.getI (bK (bK (b,false))).1).1=N at *;generalize bK (bK (bK (b,false)))=s3 at *;generalize (Ph.getI (bK (b,false)).1).1=q at *;generalize (Ph.getI (b,false).1).1=c at *;replace hw:=(hw.nilOwn 55 9).swap2;have hw:Has 0 w W1 (aA bp [sv3,.bool s3.2] 312::Sx.Own 55 9 (.slice none 0 0) ([]:List OpD).length (([]:List OpD).flatMap bX)::aA bx [.int .i64 c,.int .i64 q,.slice none 0 0] 66::aA b0 [.int .i64 0,.int .i64 0,.slice none 0 0] 66::Old w 0:: []):=hw;refine bY (σ:=aGk) (fun t=>[(0,.slice sad b.length scap),(2,.pointer (some ⟨b0,0,none⟩)),(4,.pointer (some ⟨bp,0,none⟩)),(5,.pointer (some ⟨bx,0,none⟩)),(6,.int .i64 t.n)])
  (fun t=>aA bp [t.sv,.bool t.s.2] 312::Sx.Own 55 9 t.v t.l.length (t.l.flatMap bX)::aA bx [.int .i64 c,.int .i64 q,t.v] 66::aA b0 [.int .i64 0,.int .i64 0,.slice none 0 0] 66::Old w 0:: [])
  (fun t=>RdB w t.sv t.s.1∧i64 t.n∧t.l.length≤9∧fU (10 - t.l.length) t.n t.l t.s=fU 10 N [] s3) (fun t=>10 - t.l.length) ⟨N,.slice none 0 0,[],sv3,s3⟩ ⟨r3,hN,by simp,rfl⟩ hs ⟨rfl,rfl,rfl,rfl,rfl,trivial⟩ hw ?_
 clear hs hw r3 hN;rintro ⟨n,v,l,sv,s⟩ a W ⟨hr,hn,hl,hrd⟩ hs hw;simp only at hr hn hl hrd hs hw;obtain ⟨vad,vcap,rfl⟩:∃ad cap,v= .slice ad l.length cap:=by
  obtain ⟨_,ad,cap,e,_⟩:=hw.rd_own (In.tl In.hd);exact ⟨ad,cap,e⟩
 refine sq ?_;refine sq ?_;refine eW (M:=fun a W=>Slots a 61 [(0,.slice sad b.length scap),(2,.pointer (some ⟨b0,0,none⟩)),(4,.pointer (some ⟨bp,0,none⟩)),(5,.pointer (some ⟨bx,0,none⟩)),(6,.int .i64 n),(33,.bool (decide (n > 0) && !s.2 && decide ((l.length:Int)≤8)))]∧Has 0 w W (aA bp [sv,.bool s.2] 312::Sx.Own 55 9 (.slice vad l.length vcap) l.length (l.flatMap bX)::aA bx [.int .i64 c,.int .i64 q,.slice vad l.length vcap] 66::aA b0 [.int .i64 0,.int .i64 0,.slice none 0 0] 66::Old w 0:: [])) ?_ ?_
 ·refine zA hs hw ?_;clear hs;intro a hs;cases k0:decide (n > 0) with
  |false=>
   rw [k0] at hs;refine zA hs hw ?_;clear hs;intro a hs;exact ⟨hs.ot,hw⟩
  |true=>
  rw [k0] at hs;refine zA hs hw ?_;clear hs;intro a hs;cases k1:s.2 with
  |true=>
   rw [k1] at hs hw;refine zA hs hw ?_;clear hs;intro a hs;exact ⟨hs.ot,hw⟩
  |false=>
  rw [k1] at hs hw;refine zA hs hw ?_;clear hs;intro a hs;exact ⟨hs.of ⟨rfl,rfl,rfl,rfl,rfl,aA5 (by simp),trivial⟩,hw⟩
 clear hs hw;rintro a W ⟨hs,hw⟩;refine cI hs (kt:=fun hcc=>?_) (kf:=fun hcc=>?_)
 ·obtain ⟨h0,h1,h2⟩:0<n∧s.2=false∧l.length≤8:=by
   simp only [Bool.and_eq_true,decide_eq_true_eq,Bool.not_eq_true'] at hcc;exact ⟨by omega,hcc.1.2,by omega⟩
  rw [aGi h0 h1 h2] at hrd;replace hs:Slots a 61 [(0,.slice sad b.length scap),(2,.pointer (some ⟨b0,0,none⟩)),(4,.pointer (some ⟨bp,0,none⟩)),(5,.pointer (some ⟨bx,0,none⟩)),(6,.int .i64 n)]:=hs.ot;refine zG hs ?_;have hw:Has 0 w W (aA bp [sv,.bool s.2] 312::Sx.Own 55 9 (.slice vad l.length vcap) l.length (l.flatMap bX)::bI::bI::aA bx [.int .i64 c,.int .i64 q,.slice vad l.length vcap] 66::aA b0 [.int .i64 0,.int .i64 0,.slice none 0 0] 66::Old w 0:: []):=hw.free.free.perm (((List.Perm.cons _ (List.Perm.swap _ _ _)).trans (List.Perm.swap _ _ _)).trans (List.Perm.cons _ ((List.Perm.cons _ (List.Perm.swap _ _ _)).trans (List.Perm.swap _ _ _))));refine fM (σ:=Value×Option Addr×Nat) (V:=fun u=>[.pointer (some ⟨bx,0+2,none⟩),.slice vad l.length vcap,.pointer (some ⟨bp,0,none⟩),.agg ⟨bX (dT s).1⟩,.slice (some ⟨(u 4).2.2,0,none⟩) 1 1,.slice (u 5).2.1 (l.length+1) (u 5).2.2,.pointer (some ⟨bx,0+2,none⟩),.bool true])
   (Rs:=fun u D=>(if D 3 then aA bp [(u 3).1,.bool (dT s).2.2] 312 else aA bp [sv,.bool s.2] 312)::(if D 5 then Sx.Own 55 9 (.slice (u 5).2.1 (l.length+1) (u 5).2.2) (l.length+1) (l.flatMap bX ++ bX (dT s).1) else Sx.Own 55 9 (.slice vad l.length vcap) l.length (l.flatMap bX))::(if D 4 then aA (u 4).2.2 (bX (dT s).1) 55 else bI)::(if D 3 then bO (RdB w (u 3).1 (dT s).2.1) else bI)::(if D 7 then aA bx [.int .i64 c,.int .i64 q,.slice (u 5).2.1 (l.length+1) (u 5).2.2] 66 else aA bx [.int .i64 c,.int .i64 q,.slice vad l.length vcap] 66)::aA b0 [.int .i64 0,.int .i64 0,.slice none 0 0] 66::Old w 0:: []) (fun _=>(.bool true,none,0)) hs hw (hVu:=?vu_c) (ho:=⟨?_,?c1_c,?_,?c3_c,?c4_c,?c5_c,?_,?c7_c,trivial⟩) (k:=?k_c)
  case vu_c=>
   intro u u' j h;rcases j with _|_|_|_|_|_|j
   all_goals first|rfl|simp [h]
  case c1_c=>
   intro u LD D a W hcl hi hp hs hw;have h5:=Go.Sx.not_done hcl hi 5 (by kernel_rfl);have h7:=Go.Sx.not_done hcl h5 7 (by kernel_rfl);have hw0:=hw;simp only [h7,Bool.false_eq_true,if_false] at hw;refine zA hs hw ?_;clear hs;intro a hs;exact Or.inl ⟨hs,hw0⟩
  case c3_c=>
   intro u LD D a W hcl hi hp hs hw;have h4:=Go.Sx.not_done hcl hi 4 (by kernel_rfl);have h5:=Go.Sx.not_done hcl h4 5 (by kernel_rfl);have h7:=Go.Sx.not_done hcl h5 7 (by kernel_rfl);simp only [hi,h4,h5,h7,Bool.false_eq_true,if_false] at hw;refine aG hs (hc:=aG5 w _ bp sv s _ inn hr hT hw) (k:=?_);rintro e0 W1 ⟨rfl,sv2,r2,hw'⟩;refine ⟨_,rfl,?_⟩;clear hs hw;intro a hs;refine zG hs ?_;refine Or.inr ⟨(sv2,none,0),hs,?_⟩;show Has 0 w _ (_::(if (Nat.beq 5 3 || D 5)=true then _ else _)::(if (Nat.beq 4 3 || D 4)=true then _ else _)::_::(if (Nat.beq 7 3 || D 7)=true then _ else _)::_);rw [h4,h5,h7];exact (hw'.fact r2).fill (Upd.tl (Upd.tl (Upd.tl Upd.hd)))
  case c4_c=>
   intro u LD D a W hcl hi hp hs hw;have h3:=Go.Sx.done hp 3 (by kernel_rfl);have h5:=Go.Sx.not_done hcl hi 5 (by kernel_rfl);have h7:=Go.Sx.not_done hcl h5 7 (by kernel_rfl);simp only [hi,h3,h5,h7,Bool.false_eq_true,if_false,if_true] at hw
   repeat (first|(refine sxv hs hw ?_;clear hs;intro a hs)|refine sxc hs ?_|(refine sxa hs hw ?_;clear hs hw;intro a b W hw hs)|(refine sxs hs hw ?_;clear hs hw;intro W hs hw))
   refine Or.inr ⟨(.bool true,none,_),hs,?_⟩;show Has 0 w _ ((if (Nat.beq 3 4 || D 3)=true then _ else _)::(if (Nat.beq 5 4 || D 5)=true then _ else _)::_::(if (Nat.beq 3 4 || D 3)=true then _ else _)::(if (Nat.beq 7 4 || D 7)=true then _ else _)::_);rw [h3,h5,h7];exact hw.fill (Upd.tl (Upd.tl Upd.hd))
  case c5_c=>
   intro u LD D a W hcl hi hp hs hw;have h4:=Go.Sx.done hp 4 (by kernel_rfl);have h7:=Go.Sx.not_done hcl hi 7 (by kernel_rfl);simp only [hi,h4,h7,Bool.false_eq_true,if_false,if_true] at hw;refine sF hs hw (k:=l.length) (h63:=by omega) (hb:=by omega) (c:=?_);clear hs hw;intro a ad cap W hs hw;refine zG hs ?_;refine Or.inr ⟨(.bool true,ad,cap),hs,?_⟩;show Has 0 w _ (_::_::(if (Nat.beq 4 5 || D 4)=true then _ else _)::_::(if (Nat.beq 7 5 || D 7)=true then _ else _)::_);rw [h4,h7];exact hw
  case c7_c=>
   intro u LD D a W hcl hi hp hs hw;have h5:=Go.Sx.done hp 5 (by kernel_rfl);simp only [hi,h5,Bool.false_eq_true,if_false,if_true] at hw
   repeat (first|(refine sxv hs hw ?_;clear hs;intro a hs)|refine sxc hs ?_|(refine sxa hs hw ?_;clear hs hw;intro a b W hw hs)|(refine sxs hs hw ?_;clear hs hw;intro W hs hw))
   refine Or.inl ⟨hs,?_⟩;show Has 0 w _ (_::(if (Nat.beq 5 7 || D 5)=true then _ else _)::_::_::_::_);rw [h5];exact hw
  case k_c=>
   clear hs hw;intro u a W hs hw;replace hw:Has 0 w W (aA bp [(u 3).1,.bool (dT s).2.2] 312::Sx.Own 55 9 (.slice (u 5).2.1 (l.length+1) (u 5).2.2) (l.length+1) (l.flatMap bX ++ bX (dT s).1)::aA (u 4).2.2 (bX (dT s).1) 55::bO (RdB w (u 3).1 (dT s).2.1)::aA bx [.int .i64 c,.int .i64 q,.slice (u 5).2.1 (l.length+1) (u 5).2.2] 66::aA b0 [.int .i64 0,.int .i64 0,.slice none 0 0] 66::Old w 0:: []):=hw;have hr':=hw.told (In.tl (In.tl (In.tl In.hd)));replace hw:=hw.sub (L':=aA bp [(u 3).1,.bool (dT s).2.2] 312::Sx.Own 55 9 (.slice (u 5).2.1 (l.length+1) (u 5).2.2) (l.length+1) (l.flatMap bX ++ bX (dT s).1)::aA bx [.int .i64 c,.int .i64 q,.slice (u 5).2.1 (l.length+1) (u 5).2.2] 66::aA b0 [.int .i64 0,.int .i64 0,.slice none 0 0] 66::Old w 0:: []) (List.Sublist.cons_cons _ (List.Sublist.cons_cons _ (List.Sublist.cons _ (List.Sublist.cons _ (List.Sublist.refl _)))));replace hs:Slots a 61 [(0,.slice sad b.length scap),(2,.pointer (some ⟨b0,0,none⟩)),(4,.pointer (some ⟨bp,0,none⟩)),(5,.pointer (some ⟨bx,0,none⟩)),(6,.int .i64 n)]:=hs.ot;generalize (u 3).1=sv2 at *;generalize (u 5).2.1=ad2 at *;generalize (u 5).2.2=cap2 at *;clear u;refine zA hs hw ?_;clear hs;intro a hs;have e1:IntKind.i64.wrap (n - 1)=n - 1:=oE (by have:=hn.1;omega) (by have:=hn.2;omega);rw [e1] at hs;have e2:l.length+1=(l ++ [(dT s).1]).length:=by simp
   have e3:l.flatMap bX ++ bX (dT s).1=(l ++ [(dT s).1]).flatMap bX:=by simp
   rw [e2,e3] at hw;rw [e2] at hrd;exact bQ ⟨n - 1,_,l ++ [(dT s).1],sv2,(dT s).2⟩ hs hw ⟨hr',⟨by have:=hn.1;show _≤n - 1;omega,by have:=hn.2;show n - 1≤_;omega⟩,by simp;omega,hrd⟩ (by simp only [List.length_append,List.length_singleton];omega) ⟨rfl,rfl,rfl,rfl,rfl,trivial⟩
  all_goals
   intro u LD D a W hcl hi hp hs hw;refine zA hs hw ?_;clear hs;intro a hs;exact Or.inl ⟨hs,hw⟩
 ·rw [aGj hcc] at hrd;rw [←hrd] at hdec;clear hrd;rw [hdec] at hok;obtain ⟨hc,hq, -,ho⟩:=hok;simp only at hc hq ho;have hD:∀p:Prop,(s.2=false∧dN c q l=true∧eB c q l=b↔p)→((p→e7 b=((c,q,l),0))∧(¬p→e7 b=((0,0,[]),1))):=fun p hp=>by
   constructor
   ·intro h;have:decode b=some (c,q,l):=by unfold decode;simp only [hdec];rw [if_pos (hp.2 h)]
    unfold e7;rw [this]
   ·intro h;have:decode b=none:=by unfold decode;simp only [hdec];rw [if_neg fun k=>h (hp.1 k)]
    unfold e7;rw [this]
  have hZ:=(hD _ Iff.rfl).2;have hY:=(hD _ Iff.rfl).1;clear hD hdec;refine zA hs hw ?_;clear hs;intro a hs;refine aG hs (hc:=p7 c q l _ _ hc hq ho (hw.rd_own (In.tl In.hd)) (hT.keep (hw.end inn))) (k:=?_);rintro e0 W1 ⟨ad,cap,rfl,hnil,hw1⟩;refine ⟨_,rfl,?_⟩;clear hs;intro a hs;replace hw:=hw.call hw1;clear hw1;refine zA hs hw ?_;clear hs;intro a hs;cases k1:s.2 with
  |true=>
   rw [k1] at hs hw;refine zB hs hw ?_;clear hs hw;intro a W hs hw;refine rc2 hs rfl rfl hw (In.tl (In.tl (In.tl (In.tl In.hd)))) rfl rfl ?_;rw [hZ (by rw [k1];simp)];exact ⟨none,0,rfl,(hw.nilOwn 55 9).sub (List.Sublist.cons_cons _ (List.Sublist.cons _ (List.Sublist.cons _ (List.Sublist.cons _ (List.Sublist.cons _ (List.Sublist.cons _ (List.Sublist.refl _)))))))⟩
  |false=>
  rw [k1] at hs hw;refine zA hs hw ?_;clear hs;intro a hs;cases hm:dN c q l with
  |false=>
   obtain ⟨rfl,rfl⟩:=hnil hm;refine k7 hs (c:=?_);clear hs;intro a hs;refine zB hs hw ?_;clear hs hw;intro a W hs hw;refine rc2 hs rfl rfl hw (In.tl (In.tl (In.tl (In.tl In.hd)))) rfl rfl ?_;rw [hZ (by rw [hm];simp)];exact ⟨none,0,rfl,(hw.nilOwn 55 9).sub (List.Sublist.cons_cons _ (List.Sublist.cons _ (List.Sublist.cons _ (List.Sublist.cons _ (List.Sublist.cons _ (List.Sublist.cons _ (List.Sublist.refl _)))))))⟩
  |true=>
  rw [hm] at hs hw;simp only [if_true] at hs hw;obtain ⟨A,rfl⟩:∃A,ad=some A:=by
   obtain ⟨_,ad',cap',e,_,_,h|⟨g,o,h,_⟩⟩:=hw.rd_own In.hd
   ·have:=aFv c q l;omega
   ·injection e with e1 _ _;exact ⟨_,e1.trans h⟩
  refine k7 hs (c:=?_);clear hs;intro a hs;rw [show (some A).isNone=false from rfl] at hs;refine zA hs hw ?_;clear hs;intro a hs;refine aG hs (hc:=aBQ (eB c q l) b _ _ _ (hw.rd_own In.hd) (hw.rd inn hw.ext.size r)) (k:=?_);rintro e0 W1 ⟨rfl,hb⟩;refine ⟨_,rfl,?_⟩;clear hs;intro a hs;replace hw:=hw.below hb;clear hb;cases he:(eB c q l == b) with
  |false=>
   rw [he] at hs;refine zB hs hw ?_;clear hs hw;intro a W hs hw;refine rc2 hs rfl rfl hw (In.tl (In.tl (In.tl (In.tl In.hd)))) rfl rfl ?_;rw [hZ (by rw [beq_eq_false_iff_ne] at he;exact fun h=>he h.2.2)];exact ⟨none,0,rfl,(hw.nilOwn 55 9).sub (List.Sublist.cons_cons _ (List.Sublist.cons _ (List.Sublist.cons _ (List.Sublist.cons _ (List.Sublist.cons _ (List.Sublist.cons _ (List.Sublist.refl _)))))))⟩
  |true=>
   rw [he] at hs;refine zB hs hw ?_;clear hs hw;intro a W hs hw;refine rc2 hs rfl rfl hw (In.tl (In.tl (In.tl (In.tl In.hd)))) rfl rfl ?_;rw [hY ⟨k1,hm,by simpa using he⟩];exact ⟨_,_,rfl,hw.sub (List.Sublist.cons _ (List.Sublist.cons _ (List.Sublist.cons_cons _ (List.Sublist.cons _ (List.Sublist.cons _ (List.Sublist.refl _))))))⟩
theorem x6 (b:List UInt8) (c q:Int) (l:List OpD) (err:Int) (h:e7 b=((c,q,l),err)) (sv:Value) (w:World) (hb:b.length≤1000000) (r:RdB w sv b) (hT:Tabs w):
  Calls Tryz.prog 158 ⟨[sv]⟩ w fun e w'=>∃ad cap,e= .returned (.tuple #[.agg ⟨[.int .i64 c,.int .i64 q,.slice ad l.length cap]⟩,.int .i64 err])∧Has 0 w w' (Sx.Own 55 9 (.slice ad l.length cap) l.length (l.flatMap bX)::Old w 0:: []):=by
 have:=aGl b sv w hb r hT;rw [h] at this;exact this
end Go.Proofs.YtgpbngfehfbndaaGreatDoor.Sw
