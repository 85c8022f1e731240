/-
  Texts of the proof, one behind the other (part 19).
-/
import Derived.Test.YtgpbngfehfbndaaGreatDoorM16
import Derived.Test.YtgpbngfehfbndaaGreatDoorM17
import Derived.WalkKit
import Derived.WalkLawsBesides
import Derived.WalkSpells
import Derived.Lib.Hide
import Derived.Deep.QuietTactic
import Derived.BigQuiet
import Derived.Test.YtgpbngfehfbndaaGreatDoorChecked
import Derived.Laws.Bits64
import Derived.Laws.Bits64b
import Derived.Laws.BitsLemmas
import Derived.Laws.DeepNot64
import Derived.WalkSmall
import Derived.Deep.Draws
import Derived.Lib.ValidLaws
import Derived.Lib.MapLaws
import Derived.Lib.TrimUEq
import Derived.Lib.RuneBytes
import Derived.Laws.RangeAny
import Derived.Laws.Strings
import GoSem.Op.String
import Derived.Laws.StructEq
import Derived.IntWalk
import Derived.Shelf.Small.Bits
import Derived.Shelf.Strconv.Itoa0
import Derived.Ground.Names2Prog
import Derived.Shelf.Slices.Clone
import Derived.Shelf.Bytes.SlSearch0
import Derived.Ground.SlbCloneProg
import Derived.Shelf.Bytes.SlClone
import Derived.Shelf.Bytes.Small
import Derived.Shelf.Unicode.ValidAny
import Derived.Test.YtgpbngfehfbndaaGreatDoorProg
import Derived.Below
import Derived.Tactics
import Derived.RegionTactic
import Derived.Deep.AppendSrc
import Derived.Laws.AppendOwn
import Derived.Laws.BytesString
import Derived.Laws.Tables
import Derived.Laws.IdiomStrings
import Derived.Laws.Small
import Derived.Maps.RangeRun
import Derived.Deep.RegionHeld3
import Derived.DataShut
import Derived.Lib.UnsafeStr
import Derived.Deep.AppendLies
set_option maxHeartbeats 16000000
set_option linter.unusedVariables false
set_option maxRecDepth 10000
namespace Go.Proofs.YtgpbngfehfbndaaGreatDoor.Sw
open Go.RowKit Go.Sx
def inR (lo hi:Int) (l:List Int):Bool:=l.all fun x=>!decide (x<lo) && !decide (x > hi)
theorem yC {b:Nat} {lo hi:Int} {l:List Int} {L L1:List Res} (hl:l.length≤100) [c:dI (fun l=>aA b (l.map (Value.int .i64)) 2) L l L1]:Get Tryz.prog 228 [.int .i64 lo,.int .i64 hi,.slice (some ⟨b,0,none⟩) l.length l.length] L (.bool (inR lo hi l)) L:=⟨fun {w W} hw=>by
 have hr:∀{W},Has 0 w W L→Rd W 1 (.slice (some ⟨b,0,none⟩) l.length l.length) l.length (l.map (Value.int .i64)):=fun h=>(h.pick c.p).rd_lit In.hd (by simp) (by omega);refine enter Tryz.func228 Tryz.ntmps228 rfl rfl fun a hs=>?_;refine sv hs hw fun a hs=>?_;refine bY (σ:=Nat) (fun i=>[(0,.int .i64 lo),(1,.int .i64 hi),(9,.slice (some ⟨b,0,none⟩) l.length l.length),(10,.int .i64 (l.length:Int)),(11,.int .i64 (i:Int))]) (fun _=>L) (fun i=>i≤l.length∧inR lo hi l=inR lo hi (l.drop i)) (fun i=>l.length - i) 0 ⟨Nat.zero_le _,rfl⟩ hs ⟨rfl,rfl,rfl,rfl,rfl,trivial⟩ hw ?_;clear hs hw;rintro i a W ⟨hi',hh⟩ hs hw;refine sv hs hw fun a hs=>?_;refine cI hs (kt:=fun hc=>?_) (kf:=fun hc=>?_)
 ·have hi2:i<l.length:=by simpa using hc
  obtain ⟨o,ho,hd⟩:=dR hi2;rw [hd] at hh;refine sc hs ?_;refine hQ hs (hr hw) ho rfl fun a b f hs=>?_;refine sv hs hw fun a hs=>?_;have hq:inR lo hi (o::l.drop (i+1))=(!decide (o<lo) && !decide (o > hi) && inR lo hi (l.drop (i+1))):=rfl;cases c1:decide (o<lo) with
  |true=>
   rw [c1] at hs hq;refine sv hs hw fun a hs=>?_;exact rt1 hs rfl rfl ⟨by rw [hh,hq];rfl,hw⟩
  |false=>
  rw [c1] at hs hq;refine sv hs hw fun a hs=>?_;cases c2:decide (o > hi) with
  |true=>
   rw [c2] at hs hq;refine sv hs hw fun a hs=>?_;exact rt1 hs rfl rfl ⟨by rw [hh,hq];rfl,hw⟩
  |false=>
   rw [c2] at hs hq;refine sv hs hw fun a hs=>?_;exact bQ (i+1) hs hw ⟨hi2,by rw [hh,hq];simp⟩ (by omega) ⟨rfl,rfl,rfl,rfl,bR (i1 (by omega)),trivial⟩
 ·have:l.drop i= []:=List.drop_eq_nil_of_le (by simp at hc;omega);refine sv hs hw fun a hs=>?_
  exact rt1 hs rfl rfl ⟨by rw [hh,this];rfl,hw⟩⟩
abbrev fR (hard:Bool) (h:fV) (e:cD):List Value:=[.bool hard,.int .i64 h.term,.int .i64 h.vote,.int .i64 e.ix,.int .i64 e.term,.int .i64 e.kind,.string e.data]
section
variable {L:List Res} {h:fV} {e:cD}
theorem aBn (lo hi x:Int):inR lo hi [x]=(!decide (x<lo) && !decide (x > hi)):=by simp [inR]
theorem aBo (lo hi x y:Int):inR lo hi [x,y]=((!decide (x<lo) && !decide (x > hi)) && (!decide (y<lo) && !decide (y > hi))):=by simp [inR]
theorem aGv (x:Int):(!decide (x<0))=decide (x≥0):=by by_cases h:x<0 <;> simp [h] <;> omega
theorem aBp (x y:Int):(!decide (x > y))=decide (x≤y):=by by_cases h:x > y <;> simp [h] <;> omega
instance wal_May_hard:Get Tryz.prog 161 [.agg ⟨fR true h gW⟩] L (.bool (jH h)) L:=⟨fun {w W} hw=>by
 refine enter Tryz.func161 Tryz.ntmps161 rfl rfl fun a hs=>?_;refine sc hs ?_;refine sn hs hw fun b a W hs hw=>?_;refine sv hs hw fun a hs=>?_;refine sn hs hw fun c a W hs hw=>?_;refine cl hs ((yC (l:=[h.term]) (by simp) (c:=⟨Pick.hd⟩)).ok hw) fun a W hs hw=>?_;rw [aBn] at hs;have hm:jH h=((!decide (h.term<0) && !decide (h.term > 1099511627776)) && decide (h.vote≥0) && decide (h.vote≤7)):=by unfold jH dB;rw [aGv h.vote,aBp h.vote]
 rw [hm];have drop:∀{W},Has 0 w W (aA c [.int .i64 h.term] 2::aA b (fR true h gW) 238::L)→Has 0 w W L:=fun h=>h.d2;cases c1:(!decide (h.term<0) && !decide (h.term > 1099511627776)) with
 |false=>
  rw [c1] at hs;refine sv hs hw fun a hs=>?_;exact rt1 hs rfl rfl ⟨rfl,drop hw⟩
 |true=>
 rw [c1] at hs;refine sv hs hw fun a hs=>?_;cases c2:decide (h.vote≥0) with
 |false=>
  rw [c2] at hs;refine sv hs hw fun a hs=>?_;exact rt1 hs rfl rfl ⟨rfl,drop hw⟩
 |true=>
 rw [c2] at hs;refine sv hs hw fun a hs=>?_;cases c3:decide (h.vote≤7) with
 |false=>
  rw [c3] at hs;refine sv hs hw fun a hs=>?_;exact rt1 hs rfl rfl ⟨rfl,drop hw⟩
 |true=>
 rw [c3] at hs;refine sv hs hw fun a hs=>?_;refine xC [(2,.i 0,.i 0),(2,.i 0,.i 0),(3,.i 0,.i 0),(9,.s ⟨#[]⟩,.s ⟨#[]⟩)] true (by simp [FV.eqv]) hs (by simp only [List.mem_cons,List.not_mem_nil,or_false];rintro v (rfl|rfl|rfl|rfl) <;> first|exact sQ _ _|exact aAy _ _) fun a hs=>?_;refine sv hs hw fun a hs=>?_
 exact rt1 hs rfl rfl ⟨rfl,drop hw⟩⟩
instance wal_May_ent:Get Tryz.prog 161 [.agg ⟨fR false ⟨0,0⟩ e⟩] L (.bool (eS e)) L:=⟨fun {w W} hw=>by
 refine enter Tryz.func161 Tryz.ntmps161 rfl rfl fun a hs=>?_;refine sc hs ?_;refine sn hs hw fun b a W hs hw=>?_;refine sv hs hw fun a hs=>?_;refine xC [(2,.i 0,.i 0),(3,.i 0,.i 0)] true (by simp [FV.eqv]) hs (by simp only [List.mem_cons,List.not_mem_nil,or_false];rintro v (rfl|rfl) <;> exact sQ _ _) fun a hs=>?_;refine sv hs hw fun a hs=>?_;refine sn hs hw fun c a W hs hw=>?_;refine sE hs (c:=?_);refine cl hs ((yC (l:=[e.ix,e.term]) (by simp) (c:=⟨Pick.hd⟩)).ok hw) fun a W hs hw=>?_;rw [aBo] at hs;have lt1:∀x:Int,(!decide (x<1))=decide (x≥1):=fun x=>by by_cases h:x<1 <;> simp [h] <;> omega
 have hm:eS e=((in1 e.ix && in1 e.term) && decide (e.kind≥1) && decide (e.kind≤3) && decide ((e.data.size:Int)≤2500)):=by unfold eS;rw [lt1 e.kind,aBp e.kind]
 rw [show ((!decide (e.ix<1) && !decide (e.ix > 1099511627776)) && (!decide (e.term<1) && !decide (e.term > 1099511627776)))=(in1 e.ix && in1 e.term) from rfl] at hs;rw [hm];have drop:∀{W},Has 0 w W (aA c [.int .i64 e.ix,.int .i64 e.term] 2::aA b (fR false ⟨0,0⟩ e) 238::L)→Has 0 w W L:=fun h=>h.d2;cases c1:(in1 e.ix && in1 e.term) with
 |false=>
  rw [c1] at hs;refine sv hs hw fun a hs=>?_;exact rt1 hs rfl rfl ⟨rfl,drop hw⟩
 |true=>
 rw [c1] at hs;refine sv hs hw fun a hs=>?_;cases c2:decide (e.kind≥1) with
 |false=>
  rw [c2] at hs;refine sv hs hw fun a hs=>?_;exact rt1 hs rfl rfl ⟨rfl,drop hw⟩
 |true=>
 rw [c2] at hs;refine sv hs hw fun a hs=>?_;cases c3:decide (e.kind≤3) with
 |false=>
  rw [c3] at hs;refine sv hs hw fun a hs=>?_;exact rt1 hs rfl rfl ⟨rfl,drop hw⟩
 |true=>
 rw [c3] at hs;refine sv hs hw fun a hs=>?_
 exact rt1 hs rfl rfl ⟨rfl,drop hw⟩⟩
end
section
variable {L:List Res} {h:fV} {e:cD} {s:eC}
theorem aBq (hm:jH h=true):New Tryz.prog 260 [.agg ⟨fR true h gW⟩] L (Option Addr×Nat) (fun s=> .slice s.1 (cW h).length s.2) (fun s=>bP (.slice s.1 (cW h).length s.2) (cW h)::L):=⟨fun {w W} hw=>by
 have hb:0≤h.term∧h.term≤1099511627776∧0≤h.vote∧h.vote≤7:=by
  unfold jH dB at hm;simp at hm;omega
 have p1:=Ph.putI_length_le h.term;have p2:=Ph.putI_length_le h.vote;refine enter Tryz.func260 Tryz.ntmps260 rfl rfl fun a hs=>?_;refine sc hs ?_;refine sn hs hw fun b a W hs hw=>?_;refine sv hs hw fun a hs=>?_;refine cl hs ((wal_May_hard (h:=h)).ok hw) fun a W hs hw=>?_;rw [hm] at hs;refine sv hs hw fun a hs=>?_;refine bG [3,7,8] [.f 0 0,.f 0 0,.f 0 0,.m 0,.f 0 1,.f 0 1,.f 0 1,.m 1,.m 2,.f 3 3] [.c0 _,.c0 _,.c0 _,.c1 (fun x=> .slice x.ad (Ph.putI h.term).length x.cap),.c0 _,.c0 _,.c0 _,.c2 (fun x y=> .slice y.ad (Ph.putI h.term ++ Ph.putI h.vote).length y.cap),.c3 (fun x y z=> .slice z.ad (cW h).length z.cap),.c3 _] (aA b (fR true h gW) 238::L) (fun x=>bP (.slice x.ad (Ph.putI h.term).length x.cap) (Ph.putI h.term)::aA b (fR true h gW) 238::L) (fun x y=>bP (.slice y.ad (Ph.putI h.term ++ Ph.putI h.vote).length y.cap) (Ph.putI h.term ++ Ph.putI h.vote)::aA b (fR true h gW) 238::L) (fun x y z=>bP (.slice z.ad (cW h).length z.cap) (cW h)::bP (.slice y.ad (Ph.putI h.term ++ Ph.putI h.vote).length y.cap) (Ph.putI h.term ++ Ph.putI h.vote)::aA b (fR true h gW) 238::L) (fun x y z t=>[]) hs hw ?kk ⟨drs,drs,drs,?m0,drs,drs,drs,?m1,?m2,drs,trivial⟩
 case m0=>
  intro x y z t LD a W hs hw;refine aG hs (hc:=eP w W (.slice none 0 0) [] h.term _ (by omega) (by omega) (by simp) (hw.nilB 5)) (k:=?_);rintro e' W' ⟨ad,cap,rfl,hw⟩;exact ⟨_,rfl,fun a hs=>⟨{ad:=ad,cap:=cap},hs,hw⟩⟩
 case m1=>
  intro x y z t LD a W hs hw;refine aG hs (hc:=eP w W _ (Ph.putI h.term) h.vote _ (by omega) (by omega) (by omega) hw) (k:=?_);rintro e' W' ⟨ad,cap,rfl,hw⟩;exact ⟨_,rfl,fun a hs=>⟨{ad:=ad,cap:=cap},hs,hw⟩⟩
 case m2=>
  intro x y z t LD a W hs hw;refine aG hs (hc:=nX w W 1 (Ph.putI h.term ++ Ph.putI h.vote) _ _ (by decide) (by decide) (by rw [List.length_append];omega) (fun h=>h.rd_own In.hd) hw) (k:=?_);rintro e' W' ⟨s,rfl,_,hw⟩;exact ⟨_,rfl,fun a hs=>⟨{ad:=s.1,cap:=s.2},hs,hw⟩⟩
 case kk=>
  intro x y z a W hs hw;refine sc hs ?_
  exact rt1 hs rfl rfl ⟨(z.ad,z.cap),rfl,hw.sl⟩⟩
theorem aBr (hm:eS e=true):New Tryz.prog 260 [.agg ⟨fR false ⟨0,0⟩ e⟩] L (Option Addr×Nat) (fun s=> .slice s.1 (cM e).length s.2) (fun s=>bP (.slice s.1 (cM e).length s.2) (cM e)::L):=⟨fun {w W} hw=>by
 have hb:1≤e.ix∧e.ix≤1099511627776∧1≤e.term∧e.term≤1099511627776∧1≤e.kind∧e.kind≤3∧e.data.size≤2500:=by
  unfold eS in1 at hm;simp at hm;omega
 have p1:=Ph.putI_length_le e.ix;have p2:=Ph.putI_length_le e.term;have p3:=Ph.putI_length_le e.kind;have p4:=m8 e.data;refine enter Tryz.func260 Tryz.ntmps260 rfl rfl fun a hs=>?_;refine sc hs ?_;refine sn hs hw fun b a W hs hw=>?_;refine sv hs hw fun a hs=>?_;refine cl hs ((wal_May_ent (e:=e)).ok hw) fun a W hs hw=>?_;rw [hm] at hs;refine sv hs hw fun a hs=>?_;refine bG [3,7,11] [.f 0 0,.f 0 0,.f 0 0,.m 0,.f 0 1,.f 0 1,.f 0 1,.m 1,.f 0 2,.f 0 2,.f 0 2,.m 2,.f 3 3] [.c0 _,.c0 _,.c0 _,.c1 (fun x=> .slice x.ad (Ph.putI e.ix).length x.cap),.c0 _,.c0 _,.c0 _,.c2 (fun x y=> .slice y.ad (Ph.putI e.ix ++ Ph.putI e.term).length y.cap),.c0 _,.c0 _,.c0 _,.c3 (fun x y z=> .slice z.ad (Ph.putI e.ix ++ Ph.putI e.term ++ Ph.putI e.kind).length z.cap),.c3 _] (aA b (fR false ⟨0,0⟩ e) 238::L) (fun x=>bP (.slice x.ad (Ph.putI e.ix).length x.cap) (Ph.putI e.ix)::aA b (fR false ⟨0,0⟩ e) 238::L) (fun x y=>bP (.slice y.ad (Ph.putI e.ix ++ Ph.putI e.term).length y.cap) (Ph.putI e.ix ++ Ph.putI e.term)::aA b (fR false ⟨0,0⟩ e) 238::L) (fun x y z=>bP (.slice z.ad (Ph.putI e.ix ++ Ph.putI e.term ++ Ph.putI e.kind).length z.cap) (Ph.putI e.ix ++ Ph.putI e.term ++ Ph.putI e.kind)::aA b (fR false ⟨0,0⟩ e) 238::L) (fun x y z t=>[]) hs hw ?kk ⟨drs,drs,drs,?m0,drs,drs,drs,?m1,drs,drs,drs,?m2,drs,trivial⟩
 case m0=>
  intro x y z t LD a W hs hw;refine aG hs (hc:=eP w W (.slice none 0 0) [] e.ix _ (by omega) (by omega) (by simp) (hw.nilB 5)) (k:=?_);rintro e' W' ⟨ad,cap,rfl,hw⟩;exact ⟨_,rfl,fun a hs=>⟨{ad:=ad,cap:=cap},hs,hw⟩⟩
 case m1=>
  intro x y z t LD a W hs hw;refine aG hs (hc:=eP w W _ (Ph.putI e.ix) e.term _ (by omega) (by omega) (by omega) hw) (k:=?_);rintro e' W' ⟨ad,cap,rfl,hw⟩;exact ⟨_,rfl,fun a hs=>⟨{ad:=ad,cap:=cap},hs,hw⟩⟩
 case m2=>
  intro x y z t LD a W hs hw;refine aG hs (hc:=eP w W _ (Ph.putI e.ix ++ Ph.putI e.term) e.kind _ (by omega) (by omega) (by rw [List.length_append];omega) hw) (k:=?_);rintro e' W' ⟨ad,cap,rfl,hw⟩;exact ⟨_,rfl,fun a hs=>⟨{ad:=ad,cap:=cap},hs,hw⟩⟩
 case kk=>
  intro x y z a W hs hw;have hl:(Ph.putI e.ix ++ Ph.putI e.term ++ Ph.putI e.kind).length≤30:=by simp only [List.length_append];omega
  have hB:cM e=frB 2 ((Ph.putI e.ix ++ Ph.putI e.term ++ Ph.putI e.kind) ++ Ph.putT e.data.data.toList):=rfl;rw [hB];replace hs:Slots a 38 ((3,.slice z.ad (Ph.putI e.ix ++ Ph.putI e.term ++ Ph.putI e.kind).length z.cap)::(1,.pointer (some ⟨b,0,none⟩)):: []):=hs.ot;generalize Ph.putI e.ix ++ Ph.putI e.term ++ Ph.putI e.kind=u at *;refine sv hs hw fun a hs=>?_;refine aG hs (hc:=pO w W _ u e.data _ (by omega) (by omega) hw) (k:=?_);rintro e0 W1 ⟨ad,cap,rfl,hw1⟩;refine ⟨_,rfl,?_⟩;clear hs hw;intro a hs;have hw:=hw1;clear hw1;refine cle hs (nX w _ 2 (u ++ Ph.putT e.data.data.toList) _ _ (by decide) (by decide) (by rw [List.length_append];omega) (fun h=>h.rd_own In.hd) hw) fun s a W _ hs hw=>?_;refine sv hs hw fun a hs=>?_
  exact rt1 hs rfl rfl ⟨s,rfl,hw.sl⟩⟩
end
end Go.Proofs.YtgpbngfehfbndaaGreatDoor.Sw
namespace Go.Sx
open Go.RowKit
section
variable {P:Program} {ops:Array Oper} {aE:List Oper} {Q:Exit→Act→World→Prop} {a:Act} {n:Nat} {L:List (Nat×Value)} {W:World} {d:Nat} {T S:TypeId} {p:String} {e:Array Edge} {x lo:Operand} {q:IntKind} {i:Int} {s:ByteArray}
theorem aGw [t:StrTy P S] (hs:Slots a n L) (h0:0≤i) (h1:i≤s.size) (c:∀a',Slots a' n ((d,.string (s.extract i.toNat s.size))::L)→wpList P ops Q aE a' W) (hx:ev L x=some (.string s):=by with_unfolding_all exact rfl) (hh:ev L lo=some (.int q i):=by with_unfolding_all exact rfl) (hd:Nat.blt d n=true:=by with_unfolding_all exact rfl):
  wpList P ops Q (⟨some d,.slice S x (some lo) none none,T,p,e,none⟩::aE) a W:=by
 refine bW hs hd (W':=W) ?_ c;simp only [execOp,Option.map_some,Option.map_none,hs.ev hx,hs.ev hh];simp only [Sem.run_bind,run_sliceAt_string (h:=t.out),run_slice_string_l (ht:=t.out) (h0:=h0) (h1:=h1),Result.andThen_ok];rfl
end
end Go.Sx
namespace Go.Proofs.YtgpbngfehfbndaaGreatDoor.Sw
open Go.RowKit Go.Sx
section
variable {L:List Res} {s:eC}
abbrev nH (b:Nat) (s:eC):Res:=aA b (fG s) 36
instance wal_may:Get Tryz.prog 227 [.agg ⟨fG s⟩] L (.bool (fA s)) L:=⟨fun {w W} hw=>by
 refine enter Tryz.func227 Tryz.ntmps227 rfl rfl fun a hs=>?_;refine sc hs ?_;refine sn hs hw fun b a W hs hw=>?_;refine sv hs hw fun a hs=>?_;refine sn hs hw fun c a W hs hw=>?_;refine cl hs ((yC (l:=[s.ix,s.term]) (by simp) (c:=⟨Pick.hd⟩)).ok hw) fun a W hs hw=>?_;rw [aBo] at hs;rw [show ((!decide (s.ix<0) && !decide (s.ix > 1099511627776)) && (!decide (s.term<0) && !decide (s.term > 1099511627776)))=(dB s.ix && dB s.term) from rfl] at hs;have drop:∀{W},Has 0 w W (aA c [.int .i64 s.ix,.int .i64 s.term] 2::nH b s::L)→Has 0 w W L:=fun h=>h.d2;have hm:fA s=((dB s.ix && dB s.term) && decide ((s.conf.size:Int)≤50) && decide ((s.data.size:Int)≤200000)):=rfl;rw [hm];cases c1:(dB s.ix && dB s.term) with
 |false=>
  rw [c1] at hs;refine sv hs hw fun a hs=>?_;exact rt1 hs rfl rfl ⟨rfl,drop hw⟩
 |true=>
 rw [c1] at hs;refine sv hs hw fun a hs=>?_;cases c2:decide ((s.conf.size:Int)≤50) with
 |false=>
  rw [c2] at hs;refine sv hs hw fun a hs=>?_;exact rt1 hs rfl rfl ⟨rfl,drop hw⟩
 |true=>
 rw [c2] at hs;refine sv hs hw fun a hs=>?_
 exact rt1 hs rfl rfl ⟨rfl,drop hw⟩⟩
def lL (s:eC):List UInt8:=Ph.putI s.ix ++ Ph.putI s.term ++ Ph.putT s.conf.data.toList
theorem aBs (k:Nat):iT k []= []:=by cases k <;> rfl
theorem aBt {k:Nat} {s:List UInt8} (h:s≠[]):iT (k+1) s=frB 4 (s.take 3000) ++ iT k (s.drop 3000):=by
 cases s with
 |nil=>exact absurd rfl h
 |cons x s=>rfl
theorem aGx {k:Nat} {s:List UInt8} (h:s≠[]) {m:Nat} (hm:m=min s.length 3000):iT (k+1) s=frB 4 (s.take m) ++ iT k (s.drop m):=by
 rw [aBt h];subst hm
 by_cases h3:s.length≤3000
 ·rw [Nat.min_eq_left h3,List.take_of_length_le (Nat.le_refl _),List.drop_of_length_le (Nat.le_refl _),List.take_of_length_le h3,List.drop_of_length_le h3]
 ·rw [Nat.min_eq_right (by omega)]
theorem nI (k:Nat) (l:List UInt8):(frB k l).length≤15+l.length:=by
 have:=Ph.putI_length_le (l.length:Int);simp only [frB,List.length_append,List.length_cons];have e4:(kI (i9 (i9 0 (UInt8.ofNat k::Ph.putI (l.length:Int))) l)).length=4:=rfl;omega
theorem yE (hm:fA s=true):New Tryz.prog 153 [.agg ⟨fG s⟩] L (Option Addr×Nat) (fun x=> .slice x.1 (dC s).length x.2) (fun x=>bP (.slice x.1 (dC s).length x.2) (dC s)::L):=⟨fun {w W} hw=>by
 have hb:0≤s.ix∧s.ix≤1099511627776∧0≤s.term∧s.term≤1099511627776∧s.conf.size≤50∧s.data.size≤200000:=by
  unfold fA dB at hm;simp at hm;omega
 have p1:=Ph.putI_length_le s.ix;have p2:=Ph.putI_length_le s.term;have p3:=m8 s.conf;have p4:=Ph.putI_length_le (s.data.size:Int);have hdl:s.data.data.toList.length=s.data.size:=by rw [Array.length_toList];rfl
 refine enter Tryz.func153 Tryz.ntmps153 rfl rfl fun a hs=>?_;refine sc hs ?_;refine sn hs hw fun b a W hs hw=>?_;refine sv hs hw fun a hs=>?_;refine cl hs ((wal_may (s:=s)).ok hw) fun a W hs hw=>?_;rw [hm] at hs;refine sv hs hw fun a hs=>?_;refine bG [2,5,8] [.f 0 0,.f 0 0,.m 0,.f 0 1,.f 0 1,.m 1,.f 0 2,.f 0 2,.m 2,.f 3 3] [.c0 _,.c0 _,.c1 (fun x=> .slice x.ad (Ph.putI s.ix).length x.cap),.c0 _,.c0 _,.c2 (fun x y=> .slice y.ad (Ph.putI s.ix ++ Ph.putI s.term).length y.cap),.c0 _,.c0 _,.c3 (fun x y z=> .slice z.ad (lL s).length z.cap),.c3 _] (nH b s::L) (fun x=>bP (.slice x.ad (Ph.putI s.ix).length x.cap) (Ph.putI s.ix)::nH b s::L) (fun x y=>bP (.slice y.ad (Ph.putI s.ix ++ Ph.putI s.term).length y.cap) (Ph.putI s.ix ++ Ph.putI s.term)::nH b s::L) (fun x y z=>bP (.slice z.ad (lL s).length z.cap) (lL s)::nH b s::L) (fun x y z t=>[]) hs hw ?kk ⟨drs,drs,?m0,drs,drs,?m1,drs,drs,?m2,drs,trivial⟩
 case m0=>
  intro x y z t LD a W hs hw;refine aG hs (hc:=eP w W (.slice none 0 0) [] s.ix _ (by omega) (by omega) (by simp) (hw.nilB 5)) (k:=?_);rintro e' W' ⟨ad,cap,rfl,hw⟩;exact ⟨_,rfl,fun a hs=>⟨{ad:=ad,cap:=cap},hs,hw⟩⟩
 case m1=>
  intro x y z t LD a W hs hw;refine aG hs (hc:=eP w W _ (Ph.putI s.ix) s.term _ (by omega) (by omega) (by omega) hw) (k:=?_);rintro e' W' ⟨ad,cap,rfl,hw⟩;exact ⟨_,rfl,fun a hs=>⟨{ad:=ad,cap:=cap},hs,hw⟩⟩
 case m2=>
  intro x y z t LD a W hs hw;refine aG hs (hc:=pO w W _ (Ph.putI s.ix ++ Ph.putI s.term) s.conf _ (by omega) (by rw [List.length_append];omega) hw) (k:=?_);rintro e' W' ⟨ad,cap,rfl,hw⟩;exact ⟨_,rfl,fun a hs=>⟨{ad:=ad,cap:=cap},hs,hw⟩⟩
 case kk=>
  intro x y z a W hs hw;have hl:(lL s).length≤100:=by simp only [lL,List.length_append];omega
  have hB:dC s=frB 3 (lL s ++ Ph.putI (s.data.size:Int)) ++ iT 70 s.data.data.toList:=by unfold dC lL;rw [hdl]
  rw [hB];replace hs:Slots a 43 ((3,.slice z.ad (lL s).length z.cap)::(1,.pointer (some ⟨b,0,none⟩)):: []):=hs.ot;generalize lL s=u at *;refine sv hs hw fun a hs=>?_;refine aG hs (hc:=eP w W _ u (s.data.size:Int) _ (by omega) (by omega) (by omega) hw) (k:=?_);rintro e0 W1 ⟨ad,cap,rfl,hw1⟩;refine ⟨_,rfl,?_⟩;clear hs hw;intro a hs;have hw:=hw1;clear hw1;refine cle hs (nX w _ 3 (u ++ Ph.putI (s.data.size:Int)) _ _ (by decide) (by decide) (by rw [List.length_append];omega) (fun h=>h.rd_own In.hd) hw) fun f a W _ hs hw=>?_;have hfl:=nI 3 (u ++ Ph.putI (s.data.size:Int));have hul:(u ++ Ph.putI (s.data.size:Int)).length≤110:=by rw [List.length_append];omega
  replace hw:Has 0 w W (bP (.slice f.1 (frB 3 (u ++ Ph.putI (s.data.size:Int))).length f.2) (frB 3 (u ++ Ph.putI (s.data.size:Int)))::nH b s::L):=hw.sl;generalize frB 3 (u ++ Ph.putI (s.data.size:Int))=h0 at *;refine sv hs hw fun a hs=>?_;refine bY (σ:=Nat×List UInt8×ByteArray×Option Addr×Nat) (fun q=>[(4,.slice q.2.2.2.1 q.2.1.length q.2.2.2.2),(5,.string q.2.2.1)]) (fun q=>bP (.slice q.2.2.2.1 q.2.1.length q.2.2.2.2) q.2.1::nH b s::L) (fun q=>h0 ++ iT 70 s.data.data.toList=q.2.1 ++ iT q.1 q.2.2.1.data.toList∧q.2.2.1.data.toList.length≤3000*q.1∧q.1≤70∧q.2.1.length+4000*q.1≤1000000) (fun q=>q.1) (70,h0,s.data,f.1,f.2) ⟨rfl,by show s.data.data.toList.length≤_;omega,Nat.le_refl _,by show h0.length+_≤_;omega⟩ hs ⟨rfl,rfl,trivial⟩ hw ?_;clear hs hw;rintro ⟨k,o,r,ad,cap⟩ a W ⟨h1,h2,h3,h4⟩ hs hw;simp only at h1 h2 h3 h4 hs hw;have hrl:r.data.toList.length=r.size:=by rw [Array.length_toList];rfl
  refine sv hs hw fun a hs=>?_;refine cI hs (kt:=fun hc=>?_) (kf:=fun hc=>?_)
  ·have hne:r.data.toList≠[]:=by
    intro h;rw [Go.ByteArray.toList_eq,Go.ByteArray.toList_eq,h] at hc;simp at hc
   have hpos:0<r.data.toList.length:=List.length_pos_iff.2 hne;obtain ⟨k,rfl⟩:∃j,k=j+1:=⟨k - 1,by omega⟩
   refine sv hs hw fun a hs=>?_;refine sK hs (k:=fun a hs=>?_);obtain ⟨m,hm⟩:∃m:Nat,m=min r.data.toList.length 3000:=⟨_,rfl⟩
   rw [show (if (3000:Int)<(r.size:Int) then (3000:Int) else (r.size:Int))=(m:Int) by rw [hm];split <;> omega] at hs;have hp:=aGx (k:=k) hne hm;refine sv hs hw fun a hs=>?_;refine aEz hs (h0:=by omega) (h1:=by omega) (c:=fun a hs=>?_);rw [Int.toNat_natCast] at hs;have he:(r.extract 0 m).data.toList=r.data.toList.take m:=Ph.extract_take r m;have hes:(r.extract 0 m).size=m:=by
    have h9:(r.extract 0 m).data.toList.length=(r.extract 0 m).size:=by rw [Array.length_toList];rfl
    rw [←h9,he,List.length_take];omega
   generalize r.extract 0 m=r1 at *;refine oG (s:=r1) hs hw (by omega) (c:=fun a c cp ext W hw hr hs=>?_);rw [he] at hr hs hw;have hcap:(r.data.toList.take m).length=m:=by rw [List.length_take];omega
   refine cle hs (nX w W 4 (r.data.toList.take m) _ _ (by decide) (by decide) (by rw [hcap];omega) (fun h=>h.rdM In.hd hr) hw) fun g a W _ hs hw=>?_;have hgl:=nI 4 (r.data.toList.take m);refine iK hs (hw.pick (Pick.tl (Pick.tl Pick.hd))) (l:=o) (m:=frB 4 (r.data.toList.take m)) (hr:=fK (hw.rd_own In.hd) (kD _)) (hb:=by omega) (c:=fun a ad2 cap2 W hs hw=>?_);refine sv hs hw fun a hs=>?_;refine aGw (s:=r) (i:=(m:Int)) hs (by omega) (by omega) fun a hs=>?_;rw [Int.toNat_natCast] at hs;have he2:(r.extract m r.size).data.toList=r.data.toList.drop m:=Ph.extract_drop r m;refine sv hs hw fun a hs=>?_;refine bQ (k,o ++ frB 4 (r.data.toList.take m),r.extract m r.size,ad2,cap2) hs (hw.sl) ⟨?_,?_,?_,?_⟩ (by show k<k+1;omega) ⟨rfl,rfl,trivial⟩
   ·show _=(o ++ frB 4 (r.data.toList.take m)) ++ iT k (r.extract m r.size).data.toList;rw [h1,hp,he2,List.append_assoc]
   ·show (r.extract m r.size).data.toList.length≤3000*k;rw [he2,List.length_drop];omega
   ·show k≤70;omega
   ·show (o ++ frB 4 (r.data.toList.take m)).length+4000*k≤1000000;rw [List.length_append];omega
  ·have hnil:r.data.toList= []:=by
    rw [Go.ByteArray.toList_eq,Go.ByteArray.toList_eq] at hc;simpa using hc
   rw [hnil,aBs,List.append_nil] at h1;rw [h1];refine sv hs hw fun a hs=>?_
   exact rt1 hs rfl rfl ⟨(ad,cap),rfl,hw.sl⟩⟩
end
def uJ (s:cN) (b:cU):Bool:=(s.r.l.get (w64 (s.t.ix+1)) 200).any fun e=>(e.kind == 2) && (match decode e.data.data.toList with|some p=>(p.1 == b.c) && (p.2.1 == b.q)|none=>false)
def yX (d:bF) (s:cN) (b:cU):Option (bF×cN×cF×List bS×Int):=
 if dS b=false then some (d,s,zeroRow,[],1)
 else if s.r.role≠2 then some (d,s,zeroRow,[],9)
 else if b.q=cT s.t.f b.c then some (d,s,cO s.t.f b.c,[],0)
 else if b.q≠w64 (cT s.t.f b.c+1) then some (d,s,zeroRow,[],11)
 else if uJ s b=true then some (d,s,zeroRow,[],10)
 else
  if (s.r.propose 2 ⟨(cX b).toArray⟩).2.2.2≠0 then some (d,s,zeroRow,[],(s.r.propose 2 ⟨(cX b).toArray⟩).2.2.2)
  else (lK d {s with r:=(s.r.propose 2 ⟨(cX b).toArray⟩).1} (s.r.propose 2 ⟨(cX b).toArray⟩).2.2.1).map fun x=>
   if cT x.2.1.t.f b.c=b.q then (x.1,x.2.1,cO x.2.1.t.f b.c,x.2.2,0) else (x.1,x.2.1,zeroRow,x.2.2,10)
structure cZ where
 c:Int
 added:List cU
 s:eL
def fH (q:cZ) (r:cF):Bool:=
 if r.b.c≠q.c then true else decide (r.b.q≥1) && decide (r.b.q≤(q.added.length:Int)) && eqL r.b.l (q.added.getD (r.b.q - 1).toNat ⟨0,0,[]⟩).l
def uK (q:cZ):Int:=(q.added.length:Int) - cT q.s.f q.c
def yY (d:bF) (b:List UInt8):Option bF:=(kQ d b).bind qI
def gO (q:cZ):Bool:=decide (1≤q.c) && decide (q.c≤5) && decide (q.added.length≤1000) && q.added.all nF && decide (q.s.l.length≤1000) && q.s.l.all (fun r=>mG r && dS r.b) && decide (0≤cT q.s.f q.c) && decide (cT q.s.f q.c≤(q.added.length:Int))
def uL (d:bF) (q:cZ):Option (bF×cZ):=if gO q=true then some (d,q) else none
def uM (d:bF) (q:cZ) (ops:List OpD):Option (bF×cZ×cU×Int):=
 if dS ⟨q.c,(q.added.length:Int)+1,ops⟩=false then some (d,q,⟨0,0,[]⟩,1)
 else if 30≤uK q then some (d,q,⟨0,0,[]⟩,5)
 else ((yY d (frB 1 (cX ⟨q.c,(q.added.length:Int)+1,ops⟩))).bind fun d=>uL d {q with added:=q.added ++ [⟨q.c,(q.added.length:Int)+1,ops⟩]}).map fun x=>(x.1,x.2,⟨q.c,(q.added.length:Int)+1,ops⟩,0)
def fI (q:cZ):List cU:=q.added.drop (cT q.s.f q.c).toNat
def fT (r:cF):List UInt8:=frB 2 (Ph.putI r.place ++ Ph.putI r.err ++ cX r.b)
def uN (l rows:List cF) (err:Int):Int:=if err=0∧l.length<rows.length then 1 else err
def uO (d:bF) (q:cZ) (rows:List cF):Option (bF×cZ×Nat×Int):=
 if (gJ q.s 0 (rows.takeWhile (fH q))).2.1=0 then some (d,q,0,uN (rows.takeWhile (fH q)) rows (gJ q.s 0 (rows.takeWhile (fH q))).2.2)
 else ((yY d (((gJ q.s 0 (rows.takeWhile (fH q))).1.l.drop q.s.l.length).flatMap fT)).bind fun d=>uL d {q with s:=(gJ q.s 0 (rows.takeWhile (fH q))).1}).map fun x=>(x.1,x.2,(gJ q.s 0 (rows.takeWhile (fH q))).2.1,uN (rows.takeWhile (fH q)) rows (gJ q.s 0 (rows.takeWhile (fH q))).2.2)
def iZ (q:cZ):Int:=(q.s.l.length:Int)+1
structure bC where
 servers:List (Int×cN)
 clients:List (Int×cZ)
 sd:List (Int×bF)
 cd:List (Int×bF)
 n:List bS
def at? {α:Type}:List (Int×α)→Int→Option α
 | [],_=>none
 |p::l,k=>if p.1=k then some p.2 else at? l k
def cK {α:Type}:List (Int×α)→Int→α→List (Int×α)
 | [],k,v=>[(k,v)]
 |p::l,k,v=>if p.1=k then (k,v)::l else p::cK l k v
def oU (n:List bS) (m:bS):List bS:=if iS m=true∧n.length<400 then n ++ [m] else n
def iE (n l:List bS):List bS:=l.foldl oU n
def oV (all:List Int):List Int→bC→Option bC
 | [],w=>some w
 |id::r,w=>(tI id all).bind fun x=>oV all r {w with servers:=cK w.servers id x.2,sd:=cK w.sd id x.1}
def bE:Nat→Int→List Int
 |0,_=>[]
 |n+1,k=>k::bE n (k+1)
def uP (servers clients:Nat):Option bC:=
 oV (bE servers 1) (bE servers 1) ⟨[],(bE clients 1).map fun c=>(c,⟨c,[],⟨gC,[]⟩⟩),(bE 7 1).map fun k=>(k,none),(bE clients 1).map fun c=>(c,none),[]⟩
def uQ (w:bC) (id:Int) (x:bF×cN×List bS) (n:List bS):bC:={w with servers:=cK w.servers id x.2.1,sd:=cK w.sd id x.1,n:=iE n x.2.2}
def nM (w:bC) (id:Int):Option (bC×Int):=
 match at? w.servers id,at? w.sd id with
 |none,_=>some (w,12)
 |some s,some d=>(aBm d s).map fun x=>(uQ w id x w.n,0)
 |_,none=>none
def uR (w:bC):Option bC:=
 match w.n with
 | []=>some w
 |m::n=>
  match at? w.servers m.to_,at? w.sd m.to_ with
  |none,_=>some {w with n:=n}
  |some s,some d=>(yB d s m).map fun x=>uQ w m.to_ x n
  |_,none=>none
def lO:Nat→bC→Option (bC×Bool)
 |0,w=>some (w,w.n.isEmpty)
 |k+1,w=>match w.n with| []=>some (w,true)|_::_=>(uR w).bind (lO k)
def nN (w:bC) (c s:Int):Option (bC×Int):=
 match at? w.clients c,at? w.servers s,at? w.sd s with
 |none,_,_=>some (w,12)
 |some _,none,_=>some (w,12)
 |some q,some v,some d=>
  (match fI q with
   | []=>some (w,13)
   |b::_=>(yX d v b).map fun x=>(uQ w s (x.1,x.2.1,x.2.2.2.1) w.n,x.2.2.2.2))
 |some _,some _,none=>none
def kU (w:bC) (c s:Int):Option (bC×Int):=
 match at? w.clients c,at? w.servers s,at? w.cd c with
 |none,_,_=>some (w,12)
 |some _,none,_=>some (w,12)
 |some q,some v,some d=>(uO d q (gE v.t (iZ q) 10)).map fun x=>({w with clients:=cK w.clients c x.2.1,cd:=cK w.cd c x.1},x.2.2.2)
 |some _,some _,none=>none
def uS (w:bC) (c:Int) (ops:List OpD):Option (bC×Int):=
 match at? w.clients c,at? w.cd c with
 |some q,some d=>(uM d q ops).map fun x=>({w with clients:=cK w.clients c x.2.1,cd:=cK w.cd c x.1},x.2.2.2)
 |_,_=>none
def uT (f:bC→Int→Int→Option (bC×Int)) (c:Int):Nat→Int→bC→Option bC
 |0,_,w=>some w
 |n+1,s,w=>(f w c s).bind fun x=>uT f c n (s+1) x.1
def uU (f:bC→Int→Int→Option (bC×Int)):Nat→Int→bC→Option bC
 |0,_,w=>some w
 |n+1,c,w=>(uT f c 7 1 w).bind (uU f n (c+1))
def yZ (f:bC→Int→Int→Option (bC×Int)) (w:bC):Option bC:=uU f 5 1 w
def rH (w:bC):Bool:=w.servers.all fun s=>decide ((s.2.r.l.get s.2.r.l.first 200).length≤100)
def mX:Nat→bC→Option bC
 |0,w=>some w
 |k+1,w=>(yZ nN w).bind fun w=>(lO 5000 w).bind fun x=>(yZ kU x.1).bind fun w=>if rH w=true then mX k w else none
def nO:Nat→Int→Int→bC→Bool
 |0,_,_,_=>true
 |n+1,c,at_,w=>
  match at? w.clients c with
  |none=>nO n (c+1) at_ w
  |some q=>if (fI q).length > 0∨(at_ > 0∧iZ q≠at_) then false else nO n (c+1) (iZ q) w
def y0 (w:bC):Bool:=nO 5 1 0 w
def rI:Nat→Int→bC→Option bC
 |0,_,w=>some w
 |k+1,id,w=>
  match at? w.servers id with
  |none=>rI k (id+1) w
  |some _=>(nM w id).bind fun x=>(lO 5000 x.1).bind fun x=>rI k (id+1) x.1
def round (w:bC):Option (bC×Bool):=
 if rH w=true then (rI 7 1 w).bind fun w=>(mX 40 w).map fun w=>(w,y0 w) else none
def aE:Nat→bC→Option (bC×Bool)
 |0,w=>some (w,false)
 |k+1,w=>(round w).bind fun x=>if x.2=true then some (x.1,true) else aE k x.1
structure TD where
 w:bC
 ok:Bool
def rS (n m:Nat):Option TD:=(uP n m).map fun w=>⟨w,true⟩
def jM (t:TD) (x:bC×Int):TD:=⟨x.1,t.ok && x.2 == 0⟩
def j9 (t:TD):Option TD:=(lO 20000 t.w).map fun x=>⟨x.1,t.ok && x.2⟩
def kA:Nat→TD→Int→Option (TD×Bool)
 |0,t,id=>some (t,match at? t.w.servers id with|some s=>s.r.role == 2|none=>false)
 |k+1,t,id=>
  match at? t.w.servers id with
  |none=>some (t,false)
  |some s=>if s.r.role=2 then some (t,true) else (nM t.w id).bind fun x=>(j9 (jM t x)).bind fun t=>kA k t id
def iF (w:bC) (c:Int):List cF:=match at? w.clients c with|some q=>q.s.l|none=>[]
def iG (key:ByteArray) (n:Int):OpD:=⟨4,key,0,0,⟨#[]⟩,0,0,⟨#[]⟩,n⟩
def kN:ByteArray:=⟨#[110]⟩
set_option maxRecDepth 100000
def aJ0:Option Bool:=
 (uP 3 1).bind fun w=>(uS w 1 [iG kN 1]).bind fun x=>(aE 12 x.1).bind fun y=>(lO 10 y.1).map fun z=>y.2 && ((iF y.1 1).length == 1) && z.2 && z.1.n.isEmpty
theorem aJ1:aJ0=some true:=by decide +kernel
end Go.Proofs.YtgpbngfehfbndaaGreatDoor.Sw
