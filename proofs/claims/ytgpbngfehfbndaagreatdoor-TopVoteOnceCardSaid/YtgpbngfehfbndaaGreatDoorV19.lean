import Derived.Test.YtgpbngfehfbndaaGreatDoorV16
import Derived.Test.YtgpbngfehfbndaaGreatDoorV17
set_option maxHeartbeats 16000000
set_option linter.all false
set_option maxRecDepth 10000
namespace Go.Proofs.YtgpbngfehfbndaaGreatDoor.Sw
open Go.RowKit Go.Sx
open Go.Proofs.Tryz (prog)
def inR (lo hi:Int) (l:List Int):Bool:=l.all fun x=>!decide (x<lo) && !decide (x > hi)
theorem sO {b:Nat} {lo hi:Int} {l:List Int} {L L1:List Res} (hl:l.length≤100) [c:dH (fun l=>aA b (l.map (Value.int .i64)) 2) L l L1]:Get prog 228 [.int .i64 lo,.int .i64 hi,.slice (some ⟨b,0,none⟩) l.length l.length] L (.bool (inR lo hi l)) L:=⟨fun {w W} hw=>by
 have hr:∀{W},Has 0 w W L→Rd W 1 (.slice (some ⟨b,0,none⟩) l.length l.length) l.length (l.map (Value.int .i64)):=fun h=>(h.pick c.p).rd_lit In.hd (by simp) (by omega);refine en Tryz.func228 Tryz.ntmps228 fun a hs=>?_;refine sv hs hw fun a hs=>?_;refine bX (σ:=Nat) (fun i=>[(0,.int .i64 lo),(1,.int .i64 hi),(9,.slice (some ⟨b,0,none⟩) l.length l.length),(10,.int .i64 (l.length:Int)),(11,.int .i64 (i:Int))]) (fun _=>L) (fun i=>i≤l.length∧inR lo hi l=inR lo hi (l.drop i)) (fun i=>l.length - i) 0 ⟨Nat.zero_le _,rfl⟩ hs ⟨rfl,rfl,rfl,rfl,rfl,trivial⟩ hw ?_;clear hs hw;rintro i a W ⟨hi',hh⟩ hs hw;refine sv hs hw fun a hs=>?_;refine cI hs (kt:=fun hc=>?_) (kf:=fun hc=>?_)
 ·have hi2:i<l.length:=by simpa using hc
  obtain ⟨o,ho,hd⟩:=dP hi2;rw [hd] at hh;refine sc hs ?_;refine iI hs (hr hw) ho rfl fun a b f hs=>?_;refine sv hs hw fun a hs=>?_;have hq:inR lo hi (o::l.drop (i+1))=(!decide (o<lo) && !decide (o > hi) && inR lo hi (l.drop (i+1))):=rfl;cases c1:decide (o<lo) with
  |true=>
   rw [c1] at hs hq;refine sv hs hw fun a hs=>?_;exact rt1 hs rfl rfl ⟨by rw [hh,hq];rfl,hw⟩
  |false=>
  rw [c1] at hs hq;refine sv hs hw fun a hs=>?_;cases c2:decide (o > hi) with
  |true=>
   rw [c2] at hs hq;refine sv hs hw fun a hs=>?_;exact rt1 hs rfl rfl ⟨by rw [hh,hq];rfl,hw⟩
  |false=>
   rw [c2] at hs hq;refine sv hs hw fun a hs=>?_;exact bS (i+1) hs hw ⟨hi2,by rw [hh,hq];simp⟩ (by omega) ⟨rfl,rfl,rfl,rfl,bU (i1 (by omega)),trivial⟩
 ·have:l.drop i= []:=List.drop_eq_nil_of_le (by simp at hc;omega);refine sv hs hw fun a hs=>?_
  exact rt1 hs rfl rfl ⟨by rw [hh,this];rfl,hw⟩⟩
abbrev eM (hard:Bool) (h:fM) (e:bY):List Value:=[.bool hard,.int .i64 h.term,.int .i64 h.vote,.int .i64 e.ix,.int .i64 e.term,.int .i64 e.kind,.string e.data]
section
variable {L:List Res} {h:fM} {e:bY}
theorem wP (lo hi x:Int):inR lo hi [x]=(!decide (x<lo) && !decide (x > hi)):=by simp [inR]
theorem aBC (lo hi x y:Int):inR lo hi [x,y]=((!decide (x<lo) && !decide (x > hi)) && (!decide (y<lo) && !decide (y > hi))):=by simp [inR]
theorem aGF (x:Int):(!decide (x<0))=decide (x≥0):=by by_cases h:x<0 <;> simp [h] <;> omega
theorem aBD (x y:Int):(!decide (x > y))=decide (x≤y):=by by_cases h:x > y <;> simp [h] <;> omega
instance wal_May_hard:Get prog 161 [.agg ⟨eM true h fF⟩] L (.bool (iA h)) L:=⟨fun {w W} hw=>by
 refine en Tryz.func161 Tryz.ntmps161 fun a hs=>?_;refine sc hs ?_;refine sn hs hw fun b a W hs hw=>?_;refine sv hs hw fun a hs=>?_;refine sn hs hw fun c a W hs hw=>?_;refine cl hs ((sO (l:=[h.term]) (by simp) (c:=⟨Pick.hd⟩)).ok hw) fun a W hs hw=>?_;rw [wP] at hs;have hm:iA h=((!decide (h.term<0) && !decide (h.term > 1099511627776)) && decide (h.vote≥0) && decide (h.vote≤7)):=by unfold iA cV;rw [aGF h.vote,aBD h.vote]
 rw [hm];have drop:∀{W},Has 0 w W (aA c [.int .i64 h.term] 2::aA b (eM true h fF) 238::L)→Has 0 w W L:=fun h=>h.d2;cases c1:(!decide (h.term<0) && !decide (h.term > 1099511627776)) with
 |false=>
  rw [c1] at hs;refine sv hs hw fun a hs=>?_;exact rt1 hs rfl rfl ⟨rfl,drop hw⟩
 |true=>
 rw [c1] at hs;refine sv hs hw fun a hs=>?_;cases c2:decide (h.vote≥0) with
 |false=>
  rw [c2] at hs;refine sv hs hw fun a hs=>?_;exact rt1 hs rfl rfl ⟨rfl,drop hw⟩
 |true=>
 rw [c2] at hs;refine sv hs hw fun a hs=>?_;cases c3:decide (h.vote≤7) with
 |false=>
  rw [c3] at hs;refine sv hs hw fun a hs=>?_;exact rt1 hs rfl rfl ⟨rfl,drop hw⟩
 |true=>
 rw [c3] at hs;refine sv hs hw fun a hs=>?_;refine vS [(2,.i 0,.i 0),(2,.i 0,.i 0),(3,.i 0,.i 0),(9,.s ⟨#[]⟩,.s ⟨#[]⟩)] true (by simp [FV.eqv]) hs (by simp only [List.mem_cons,List.not_mem_nil,or_false];rintro v (rfl|rfl|rfl|rfl) <;> first|exact rW _ _|exact aAL _ _) fun a hs=>?_;refine sv hs hw fun a hs=>?_
 exact rt1 hs rfl rfl ⟨rfl,drop hw⟩⟩
instance wal_May_ent:Get prog 161 [.agg ⟨eM false ⟨0,0⟩ e⟩] L (.bool (eH e)) L:=⟨fun {w W} hw=>by
 refine en Tryz.func161 Tryz.ntmps161 fun a hs=>?_;refine sc hs ?_;refine sn hs hw fun b a W hs hw=>?_;refine sv hs hw fun a hs=>?_;refine vS [(2,.i 0,.i 0),(3,.i 0,.i 0)] true (by simp [FV.eqv]) hs (by simp only [List.mem_cons,List.not_mem_nil,or_false];rintro v (rfl|rfl) <;> exact rW _ _) fun a hs=>?_;refine sv hs hw fun a hs=>?_;refine sn hs hw fun c a W hs hw=>?_;refine oW hs (c:=?_);refine cl hs ((sO (l:=[e.ix,e.term]) (by simp) (c:=⟨Pick.hd⟩)).ok hw) fun a W hs hw=>?_;rw [aBC] at hs;have lt1:∀x:Int,(!decide (x<1))=decide (x≥1):=fun x=>by by_cases h:x<1 <;> simp [h] <;> omega
 have hm:eH e=((in1 e.ix && in1 e.term) && decide (e.kind≥1) && decide (e.kind≤3) && decide ((e.data.size:Int)≤2500)):=by unfold eH;rw [lt1 e.kind,aBD e.kind]
 rw [show ((!decide (e.ix<1) && !decide (e.ix > 1099511627776)) && (!decide (e.term<1) && !decide (e.term > 1099511627776)))=(in1 e.ix && in1 e.term) from rfl] at hs;rw [hm];have drop:∀{W},Has 0 w W (aA c [.int .i64 e.ix,.int .i64 e.term] 2::aA b (eM false ⟨0,0⟩ e) 238::L)→Has 0 w W L:=fun h=>h.d2;cases c1:(in1 e.ix && in1 e.term) with
 |false=>
  rw [c1] at hs;refine sv hs hw fun a hs=>?_;exact rt1 hs rfl rfl ⟨rfl,drop hw⟩
 |true=>
 rw [c1] at hs;refine sv hs hw fun a hs=>?_;cases c2:decide (e.kind≥1) with
 |false=>
  rw [c2] at hs;refine sv hs hw fun a hs=>?_;exact rt1 hs rfl rfl ⟨rfl,drop hw⟩
 |true=>
 rw [c2] at hs;refine sv hs hw fun a hs=>?_;cases c3:decide (e.kind≤3) with
 |false=>
  rw [c3] at hs;refine sv hs hw fun a hs=>?_;exact rt1 hs rfl rfl ⟨rfl,drop hw⟩
 |true=>
 rw [c3] at hs;refine sv hs hw fun a hs=>?_
 exact rt1 hs rfl rfl ⟨rfl,drop hw⟩⟩
end
section
variable {L:List Res} {h:fM} {e:bY} {s:dI}
theorem aBE (hm:iA h=true):New prog 260 [.agg ⟨eM true h fF⟩] L (Option Addr×Nat) (fun s=> .slice s.1 (cP h).length s.2) (fun s=>bG (.slice s.1 (cP h).length s.2) (cP h)::L):=⟨fun {w W} hw=>by
 have hb:0≤h.term∧h.term≤1099511627776∧0≤h.vote∧h.vote≤7:=by
  unfold iA cV at hm;simp at hm;omega
 have p1:=Ph.putI_length_le h.term;have p2:=Ph.putI_length_le h.vote;refine en Tryz.func260 Tryz.ntmps260 fun a hs=>?_;refine sc hs ?_;refine sn hs hw fun b a W hs hw=>?_;refine sv hs hw fun a hs=>?_;refine cl hs ((wal_May_hard (h:=h)).ok hw) fun a W hs hw=>?_;rw [hm] at hs;refine sv hs hw fun a hs=>?_;refine bB [3,7,8] [.f 0 0,.f 0 0,.f 0 0,.m 0,.f 0 1,.f 0 1,.f 0 1,.m 1,.m 2,.f 3 3] [.c0 _,.c0 _,.c0 _,.c1 (fun x=> .slice x.ad (Ph.putI h.term).length x.cap),.c0 _,.c0 _,.c0 _,.c2 (fun x y=> .slice y.ad (Ph.putI h.term ++ Ph.putI h.vote).length y.cap),.c3 (fun x y z=> .slice z.ad (cP h).length z.cap),.c3 _] (aA b (eM true h fF) 238::L) (fun x=>bG (.slice x.ad (Ph.putI h.term).length x.cap) (Ph.putI h.term)::aA b (eM true h fF) 238::L) (fun x y=>bG (.slice y.ad (Ph.putI h.term ++ Ph.putI h.vote).length y.cap) (Ph.putI h.term ++ Ph.putI h.vote)::aA b (eM true h fF) 238::L) (fun x y z=>bG (.slice z.ad (cP h).length z.cap) (cP h)::bG (.slice y.ad (Ph.putI h.term ++ Ph.putI h.vote).length y.cap) (Ph.putI h.term ++ Ph.putI h.vote)::aA b (eM true h fF) 238::L) (fun x y z t=>[]) hs hw ?kk ⟨drs,drs,drs,?m0,drs,drs,drs,?m1,?m2,drs,trivial⟩
 case m0=>
  intro x y z t LD a W hs hw;refine aH hs (hc:=eS w W (.slice none 0 0) [] h.term _ (by omega) (by omega) (by simp) (hw.nilB 5)) (k:=?_);rintro e' W' ⟨ad,cap,rfl,hw⟩;exact ⟨_,rfl,fun a hs=>⟨{ad:=ad,cap:=cap},hs,hw⟩⟩
 case m1=>
  intro x y z t LD a W hs hw;refine aH hs (hc:=eS w W _ (Ph.putI h.term) h.vote _ (by omega) (by omega) (by omega) hw) (k:=?_);rintro e' W' ⟨ad,cap,rfl,hw⟩;exact ⟨_,rfl,fun a hs=>⟨{ad:=ad,cap:=cap},hs,hw⟩⟩
 case m2=>
  intro x y z t LD a W hs hw;refine aH hs (hc:=nK w W 1 (Ph.putI h.term ++ Ph.putI h.vote) _ _ (by decide) (by decide) (by rw [List.length_append];omega) (fun h=>h.rd_own In.hd) hw) (k:=?_);rintro e' W' ⟨s,rfl,_,hw⟩;exact ⟨_,rfl,fun a hs=>⟨{ad:=s.1,cap:=s.2},hs,hw⟩⟩
 case kk=>
  intro x y z a W hs hw;refine sc hs ?_
  exact rt1 hs rfl rfl ⟨(z.ad,z.cap),rfl,hw.sl⟩⟩
theorem aBF (hm:eH e=true):New prog 260 [.agg ⟨eM false ⟨0,0⟩ e⟩] L (Option Addr×Nat) (fun s=> .slice s.1 (cJ e).length s.2) (fun s=>bG (.slice s.1 (cJ e).length s.2) (cJ e)::L):=⟨fun {w W} hw=>by
 have hb:1≤e.ix∧e.ix≤1099511627776∧1≤e.term∧e.term≤1099511627776∧1≤e.kind∧e.kind≤3∧e.data.size≤2500:=by
  unfold eH in1 at hm;simp at hm;omega
 have p1:=Ph.putI_length_le e.ix;have p2:=Ph.putI_length_le e.term;have p3:=Ph.putI_length_le e.kind;have p4:=mJ e.data;refine en Tryz.func260 Tryz.ntmps260 fun a hs=>?_;refine sc hs ?_;refine sn hs hw fun b a W hs hw=>?_;refine sv hs hw fun a hs=>?_;refine cl hs ((wal_May_ent (e:=e)).ok hw) fun a W hs hw=>?_;rw [hm] at hs;refine sv hs hw fun a hs=>?_;refine bB [3,7,11] [.f 0 0,.f 0 0,.f 0 0,.m 0,.f 0 1,.f 0 1,.f 0 1,.m 1,.f 0 2,.f 0 2,.f 0 2,.m 2,.f 3 3] [.c0 _,.c0 _,.c0 _,.c1 (fun x=> .slice x.ad (Ph.putI e.ix).length x.cap),.c0 _,.c0 _,.c0 _,.c2 (fun x y=> .slice y.ad (Ph.putI e.ix ++ Ph.putI e.term).length y.cap),.c0 _,.c0 _,.c0 _,.c3 (fun x y z=> .slice z.ad (Ph.putI e.ix ++ Ph.putI e.term ++ Ph.putI e.kind).length z.cap),.c3 _] (aA b (eM false ⟨0,0⟩ e) 238::L) (fun x=>bG (.slice x.ad (Ph.putI e.ix).length x.cap) (Ph.putI e.ix)::aA b (eM false ⟨0,0⟩ e) 238::L) (fun x y=>bG (.slice y.ad (Ph.putI e.ix ++ Ph.putI e.term).length y.cap) (Ph.putI e.ix ++ Ph.putI e.term)::aA b (eM false ⟨0,0⟩ e) 238::L) (fun x y z=>bG (.slice z.ad (Ph.putI e.ix ++ Ph.putI e.term ++ Ph.putI e.kind).length z.cap) (Ph.putI e.ix ++ Ph.putI e.term ++ Ph.putI e.kind)::aA b (eM false ⟨0,0⟩ e) 238::L) (fun x y z t=>[]) hs hw ?kk ⟨drs,drs,drs,?m0,drs,drs,drs,?m1,drs,drs,drs,?m2,drs,trivial⟩
 case m0=>
  intro x y z t LD a W hs hw;refine aH hs (hc:=eS w W (.slice none 0 0) [] e.ix _ (by omega) (by omega) (by simp) (hw.nilB 5)) (k:=?_);rintro e' W' ⟨ad,cap,rfl,hw⟩;exact ⟨_,rfl,fun a hs=>⟨{ad:=ad,cap:=cap},hs,hw⟩⟩
 case m1=>
  intro x y z t LD a W hs hw;refine aH hs (hc:=eS w W _ (Ph.putI e.ix) e.term _ (by omega) (by omega) (by omega) hw) (k:=?_);rintro e' W' ⟨ad,cap,rfl,hw⟩;exact ⟨_,rfl,fun a hs=>⟨{ad:=ad,cap:=cap},hs,hw⟩⟩
 case m2=>
  intro x y z t LD a W hs hw;refine aH hs (hc:=eS w W _ (Ph.putI e.ix ++ Ph.putI e.term) e.kind _ (by omega) (by omega) (by rw [List.length_append];omega) hw) (k:=?_);rintro e' W' ⟨ad,cap,rfl,hw⟩;exact ⟨_,rfl,fun a hs=>⟨{ad:=ad,cap:=cap},hs,hw⟩⟩
 case kk=>
  intro x y z a W hs hw;have hl:(Ph.putI e.ix ++ Ph.putI e.term ++ Ph.putI e.kind).length≤30:=by simp only [List.length_append];omega
  have hB:cJ e=frB 2 ((Ph.putI e.ix ++ Ph.putI e.term ++ Ph.putI e.kind) ++ Ph.putT e.data.data.toList):=rfl;rw [hB];replace hs:Slots a 38 ((3,.slice z.ad (Ph.putI e.ix ++ Ph.putI e.term ++ Ph.putI e.kind).length z.cap)::(1,.pointer (some ⟨b,0,none⟩)):: []):=hs.ot;generalize Ph.putI e.ix ++ Ph.putI e.term ++ Ph.putI e.kind=u at *;refine sv hs hw fun a hs=>?_;refine aH hs (hc:=o4 w W _ u e.data _ (by omega) (by omega) hw) (k:=?_);rintro e0 W1 ⟨ad,cap,rfl,hw1⟩;refine ⟨_,rfl,?_⟩;clear hs hw;intro a hs;have hw:=hw1;clear hw1;refine cle hs (nK w _ 2 (u ++ Ph.putT e.data.data.toList) _ _ (by decide) (by decide) (by rw [List.length_append];omega) (fun h=>h.rd_own In.hd) hw) fun s a W _ hs hw=>?_;refine sv hs hw fun a hs=>?_
  exact rt1 hs rfl rfl ⟨s,rfl,hw.sl⟩⟩
end
end Go.Proofs.YtgpbngfehfbndaaGreatDoor.Sw
namespace Go.Sx
open Go.RowKit
section
variable {P:Program} {ops:Array Oper} {rest:List Oper} {Q:Exit→Act→World→Prop} {a:Act} {n:Nat} {L:List (Nat×Value)} {W:World} {d:Nat} {T S:TypeId} {p:String} {e:Array Edge} {x lo:Operand} {q:IntKind} {i:Int} {s:ByteArray}
theorem aGG [t:StrTy P S] (hs:Slots a n L) (h0:0≤i) (h1:i≤s.size) (c:∀a',Slots a' n ((d,.string (s.extract i.toNat s.size))::L)→wpList P ops Q rest a' W) (hx:ev L x=some (.string s):=by with_unfolding_all exact rfl) (hh:ev L lo=some (.int q i):=by with_unfolding_all exact rfl) (hd:Nat.blt d n=true:=by with_unfolding_all exact rfl):
  wpList P ops Q (⟨some d,.slice S x (some lo) none none,T,p,e,none⟩::rest) a W:=by
 refine bP hs hd (W':=W) ?_ c;simp only [execOp,Option.map_some,Option.map_none,hs.ev hx,hs.ev hh];simp only [Sem.run_bind,run_sliceAt_string (h:=t.out),run_slice_string_l (ht:=t.out) (h0:=h0) (h1:=h1),Result.andThen_ok];rfl
end
end Go.Sx
namespace Go.Proofs.YtgpbngfehfbndaaGreatDoor.Sw
open Go.RowKit Go.Sx
section
variable {L:List Res} {s:dI}
abbrev mW (b:Nat) (s:dI):Res:=aA b (dM s) 36
instance wal_may:Get Tryz.prog 227 [.agg ⟨dM s⟩] L (.bool (eK s)) L:=⟨fun {w W} hw=>by
 refine en Tryz.func227 Tryz.ntmps227 fun a hs=>?_;refine sc hs ?_;refine sn hs hw fun b a W hs hw=>?_;refine sv hs hw fun a hs=>?_;refine sn hs hw fun c a W hs hw=>?_;refine cl hs ((sO (l:=[s.ix,s.term]) (by simp) (c:=⟨Pick.hd⟩)).ok hw) fun a W hs hw=>?_;rw [aBC] at hs;rw [show ((!decide (s.ix<0) && !decide (s.ix > 1099511627776)) && (!decide (s.term<0) && !decide (s.term > 1099511627776)))=(cV s.ix && cV s.term) from rfl] at hs;have drop:∀{W},Has 0 w W (aA c [.int .i64 s.ix,.int .i64 s.term] 2::mW b s::L)→Has 0 w W L:=fun h=>h.d2;have hm:eK s=((cV s.ix && cV s.term) && decide ((s.conf.size:Int)≤50) && decide ((s.data.size:Int)≤200000)):=rfl;rw [hm];cases c1:(cV s.ix && cV s.term) with
 |false=>
  rw [c1] at hs;refine sv hs hw fun a hs=>?_;exact rt1 hs rfl rfl ⟨rfl,drop hw⟩
 |true=>
 rw [c1] at hs;refine sv hs hw fun a hs=>?_;cases c2:decide ((s.conf.size:Int)≤50) with
 |false=>
  rw [c2] at hs;refine sv hs hw fun a hs=>?_;exact rt1 hs rfl rfl ⟨rfl,drop hw⟩
 |true=>
 rw [c2] at hs;refine sv hs hw fun a hs=>?_
 exact rt1 hs rfl rfl ⟨rfl,drop hw⟩⟩
def k9 (s:dI):List UInt8:=Ph.putI s.ix ++ Ph.putI s.term ++ Ph.putT s.conf.data.toList
theorem aBG (k:Nat):iP k []= []:=by cases k <;> rfl
theorem aBH {k:Nat} {s:List UInt8} (h:s≠[]):iP (k+1) s=frB 4 (s.take 3000) ++ iP k (s.drop 3000):=by
 cases s with
 |nil=>exact absurd rfl h
 |cons x s=>rfl
theorem aGH {k:Nat} {s:List UInt8} (h:s≠[]) {m:Nat} (hm:m=min s.length 3000):iP (k+1) s=frB 4 (s.take m) ++ iP k (s.drop m):=by
 rw [aBH h];subst hm
 by_cases h3:s.length≤3000
 ·rw [Nat.min_eq_left h3,List.take_of_length_le (Nat.le_refl _),List.drop_of_length_le (Nat.le_refl _),List.take_of_length_le h3,List.drop_of_length_le h3]
 ·rw [Nat.min_eq_right (by omega)]
theorem mX (k:Nat) (l:List UInt8):(frB k l).length≤15+l.length:=by
 have:=Ph.putI_length_le (l.length:Int);simp only [frB,List.length_append,List.length_cons];have e4:(fX (fK (fK 0 (UInt8.ofNat k::Ph.putI (l.length:Int))) l)).length=4:=rfl;omega
theorem wR (hm:eK s=true):New Tryz.prog 153 [.agg ⟨dM s⟩] L (Option Addr×Nat) (fun x=> .slice x.1 (cY s).length x.2) (fun x=>bG (.slice x.1 (cY s).length x.2) (cY s)::L):=⟨fun {w W} hw=>by
 have hb:0≤s.ix∧s.ix≤1099511627776∧0≤s.term∧s.term≤1099511627776∧s.conf.size≤50∧s.data.size≤200000:=by
  unfold eK cV at hm;simp at hm;omega
 have p1:=Ph.putI_length_le s.ix;have p2:=Ph.putI_length_le s.term;have p3:=mJ s.conf;have p4:=Ph.putI_length_le (s.data.size:Int);have hdl:s.data.data.toList.length=s.data.size:=by rw [Array.length_toList];rfl
 refine en Tryz.func153 Tryz.ntmps153 fun a hs=>?_;refine sc hs ?_;refine sn hs hw fun b a W hs hw=>?_;refine sv hs hw fun a hs=>?_;refine cl hs ((wal_may (s:=s)).ok hw) fun a W hs hw=>?_;rw [hm] at hs;refine sv hs hw fun a hs=>?_;refine bB [2,5,8] [.f 0 0,.f 0 0,.m 0,.f 0 1,.f 0 1,.m 1,.f 0 2,.f 0 2,.m 2,.f 3 3] [.c0 _,.c0 _,.c1 (fun x=> .slice x.ad (Ph.putI s.ix).length x.cap),.c0 _,.c0 _,.c2 (fun x y=> .slice y.ad (Ph.putI s.ix ++ Ph.putI s.term).length y.cap),.c0 _,.c0 _,.c3 (fun x y z=> .slice z.ad (k9 s).length z.cap),.c3 _] (mW b s::L) (fun x=>bG (.slice x.ad (Ph.putI s.ix).length x.cap) (Ph.putI s.ix)::mW b s::L) (fun x y=>bG (.slice y.ad (Ph.putI s.ix ++ Ph.putI s.term).length y.cap) (Ph.putI s.ix ++ Ph.putI s.term)::mW b s::L) (fun x y z=>bG (.slice z.ad (k9 s).length z.cap) (k9 s)::mW b s::L) (fun x y z t=>[]) hs hw ?kk ⟨drs,drs,?m0,drs,drs,?m1,drs,drs,?m2,drs,trivial⟩
 case m0=>
  intro x y z t LD a W hs hw;refine aH hs (hc:=eS w W (.slice none 0 0) [] s.ix _ (by omega) (by omega) (by simp) (hw.nilB 5)) (k:=?_);rintro e' W' ⟨ad,cap,rfl,hw⟩;exact ⟨_,rfl,fun a hs=>⟨{ad:=ad,cap:=cap},hs,hw⟩⟩
 case m1=>
  intro x y z t LD a W hs hw;refine aH hs (hc:=eS w W _ (Ph.putI s.ix) s.term _ (by omega) (by omega) (by omega) hw) (k:=?_);rintro e' W' ⟨ad,cap,rfl,hw⟩;exact ⟨_,rfl,fun a hs=>⟨{ad:=ad,cap:=cap},hs,hw⟩⟩
 case m2=>
  intro x y z t LD a W hs hw;refine aH hs (hc:=o4 w W _ (Ph.putI s.ix ++ Ph.putI s.term) s.conf _ (by omega) (by rw [List.length_append];omega) hw) (k:=?_);rintro e' W' ⟨ad,cap,rfl,hw⟩;exact ⟨_,rfl,fun a hs=>⟨{ad:=ad,cap:=cap},hs,hw⟩⟩
 case kk=>
  intro x y z a W hs hw;have hl:(k9 s).length≤100:=by simp only [k9,List.length_append];omega
  have hB:cY s=frB 3 (k9 s ++ Ph.putI (s.data.size:Int)) ++ iP 70 s.data.data.toList:=by unfold cY k9;rw [hdl]
  rw [hB];replace hs:Slots a 43 ((3,.slice z.ad (k9 s).length z.cap)::(1,.pointer (some ⟨b,0,none⟩)):: []):=hs.ot;generalize k9 s=u at *;refine sv hs hw fun a hs=>?_;refine aH hs (hc:=eS w W _ u (s.data.size:Int) _ (by omega) (by omega) (by omega) hw) (k:=?_);rintro e0 W1 ⟨ad,cap,rfl,hw1⟩;refine ⟨_,rfl,?_⟩;clear hs hw;intro a hs;have hw:=hw1;clear hw1;refine cle hs (nK w _ 3 (u ++ Ph.putI (s.data.size:Int)) _ _ (by decide) (by decide) (by rw [List.length_append];omega) (fun h=>h.rd_own In.hd) hw) fun f a W _ hs hw=>?_;have hfl:=mX 3 (u ++ Ph.putI (s.data.size:Int));have hul:(u ++ Ph.putI (s.data.size:Int)).length≤110:=by rw [List.length_append];omega
  replace hw:Has 0 w W (bG (.slice f.1 (frB 3 (u ++ Ph.putI (s.data.size:Int))).length f.2) (frB 3 (u ++ Ph.putI (s.data.size:Int)))::mW b s::L):=hw.sl;generalize frB 3 (u ++ Ph.putI (s.data.size:Int))=h0 at *;refine sv hs hw fun a hs=>?_;refine bX (σ:=Nat×List UInt8×ByteArray×Option Addr×Nat) (fun q=>[(4,.slice q.2.2.2.1 q.2.1.length q.2.2.2.2),(5,.string q.2.2.1)]) (fun q=>bG (.slice q.2.2.2.1 q.2.1.length q.2.2.2.2) q.2.1::mW b s::L) (fun q=>h0 ++ iP 70 s.data.data.toList=q.2.1 ++ iP q.1 q.2.2.1.data.toList∧q.2.2.1.data.toList.length≤3000*q.1∧q.1≤70∧q.2.1.length+4000*q.1≤1000000) (fun q=>q.1) (70,h0,s.data,f.1,f.2) ⟨rfl,by show s.data.data.toList.length≤_;omega,Nat.le_refl _,by show h0.length+_≤_;omega⟩ hs ⟨rfl,rfl,trivial⟩ hw ?_;clear hs hw;rintro ⟨k,o,r,ad,cap⟩ a W ⟨h1,h2,h3,h4⟩ hs hw;simp only at h1 h2 h3 h4 hs hw;have hrl:r.data.toList.length=r.size:=by rw [Array.length_toList];rfl
  refine sv hs hw fun a hs=>?_;refine cI hs (kt:=fun hc=>?_) (kf:=fun hc=>?_)
  ·have hne:r.data.toList≠[]:=by
    intro h;rw [Go.ByteArray.toList_eq,Go.ByteArray.toList_eq,h] at hc;simp at hc
   have hpos:0<r.data.toList.length:=List.length_pos_iff.2 hne;obtain ⟨k,rfl⟩:∃j,k=j+1:=⟨k - 1,by omega⟩
   refine sv hs hw fun a hs=>?_;refine o7 hs (k:=fun a hs=>?_);obtain ⟨m,hm⟩:∃m:Nat,m=min r.data.toList.length 3000:=⟨_,rfl⟩
   rw [show (if (3000:Int)<(r.size:Int) then (3000:Int) else (r.size:Int))=(m:Int) by rw [hm];split <;> omega] at hs;have hp:=aGH (k:=k) hne hm;refine sv hs hw fun a hs=>?_;refine aEG hs (h0:=by omega) (h1:=by omega) (c:=fun a hs=>?_);rw [Int.toNat_natCast] at hs;have he:(r.extract 0 m).data.toList=r.data.toList.take m:=Ph.extract_take r m;have hes:(r.extract 0 m).size=m:=by
    have h9:(r.extract 0 m).data.toList.length=(r.extract 0 m).size:=by rw [Array.length_toList];rfl
    rw [←h9,he,List.length_take];omega
   generalize r.extract 0 m=r1 at *;refine nS (s:=r1) hs hw (by omega) (c:=fun a c cp ext W hw hr hs=>?_);rw [he] at hr hs hw;have hcap:(r.data.toList.take m).length=m:=by rw [List.length_take];omega
   refine cle hs (nK w W 4 (r.data.toList.take m) _ _ (by decide) (by decide) (by rw [hcap];omega) (fun h=>h.rdM In.hd hr) hw) fun g a W _ hs hw=>?_;have hgl:=mX 4 (r.data.toList.take m);refine gQ hs (hw.pick (Pick.tl (Pick.tl Pick.hd))) (l:=o) (m:=frB 4 (r.data.toList.take m)) (hr:=eZ (hw.rd_own In.hd) (iY _)) (hb:=by omega) (c:=fun a ad2 cap2 W hs hw=>?_);refine sv hs hw fun a hs=>?_;refine aGG (s:=r) (i:=(m:Int)) hs (by omega) (by omega) fun a hs=>?_;rw [Int.toNat_natCast] at hs;have he2:(r.extract m r.size).data.toList=r.data.toList.drop m:=Ph.extract_drop r m;refine sv hs hw fun a hs=>?_;refine bS (k,o ++ frB 4 (r.data.toList.take m),r.extract m r.size,ad2,cap2) hs (hw.sl) ⟨?_,?_,?_,?_⟩ (by show k<k+1;omega) ⟨rfl,rfl,trivial⟩
   ·show _=(o ++ frB 4 (r.data.toList.take m)) ++ iP k (r.extract m r.size).data.toList;rw [h1,hp,he2,List.append_assoc]
   ·show (r.extract m r.size).data.toList.length≤3000*k;rw [he2,List.length_drop];omega
   ·show k≤70;omega
   ·show (o ++ frB 4 (r.data.toList.take m)).length+4000*k≤1000000;rw [List.length_append];omega
  ·have hnil:r.data.toList= []:=by
    rw [Go.ByteArray.toList_eq,Go.ByteArray.toList_eq] at hc;simpa using hc
   rw [hnil,aBG,List.append_nil] at h1;rw [h1];refine sv hs hw fun a hs=>?_
   exact rt1 hs rfl rfl ⟨(ad,cap),rfl,hw.sl⟩⟩
end
def tG (s:cW) (b:cT):Bool:=(s.r.l.get (w64 (s.t.ix+1)) 200).any fun e=>(e.kind == 2) && (match decode e.data.data.toList with|some p=>(p.1 == b.c) && (p.2.1 == b.q)|none=>false)
def xO (d:bM) (s:cW) (b:cT):Option (bM×cW×cC×List bF×Int):=
 if dS b=false then some (d,s,zeroRow,[],1)
 else if s.r.role≠2 then some (d,s,zeroRow,[],9)
 else if b.q=cN s.t.f b.c then some (d,s,cL s.t.f b.c,[],0)
 else if b.q≠w64 (cN s.t.f b.c+1) then some (d,s,zeroRow,[],11)
 else if tG s b=true then some (d,s,zeroRow,[],10)
 else
  if (s.r.propose 2 ⟨(cR b).toArray⟩).2.2.2≠0 then some (d,s,zeroRow,[],(s.r.propose 2 ⟨(cR b).toArray⟩).2.2.2)
  else (mU d {s with r:=(s.r.propose 2 ⟨(cR b).toArray⟩).1} (s.r.propose 2 ⟨(cR b).toArray⟩).2.2.1).map fun x=>
   if cN x.2.1.t.f b.c=b.q then (x.1,x.2.1,cL x.2.1.t.f b.c,x.2.2,0) else (x.1,x.2.1,zeroRow,x.2.2,10)
structure cZ where
 c:Int
 added:List cT
 s:fA
def fG (q:cZ) (r:cC):Bool:=
 if r.b.c≠q.c then true else decide (r.b.q≥1) && decide (r.b.q≤(q.added.length:Int)) && eqL r.b.l (q.added.getD (r.b.q - 1).toNat ⟨0,0,[]⟩).l
def tH (q:cZ):Int:=(q.added.length:Int) - cN q.s.f q.c
def xP (d:bM) (b:List UInt8):Option bM:=(kA d b).bind pU
def gM (q:cZ):Bool:=decide (1≤q.c) && decide (q.c≤5) && decide (q.added.length≤1000) && q.added.all mT && decide (q.s.l.length≤1000) && q.s.l.all (fun r=>lW r && dS r.b) && decide (0≤cN q.s.f q.c) && decide (cN q.s.f q.c≤(q.added.length:Int))
def tI (d:bM) (q:cZ):Option (bM×cZ):=if gM q=true then some (d,q) else none
def tJ (d:bM) (q:cZ) (ops:List OpD):Option (bM×cZ×cT×Int):=
 if dS ⟨q.c,(q.added.length:Int)+1,ops⟩=false then some (d,q,⟨0,0,[]⟩,1)
 else if 30≤tH q then some (d,q,⟨0,0,[]⟩,5)
 else ((xP d (frB 1 (cR ⟨q.c,(q.added.length:Int)+1,ops⟩))).bind fun d=>tI d {q with added:=q.added ++ [⟨q.c,(q.added.length:Int)+1,ops⟩]}).map fun x=>(x.1,x.2,⟨q.c,(q.added.length:Int)+1,ops⟩,0)
def iD (q:cZ):List cT:=q.added.drop (cN q.s.f q.c).toNat
def fP (r:cC):List UInt8:=frB 2 (Ph.putI r.place ++ Ph.putI r.err ++ cR r.b)
def tK (l rows:List cC) (err:Int):Int:=if err=0∧l.length<rows.length then 1 else err
def tL (d:bM) (q:cZ) (rows:List cC):Option (bM×cZ×Nat×Int):=
 if (gG q.s 0 (rows.takeWhile (fG q))).2.1=0 then some (d,q,0,tK (rows.takeWhile (fG q)) rows (gG q.s 0 (rows.takeWhile (fG q))).2.2)
 else ((xP d (((gG q.s 0 (rows.takeWhile (fG q))).1.l.drop q.s.l.length).flatMap fP)).bind fun d=>tI d {q with s:=(gG q.s 0 (rows.takeWhile (fG q))).1}).map fun x=>(x.1,x.2,(gG q.s 0 (rows.takeWhile (fG q))).2.1,tK (rows.takeWhile (fG q)) rows (gG q.s 0 (rows.takeWhile (fG q))).2.2)
def iU (q:cZ):Int:=(q.s.l.length:Int)+1
structure bH where
 servers:List (Int×cW)
 clients:List (Int×cZ)
 sd:List (Int×bM)
 cd:List (Int×bM)
 n:List bF
def at? {α:Type}:List (Int×α)→Int→Option α
 | [],_=>none
 |p::l,k=>if p.1=k then some p.2 else at? l k
def cH {α:Type}:List (Int×α)→Int→α→List (Int×α)
 | [],k,v=>[(k,v)]
 |p::l,k,v=>if p.1=k then (k,v)::l else p::cH l k v
def oD (n:List bF) (m:bF):List bF:=if iO m=true∧n.length<400 then n ++ [m] else n
def iE (n l:List bF):List bF:=l.foldl oD n
def oE (all:List Int):List Int→bH→Option bH
 | [],w=>some w
 |id::r,w=>(sN id all).bind fun x=>oE all r {w with servers:=cH w.servers id x.2,sd:=cH w.sd id x.1}
def bD:Nat→Int→List Int
 |0,_=>[]
 |n+1,k=>k::bD n (k+1)
def tM (servers clients:Nat):Option bH:=
 oE (bD servers 1) (bD servers 1) ⟨[],(bD clients 1).map fun c=>(c,⟨c,[],⟨fY,[]⟩⟩),(bD 7 1).map fun k=>(k,none),(bD clients 1).map fun c=>(c,none),[]⟩
def tN (w:bH) (id:Int) (x:bM×cW×List bF) (n:List bF):bH:={w with servers:=cH w.servers id x.2.1,sd:=cH w.sd id x.1,n:=iE n x.2.2}
def qU (w:bH) (id:Int):Option (bH×Int):=
 match at? w.servers id,at? w.sd id with
 |none,_=>some (w,12)
 |some s,some d=>(aBB d s).map fun x=>(tN w id x w.n,0)
 |_,none=>none
def xQ (w:bH):Option bH:=
 match w.n with
 | []=>some w
 |m::n=>
  match at? w.servers m.to_,at? w.sd m.to_ with
  |none,_=>some {w with n:=n}
  |some s,some d=>(sM d s m).map fun x=>tN w m.to_ x n
  |_,none=>none
def l0:Nat→bH→Option (bH×Bool)
 |0,w=>some (w,w.n.isEmpty)
 |k+1,w=>match w.n with| []=>some (w,true)|_::_=>(xQ w).bind (l0 k)
def qV (w:bH) (c s:Int):Option (bH×Int):=
 match at? w.clients c,at? w.servers s,at? w.sd s with
 |none,_,_=>some (w,12)
 |some _,none,_=>some (w,12)
 |some q,some v,some d=>
  (match iD q with
   | []=>some (w,13)
   |b::_=>(xO d v b).map fun x=>(tN w s (x.1,x.2.1,x.2.2.2.1) w.n,x.2.2.2.2))
 |some _,some _,none=>none
def oF (w:bH) (c s:Int):Option (bH×Int):=
 match at? w.clients c,at? w.servers s,at? w.cd c with
 |none,_,_=>some (w,12)
 |some _,none,_=>some (w,12)
 |some q,some v,some d=>(tL d q (gV v.t (iU q) 10)).map fun x=>({w with clients:=cH w.clients c x.2.1,cd:=cH w.cd c x.1},x.2.2.2)
 |some _,some _,none=>none
def aCB (w:bH) (c:Int) (ops:List OpD):Option (bH×Int):=
 match at? w.clients c,at? w.cd c with
 |some q,some d=>(tJ d q ops).map fun x=>({w with clients:=cH w.clients c x.2.1,cd:=cH w.cd c x.1},x.2.2.2)
 |_,_=>none
def tO (f:bH→Int→Int→Option (bH×Int)) (c:Int):Nat→Int→bH→Option bH
 |0,_,w=>some w
 |n+1,s,w=>(f w c s).bind fun x=>tO f c n (s+1) x.1
def tP (f:bH→Int→Int→Option (bH×Int)):Nat→Int→bH→Option bH
 |0,_,w=>some w
 |n+1,c,w=>(tO f c 7 1 w).bind (tP f n (c+1))
def xR (f:bH→Int→Int→Option (bH×Int)) (w:bH):Option bH:=tP f 5 1 w
def qW (w:bH):Bool:=w.servers.all fun s=>decide ((s.2.r.l.get s.2.r.l.first 200).length≤100)
def mH:Nat→bH→Option bH
 |0,w=>some w
 |k+1,w=>(xR qV w).bind fun w=>(l0 5000 w).bind fun x=>(xR oF x.1).bind fun w=>if qW w=true then mH k w else none
def m8:Nat→Int→Int→bH→Bool
 |0,_,_,_=>true
 |n+1,c,at_,w=>
  match at? w.clients c with
  |none=>m8 n (c+1) at_ w
  |some q=>if (iD q).length > 0∨(at_ > 0∧iU q≠at_) then false else m8 n (c+1) (iU q) w
def xS (w:bH):Bool:=m8 5 1 0 w
def qX:Nat→Int→bH→Option bH
 |0,_,w=>some w
 |k+1,id,w=>
  match at? w.servers id with
  |none=>qX k (id+1) w
  |some _=>(qU w id).bind fun x=>(l0 5000 x.1).bind fun x=>qX k (id+1) x.1
def round (w:bH):Option (bH×Bool):=
 if qW w=true then (qX 7 1 w).bind fun w=>(mH 40 w).map fun w=>(w,xS w) else none
def rest:Nat→bH→Option (bH×Bool)
 |0,w=>some (w,false)
 |k+1,w=>(round w).bind fun x=>if x.2=true then some (x.1,true) else rest k x.1
def gO (d:bM) (n:Int):bM:=
 match d with
 |none=>none
 |some f=>
  if 0<f.lasts+(if 0≤n then (n.tmod ((f.b.length - f.lasts:Nat)+1:Int)).toNat else 0)∨f.there=true then
   some ⟨f.b.take (f.lasts+(if 0≤n then (n.tmod ((f.b.length - f.lasts:Nat)+1:Int)).toNat else 0)),f.lasts+(if 0≤n then (n.tmod ((f.b.length - f.lasts:Nat)+1:Int)).toNat else 0),true⟩
  else none
def t7 (w:bH) (id n:Int):Option (bH×Int):=
 match at? w.servers id,at? w.sd id with
 |none,_=>some (w,12)
 |some _,some d=>some ({w with servers:=w.servers.filter fun p=>p.1 !=id,sd:=cH w.sd id (gO d n)},0)
 |_,none=>none
structure TD where
 w:bH
 ok:Bool
def aCU (n m:Nat):Option TD:=(tM n m).map fun w=>⟨w,true⟩
def q0 (w:bH) (c:Int):List cC:=match at? w.clients c with|some q=>q.s.l|none=>[]
def t8 (key:ByteArray) (n:Int):OpD:=⟨4,key,0,0,⟨#[]⟩,0,0,⟨#[]⟩,n⟩
def kN:ByteArray:=⟨#[110]⟩
def jI (b:List UInt8):Option (Nat×List UInt8×Nat):=
 match b with
 | []=>none
 |c::r=>
  if c.toNat=0∨(Ph.getI r).2.2≠0∨(Ph.getI r).1<0∨4000<(Ph.getI r).1∨b.length<1+(Ph.getI r).2.1+4+(Ph.getI r).1.toNat then none
  else if fX (fK (fK 0 (b.take (1+(Ph.getI r).2.1))) ((b.drop (1+(Ph.getI r).2.1+4)).take (Ph.getI r).1.toNat))=(b.drop (1+(Ph.getI r).2.1)).take 4 then
   some (c.toNat,(b.drop (1+(Ph.getI r).2.1+4)).take (Ph.getI r).1.toNat,1+(Ph.getI r).2.1+4+(Ph.getI r).1.toNat)
  else none
def rdN (s:List UInt8):Option (Int×List UInt8):=if (Ph.getI s).2.2=0 then some ((Ph.getI s).1,s.drop (Ph.getI s).2.1) else none
def rdT (s:List UInt8):Option (ByteArray×List UInt8):=if (Ph.getT s).2.2=0 then some (⟨(Ph.getT s).1.toArray⟩,s.drop (Ph.getT s).2.1) else none
structure eE where
 hard:Bool
 h:fM
 e:bY
def rA (s:List UInt8):Option eE:=
 (rdN s).bind fun x=>(rdN x.2).bind fun y=>if y.2= []∧iA ⟨x.1,y.1⟩=true then some ⟨true,⟨x.1,y.1⟩,fF⟩ else none
def rB (s:List UInt8):Option eE:=
 (rdN s).bind fun x=>(rdN x.2).bind fun y=>(rdN y.2).bind fun z=>(rdT z.2).bind fun u=>if u.2= []∧eH ⟨x.1,y.1,z.1,u.1⟩=true then some ⟨false,⟨0,0⟩,⟨x.1,y.1,z.1,u.1⟩⟩ else none
def nE (b:List UInt8):Option (eE×Nat):=
 (jI b).bind fun x=>(if x.1=1 then rA x.2.1 else if x.1=2 then rB x.2.1 else none).map fun r=>(r,x.2.2)
def jJ:Nat→List UInt8→Option (List eE)
 |0,_=>none
 |n+1,b=>match b with
  | []=>some []
  |_::_=>(nE b).bind fun x=>(jJ n (b.drop x.2)).map fun l=>x.1::l
def j0:Nat→Nat→List UInt8→Option (List UInt8×Nat)
 |0,_,_=>none
 |n+1,left,b=>
  if left=0 then some ([],0)
  else (jI b).bind fun x=>if x.1=4∧x.2.1.length=min left 3000 then (j0 n (left - x.2.1.length) (b.drop x.2.2)).map fun y=>(x.2.1 ++ y.1,x.2.2+y.2) else none
def uA (b:List UInt8):Option (dI×Nat):=
 (rdN b).bind fun x=>(rdN x.2).bind fun y=>(rdT y.2).bind fun z=>(rdN z.2).bind fun u=>
  if u.2= []∧eK ⟨x.1,y.1,z.1,⟨#[]⟩⟩=true∧0≤u.1∧u.1≤200000 then some (⟨x.1,y.1,z.1,⟨#[]⟩⟩,u.1.toNat) else none
def nF (b:List UInt8):Option (dI×Nat):=
 (jI b).bind fun x=>if x.1=3 then (uA x.2.1).bind fun s=>(j0 70 s.2 (b.drop x.2.2)).map fun y=>({s.1 with data:=⟨y.1.toArray⟩},x.2.2+y.2) else none
def l9 (k:dD) (r:eE):Option dD:=
 if r.hard=true then some {k with h:=r.h}
 else if r.e.ix - k.s.ix - 1<0∨(k.log.length:Int)<r.e.ix - k.s.ix - 1∨200≤r.e.ix - k.s.ix - 1 then none
 else some {k with log:=k.log.take (r.e.ix - k.s.ix - 1).toNat ++ [r.e]}
def oJ (k:dD):List eE→Option dD
 | []=>some k
 |r::l=>(l9 k r).bind fun k=>oJ k l
def rC (b:List UInt8):Option dD:=
 (nF b).bind fun s=>(jJ 700 (b.drop s.2)).bind fun l=>(oJ ⟨⟨0,0⟩,s.1,[],0⟩ l).map fun k=>{k with size:=b.length}
def aCV (k:dD):Bool:=pR k.s k.log && decide (k.s.conf.size≤1000000) && decide (k.s.data.size≤200000) && k.log.all fun e=>decide (e.data.size≤1000000)
def uB (id:Int) (d:bM):Option cW:=
 match d with
 |none=>none
 |some fd=>(rC fd.b).bind fun k=>(eU k.s.data.data.toList).bind fun t=>(mR id k.h ⟨k.s,k.log⟩ k.s.ix).bind fun r=>
  if t.ix=k.s.ix∧1≤id∧id≤7∧lX ⟨k,r,t⟩=true∧aCV k=true∧fd.b.length≤1048576 then some ⟨k,r,t⟩ else none
def oK (w:bH) (i:Nat):Option bH:=
 match w.n[i]? with
 |none=>none
 |some m=>
  match at? w.servers m.to_,at? w.sd m.to_ with
  |none,_=>some {w with n:=w.n.take i ++ w.n.drop (i+1)}
  |some s,some d=>(sM d s m).map fun x=>tN w m.to_ x (w.n.take i ++ w.n.drop (i+1))
  |_,none=>none
def x2 (w:bH) (id:Int):Option (bH×Int):=
 match at? w.servers id,at? w.sd id with
 |some _,_=>some (w,10)
 |none,some d=>(uB id d).map fun s=>({w with servers:=cH w.servers id s},0)
 |none,none=>none
set_option maxRecDepth 100000
def aJN:Option Bool:=
 (tM 3 1).bind fun w=>(aCB w 1 [t8 kN 1]).bind fun x=>(rest 12 x.1).bind fun y=>(l0 10 y.1).map fun z=>y.2 && ((q0 y.1 1).length == 1) && z.2 && z.1.n.isEmpty
theorem aJO:aJN=some true:=by decide +kernel
end Go.Proofs.YtgpbngfehfbndaaGreatDoor.Sw
