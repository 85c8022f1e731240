import Derived.Test.YtgpbngfehfbndaaGreatDoorV20
set_option maxHeartbeats 16000000
set_option linter.all false
set_option maxRecDepth 10000
namespace Go.Sx
open Go.RowKit
def slV (ad:Option Addr) (cap i j:Nat):Value:= .slice (if cap=i then ad else ad.map (·.add (i*1))) (j - i) (cap - i)
theorem aIX {H:Fh} {ad:Option Addr} {cap n i j:Nat} {xs:List Value} (r:RdH H 1 (.slice ad n cap) n xs) (h0:i≤j) (h1:j≤n):RdH H 1 (slV ad cap i j) (j - i) ((xs.drop i).take (j - i)):=by
 obtain ⟨hx,ad',cap',e,h3,h4,h5⟩:=r;injection e with e1 e2 e3;subst e1 e3;refine ⟨?_,_,_,rfl,by omega,by omega,?_⟩
 ·rw [List.length_take,List.length_drop,hx];omega
 ·rcases h5 with rfl|⟨b,o,cs,T,zz,rfl,hlt,hc⟩
  ·exact .inl (by omega)
  ·by_cases hci:cap=i
   ·exact .inl (by omega)
   ·refine .inr ⟨b,o+i,cs,T,zz,by rw [if_neg hci];simp [eF],hlt,fun m u hu=>?_⟩;rw [List.getElem?_take] at hu;split at hu
    ·rw [List.getElem?_drop] at hu;rw [Nat.add_assoc];exact hc _ _ hu
    ·cases hu
theorem RdH.caps {H:Fh} {sz:Nat} {ad:Option Addr} {cap n:Nat} {xs:List Value} (r:RdH H sz (.slice ad n cap) n xs):n≤cap:=by
 obtain ⟨hx,ad',cap',e,h3,_⟩:=r;injection e with e1 e2 e3;omega
theorem rD {H:Fh} {ad:Option Addr} {cap i j:Nat} {l:List UInt8} (r:RdH H 1 (.slice ad l.length cap) l.length (bys l)) (h0:i≤j) (h1:j≤l.length):RdH H 1 (slV ad cap i j) ((l.drop i).take (j - i)).length (bys ((l.drop i).take (j - i))):=by
 have h:=aIX r h0 h1;rw [show ((l.drop i).take (j - i)).length=j - i by rw [List.length_take,List.length_drop];omega,show bys ((l.drop i).take (j - i))=((bys l).drop i).take (j - i) by simp];exact h
section
variable {P:Program} {ops:Array Oper} {rest:List Oper} {Q:Exit→Act→World→Prop} {a:Act} {n:Nat} {L:List (Nat×Value)} {W:World} {d:Nat} {T S E:TypeId} {p:String} {e:Array Edge} {x lo hi:Operand} {q q':IntKind} {z:List Value} {ad:Option Addr} {cap k i j:Nat}
theorem x3 {agg:Bool} [sl:Sl P S E] [t:Ty P E agg z] (hz:z.length=1) (l h:Option Value) {i' j':Nat} (h0:i'≤j') (h1:j'≤k) (hc:k≤cap)
  (hl:l=none∧i'=0∨∃q,l=some (.int q i')) (hh:h=none∧j'=k∨∃q,h=some (.int q j')):
  (Instr.sliceAt S (.slice ad k cap) l h none).run P W= .ok (slV ad cap i' j') W:=by
 have hb:∀(u:Value) (m y:Nat) (c:BoundsCode) (q:IntKind),u= .int q m→m≤y→(Instr.sliceBound u y c).run P W= .ok m W:=by
  rintro u m y c q rfl hm;have:(0:Int)≤(m:Int)∧(m:Int)≤(y:Int):=⟨by omega,by omega⟩
  simp only [Instr.sliceBound,asIntOf,Sem.run_bind,Sem.run_pure,Result.andThen_ok];rw [if_pos this];simp
 have hbs:(Instr.sliceBounds true k cap l h none).run P W= .ok (i',j',cap) W:=by
  unfold Instr.sliceBounds;rcases hh with ⟨rfl,rfl⟩|⟨q2,rfl⟩ <;> rcases hl with ⟨rfl,rfl⟩|⟨q1,rfl⟩
  ·simp
  ·simp [hb _ i' j' .sliceB q1 rfl h0]
  ·simp [hb _ j' cap .sliceAcap q2 rfl (by omega)]
  ·simp [hb _ j' cap .sliceAcap q2 rfl (by omega),hb _ i' j' .sliceB q1 rfl h0]
 simp only [Instr.sliceAt,Instr.slice,Sem.run_bind,run_underlying sl.out,Result.andThen_ok,hbs,t.sizeOf,Sem.run_pure,hz,slV]
theorem oL {agg:Bool} [sl:Sl P S E] [t:Ty P E agg z] (hs:Slots a n L) (h1:i≤k) (hc:k≤cap) (c:∀a',Slots a' n ((d,slV ad cap i k)::L)→wpList P ops Q rest a' W) (hx:ev L x=some (.slice ad k cap):=by with_unfolding_all exact rfl) (hl:ev L lo=some (.int q (i:Int)):=by with_unfolding_all exact rfl) (hd:Nat.blt d n=true:=by with_unfolding_all exact rfl) (hz:z.length=1:=by with_unfolding_all exact rfl):
  wpList P ops Q (⟨some d,.slice S x (some lo) none none,T,p,e,none⟩::rest) a W:=by
 refine bP hs hd (v:=slV ad cap i k) (W':=W) ?_ c;have h2:=x3 (P:=P) (S:=S) (W:=W) (ad:=ad) hz (some (.int q i)) none (i':=i) (j':=k) h1 (Nat.le_refl _) hc (.inr ⟨q,rfl⟩) (.inl ⟨rfl,rfl⟩);simp only [execOp,Option.map_some,Option.map_none,hs.ev hx,hs.ev hl];simp only [Sem.run_bind,h2,Result.andThen_ok];rfl
theorem aIY {agg:Bool} [sl:Sl P S E] [t:Ty P E agg z] (hs:Slots a n L) (h1:j≤k) (hc:k≤cap) (c:∀a',Slots a' n ((d,slV ad cap 0 j)::L)→wpList P ops Q rest a' W) (hx:ev L x=some (.slice ad k cap):=by with_unfolding_all exact rfl) (hh:ev L hi=some (.int q (j:Int)):=by with_unfolding_all exact rfl) (hd:Nat.blt d n=true:=by with_unfolding_all exact rfl) (hz:z.length=1:=by with_unfolding_all exact rfl):
  wpList P ops Q (⟨some d,.slice S x none (some hi) none,T,p,e,none⟩::rest) a W:=by
 refine bP hs hd (v:=slV ad cap 0 j) (W':=W) ?_ c;have h2:=x3 (P:=P) (S:=S) (W:=W) (ad:=ad) hz none (some (.int q j)) (i':=0) (j':=j) (Nat.zero_le _) h1 hc (.inl ⟨rfl,rfl⟩) (.inr ⟨q,rfl⟩);simp only [execOp,Option.map_some,Option.map_none,hs.ev hx,hs.ev hh];simp only [Sem.run_bind,h2,Result.andThen_ok];rfl
theorem aCW {agg:Bool} [sl:Sl P S E] [t:Ty P E agg z] (hs:Slots a n L) (h0:i≤j) (h1:j≤k) (hc:k≤cap) (c:∀a',Slots a' n ((d,slV ad cap i j)::L)→wpList P ops Q rest a' W) (hx:ev L x=some (.slice ad k cap):=by with_unfolding_all exact rfl) (hl:ev L lo=some (.int q' (i:Int)):=by with_unfolding_all exact rfl) (hh:ev L hi=some (.int q (j:Int)):=by with_unfolding_all exact rfl) (hd:Nat.blt d n=true:=by with_unfolding_all exact rfl) (hz:z.length=1:=by with_unfolding_all exact rfl):
  wpList P ops Q (⟨some d,.slice S x (some lo) (some hi) none,T,p,e,none⟩::rest) a W:=by
 refine bP hs hd (v:=slV ad cap i j) (W':=W) ?_ c;have h2:=x3 (P:=P) (S:=S) (W:=W) (ad:=ad) hz (some (.int q' i)) (some (.int q j)) (i':=i) (j':=j) h0 h1 hc (.inr ⟨q',rfl⟩) (.inr ⟨q,rfl⟩);simp only [execOp,Option.map_some,Option.map_none,hs.ev hx,hs.ev hl,hs.ev hh];simp only [Sem.run_bind,h2,Result.andThen_ok];rfl
end
section
variable {P:Program} {fn:Func} {C:Ending→World→Prop} {a:Act} {n:Nat} {L:List (Nat×Value)} {W:World}
theorem rt4 {t u r s:Tmp} {v v' v'' v3:Value} (hs:Slots a n L) (hr:fn.results= #[.tmp t,.tmp u,.tmp r,.tmp s]) (hv:lk L t=some v:=by with_unfolding_all exact rfl) (hv':lk L u=some v') (hv'':lk L r=some v'') (hv3:lk L s=some v3) (h:C (.returned (.tuple #[v,v',v'',v3])) W):bodyPost P fn C .ret a W:=
 rt hs (by simp only [←fI hs hv,←fI hs hv',←fI hs hv'',←fI hs hv3];simp [results,hr]) h
end
end Go.Sx
namespace Go.Proofs.YtgpbngfehfbndaaGreatDoor.Sw
open Go.RowKit Go.Sx
open Go.Proofs.Tryz (prog)
theorem x4 {b body:List UInt8} {k n:Nat} (h:jI b=some (k,body,n)):∃(c:UInt8) (r:List UInt8) (g1 g2:Nat),b=c::r∧k=c.toNat∧c.toNat≠0∧Ph.getI r=((g1:Int),g2,0)∧g1≤4000∧1+g2+4+g1≤b.length∧body=(b.drop (1+g2+4)).take g1∧n=1+g2+4+g1∧body.length=g1∧fX (fK (fK 0 (b.take (1+g2))) body)=(b.drop (1+g2)).take 4:=by
 unfold jI at h;split at h
 ·cases h
 ·rename_i c r;split at h
  ·cases h
  ·rename_i h1;split at h
   ·rename_i h2;injection h with h;injection h with e1 e2;injection e2 with e2 e3;obtain ⟨g1,hg1⟩:∃g1:Nat,(Ph.getI r).1=(g1:Int):=⟨(Ph.getI r).1.toNat,by omega⟩
    have hb:(Ph.getI r).2.2=0:=by omega
    have hg:Ph.getI r=((g1:Int),(Ph.getI r).2.1,0):=by rw [←hg1,←hb]
    generalize (Ph.getI r).2.1=g2 at *;rw [hg] at h1 e2 e3 h2;simp only [Int.toNat_natCast] at h1 e2 e3 h2;have h4:1+g2+4+g1≤(c::r).length:=by omega
    refine ⟨c,r,g1,g2,rfl,e1.symm,by omega,hg,by omega,h4,e2.symm,e3.symm,?_,?_⟩
    ·rw [←e2,List.length_take,List.length_drop];omega
    ·rw [←e2];exact h2
   ·cases h
section
variable {w0 W:World} {R:List Res} {H:Fh}
theorem aCX {v:Value} {l:List UInt8} {x:Int} {k:Nat} (hg:Ph.getI l=(x,k,0)) (r:RdH H 1 v l.length (bys l)) (i:In (Fz H) R) (hw:Has 0 w0 W R):
  Calls prog 156 ⟨[v]⟩ W fun e W'=>e= .returned (.tuple ⟨[.int .i64 x,.int .i64 (k:Int),.int .i64 0]⟩)∧Has 0 w0 W' R:=
 (mN W v l (hw.rdH i r)).mono fun e W' ⟨h1,h2⟩=>⟨by rw [h1,hg],by rw [←h2];exact hw⟩
theorem x5 {b body:List UInt8} {k n:Nat} {ad:Option Addr} {cap:Nat} (h:jI b=some (k,body,n)) (hl:b.length≤2000000) (r:RdH H 1 (.slice ad b.length cap) b.length (bys b)) (hw:Has 0 w0 W (Fz H::R)):
  Calls prog 202 ⟨[.slice ad b.length cap]⟩ W fun e W'=>∃s:Option Addr×Nat,e= .returned (.tuple ⟨[.int .i64 (k:Int),.slice s.1 body.length s.2,.int .i64 (n:Int),.int .i64 0]⟩)∧True∧Has 0 w0 W' (bG (.slice s.1 body.length s.2) body::Fz H::R):=by
 obtain ⟨c,t,g1,g2,rfl,rfl,hc0,hg,hg1,hlen,hbody,hn,hbl,hcrc⟩:=x4 h;clear h;have hcap:=r.caps;obtain ⟨m,hm⟩:∃m,m=(c::t).length:=⟨_,rfl⟩
 have hmt:t.length=m - 1:=by rw [hm,List.length_cons];omega
 have hm1:1≤m:=by rw [hm,List.length_cons];omega
 have r1:RdH H 1 (slV ad cap 1 m) t.length (bys t):=by
  have:=rD r (i:=1) (j:=(c::t).length) (by omega) (by omega);rw [hm];rw [show ((c::t).drop 1).take ((c::t).length - 1)=t by rw [List.drop_one,List.tail_cons,List.take_of_length_le (by rw [List.length_cons];omega)]] at this;exact this
 have r2:RdH H 1 (slV ad cap 0 (1+g2)) ((c::t).take (1+g2)).length (bys ((c::t).take (1+g2))):=rD r (i:=0) (j:=1+g2) (by omega) (by omega);have r3:RdH H 1 (slV ad cap (1+g2+4) (1+g2+4+g1)) body.length (bys body):=by
  have:=rD r (i:=1+g2+4) (j:=1+g2+4+g1) (by omega) (by omega);rw [show 1+g2+4+g1 - (1+g2+4)=g1 by omega,←hbody] at this;exact this
 have r4:RdH H 1 (slV ad cap (1+g2) (1+g2+4)) (((c::t).drop (1+g2)).take 4).length (bys (((c::t).drop (1+g2)).take 4)):=by
  have:=rD r (i:=1+g2) (j:=1+g2+4) (by omega) (by omega);rw [show 1+g2+4 - (1+g2)=4 by omega] at this;exact this
 rw [←hm] at r hcap hlen hl⊢;refine en Tryz.func202 Tryz.ntmps202 fun a hs=>?_;refine sv hs hw fun a hs=>?_;rw [show ((m:Int) == 0)=false by simp;omega] at hs;refine sv hs hw fun a hs=>?_;have r0:RdH H 1 (.slice ad (c::t).length cap) (c::t).length (bys (c::t)):=by rw [←hm];exact r
 refine zU (hs:=hs) (hx:=by rw [←hm];with_unfolding_all exact rfl) (r:=hw.rdH In.hd r0) (h0:=by omega) (c:=c) (hc:=rfl) (k:=fun a ad1 hc2 hs=>?_);refine eQ hs (hc:=hc2) (c:=fun a hs=>?_);refine sv hs hw fun a hs=>?_;rw [show (((c.toNat:Nat):Int) == 0)=false by simp;exact fun h=>hc0 (by rw [h])] at hs;refine sv hs hw fun a hs=>?_;refine oL hs hm1 hcap (fun a hs=>?_);refine cl hs (aCX hg r1 In.hd hw) fun a W hs hw=>?_;refine sv hs hw fun a hs=>?_;rw [show decide ((g1:Int)<0)=false from decide_eq_false (by omega)] at hs;refine sv hs hw fun a hs=>?_;rw [show decide ((g1:Int) > 4000)=false from decide_eq_false (by omega)] at hs;refine sv hs hw fun a hs=>?_;rw [show IntKind.i64.wrap (1+(g2:Int))=((1+g2:Nat):Int) by rw [IntWalk.i64_in _ (by omega)];omega] at hs;rw [show IntKind.i64.wrap (IntKind.i64.wrap (((1+g2:Nat):Int)+4)+(g1:Int))=((1+g2+4+g1:Nat):Int) by rw [IntWalk.i64_in (((1+g2:Nat):Int)+4) (by omega),IntWalk.i64_in _ (by omega)];omega] at hs;rw [show decide ((m:Int)<((1+g2+4+g1:Nat):Int))=false from decide_eq_false (by omega)] at hs;refine sv hs hw fun a hs=>?_;rw [show IntKind.i64.wrap (((1+g2:Nat):Int)+4)=((1+g2+4:Nat):Int) by rw [IntWalk.i64_in _ (by omega)];omega] at hs;refine aCW (i:=1+g2+4) (j:=1+g2+4+g1) hs (by omega) (by omega) hcap (fun a hs=>?_);refine sv hs hw fun a hs=>?_;have hx1:=rT (s:=0) (by decide) ((c::t).take (1+g2));have hx2:=rT hx1 body;obtain ⟨X,hX⟩:∃X,X=fK (fK 0 ((c::t).take (1+g2))) body:=⟨_,rfl⟩
 obtain ⟨F4,hF4⟩:∃F4,F4=((c::t).drop (1+g2)).take 4:=⟨_,rfl⟩
 have h44:IntKind.i64.wrap (((1+g2:Nat):Int)+4)=((1+g2+4:Nat):Int):=by rw [IntWalk.i64_in _ (by omega)];omega
 rw [←hX] at hx2 hcrc;rw [←hF4] at r4 hcrc;refine bB [3,5,6] [.f 0 0,.f 0 0,.f 0 0,.m 0,.f 0 1,.m 1,.m 2,.f 3 3,.f 0 3,.f 0 3,.f 0 3,.f 0 3,.f 0 3,.f 0 3,.f 3 3] [.c0 _,.c0 _,.c0 (slV ad cap 0 (1+g2)),.c1 (fun x=> .int .u32 (fK 0 ((c::t).take (1+g2)):Nat)),.c0 _,.c2 (fun x y=> .int .u32 (X:Nat)),.c3 (fun x y z=> .slice (some ⟨z.n,0,none⟩) 4 4),.c3 (fun x y z=> .string ⟨(fX X).toArray⟩),.c0 _,.c0 _,.c0 _,.c0 (.int .i64 ((1+g2+4:Nat):Int)),.c0 (slV ad cap (1+g2) (1+g2+4)),.c0 (.string ⟨F4.toArray⟩),.c3 _] (Fz H::R) (fun x=>Fz H::R) (fun x y=>Fz H::R) (fun x y z=>aA z.n (bys (fX X)) 5::Fz H::R) (fun x y z t=>[]) hs hw ?kk ⟨drs,drs,?f2,?m0,drs,?m1,?m2,?f7,drs,drs,drs,?f11,?f12,?f13,drs,trivial⟩
 case f2=>
  refine ⟨?_,trivial,trivial,trivial,trivial⟩;intro x y z u LD a W hs hw;refine aIY (j:=1+g2) hs (by omega) hcap (fun a hs=>?_);exact ⟨hs,hw⟩
 case f7=>
  refine ⟨trivial,trivial,trivial,?_,trivial⟩;intro x y z u LD a W hs hw;refine iF hs (r:=(show RdB W (.slice (some ⟨z.n,0,none⟩) 4 4) (fX X) from hw.rd_lit In.hd rfl (by decide))) (k:=fun a hs=>?_);exact ⟨hs,hw⟩
 case f11=>
  refine ⟨?_,?_,?_,?_,trivial⟩ <;>
  ·intro x y z u LD a W hs hw;refine sv hs hw fun a hs=>?_;rw [h44] at hs;exact ⟨hs,hw⟩
 case f12=>
  refine ⟨?_,?_,?_,?_,trivial⟩ <;>
  ·intro x y z u LD a W hs hw;refine aCW (i:=1+g2) (j:=1+g2+4) hs (by omega) (by omega) hcap (fun a hs=>?_);exact ⟨hs,hw⟩
 case f13=>
  refine ⟨?_,?_,?_,?_,trivial⟩
  ·intro x y z u LD a W hs hw;refine iF hs (r:=hw.rdH In.hd r4) (k:=fun a hs=>?_);exact ⟨hs,hw⟩
  ·intro x y z u LD a W hs hw;refine iF hs (r:=hw.rdH In.hd r4) (k:=fun a hs=>?_);exact ⟨hs,hw⟩
  ·intro x y z u LD a W hs hw;refine iF hs (r:=hw.rdH In.hd r4) (k:=fun a hs=>?_);exact ⟨hs,hw⟩
  ·intro x y z u LD a W hs hw;refine iF hs (r:=hw.rdH (In.tl In.hd) r4) (k:=fun a hs=>?_);exact ⟨hs,hw⟩
 case m0=>
  intro x y z u LD a W hs hw;refine cb hs hw (aAG _ _ _ (hw.rdH In.hd r2)) fun a W hs hw=>?_;exact ⟨{},hs,hw⟩
 case m1=>
  intro x y z u LD a W hs hw;refine cb hs hw (vL _ body _ _ hx1 (hw.rdH In.hd r3)) fun a W hs hw=>?_;rw [←hX] at hs;exact ⟨{},hs,hw⟩
 case m2=>
  intro x y z u LD a W hs hw;refine sg hs hw (fun b a W hs hw=>?_) (g:=aAH hx2);exact ⟨{n:=b},hs,hw⟩
 case kk=>
 intro x y z a W hs hw;have hne:(!((⟨(fX X).toArray⟩:ByteArray).toList == (⟨F4.toArray⟩:ByteArray).toList))=false:=by rw [hcrc];simp
 replace hs:Slots a 84 [(76,.bool (!((⟨(fX X).toArray⟩:ByteArray).toList == (⟨F4.toArray⟩:ByteArray).toList))),(0,.slice ad m cap),(10,.int .i64 ((1+g2+4+g1:Nat):Int)),(11,slV ad cap (1+g2+4) (1+g2+4+g1))]:=hs.ot;rw [hne] at hs;have hw:Has 0 w0 W (Fz H::R):=hw.sl;refine sc hs ?_;obtain ⟨sl,hsl⟩:∃s:Option Addr×Nat,slV ad cap (1+g2+4) (1+g2+4+g1)= .slice s.1 body.length s.2:=⟨(_,_),by unfold slV;rw [show 1+g2+4+g1 - (1+g2+4)=body.length by omega]⟩
 rw [hsl] at hs r3;obtain ⟨b0,o0,rfl⟩:∃b o,ad=some ⟨b,o,none⟩:=by
  obtain ⟨_,ad',cap',e,_,_,h9|⟨b,o,cs,T,zz,e2,_⟩⟩:=r
  ·omega
  ·injection e with e1 _ _;exact ⟨b,o,by rw [e1,e2]⟩
 have hk0:(0:Int)≤0:=by omega
 have hk1:(0:Int)<(m:Int):=by omega
 refine bB [5] [.f 0 1,.f 0 1,.f 0 1,.f 0 1,.f 0 0,.m 0,.f 0 1,.f 1 1,.f 1 1,.f 1 1,.f 1 1] [.c0 _,.c0 _,.c0 (.int .u8 (c.toNat:Int)),.c0 _,.c0 _,.c1 (fun x=> .slice x.ad body.length x.cap),.c0 _,.c1 _,.c1 _,.c1 _,.c1 _] (Fz H::R) (fun x=>bG (.slice x.ad body.length x.cap) body::Fz H::R) (fun x y=>[]) (fun x y z=>[]) (fun x y z t=>[]) hs hw ?kk ⟨drs,drs,?f2,drs,drs,?m0,drs,drs,drs,drs,drs,trivial⟩
 case f2=>
  refine ⟨?_,?_,trivial,trivial,trivial⟩
  ·intro x y z u LD a W hs hw;refine eQ hs (hc:=kG (hw.rdH In.hd r) (by omega) 0 _ rfl) (c:=fun a hs=>?_);exact ⟨hs,hw⟩
  ·intro x y z u LD a W hs hw;refine eQ hs (hc:=kG (hw.rdH (In.tl In.hd) r) (by omega) 0 _ rfl) (c:=fun a hs=>?_);exact ⟨hs,hw⟩
 case m0=>
  intro x y z u LD a W hs hw;refine gQ hs (hw:=hw.nilB 5) (l:=[]) (m:=body) (hr:=eZ (hw.rdH In.hd r3) (iY body)) (hb:=by simp;omega) (c:=fun a ad2 cap2 W hs hw=>?_);exact ⟨{ad:=ad2,cap:=cap2},hs,hw⟩
 case kk=>
 intro x a W hs hw;refine sc hs ?_;rw [hn];have hc8:IntKind.i64.wrap (c.toNat:Int)=(c.toNat:Int):=IntWalk.i64_in _ (by have:=c.toNat_lt;omega);refine rt4 hs rfl rfl rfl rfl rfl ⟨(x.ad,x.cap),?_,trivial,hw⟩;show Ending.returned (.tuple #[.int .i64 (IntKind.i64.wrap (c.toNat:Int)),.slice x.ad body.length x.cap,.int .i64 ((1+g2+4+g1:Nat):Int),.int .i64 0])=_;rw [hc8]
end
theorem rE {H:Fh} {ad:Option Addr} {cap i:Nat} {l:List UInt8} (r:RdH H 1 (.slice ad l.length cap) l.length (bys l)) (h:i≤l.length):RdH H 1 (slV ad cap i l.length) (l.drop i).length (bys (l.drop i)):=by
 have:=rD r h (Nat.le_refl _);rw [List.take_of_length_le (by rw [List.length_drop];exact Nat.le_refl _)] at this;exact this
theorem aIZ {s rest:List UInt8} {x:Int} (h:rdN s=some (x,rest)):∃k,Ph.getI s=(x,k,0)∧k≤s.length∧rest=s.drop k:=by
 unfold rdN at h;split at h
 ·rename_i h0;injection h with h;injection h with e1 e2;have:=Ph.getI_le s;exact ⟨_,by rw [←e1,←h0],this,e2.symm⟩
 ·cases h
theorem aI0 {s rest:List UInt8} {x:ByteArray} (h:rdT s=some (x,rest)):∃k,(Ph.getT s).2.1=k∧(Ph.getT s).2.2=0∧x=⟨(Ph.getT s).1.toArray⟩∧k≤s.length∧rest=s.drop k:=by
 unfold rdT at h;split at h
 ·rename_i h0;injection h with h;injection h with e1 e2;exact ⟨_,rfl,h0,e1.symm,pK s,e2.symm⟩
 ·cases h
section
variable {w0 W:World} {R:List Res} {H:Fh} {p:Nat} {v:Value}
abbrev kO (p:Nat) (v:Value):Res:=aA p [v,.bool false] 304
theorem mA {s rest:List UInt8} {x:Int} (h:rdN s=some (x,rest)) (r:RdH H 1 v s.length (bys s)) (hw:Has 0 w0 W (kO p v::Fz H::R)):
  Calls prog 224 ⟨[ptr p]⟩ W fun e W'=>∃v':Value,e= .returned (.int .i64 x)∧RdH H 1 v' rest.length (bys rest)∧Has 0 w0 W' (kO p v'::Fz H::R):=by
 obtain ⟨k,hg,hk,rfl⟩:=aIZ h;obtain ⟨ad,cap,rfl⟩:=r.slice;have hcap:=r.caps;refine en Tryz.func224 Tryz.ntmps224 fun a hs=>?_;refine sv hs hw fun a hs=>?_;refine cl hs (aCX hg r (In.tl In.hd) hw) fun a W hs hw=>?_;refine sx hs hw fun a W hs hw=>?_;refine oL hs hk hcap (fun a hs=>?_);refine sx hs hw fun a W hs hw=>?_;exact rt1 hs rfl rfl ⟨_,rfl,rE r hk,hw⟩
theorem aCY {s rest:List UInt8} {x:ByteArray} (h:rdT s=some (x,rest)) (r:RdH H 1 v s.length (bys s)) (hw:Has 0 w0 W (kO p v::Fz H::R)):
  Calls prog 225 ⟨[ptr p]⟩ W fun e W'=>∃v':Value,e= .returned (.string x)∧RdH H 1 v' rest.length (bys rest)∧Has 0 w0 W' (kO p v'::Fz H::R):=by
 obtain ⟨k,hk0,he,rfl,hk,rfl⟩:=aI0 h;obtain ⟨ad,cap,rfl⟩:=r.slice;have hcap:=r.caps;have hc:Calls prog 157 ⟨[.slice ad s.length cap]⟩ W fun e W'=>e= .returned (.tuple ⟨[.string ⟨(Ph.getT s).1.toArray⟩,.int .i64 (k:Int),.int .i64 0]⟩)∧Has 0 w0 W' (kO p (.slice ad s.length cap)::Fz H::R):=
  (sE W _ s (hw.rdH (In.tl In.hd) r)).mono fun e W' ⟨h1,h2⟩=>⟨by rw [h1,hk0,he],by rw [←h2];exact hw⟩
 refine en Tryz.func225 Tryz.ntmps225 fun a hs=>?_;refine sv hs hw fun a hs=>?_;refine cl hs hc fun a W hs hw=>?_;refine sx hs hw fun a W hs hw=>?_;refine oL hs hk hcap (fun a hs=>?_);refine sx hs hw fun a W hs hw=>?_;exact rt1 hs rfl rfl ⟨_,rfl,rE r hk,hw⟩
theorem x6 (r:RdH H 1 v 0 (bys [])) (hw:Has 0 w0 W (kO p v::R)):
  Calls prog 226 ⟨[ptr p]⟩ W fun e W'=>e= .returned (.bool true)∧Has 0 w0 W' (kO p v::R):=by
 obtain ⟨ad,cap,rfl⟩:=r.slice;refine en Tryz.func226 Tryz.ntmps226 fun a hs=>?_;refine sv hs hw fun a hs=>?_;exact rt1 hs rfl rfl ⟨rfl,hw⟩
abbrev eB (r:eE):List Value:=eM r.hard r.h r.e
theorem aCZ {s:List UInt8} {rec:eE} (h:rA s=some rec):∃(t vt:Int) (s1:List UInt8),rdN s=some (t,s1)∧rdN s1=some (vt,[])∧iA ⟨t,vt⟩=true∧rec=⟨true,⟨t,vt⟩,fF⟩:=by
 unfold rA at h;obtain ⟨⟨x,s1⟩,h1,h⟩:=Option.bind_eq_some_iff.1 h;obtain ⟨⟨y,s2⟩,h2,h⟩:=Option.bind_eq_some_iff.1 h;simp only at h h2;split at h
 ·rename_i h3;injection h with h;obtain ⟨h3,h4⟩:=h3;subst h3;exact ⟨x,y,s1,h1,h2,h4,h.symm⟩
 ·cases h
theorem aC0 {s:List UInt8} {rec:eE} (h:rB s=some rec):∃(i t k:Int) (d:ByteArray) (s1 s2 s3:List UInt8),rdN s=some (i,s1)∧rdN s1=some (t,s2)∧rdN s2=some (k,s3)∧rdT s3=some (d,[])∧eH ⟨i,t,k,d⟩=true∧rec=⟨false,⟨0,0⟩,⟨i,t,k,d⟩⟩:=by
 unfold rB at h;obtain ⟨⟨x,s1⟩,h1,h⟩:=Option.bind_eq_some_iff.1 h;obtain ⟨⟨y,s2⟩,h2,h⟩:=Option.bind_eq_some_iff.1 h;obtain ⟨⟨z,s3⟩,h3,h⟩:=Option.bind_eq_some_iff.1 h;obtain ⟨⟨u,s4⟩,h4,h⟩:=Option.bind_eq_some_iff.1 h;simp only at h h2 h3 h4;split at h
 ·rename_i h5;injection h with h;obtain ⟨h5,h6⟩:=h5;subst h5;exact ⟨x,y,z,u,s1,s2,s3,h1,h2,h3,h4,h6,h.symm⟩
 ·cases h
theorem x7 {b:List UInt8} {rec:eE} {n:Nat} (h:nE b=some (rec,n)):∃body,(jI b=some (1,body,n)∧rA body=some rec)∨(jI b=some (2,body,n)∧rB body=some rec):=by
 unfold nE at h;obtain ⟨⟨k,body,m⟩,h1,h⟩:=Option.bind_eq_some_iff.1 h;obtain ⟨r,h2,h3⟩:=Option.map_eq_some_iff.1 h;injection h3 with e1 e2;simp only at e2 h2;subst e1 e2;refine ⟨body,?_⟩;split at h2
 ·rename_i hk;subst hk;exact .inl ⟨h1,h2⟩
 ·split at h2
  ·rename_i hk;subst hk;exact .inr ⟨h1,h2⟩
  ·cases h2
theorem oM {b body:List UInt8} {k n:Nat} (h:jI b=some (k,body,n)):n≤b.length:=by
 obtain ⟨c,t,g1,g2,h1,_,_,_,_,h2,_,h3,_⟩:=x4 h;omega
theorem aI1 {b:List UInt8} {rec:eE} {n:Nat} (h:nE b=some (rec,n)):n≤b.length:=by
 obtain ⟨body,⟨h1,_⟩|⟨h1,_⟩⟩:=x7 h
 ·exact oM h1
 ·exact oM h1
theorem aI2 {b:List UInt8} {rec:eE} {n:Nat} {ad:Option Addr} {cap:Nat} (h:nE b=some (rec,n)) (hl:b.length≤2000000) (r:RdH H 1 (.slice ad b.length cap) b.length (bys b)) (hw:Has 0 w0 W (Fz H::R)):
  Calls prog 229 ⟨[.slice ad b.length cap]⟩ W fun e W'=>∃H':Fh,e= .returned (.tuple ⟨[.agg ⟨eB rec⟩,.int .i64 (n:Int),.int .i64 0]⟩)∧H.le H'∧Has 0 w0 W' (Fz H'::R):=by
 refine en Tryz.func229 Tryz.ntmps229 fun a hs=>?_;refine sc hs ?_;refine sn hs hw fun b2 a W hs hw=>?_;refine sv hs hw fun a hs=>?_;obtain ⟨body,h⟩:=x7 h;obtain ⟨k,hk,hop⟩:∃k,jI b=some (k,body,n)∧(k=1∧rA body=some rec∨k=2∧rB body=some rec):=by
  rcases h with ⟨h1,h2⟩|⟨h1,h2⟩
  ·exact ⟨1,h1,.inl ⟨rfl,h2⟩⟩
  ·exact ⟨2,h1,.inr ⟨rfl,h2⟩⟩
 clear h;have hw:=hw.swap2;refine cle hs (x5 hk hl r hw) fun s a W _ hs hw=>?_;obtain ⟨H2,hle,hw,rb⟩:=hw.freeze_own;refine sv hs hw fun a hs=>?_;refine sn hs hw fun p a W hs hw=>?_;rcases hop with ⟨rfl,hrec⟩|⟨rfl,hrec⟩
 ·obtain ⟨t,vt,s1,g1,g2,hm,rfl⟩:=aCZ hrec;refine sv hs hw fun a hs=>?_;refine sn hs hw fun b10 a W hs hw=>?_;refine sx hs hw fun a W hs hw=>?_;have hw:Has 0 w0 W (kO p (.slice s.1 body.length s.2)::Fz H2::aA b10 [.bool true,.int .i64 0,.int .i64 0,.int .i64 0,.int .i64 0,.int .i64 0,.string ⟨#[]⟩] 238::aA b2 (eM false ⟨0,0⟩ fF) 238::R):=hw.pm;refine cle hs (mA g1 rb hw) fun v1 a W r1 hs hw=>?_;refine sx hs hw fun a W hs hw=>?_;refine cle hs (mA g2 r1 hw) fun v2 a W r2 hs hw=>?_;refine sx hs hw fun a W hs hw=>?_;refine cl hs (x6 r2 hw) fun a W hs hw=>?_;refine sv hs hw fun a hs=>?_;refine cl hs ((wal_May_hard (h:=⟨t,vt⟩)).ok hw) fun a W hs hw=>?_;rw [hm] at hs;refine sx hs hw fun a W hs hw=>?_;refine rc3 hs rfl rfl hw inn rfl rfl rfl ⟨H2,rfl,hle,hw.sl⟩
 ·obtain ⟨i,t,kd,d,s1,s2,s3,g1,g2,g3,g4,hm,rfl⟩:=aC0 hrec;refine sv hs hw fun a hs=>?_;refine sn hs hw fun b10 a W hs hw=>?_;refine sx hs hw fun a W hs hw=>?_;have hw:Has 0 w0 W (kO p (.slice s.1 body.length s.2)::Fz H2::aA b10 [.bool false,.int .i64 0,.int .i64 0,.int .i64 0,.int .i64 0,.int .i64 0,.string ⟨#[]⟩] 238::aA b2 (eM false ⟨0,0⟩ fF) 238::R):=hw.pm;refine cle hs (mA g1 rb hw) fun v1 a W r1 hs hw=>?_;refine sx hs hw fun a W hs hw=>?_;refine cle hs (mA g2 r1 hw) fun v2 a W r2 hs hw=>?_;refine sx hs hw fun a W hs hw=>?_;refine cle hs (mA g3 r2 hw) fun v3 a W r3 hs hw=>?_;refine sx hs hw fun a W hs hw=>?_;refine cle hs (aCY g4 r3 hw) fun v4 a W r4 hs hw=>?_;refine sx hs hw fun a W hs hw=>?_;refine cl hs (x6 r4 hw) fun a W hs hw=>?_;refine sv hs hw fun a hs=>?_;refine cl hs ((wal_May_ent (e:=⟨i,t,kd,d⟩)).ok hw) fun a W hs hw=>?_;rw [hm] at hs;refine sx hs hw fun a W hs hw=>?_;refine rc3 hs rfl rfl hw inn rfl rfl rfl ⟨H2,rfl,hle,hw.sl⟩
def RecIn (r:eE) (c:List Value):Prop:=c=eB r
theorem RecIn.len:∀(r:eE) (c:List Value),RecIn r c→c.length=7:=by rintro r c rfl;rfl
theorem x8:∀l:List eE,Ch RecIn l (l.flatMap eB)
 | []=>rfl
 |r::l=>⟨eB r,l.flatMap eB,by simp,rfl,x8 l⟩
abbrev j1 (v:Value) (l:List eE):Res:=Sx.Own 238 7 v l.length (l.flatMap eB)
theorem aI3 {b:List UInt8} {l:List eE} {m:Nat} {ad:Option Addr} {cap:Nat} (h:jJ m b=some l) (hm:m≤100000) (hl:b.length≤2000000) (r:RdH H 1 (.slice ad b.length cap) b.length (bys b)) (hw:Has 0 w0 W (Fz H::R)):
  Calls prog 150 ⟨[.slice ad b.length cap]⟩ W fun e W'=>∃(v:Value) (H':Fh),e= .returned (.tuple ⟨[v,.int .i64 (b.length:Int),.bool true]⟩)∧H.le H'∧Has 0 w0 W' (j1 v l::Fz H'::R):=by
 have hcap:=r.caps;refine en Tryz.func150 Tryz.ntmps150 fun a hs=>?_;refine sv hs hw fun a hs=>?_;have hw:Has 0 w0 W (j1 (.slice none 0 0) []::Fz H::R):=hw.nilOwn 238 7;refine bX (σ:=Nat×Nat×Option Addr×Nat×List eE×Fh) (fun z=>[(0,.slice ad b.length cap),(5,.slice z.2.2.1 z.2.2.2.2.1.length z.2.2.2.1),(6,.int .i64 (z.2.1:Int))]) (fun z=>j1 (.slice z.2.2.1 z.2.2.2.2.1.length z.2.2.2.1) z.2.2.2.2.1::Fz z.2.2.2.2.2::R) (fun z=>z.1≤m∧z.2.1≤b.length∧H.le z.2.2.2.2.2∧z.2.2.2.2.1.length+z.1≤m∧∃l2,jJ z.1 (b.drop z.2.1)=some l2∧l=z.2.2.2.2.1 ++ l2) (fun z=>z.1) (m,0,none,0,[],H) ⟨Nat.le_refl _,Nat.zero_le _,Fh.le.refl H,by simp,l,by simpa using h,rfl⟩ hs ⟨rfl,rfl,rfl,trivial⟩ hw ?_;clear hs hw h;rintro ⟨k,at_,oad,ocap,l1,H2⟩ a W ⟨hk,hat,hle,hlk,l2,hsc,hll⟩ hs hw;simp only at hk hat hle hlk hsc hs hw;refine sv hs hw fun a hs=>?_;obtain ⟨k,rfl⟩:∃j,k=j+1:=by cases k with|zero=>cases hsc|succ j=>exact ⟨j,rfl⟩
 refine cI hs (kt:=fun hcc=>?_) (kf:=fun hcc=>?_)
 ·have hat':at_<b.length:=by have:=of_decide_eq_true hcc;omega
  obtain ⟨x,y,hxy⟩:∃x y,b.drop at_=x::y:=by
   cases hd:b.drop at_ with
   |nil=>have:=congrArg List.length hd;rw [List.length_drop] at this;simp at this;omega
   |cons x y=>exact ⟨x,y,rfl⟩
  have hsc2:((nE (b.drop at_)).bind fun x=>(jJ k ((b.drop at_).drop x.2)).map fun l=>x.1::l)=some l2:=by
   unfold jJ at hsc;rw [hxy] at hsc⊢;exact hsc
  obtain ⟨⟨rec,n⟩,hdec,hsc3⟩:=Option.bind_eq_some_iff.1 hsc2;obtain ⟨l3,h3,h4⟩:=Option.map_eq_some_iff.1 hsc3;simp only at h3 h4;have hn:=aI1 hdec;rw [List.length_drop] at hn;have hdl:(b.drop at_).length=b.length - at_:=List.length_drop;refine sc hs ?_;refine sv hs hw fun a hs=>?_;refine oL hs hat hcap (fun a hs=>?_);have rd:=(rE r hat).le hle;obtain ⟨sad,hsad⟩:∃u,u=(if cap=at_ then ad else ad.map (·.add (at_*1))):=⟨_,rfl⟩
  have hsv:slV ad cap at_ b.length= .slice sad (b.drop at_).length (cap - at_):=by unfold slV;rw [←hsad,hdl]
  rw [hsv] at hs rd;have hw:Has 0 w0 W (Fz H2::j1 (.slice oad l1.length ocap) l1::R):=hw.swap2;refine aH hs (hc:=aI2 hdec (by omega) rd hw) (k:=?_);rintro e' W ⟨H3,rfl,hle3,hw⟩;refine ⟨_,rfl,fun a hs=>?_⟩;refine sv hs hw fun a hs=>?_;refine sn hs hw fun b7 a W hs hw=>?_;refine sx hs hw fun a W hs hw=>?_;refine sn hs hw fun b30 a W hs hw=>?_;have hw:Has 0 w0 W (j1 (.slice oad l1.length ocap) l1::aA b30 (eB rec) 238::aA b7 (eB rec) 238::Fz H3::R):=hw.pm;refine i6 hs (hw:=hw) (hi:=In.hd) (ch:=x8 l1) (ha:=(rfl:RecIn rec (eB rec))) (hl:=rfl) (h1:=rfl) (hb:=by omega) (h63:=by omega) (k:=fun a ad2 cap2 W hs hw _=>?_);refine sv hs hw fun a hs=>?_;rw [show IntKind.i64.wrap ((at_:Int)+(n:Int))=((at_+n:Nat):Int) by rw [IntWalk.i64_in _ (by omega)];omega] at hs;have hfm:l1.flatMap eB ++ eB rec=(l1 ++ [rec]).flatMap eB:=by simp
  rw [hfm] at hw;refine bS (k,at_+n,ad2,cap2,l1 ++ [rec],H3) hs (hw.sl) ⟨by omega,by show at_+n≤b.length;omega,hle.trans hle3,by show (l1 ++ [rec]).length+k≤m;rw [List.length_append];simp only [List.length_cons,List.length_nil];omega,l3,by show jJ k (b.drop (at_+n))=some l3;rw [←List.drop_drop];exact h3,by show l=(l1 ++ [rec]) ++ l3;rw [hll,←h4];simp⟩ (by show k<k+1;omega) ⟨rfl,rfl,rfl,trivial⟩
 ·have hat':at_=b.length:=by have:=of_decide_eq_false hcc;omega
  have hd:b.drop at_= []:=by rw [hat'];exact List.drop_length
  rw [hd] at hsc;unfold jJ at hsc;simp only at hsc;injection hsc with hsc;subst hsc;rw [List.append_nil] at hll;subst hll;refine sc hs ?_;refine sv hs hw fun a hs=>?_;rw [hat'] at hs;exact rt3 hs rfl rfl rfl rfl ⟨_,H2,rfl,hle,hw⟩
end
section
variable {w0 W:World} {R:List Res} {H:Fh} {p:Nat} {v:Value}
theorem aC1 {b:List UInt8} {s:dI} {left:Nat} (h:uA b=some (s,left)):∃(i t:Int) (c:ByteArray) (s1 s2 s3:List UInt8),rdN b=some (i,s1)∧rdN s1=some (t,s2)∧rdT s2=some (c,s3)∧rdN s3=some ((left:Int),[])∧eK ⟨i,t,c,⟨#[]⟩⟩=true∧left≤200000∧s=⟨i,t,c,⟨#[]⟩⟩:=by
 unfold uA at h;obtain ⟨⟨x,s1⟩,h1,h⟩:=Option.bind_eq_some_iff.1 h;obtain ⟨⟨y,s2⟩,h2,h⟩:=Option.bind_eq_some_iff.1 h;obtain ⟨⟨z,s3⟩,h3,h⟩:=Option.bind_eq_some_iff.1 h;obtain ⟨⟨u,s4⟩,h4,h⟩:=Option.bind_eq_some_iff.1 h;simp only at h h2 h3 h4;split at h
 ·rename_i h5;injection h with h;injection h with e1 e2;obtain ⟨h5,h6,h7,h8⟩:=h5;subst h5;refine ⟨x,y,z,s1,s2,s3,h1,h2,h3,?_,h6,by omega,e1.symm⟩;rw [h4,←e2];congr 2;omega
 ·cases h
theorem uC {b:List UInt8} {s:dI} {n:Nat} (h:nF b=some (s,n)):∃(body:List UInt8) (n1:Nat) (s0:dI) (left:Nat) (all:List UInt8) (n2:Nat),jI b=some (3,body,n1)∧uA body=some (s0,left)∧j0 70 left (b.drop n1)=some (all,n2)∧s= {s0 with data:=⟨all.toArray⟩}∧n=n1+n2:=by
 unfold nF at h;obtain ⟨⟨k,body,n1⟩,h1,h⟩:=Option.bind_eq_some_iff.1 h;simp only at h;split at h
 ·rename_i hk;subst hk;obtain ⟨⟨s0,left⟩,h2,h⟩:=Option.bind_eq_some_iff.1 h;obtain ⟨⟨all,n2⟩,h3,h4⟩:=Option.map_eq_some_iff.1 h;injection h4 with e1 e2;exact ⟨body,n1,s0,left,all,n2,h1,h2,h3,e1.symm,e2.symm⟩
 ·cases h
theorem aC2 {k left:Nat} {b all:List UInt8} {n:Nat} (h:j0 (k+1) left b=some (all,n)) (h0:left≠0):∃(body:List UInt8) (n1:Nat) (all2:List UInt8) (n2:Nat),jI b=some (4,body,n1)∧body.length=min left 3000∧j0 k (left - body.length) (b.drop n1)=some (all2,n2)∧all=body ++ all2∧n=n1+n2:=by
 unfold j0 at h;rw [if_neg h0] at h;obtain ⟨⟨kd,body,n1⟩,h1,h⟩:=Option.bind_eq_some_iff.1 h;simp only at h;split at h
 ·rename_i h2;obtain ⟨h2,h3⟩:=h2;subst h2;obtain ⟨⟨all2,n2⟩,h4,h5⟩:=Option.map_eq_some_iff.1 h;injection h5 with e1 e2;exact ⟨body,n1,all2,n2,h1,h3,h4,e1.symm,e2.symm⟩
 ·cases h
theorem x9:∀{k left:Nat} {b all:List UInt8} {n:Nat},j0 k left b=some (all,n)→n≤b.length∧all.length=left
 |0,_,_,_,_,h=>by cases h
 |k+1,left,b,all,n,h=>by
  by_cases h0:left=0
  ·unfold j0 at h;rw [if_pos h0] at h;injection h with h;injection h with e1 e2;subst e1 e2 h0;exact ⟨Nat.zero_le _,rfl⟩
  ·obtain ⟨body,n1,all2,n2,h1,h2,h3,rfl,rfl⟩:=aC2 h h0;have:=x9 h3;have h4:=oM h1;rw [List.length_drop] at this;rw [List.length_append];omega
theorem aI4 {b:List UInt8} {s:dI} {n:Nat} (h:nF b=some (s,n)):n≤b.length:=by
 obtain ⟨body,n1,s0,left,all,n2,h1,h2,h3,_,rfl⟩:=uC h;have h4:=oM h1;have h5:=(x9 h3).1;rw [List.length_drop] at h5;omega
theorem aI5 {b:List UInt8} {s:dI} {n:Nat} {ad:Option Addr} {cap:Nat} (h:nF b=some (s,n)) (hl:b.length≤2000000) (r:RdH H 1 (.slice ad b.length cap) b.length (bys b)) (hw:Has 0 w0 W (Fz H::R)):
  Calls prog 149 ⟨[.slice ad b.length cap]⟩ W fun e W'=>∃H':Fh,e= .returned (.tuple ⟨[.agg ⟨dM s⟩,.int .i64 (n:Int),.int .i64 0]⟩)∧H.le H'∧Has 0 w0 W' (Fz H'::R):=by
 obtain ⟨body,n1,s0,left,all,n2,hop,hhd,hpa,rfl,rfl⟩:=uC h;obtain ⟨i,t,c,s1,s2,s3,g1,g2,g3,g4,hm,hleft,rfl⟩:=aC1 hhd;have hcap:=r.caps;have hn1:=oM hop;clear h hhd;refine en Tryz.func149 Tryz.ntmps149 fun a hs=>?_;refine sc hs ?_;refine sn hs hw fun b2 a W hs hw=>?_;refine sv hs hw fun a hs=>?_;have hw:=hw.swap2;refine cle hs (x5 hop hl r hw) fun s a W _ hs hw=>?_;obtain ⟨H2,hle,hw,rb⟩:=hw.freeze_own;refine sv hs hw fun a hs=>?_;refine sn hs hw fun p a W hs hw=>?_;refine sv hs hw fun a hs=>?_;refine cle hs (mA g1 rb hw) fun v1 a W r1 hs hw=>?_;refine sv hs hw fun a hs=>?_;refine sn hs hw fun b10 a W hs hw=>?_;refine sx hs hw fun a W hs hw=>?_;have hw:Has 0 w0 W (kO p v1::Fz H2::aA b10 [.int .i64 i,.int .i64 0,.string ⟨#[]⟩,.string ⟨#[]⟩] 36::aA b2 (dM zeroSnap) 36::R):=hw.pm;refine cle hs (mA g2 r1 hw) fun v2 a W r2 hs hw=>?_;refine sx hs hw fun a W hs hw=>?_;refine cle hs (aCY g3 r2 hw) fun v3 a W r3 hs hw=>?_;refine sx hs hw fun a W hs hw=>?_;refine cle hs (mA g4 r3 hw) fun v4 a W r4 hs hw=>?_;refine sv hs hw fun a hs=>?_;refine cl hs (x6 r4 hw) fun a W hs hw=>?_;refine sv hs hw fun a hs=>?_;refine cl hs ((wal_may (s:=⟨i,t,c,⟨#[]⟩⟩)).ok hw) fun a W hs hw=>?_;rw [hm] at hs;refine sv hs hw fun a hs=>?_;refine sn hs hw fun b56 a W hs hw=>?_;refine oW hs (c:=?_);refine cl hs ((sO (l:=[(left:Int)]) (by simp) (c:=⟨Pick.hd⟩)).ok hw) fun a W hs hw=>?_;rw [wP,show decide ((left:Int)<0)=false from decide_eq_false (by omega),show decide ((left:Int) > 200000)=false from decide_eq_false (by omega)] at hs;refine sv hs hw fun a hs=>?_;have hw:Has 0 w0 W (bG (.slice none 0 0) []::Fz H2::aA b2 (dM zeroSnap) 36::aA b10 [.int .i64 i,.int .i64 t,.string c,.string ⟨#[]⟩] 36::R):=(hw.sl:Has 0 w0 W (Fz H2::aA b2 (dM zeroSnap) 36::aA b10 [.int .i64 i,.int .i64 t,.string c,.string ⟨#[]⟩] 36::R)).nilB 5;refine Code.wp_mono (fun e a W (q:e= .exit 0∧∃(H3:Fh) (oad:Option Addr) (ocap:Nat),H.le H3∧Slots a 101 [(2,ptr b2),(7,.int .i64 ((n1+n2:Nat):Int)),(10,ptr b10),(12,.slice oad all.length ocap)]∧Has 0 w0 W (bG (.slice oad all.length ocap) all::Fz H3::aA b2 (dM zeroSnap) 36::aA b10 [.int .i64 i,.int .i64 t,.string c,.string ⟨#[]⟩] 36::R))=>?_) ?_
 case refine_1=>
  obtain ⟨rfl,H3,oad,ocap,hle3,hs,hw⟩:=q;refine sc hs ?_;refine sv hs hw fun a hs=>?_;refine iF hs (r:=hw.rd_own In.hd) (k:=fun a hs=>?_);refine sx hs hw fun a W hs hw=>?_;refine rc3 hs rfl rfl hw inn rfl rfl rfl ⟨H3,rfl,hle3,hw.sl⟩
 refine bX (σ:=Nat×Nat×Nat×Option Addr×Nat×List UInt8×Fh) (fun z=>[(0,.slice ad b.length cap),(2,ptr b2),(7,.int .i64 ((n1+z.2.2.1:Nat):Int)),(10,ptr b10),(11,.int .i64 (z.2.1:Int)),(12,.slice z.2.2.2.1 z.2.2.2.2.2.1.length z.2.2.2.2.1)]) (fun z=>bG (.slice z.2.2.2.1 z.2.2.2.2.2.1.length z.2.2.2.2.1) z.2.2.2.2.2.1::Fz z.2.2.2.2.2.2::aA b2 (dM zeroSnap) 36::aA b10 [.int .i64 i,.int .i64 t,.string c,.string ⟨#[]⟩] 36::R) (fun z=>H.le z.2.2.2.2.2.2∧n1+z.2.2.1≤b.length∧z.2.1≤200000∧z.2.2.2.2.2.1.length+z.2.1=left∧∃all2 m2,j0 z.1 z.2.1 (b.drop (n1+z.2.2.1))=some (all2,m2)∧all=z.2.2.2.2.2.1 ++ all2∧n2=z.2.2.1+m2) (fun z=>z.1) (70,left,0,none,0,[],H2) ⟨hle,hn1,hleft,by simp,all,n2,hpa,rfl,by simp⟩ hs ⟨rfl,rfl,rfl,rfl,rfl,rfl,trivial⟩ hw ?_;clear hs hw hpa;rintro ⟨k,lf,m,oad,ocap,l1,H3⟩ a W ⟨hle3,hnm,hlf,hll,all2,m2,hpa,hal,hn2⟩ hs hw;simp only at hle3 hnm hlf hll hpa hal hn2 hs hw;have hpl:=x9 hpa;rw [List.length_drop] at hpl;refine sv hs hw fun a hs=>?_;obtain ⟨k,rfl⟩:∃j,k=j+1:=by cases k with|zero=>cases hpa|succ j=>exact ⟨j,rfl⟩
 refine cI hs (kt:=fun hcc=>?_) (kf:=fun hcc=>?_)
 ·have hlf0:lf≠0:=by have:=of_decide_eq_true hcc;omega
  obtain ⟨body2,m1,all3,m3,ho2,hb2,hpa2,rfl,rfl⟩:=aC2 hpa hlf0;have hm1:=oM ho2;rw [List.length_drop] at hm1;have hdl:(b.drop (n1+m)).length=b.length - (n1+m):=List.length_drop;refine sc hs ?_;refine sv hs hw fun a hs=>?_;refine oL (i:=n1+m) hs (by omega) hcap (fun a hs=>?_);have rd:=(rE r (show n1+m≤b.length by omega)).le hle3;obtain ⟨sad,hsad⟩:∃u,u=(if cap=n1+m then ad else ad.map (·.add ((n1+m)*1))):=⟨_,rfl⟩
  have hsv:slV ad cap (n1+m) b.length= .slice sad (b.drop (n1+m)).length (cap - (n1+m)):=by unfold slV;rw [←hsad,hdl]
  rw [hsv] at hs rd;have hw:Has 0 w0 W (Fz H3::bG (.slice oad l1.length ocap) l1::aA b2 (dM zeroSnap) 36::aA b10 [.int .i64 i,.int .i64 t,.string c,.string ⟨#[]⟩] 36::R):=hw.swap2;refine cle hs (x5 ho2 (by omega) rd hw) fun s a W _ hs hw=>?_;refine sv hs hw fun a hs=>?_;refine o7 hs (k:=fun a hs=>?_);rw [show (if (3000:Int)<(lf:Int) then (3000:Int) else (lf:Int))=(body2.length:Int) by rw [hb2];split <;> omega] at hs;refine sv hs hw fun a hs=>?_;rw [show ((body2.length:Int) !=(body2.length:Int))=false by simp] at hs;refine sv hs hw fun a hs=>?_;have hw:Has 0 w0 W (bG (.slice oad l1.length ocap) l1::bG (.slice s.1 body2.length s.2) body2::Fz H3::aA b2 (dM zeroSnap) 36::aA b10 [.int .i64 i,.int .i64 t,.string c,.string ⟨#[]⟩] 36::R):=hw.pm;refine gQ hs hw (l:=l1) (m:=body2) (hr:=eZ (hw.rd_own (In.tl In.hd)) (iY body2)) (hb:=by omega) (c:=fun a ad2 cap2 W hs hw=>?_);refine sv hs hw fun a hs=>?_;rw [show IntKind.i64.wrap ((lf:Int) - (body2.length:Int))=((lf - body2.length:Nat):Int) by rw [IntWalk.i64_in _ (by omega)];omega] at hs;rw [show IntKind.i64.wrap (((n1+m:Nat):Int)+(m1:Int))=((n1+(m+m1):Nat):Int) by rw [IntWalk.i64_in _ (by omega)];omega] at hs;refine bS (k,lf - body2.length,m+m1,ad2,cap2,l1 ++ body2,H3) hs (hw.sl) ⟨hle3,by show n1+(m+m1)≤b.length;omega,by show lf - body2.length≤200000;omega,by show (l1 ++ body2).length+(lf - body2.length)=left;rw [List.length_append];omega,all3,m3,by show j0 k (lf - body2.length) (b.drop (n1+(m+m1)))=some (all3,m3);rw [←Nat.add_assoc,←List.drop_drop];exact hpa2,by show all=(l1 ++ body2) ++ all3;rw [hal,List.append_assoc],by show n2=m+m1+m3;omega⟩ (by show k<k+1;omega) ⟨rfl,rfl,rfl,rfl,rfl,rfl,trivial⟩
 ·have hlf0:lf=0:=by have:=of_decide_eq_false hcc;omega
  have:all2= []∧m2=0:=by
   unfold j0 at hpa;rw [if_pos hlf0] at hpa;injection hpa with hpa;injection hpa with e1 e2;exact ⟨e1.symm,e2.symm⟩
  obtain ⟨rfl,rfl⟩:=this;rw [List.append_nil] at hal;rw [Nat.add_zero] at hn2;subst hal hn2;refine sc hs ?_;exact ⟨rfl,H3,oad,ocap,hle3,hs.ot,hw⟩
end
end Go.Proofs.YtgpbngfehfbndaaGreatDoor.Sw
