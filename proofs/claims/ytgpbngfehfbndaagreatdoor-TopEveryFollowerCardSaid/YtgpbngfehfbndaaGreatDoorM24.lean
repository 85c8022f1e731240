/-
  Texts of the proof, one behind the other (part 24).
-/
import Derived.Test.YtgpbngfehfbndaaGreatDoorM20
import Derived.Test.YtgpbngfehfbndaaGreatDoorChecked
import Derived.Test.YtgpbngfehfbndaaGreatDoorProg
set_option maxHeartbeats 16000000
set_option linter.unusedVariables false
set_option maxRecDepth 10000
namespace Go.Proofs.YtgpbngfehfbndaaGreatDoor.Sw
open Go.RowKit Go.Sx
section
variable {H H':Fh} {w0 W:World} {R L:List Res}
theorem aHa (m:bS) (v:Value) (hm:fW H v m.es) (i:In (Fz H) L) (hw:Has 0 w0 W L):
  Calls Tryz.prog 205 ⟨[.agg ⟨aI m v⟩]⟩ W fun e W'=>e= .returned (.bool (oI m))∧Has 0 w0 W' L:=by
 obtain ⟨ad,cap,rfl⟩:=hm.slice;have hlen:=hm.len;have hq0:oI m=(kP m m.ix m.lterm m.es && decide ((m.es.length:Int)≤8) && (decide ((m.es.length:Int)=0) || m.kind == 3)):=rfl;refine enter Tryz.func205 Tryz.ntmps205 rfl rfl fun a hs=>?_;refine sc hs ?_;refine sn hs hw fun b a W hs hw=>?_;refine zA hs hw ?_;clear hs;intro a hs;refine rgp [_,_,_,_,_,_] hs hw fun a W hs hw=>?_;refine sv hs hw fun a hs=>?_;refine bY (σ:=Nat×Int×Int) (fun q=>[(1,ptr b),(3,.int .i64 q.2.1),(4,.int .i64 q.2.2),(12,.slice ad m.es.length cap),(13,.int .i64 (m.es.length:Int)),(14,.int .i64 (q.1:Int))]) (fun _=>aA b (aI m (.slice ad m.es.length cap)) 38::L) (fun q=>q.1≤m.es.length∧kP m m.ix m.lterm m.es=kP m q.2.1 q.2.2 (m.es.drop q.1)) (fun q=>m.es.length - q.1) (0,m.ix,m.lterm) ⟨Nat.zero_le _,rfl⟩ hs ⟨rfl,rfl,rfl,rfl,rfl,rfl,trivial⟩ hw ?_;clear hs hw;rintro ⟨j,x,y⟩ a W ⟨hj,hh⟩ hs hw;simp only at hj hh hs hw;have sub1:∀{W A},Has 0 w0 W (A::aA b (aI m (.slice ad m.es.length cap)) 38::L)→Has 0 w0 W (aA b (aI m (.slice ad m.es.length cap)) 38::L):=fun h=>h.d1;have sub2:∀{W A},Has 0 w0 W (A::aA b (aI m (.slice ad m.es.length cap)) 38::L)→Has 0 w0 W L:=fun h=>h.d2;refine sv hs hw fun a hs=>?_;refine cI hs (kt:=fun hc=>?_) (kf:=fun hc=>?_)
 ·have hj':j<m.es.length:=by simpa using hc
  obtain ⟨e,he,hd⟩:=dR hj';rw [hd] at hh;refine sc hs ?_;refine qS hs (hw.rdH (In.tl i) hm) he fun a g o hpc hs=>?_;refine eE hs (z:=zEnt) (cs:=bD e) (hc:=hpc) (hl:=by rfl) (c:=fun a hs=>?_);refine sn hs hw fun b8 a W hs hw=>?_;refine sx hs hw fun a W hs hw=>?_;rw [show IntKind.i64.wrap (x+1)=w64 (x+1) from rfl] at hs;have hq:kP m x y (e::m.es.drop (j+1))=(!(e.ix !=w64 (x+1)) && !decide (e.term<y) && !decide (e.term > m.term) && eS e && kP m e.ix e.term (m.es.drop (j+1))):=rfl;cases c1:(e.ix !=w64 (x+1)) with
  |true=>
   rw [c1] at hs hq;refine sv hs hw fun a hs=>?_;exact rt1 hs rfl rfl ⟨by rw [hq0,hh,hq];rfl,sub2 hw⟩
  |false=>
  rw [c1] at hs hq;refine sx hs hw fun a W hs hw=>?_;cases c2:decide (e.term<y) with
  |true=>
   rw [c2] at hs hq;refine sv hs hw fun a hs=>?_;exact rt1 hs rfl rfl ⟨by rw [hq0,hh,hq];rfl,sub2 hw⟩
  |false=>
  rw [c2] at hs hq;refine sx hs hw fun a W hs hw=>?_;cases c3:decide (e.term > m.term) with
  |true=>
   rw [c3] at hs hq;refine sv hs hw fun a hs=>?_;exact rt1 hs rfl rfl ⟨by rw [hq0,hh,hq];rfl,sub2 hw⟩
  |false=>
  rw [c3] at hs hq;refine sv hs hw fun a hs=>?_;refine cl hs ((wal_May_ent (e:=e)).ok hw) fun a W hs hw=>?_;cases c4:eS e with
  |false=>
   rw [c4] at hs hq;refine sv hs hw fun a hs=>?_;exact rt1 hs rfl rfl ⟨by rw [hq0,hh,hq];rfl,sub2 hw⟩
  |true=>
   rw [c4] at hs hq;refine zA hs hw ?_;clear hs;intro a hs;refine rgp [_,_,_,_,_,_] hs hw fun a W hs hw=>?_;refine sv hs hw fun a hs=>?_;exact bQ (j+1,e.ix,e.term) hs (sub1 hw) ⟨hj',by rw [hh,hq];rfl⟩ (by show m.es.length - (j+1)<m.es.length - j;omega) ⟨rfl,rfl,rfl,rfl,rfl,bR (i1 (by omega)),trivial⟩
 ·have:m.es.drop j= []:=List.drop_eq_nil_of_le (by simp at hc;omega);have hh:kP m m.ix m.lterm m.es=true:=by rw [hh,this];rfl
  have sub0:∀{W},Has 0 w0 W (aA b (aI m (.slice ad m.es.length cap)) 38::L)→Has 0 w0 W L:=fun h=>h.d1;refine sv hs hw fun a hs=>?_;cases c1:decide ((m.es.length:Int)≤8) with
  |false=>
   rw [c1] at hs;refine sv hs hw fun a hs=>?_;exact rt1 hs rfl rfl ⟨by rw [hq0,hh,c1];rfl,sub0 hw⟩
  |true=>
  rw [c1] at hs;refine sv hs hw fun a hs=>?_;have he:((m.es.length:Int) == 0)=decide ((m.es.length:Int)=0):=by rw [Bool.eq_iff_iff];simp
  rw [he] at hs;cases c2:decide ((m.es.length:Int)=0) with
  |true=>
   rw [c2] at hs;refine sv hs hw fun a hs=>?_;exact rt1 hs rfl rfl ⟨by rw [hq0,hh,c1,c2];rfl,sub0 hw⟩
  |false=>
   rw [c2] at hs;refine sv hs hw fun a hs=>?_;exact rt1 hs rfl rfl ⟨by rw [hq0,hh,c1,c2];rfl,sub0 hw⟩
theorem aHb (lo hi x y z:Int):inR lo hi [x,y,z]=((!decide (x<lo) && !decide (x > hi)) && ((!decide (y<lo) && !decide (y > hi)) && (!decide (z<lo) && !decide (z > hi)))):=by simp [inR]
theorem aHc (b:ByteArray):(b.toList == (⟨#[]⟩:ByteArray).toList)=(b.size == 0):=by
 have h:b.data.toList.length=b.size:=by rw [Array.length_toList];rfl
 rw [Go.ByteArray.toList_eq,Go.ByteArray.toList_eq];cases hb:b.data.toList with
 |nil=>rw [hb] at h;rw [←h];rfl
 |cons x l=>rw [hb] at h;rw [←h];rfl
theorem aCP (m:bS) (v:Value) (hm:fW H v m.es) (hc:m.snap.conf.size≤1000000) (i:In (Fz H) L) (hw:Has 0 w0 W L):
  Calls Tryz.prog 129 ⟨[.agg ⟨aI m v⟩]⟩ W fun e W'=>e= .returned (.bool (iS m))∧Has 0 w0 W' L:=by
 obtain ⟨ad,cap,rfl⟩:=hm.slice;have hlen:=hm.len
 have hq:iS m=(!decide (m.kind<1) && (!decide (m.kind > 5) && (srv m.from_ && (srv m.to_ && (in1 m.term && ((dB m.ix && (dB m.lterm && dB m.commit)) && (oI m &&
  ((!(m.yes && m.kind !=2 && m.kind !=4)) && (match m.kind == 5 with|false=>qG m.snap|true=>(dL m.snap.conf.data.toList).2 && fA m.snap))))))))):=by unfold iS;simp only [Bool.and_assoc];rfl
 refine enter Tryz.func129 Tryz.ntmps129 rfl rfl fun a hs=>?_;refine sc hs ?_;refine sn hs hw fun b a W hs hw=>?_;have sub1:∀{W A B},Has 0 w0 W (A::B::aA b (aI m (.slice ad m.es.length cap)) 38::L)→Has 0 w0 W L:=fun h=>h.sub (List.Sublist.cons _ (List.Sublist.cons _ (List.Sublist.cons _ (List.Sublist.refl _))));have sub2:∀{W},Has 0 w0 W (aA b (aI m (.slice ad m.es.length cap)) 38::L)→Has 0 w0 W L:=fun h=>h.d1;refine sv hs hw fun a hs=>?_;cases c1:decide (m.kind<1) with
 |true=>
  rw [c1] at hs hq;refine sv hs hw fun a hs=>?_;exact rt1 hs rfl rfl ⟨by rw [hq];rfl,sub2 hw⟩
 |false=>
 rw [c1] at hs hq;refine sv hs hw fun a hs=>?_;cases c2:decide (m.kind > 5) with
 |true=>
  rw [c2] at hs hq;refine sv hs hw fun a hs=>?_;exact rt1 hs rfl rfl ⟨by rw [hq];rfl,sub2 hw⟩
 |false=>
 rw [c2] at hs hq;refine sv hs hw fun a hs=>?_;refine cl hs ((raft_server (x:=m.from_)).ok hw) fun a W hs hw=>?_;cases c3:srv m.from_ with
 |false=>
  rw [c3] at hs hq;refine sv hs hw fun a hs=>?_;exact rt1 hs rfl rfl ⟨by rw [hq];rfl,sub2 hw⟩
 |true=>
 rw [c3] at hs hq;refine sv hs hw fun a hs=>?_;refine cl hs ((raft_server (x:=m.to_)).ok hw) fun a W hs hw=>?_;cases c4:srv m.to_ with
 |false=>
  rw [c4] at hs hq;refine sv hs hw fun a hs=>?_;exact rt1 hs rfl rfl ⟨by rw [hq];rfl,sub2 hw⟩
 |true=>
 rw [c4] at hs hq;refine sv hs hw fun a hs=>?_;refine sn hs hw fun b2 a W hs hw=>?_;refine sc hs ?_;refine cl hs ((aCO (l:=[m.term]) (by simp) (c:=⟨Pick.hd⟩)).ok hw) fun a W hs hw=>?_;rw [aBn,show (!decide (m.term<1) && !decide (m.term > 1099511627776))=in1 m.term from rfl] at hs;have hw:Has 0 w0 W (aA b (aI m (.slice ad m.es.length cap)) 38::L):=hw.d1;cases c5:in1 m.term with
 |false=>
  rw [c5] at hs hq;refine sv hs hw fun a hs=>?_;exact rt1 hs rfl rfl ⟨by rw [hq];rfl,sub2 hw⟩
 |true=>
 rw [c5] at hs hq;refine sv hs hw fun a hs=>?_;refine sn hs hw fun b3 a W hs hw=>?_;refine sc hs ?_;refine cl hs ((aCO (l:=[m.ix,m.lterm,m.commit]) (by simp) (c:=⟨Pick.hd⟩)).ok hw) fun a W hs hw=>?_;rw [aHb,show ((!decide (m.ix<0) && !decide (m.ix > 1099511627776)) && ((!decide (m.lterm<0) && !decide (m.lterm > 1099511627776)) && (!decide (m.commit<0) && !decide (m.commit > 1099511627776))))=(dB m.ix && (dB m.lterm && dB m.commit)) from rfl] at hs;have hw:Has 0 w0 W (aA b (aI m (.slice ad m.es.length cap)) 38::L):=hw.d1;cases c6:(dB m.ix && (dB m.lterm && dB m.commit)) with
 |false=>
  rw [c6] at hs hq;refine sv hs hw fun a hs=>?_;exact rt1 hs rfl rfl ⟨by rw [hq];rfl,sub2 hw⟩
 |true=>
 rw [c6] at hs hq;refine sv hs hw fun a hs=>?_;refine cl hs (aHa m _ hm (In.tl i) hw) fun a W hs hw=>?_;cases c7:oI m with
 |false=>
  rw [c7] at hs hq;refine sv hs hw fun a hs=>?_;exact rt1 hs rfl rfl ⟨by rw [hq];rfl,sub2 hw⟩
 |true=>
 rw [c7] at hs hq;have hq:iS m=((!(m.yes && m.kind !=2 && m.kind !=4)) && (match m.kind == 5 with|false=>qG m.snap|true=>(dL m.snap.conf.data.toList).2 && fA m.snap)):=hq;refine zE hs hw ?_;clear hs;intro a hs;refine sq ?_;cases c8:(m.yes && m.kind !=2 && m.kind !=4) with
 |true=>
  rw [c8] at hq;rw [Bool.and_eq_true,Bool.and_eq_true] at c8;refine sv hs hw fun a hs=>?_;rw [c8.1.1] at hs;refine sv hs hw fun a hs=>?_;rw [c8.1.2] at hs;refine sv hs hw fun a hs=>?_;rw [c8.2] at hs;refine sv hs hw fun a hs=>?_;exact rt1 hs rfl rfl ⟨by rw [hq];rfl,sub2 hw⟩
 |false=>
 rw [c8] at hq;refine eW (M:=fun a W=>Slots a 81 [(1,ptr b)]∧Has 0 w0 W (aA b (aI m (.slice ad m.es.length cap)) 38::L)) ?_ ?_
 ·refine sv hs hw fun a hs=>?_;cases y1:m.yes with
  |false=>
   rw [y1] at hs;refine sv hs hw fun a hs=>?_;exact ⟨hs.ot,hw⟩
  |true=>
  rw [y1] at hs;refine sv hs hw fun a hs=>?_;cases y2:m.kind !=2 with
  |false=>
   rw [y2] at hs;refine sv hs hw fun a hs=>?_;exact ⟨hs.ot,hw⟩
  |true=>
  rw [y2] at hs;refine sv hs hw fun a hs=>?_;have y3:(m.kind !=4)=false:=by rw [y1,y2] at c8;exact c8
  rw [y3] at hs;refine sc hs ?_;exact ⟨hs.ot,hw⟩
 clear hs hw;rintro a W ⟨hs,hw⟩;refine sv hs hw fun a hs=>?_;rw [show (m.kind !=5)=!(m.kind == 5) from rfl] at hs;cases c9:m.kind == 5 with
 |false=>
  rw [c9] at hs hq;refine sx hs hw fun a W hs hw=>?_;refine xC [(2,.i m.snap.ix,.i 0),(2,.i m.snap.term,.i 0),(9,.s m.snap.conf,.s ⟨#[]⟩),(9,.s m.snap.data,.s ⟨#[]⟩)] (qG m.snap) (by simp only [List.all_cons,List.all_nil,FV.eqv,aHc,qG,Bool.and_true,Bool.and_assoc]) hs (by simp only [List.mem_cons,List.not_mem_nil,or_false];rintro v (rfl|rfl|rfl|rfl) <;> first|exact sQ _ _|exact aAy _ _) fun a hs=>?_;refine sv hs hw fun a hs=>?_;exact rt1 hs rfl rfl ⟨by rw [hq];rfl,sub2 hw⟩
 |true=>
  rw [c9] at hs hq;refine sx hs hw fun a W hs hw=>?_;refine sg hs hw (fun s a W hs hw=>?_) (g:=tK hc);refine sv hs hw fun a hs=>?_;cases d1:(dL m.snap.conf.data.toList).2 with
  |false=>
   rw [d1] at hs hq;refine sv hs hw fun a hs=>?_;exact rt1 hs rfl rfl ⟨by rw [hq];rfl,sub2 (hw.d1)⟩
  |true=>
  rw [d1] at hs hq;refine sx hs hw fun a W hs hw=>?_;cases d2:fA m.snap with
  |false=>
   rw [d2] at hq;refine cl hs ((aH9 d2).ok hw) fun a W hs hw=>?_;refine sc hs ?_;refine yO hs (c:=fun a hs=>?_);refine sv hs hw fun a hs=>?_;exact rt1 hs rfl rfl ⟨by rw [hq];rfl,sub2 (hw.d1)⟩
  |true=>
   rw [d2] at hq;refine sg hs hw (fun s a W hs hw=>?_) (g:=yE d2);have hpos:0<(dC m.snap).length:=by unfold dC frB;simp
   have hne:s.1.isNone=false:=by
    obtain ⟨b,o,cap,hv,_⟩:=jZ (hw.rd_own In.hd) hpos;injection hv with hv1 _ _;rw [hv1];rfl
   refine sc hs ?_;refine yO hs (c:=fun a hs=>?_);rw [hne] at hs;refine sv hs hw fun a hs=>?_;exact rt1 hs rfl rfl ⟨by rw [hq];rfl,sub2 (hw.d2)⟩
end
end Go.Proofs.YtgpbngfehfbndaaGreatDoor.Sw
