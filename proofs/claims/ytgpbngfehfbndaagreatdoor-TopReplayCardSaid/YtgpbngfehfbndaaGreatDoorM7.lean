/-
  Texts of the proof, one behind the other (part 7).
-/
import Derived.Test.YtgpbngfehfbndaaGreatDoorM1
import Derived.Test.YtgpbngfehfbndaaGreatDoorM2
import Derived.Test.YtgpbngfehfbndaaGreatDoorM5
import Derived.Test.YtgpbngfehfbndaaGreatDoorM6
set_option maxHeartbeats 16000000
set_option linter.unusedVariables false
set_option maxRecDepth 10000
namespace Go.Proofs.YtgpbngfehfbndaaGreatDoor.Sw
open Go.RowKit Go.Sx
section
variable {H H':Fh} {w0 W:World} {R L:List Res}
theorem aGo (m:bP) (v:Value) (hm:fO H v m.es) (i:In (Fz H) L) (hw:Has 0 w0 W L):
  Calls Tryz.prog 205 ⟨[.agg ⟨aH m v⟩]⟩ W fun e W'=>e= .returned (.bool (nN m))∧Has 0 w0 W' L:=by
 obtain ⟨ad,cap,rfl⟩:=hm.slice
 have hlen:=hm.len
 have hq0:nN m=(jZ m m.ix m.lterm m.es && decide ((m.es.length:Int)≤8) && (decide ((m.es.length:Int)=0) || m.kind == 3)):=rfl
 refine enter Tryz.func205 Tryz.ntmps205 rfl rfl fun a hs=>?_
 refine sc hs ?_
 refine sn hs hw fun b a W hs hw=>?_
 refine zA hs hw ?_;clear hs;intro a hs
 refine rgp [_,_,_,_,_,_] hs hw fun a W hs hw=>?_
 refine sv hs hw fun a hs=>?_
 refine bX (σ:=Nat×Int×Int) (fun q=>[(1,ptr b),(3,.int .i64 q.2.1),(4,.int .i64 q.2.2),(12,.slice ad m.es.length cap),(13,.int .i64 (m.es.length:Int)),(14,.int .i64 (q.1:Int))]) (fun _=>aA b (aH m (.slice ad m.es.length cap)) 38::L) (fun q=>q.1≤m.es.length∧jZ m m.ix m.lterm m.es=jZ m q.2.1 q.2.2 (m.es.drop q.1)) (fun q=>m.es.length - q.1) (0,m.ix,m.lterm) ⟨Nat.zero_le _,rfl⟩ hs ⟨rfl,rfl,rfl,rfl,rfl,rfl,trivial⟩ hw ?_
 clear hs hw
 rintro ⟨j,x,y⟩ a W ⟨hj,hh⟩ hs hw
 simp only at hj hh hs hw
 have sub1:∀{W A},Has 0 w0 W (A::aA b (aH m (.slice ad m.es.length cap)) 38::L)→Has 0 w0 W (aA b (aH m (.slice ad m.es.length cap)) 38::L):=fun h=>h.sub (List.Sublist.cons _ (List.Sublist.refl _))
 have sub2:∀{W A},Has 0 w0 W (A::aA b (aH m (.slice ad m.es.length cap)) 38::L)→Has 0 w0 W L:=fun h=>h.sub (List.Sublist.cons _ (List.Sublist.cons _ (List.Sublist.refl _)))
 refine sv hs hw fun a hs=>?_
 refine cI hs (kt:=fun hc=>?_) (kf:=fun hc=>?_)
 ·have hj':j<m.es.length:=by simpa using hc
  obtain ⟨e,he,hd⟩:=dS hj'
  rw [hd] at hh
  refine sc hs ?_
  refine pX hs (hw.rdH (In.tl i) hm) he fun a g o hpc hs=>?_
  refine eC hs (z:=zEnt) (cs:=bE e) (hc:=hpc) (hl:=by rfl) (c:=fun a hs=>?_)
  refine sn hs hw fun b8 a W hs hw=>?_
  refine sx hs hw fun a W hs hw=>?_
  rw [show IntKind.i64.wrap (x+1)=w64 (x+1) from rfl] at hs
  have hq:jZ m x y (e::m.es.drop (j+1))=(!(e.ix !=w64 (x+1)) && !decide (e.term<y) && !decide (e.term > m.term) && eN e && jZ m e.ix e.term (m.es.drop (j+1))):=rfl
  cases c1:(e.ix !=w64 (x+1)) with
  |true=>
   rw [c1] at hs hq
   refine sv hs hw fun a hs=>?_
   exact rt1 hs rfl rfl ⟨by rw [hq0,hh,hq];rfl,sub2 hw⟩
  |false=>
  rw [c1] at hs hq
  refine sx hs hw fun a W hs hw=>?_
  cases c2:decide (e.term<y) with
  |true=>
   rw [c2] at hs hq
   refine sv hs hw fun a hs=>?_
   exact rt1 hs rfl rfl ⟨by rw [hq0,hh,hq];rfl,sub2 hw⟩
  |false=>
  rw [c2] at hs hq
  refine sx hs hw fun a W hs hw=>?_
  cases c3:decide (e.term > m.term) with
  |true=>
   rw [c3] at hs hq
   refine sv hs hw fun a hs=>?_
   exact rt1 hs rfl rfl ⟨by rw [hq0,hh,hq];rfl,sub2 hw⟩
  |false=>
  rw [c3] at hs hq
  refine sv hs hw fun a hs=>?_
  refine cl hs ((wal_May_ent (e:=e)).ok hw) fun a W hs hw=>?_
  cases c4:eN e with
  |false=>
   rw [c4] at hs hq
   refine sv hs hw fun a hs=>?_
   exact rt1 hs rfl rfl ⟨by rw [hq0,hh,hq];rfl,sub2 hw⟩
  |true=>
   rw [c4] at hs hq
   refine zA hs hw ?_;clear hs;intro a hs
   refine rgp [_,_,_,_,_,_] hs hw fun a W hs hw=>?_
   refine sv hs hw fun a hs=>?_
   exact bR (j+1,e.ix,e.term) hs (sub1 hw) ⟨hj',by rw [hh,hq];rfl⟩ (by show m.es.length - (j+1)<m.es.length - j;omega) ⟨rfl,rfl,rfl,rfl,rfl,bS (i1 (by omega)),trivial⟩
 ·have:m.es.drop j= []:=List.drop_eq_nil_of_le (by simp at hc;omega)
  have hh:jZ m m.ix m.lterm m.es=true:=by rw [hh,this];rfl
  have sub0:∀{W},Has 0 w0 W (aA b (aH m (.slice ad m.es.length cap)) 38::L)→Has 0 w0 W L:=fun h=>h.sub (List.Sublist.cons _ (List.Sublist.refl _))
  refine sv hs hw fun a hs=>?_
  cases c1:decide ((m.es.length:Int)≤8) with
  |false=>
   rw [c1] at hs
   refine sv hs hw fun a hs=>?_
   exact rt1 hs rfl rfl ⟨by rw [hq0,hh,c1];rfl,sub0 hw⟩
  |true=>
  rw [c1] at hs
  refine sv hs hw fun a hs=>?_
  have he:((m.es.length:Int) == 0)=decide ((m.es.length:Int)=0):=by rw [Bool.eq_iff_iff];simp
  rw [he] at hs
  cases c2:decide ((m.es.length:Int)=0) with
  |true=>
   rw [c2] at hs
   refine sv hs hw fun a hs=>?_
   exact rt1 hs rfl rfl ⟨by rw [hq0,hh,c1,c2];rfl,sub0 hw⟩
  |false=>
   rw [c2] at hs
   refine sv hs hw fun a hs=>?_
   exact rt1 hs rfl rfl ⟨by rw [hq0,hh,c1,c2];rfl,sub0 hw⟩
theorem aGp (lo hi x y z:Int):inR lo hi [x,y,z]=((!decide (x<lo) && !decide (x > hi)) && ((!decide (y<lo) && !decide (y > hi)) && (!decide (z<lo) && !decide (z > hi)))):=by simp [inR]
theorem aGq (b:ByteArray):(b.toList == (⟨#[]⟩:ByteArray).toList)=(b.size == 0):=by
 have h:b.data.toList.length=b.size:=by rw [Array.length_toList];rfl
 rw [Go.ByteArray.toList_eq,Go.ByteArray.toList_eq]
 cases hb:b.data.toList with
 |nil=>rw [hb] at h;rw [←h];rfl
 |cons x l=>rw [hb] at h;rw [←h];rfl
theorem aB2 (m:bP) (v:Value) (hm:fO H v m.es) (hc:m.snap.conf.size≤1000000) (i:In (Fz H) L) (hw:Has 0 w0 W L):
  Calls Tryz.prog 129 ⟨[.agg ⟨aH m v⟩]⟩ W fun e W'=>e= .returned (.bool (iH m))∧Has 0 w0 W' L:=by
 obtain ⟨ad,cap,rfl⟩:=hm.slice
 have hlen:=hm.len
 have hq:iH m=(!decide (m.kind<1) && (!decide (m.kind > 5) && (srv m.from_ && (srv m.to_ && (in1 m.term && ((cX m.ix && (cX m.lterm && cX m.commit)) && (nN m &&
  ((!(m.yes && m.kind !=2 && m.kind !=4)) && (match m.kind == 5 with|false=>pN m.snap|true=>(dK m.snap.conf.data.toList).2 && eU m.snap))))))))):=by unfold iH;simp only [Bool.and_assoc];rfl
 refine enter Tryz.func129 Tryz.ntmps129 rfl rfl fun a hs=>?_
 refine sc hs ?_
 refine sn hs hw fun b a W hs hw=>?_
 have sub1:∀{W A B},Has 0 w0 W (A::B::aA b (aH m (.slice ad m.es.length cap)) 38::L)→Has 0 w0 W L:=fun h=>h.sub (List.Sublist.cons _ (List.Sublist.cons _ (List.Sublist.cons _ (List.Sublist.refl _))))
 have sub2:∀{W},Has 0 w0 W (aA b (aH m (.slice ad m.es.length cap)) 38::L)→Has 0 w0 W L:=fun h=>h.sub (List.Sublist.cons _ (List.Sublist.refl _))
 refine sv hs hw fun a hs=>?_
 cases c1:decide (m.kind<1) with
 |true=>
  rw [c1] at hs hq
  refine sv hs hw fun a hs=>?_
  exact rt1 hs rfl rfl ⟨by rw [hq];rfl,sub2 hw⟩
 |false=>
 rw [c1] at hs hq
 refine sv hs hw fun a hs=>?_
 cases c2:decide (m.kind > 5) with
 |true=>
  rw [c2] at hs hq
  refine sv hs hw fun a hs=>?_
  exact rt1 hs rfl rfl ⟨by rw [hq];rfl,sub2 hw⟩
 |false=>
 rw [c2] at hs hq
 refine sv hs hw fun a hs=>?_
 refine cl hs ((raft_server (x:=m.from_)).ok hw) fun a W hs hw=>?_
 cases c3:srv m.from_ with
 |false=>
  rw [c3] at hs hq
  refine sv hs hw fun a hs=>?_
  exact rt1 hs rfl rfl ⟨by rw [hq];rfl,sub2 hw⟩
 |true=>
 rw [c3] at hs hq
 refine sv hs hw fun a hs=>?_
 refine cl hs ((raft_server (x:=m.to_)).ok hw) fun a W hs hw=>?_
 cases c4:srv m.to_ with
 |false=>
  rw [c4] at hs hq
  refine sv hs hw fun a hs=>?_
  exact rt1 hs rfl rfl ⟨by rw [hq];rfl,sub2 hw⟩
 |true=>
 rw [c4] at hs hq
 refine sv hs hw fun a hs=>?_
 refine sn hs hw fun b2 a W hs hw=>?_
 refine sc hs ?_
 refine cl hs ((aB1 (l:=[m.term]) (by simp) (c:=⟨Pick.hd⟩)).ok hw) fun a W hs hw=>?_
 rw [aBA,show (!decide (m.term<1) && !decide (m.term > 1099511627776))=in1 m.term from rfl] at hs
 have hw:Has 0 w0 W (aA b (aH m (.slice ad m.es.length cap)) 38::L):=hw.sub (List.Sublist.cons _ (List.Sublist.refl _))
 cases c5:in1 m.term with
 |false=>
  rw [c5] at hs hq
  refine sv hs hw fun a hs=>?_
  exact rt1 hs rfl rfl ⟨by rw [hq];rfl,sub2 hw⟩
 |true=>
 rw [c5] at hs hq
 refine sv hs hw fun a hs=>?_
 refine sn hs hw fun b3 a W hs hw=>?_
 refine sc hs ?_
 refine cl hs ((aB1 (l:=[m.ix,m.lterm,m.commit]) (by simp) (c:=⟨Pick.hd⟩)).ok hw) fun a W hs hw=>?_
 rw [aGp,show ((!decide (m.ix<0) && !decide (m.ix > 1099511627776)) && ((!decide (m.lterm<0) && !decide (m.lterm > 1099511627776)) && (!decide (m.commit<0) && !decide (m.commit > 1099511627776))))=(cX m.ix && (cX m.lterm && cX m.commit)) from rfl] at hs
 have hw:Has 0 w0 W (aA b (aH m (.slice ad m.es.length cap)) 38::L):=hw.sub (List.Sublist.cons _ (List.Sublist.refl _))
 cases c6:(cX m.ix && (cX m.lterm && cX m.commit)) with
 |false=>
  rw [c6] at hs hq
  refine sv hs hw fun a hs=>?_
  exact rt1 hs rfl rfl ⟨by rw [hq];rfl,sub2 hw⟩
 |true=>
 rw [c6] at hs hq
 refine sv hs hw fun a hs=>?_
 refine cl hs (aGo m _ hm (In.tl i) hw) fun a W hs hw=>?_
 cases c7:nN m with
 |false=>
  rw [c7] at hs hq
  refine sv hs hw fun a hs=>?_
  exact rt1 hs rfl rfl ⟨by rw [hq];rfl,sub2 hw⟩
 |true=>
 rw [c7] at hs hq
 have hq:iH m=((!(m.yes && m.kind !=2 && m.kind !=4)) && (match m.kind == 5 with|false=>pN m.snap|true=>(dK m.snap.conf.data.toList).2 && eU m.snap)):=hq
 refine zE hs hw ?_;clear hs;intro a hs
 refine sq ?_
 cases c8:(m.yes && m.kind !=2 && m.kind !=4) with
 |true=>
  rw [c8] at hq
  rw [Bool.and_eq_true,Bool.and_eq_true] at c8
  refine sv hs hw fun a hs=>?_
  rw [c8.1.1] at hs
  refine sv hs hw fun a hs=>?_
  rw [c8.1.2] at hs
  refine sv hs hw fun a hs=>?_
  rw [c8.2] at hs
  refine sv hs hw fun a hs=>?_
  exact rt1 hs rfl rfl ⟨by rw [hq];rfl,sub2 hw⟩
 |false=>
 rw [c8] at hq
 refine fC (M:=fun a W=>Slots a 81 [(1,ptr b)]∧Has 0 w0 W (aA b (aH m (.slice ad m.es.length cap)) 38::L)) ?_ ?_
 ·refine sv hs hw fun a hs=>?_
  cases y1:m.yes with
  |false=>
   rw [y1] at hs
   refine sv hs hw fun a hs=>?_
   exact ⟨hs.of ⟨rfl,trivial⟩,hw⟩
  |true=>
  rw [y1] at hs
  refine sv hs hw fun a hs=>?_
  cases y2:m.kind !=2 with
  |false=>
   rw [y2] at hs
   refine sv hs hw fun a hs=>?_
   exact ⟨hs.of ⟨rfl,trivial⟩,hw⟩
  |true=>
  rw [y2] at hs
  refine sv hs hw fun a hs=>?_
  have y3:(m.kind !=4)=false:=by rw [y1,y2] at c8;exact c8
  rw [y3] at hs
  refine sc hs ?_
  exact ⟨hs.of ⟨rfl,trivial⟩,hw⟩
 clear hs hw
 rintro a W ⟨hs,hw⟩
 refine sv hs hw fun a hs=>?_
 rw [show (m.kind !=5)=!(m.kind == 5) from rfl] at hs
 cases c9:m.kind == 5 with
 |false=>
  rw [c9] at hs hq
  refine sx hs hw fun a W hs hw=>?_
  refine vL [(2,.i m.snap.ix,.i 0),(2,.i m.snap.term,.i 0),(9,.s m.snap.conf,.s ⟨#[]⟩),(9,.s m.snap.data,.s ⟨#[]⟩)] (pN m.snap) (by simp only [List.all_cons,List.all_nil,FV.eqv,aGq,pN,Bool.and_true,Bool.and_assoc]) hs (by simp only [List.mem_cons,List.not_mem_nil,or_false];rintro v (rfl|rfl|rfl|rfl) <;> first|exact rR _ _|exact aAM _ _) fun a hs=>?_
  refine sv hs hw fun a hs=>?_
  exact rt1 hs rfl rfl ⟨by rw [hq];rfl,sub2 hw⟩
 |true=>
  rw [c9] at hs hq
  refine sx hs hw fun a W hs hw=>?_
  refine sg hs hw (fun s a W hs hw=>?_) (g:=sJ hc)
  refine sv hs hw fun a hs=>?_
  cases d1:(dK m.snap.conf.data.toList).2 with
  |false=>
   rw [d1] at hs hq
   refine sv hs hw fun a hs=>?_
   exact rt1 hs rfl rfl ⟨by rw [hq];rfl,sub2 (hw.sub (List.Sublist.cons _ (List.Sublist.refl _)))⟩
  |true=>
  rw [d1] at hs hq
  refine sx hs hw fun a W hs hw=>?_
  cases d2:eU m.snap with
  |false=>
   rw [d2] at hq
   refine cl hs ((aGn d2).ok hw) fun a W hs hw=>?_
   refine sc hs ?_
   refine xC hs (c:=fun a hs=>?_)
   refine sv hs hw fun a hs=>?_
   exact rt1 hs rfl rfl ⟨by rw [hq];rfl,sub2 (hw.sub (List.Sublist.cons _ (List.Sublist.refl _)))⟩
  |true=>
   rw [d2] at hq
   refine sg hs hw (fun s a W hs hw=>?_) (g:=wT d2)
   have hpos:0<(cZ m.snap).length:=by unfold cZ frB;simp
   have hne:s.1.isNone=false:=by
    obtain ⟨b,o,cap,hv,_⟩:=j8 (hw.rd_own In.hd) hpos
    injection hv with hv1 _ _
    rw [hv1];rfl
   refine sc hs ?_
   refine xC hs (c:=fun a hs=>?_)
   rw [hne] at hs
   refine sv hs hw fun a hs=>?_
   exact rt1 hs rfl rfl ⟨by rw [hq];rfl,sub2 (hw.sub (List.Sublist.cons _ (List.Sublist.cons _ (List.Sublist.refl _))))⟩
end
abbrev cV (l:List Int):List Value:=l.map fun x=>Value.int .i64 x
theorem xE (S:List Int) (j:Nat):(mK S j).length=S.length:=by simp [mK]
theorem aB3:∀(j:Nat) (S:List Int),(gE j S).length=S.length
 |0,_=>rfl
 |j+1,S=>by
  unfold gE
  split
  ·rw [aB3 j,xE]
  ·rfl
theorem aB4:∀(f i:Nat) (S:List Int),(iG f i S).length=S.length
 |0,_,_=>rfl
 |f+1,i,S=>by rw [iG,aB4 f,aB3]
theorem aB5 (l:List Int):(dR l).length=l.length:=aB4 _ _ _
theorem sX {S:List Int} {ext:List Value} {k:Nat} {v:Int} (h:k<S.length):ov (cV S ++ ext) (0+k*1) [.int .i64 v]=cV (S.set k v) ++ ext:=by
 have h2:0+k*1+ [Value.int .i64 v].length≤(cV S ++ ext).length:=by simp;omega
 rw [kD _ _ _ h2,show 0+k*1=k by omega]
 have e:(cV S ++ ext).set k (Value.int .i64 v)=_:=List.set_eq_take_append_cons_drop
 rw [if_pos (by simp;omega)] at e
 rw [List.append_assoc,List.length_singleton]
 rw [show [Value.int IntKind.i64 v] ++ List.drop (k+1) (cV S ++ ext)=Value.int IntKind.i64 v::List.drop (k+1) (cV S ++ ext) from rfl,←e,List.set_append_left _ _ (by simp;omega)]
 simp [List.map_set]
theorem qD {S:List Int} {ext:List Value} {k:Nat} (h:k<S.length):(cV S ++ ext)[0+k*1]? =some (.int .i64 (S.getD k 0)):=by
 rw [show 0+k*1=k by omega,List.getElem?_append_left (by simp;omega),List.getElem?_map,List.getD_eq_getElem?_getD,List.getElem?_eq_getElem h];rfl
theorem aB6 (f:Nat) {i:Nat} {S:List Int} (h:f=0):iG f i S=S:=by subst h;rfl
instance less_int64 {x y:Int} {L:List Res}:Get Tryz.prog 328 [.int .i64 x,.int .i64 y] L (.bool (decide (x<y))) L:=⟨fun {w W} hw=>by
 have h1:(x !=x)=false:=by simp
 have hn:∀{a:Act} {z:Int},Calls Tryz.prog 334 ⟨[.int .i64 z]⟩ W fun e W'=>e= .returned (.bool false)∧Has 0 w W' L:=by
  intro _ z
  refine enter Tryz.func334 Tryz.ntmps334 rfl rfl fun a hs=>?_
  refine sv hs hw fun a hs=>?_
  rw [show (z !=z)=false by simp] at hs
  exact rt1 hs rfl rfl ⟨rfl,hw⟩
 refine enter Tryz.func328 Tryz.ntmps328 rfl rfl fun a hs=>?_
 refine sv hs hw fun a hs=>?_
 refine cl hs (hn (a:=a)) fun a W hs hw=>?_
 refine sv hs hw fun a hs=>?_
 exact rt1 hs rfl rfl ⟨rfl,hw⟩⟩
theorem aGr {g cap n:Nat} {L:List Res} {ext:List Value} (l:List Int) (hn:l.length=n) (hl:n≤12):Get Tryz.prog 322 [.slice (some ⟨g,0,none⟩) n cap,.int .i64 0,.int .i64 (n:Int)] (aA g (cV l ++ ext) 2::L) (.tuple ⟨[]⟩) (aA g (cV (dR l) ++ ext) 2::L):=⟨fun {w W} hw=>by
 refine enter Tryz.func322 Tryz.ntmps322 rfl rfl fun a hs=>?_
 refine sv hs hw fun a hs=>?_
 refine bX (σ:=Nat×List Int) (fun q=>[(0,.slice (some ⟨g,0,none⟩) n cap),(1,.int .i64 0),(2,.int .i64 (n:Int)),(6,.int .i64 (q.1:Int))]) (fun q=>aA g (cV q.2 ++ ext) 2::L) (fun q=>1≤q.1∧q.1≤n+1∧q.2.length=n∧dR l=iG (n - q.1) q.1 q.2) (fun q=>n+1 - q.1) (1,l) ⟨Nat.le_refl _,by omega,hn,by unfold dR;rw [hn]⟩ hs ⟨rfl,rfl,rfl,rfl,trivial⟩ hw ?_
 clear hs hw
 rintro ⟨i,S⟩ a W ⟨h1,h2,h3,h4⟩ hs hw
 simp only at h1 h2 h3 h4 hs hw
 refine sv hs hw fun a hs=>?_
 refine cI hs (kt:=fun hc=>?_) (kf:=fun hc=>?_)
 ·have hi:i<n:=by simpa using hc
  have h5:dR l=iG (n - (i+1)) (i+1) (gE i S):=by rw [h4,show n - i=(n - (i+1))+1 by omega];rfl
  refine sv hs hw fun a hs=>?_
  refine bX (σ:=Nat×List Int) (fun q=>[(0,.slice (some ⟨g,0,none⟩) n cap),(1,.int .i64 0),(2,.int .i64 (n:Int)),(6,.int .i64 (i:Int)),(7,.int .i64 (q.1:Int))]) (fun q=>aA g (cV q.2 ++ ext) 2::L) (fun q=>q.1≤i∧q.2.length=n∧gE i S=gE q.1 q.2) (fun q=>q.1) (i,S) ⟨Nat.le_refl _,h3,rfl⟩ hs ⟨rfl,rfl,rfl,rfl,rfl,trivial⟩ hw ?_
  clear hs hw
  rintro ⟨j,S'⟩ a W ⟨g1,g2,g3⟩ hs hw
  simp only at g1 g2 g3 hs hw
  have out:∀{a:Act} {W:World} {T:List (Nat×Value)},gE i S=S'→Slots a 49 T→lk T 0=some (.slice (some ⟨g,0,none⟩) n cap)→lk T 1=some (.int .i64 0)→lk T 2=some (.int .i64 (n:Int))→lk T 6=some (.int .i64 (IntKind.i64.wrap ((i:Int)+1)))→Has 0 w W (aA g (cV S' ++ ext) 2::L)→∃s':Nat×List Int,(1≤s'.1∧s'.1≤n+1∧s'.2.length=n∧dR l=iG (n - s'.1) s'.1 s'.2)∧n+1 - s'.1<n+1 - i∧Slots a 49 [(0,.slice (some ⟨g,0,none⟩) n cap),(1,.int .i64 0),(2,.int .i64 (n:Int)),(6,.int .i64 (s'.1:Int))]∧Has 0 w W (aA g (cV s'.2 ++ ext) 2::L):=by
   intro a W T e hs k0 k1 k2 k6 hw
   exact ⟨(i+1,S'),⟨by show 1≤i+1;omega,by show i+1≤n+1;omega,g2,by rw [h5,e]⟩,by show n+1 - (i+1)<n+1 - i;omega,hs.of ⟨k0,k1,k2,by rw [k6];exact bS (i1 (by omega)),trivial⟩,hw⟩
  cases j with
  |zero=>
   refine zG hs ?_
   refine rgp [_,_,_,_,_,_,_,_,_,_,_,_,_,_,_] hs hw fun a W hs hw=>?_
   refine sv hs hw fun a hs=>?_
   exact out g3 hs rfl rfl rfl rfl hw
  |succ j=>
   have he:decide (((j+1:Nat):Int) > 0)=true:=decide_eq_true (by omega)
   have ej:IntKind.i64.wrap (((j+1:Nat):Int) - 1)=(j:Int):=by rw [IntWalk.i64_in _ (by omega)];omega
   have hk0:(0:Int)≤((j+1:Nat):Int):=by omega
   have hk1:((j+1:Nat):Int)<(n:Int):=by omega
   have hk2:(0:Int)≤IntKind.i64.wrap (((j+1:Nat):Int) - 1):=by rw [ej];omega
   have hk3:IntKind.i64.wrap (((j+1:Nat):Int) - 1)<(n:Int):=by rw [ej];omega
   have hl1:(cV S' ++ ext)[0+((j+1:Nat):Int).toNat*1]? =some (.int .i64 (S'.getD (j+1) 0)):=qD (by omega)
   have hl2:(cV S' ++ ext)[0+(IntKind.i64.wrap (((j+1:Nat):Int) - 1)).toNat*1]? =some (.int .i64 (S'.getD j 0)):=by rw [ej];exact qD (by omega)
   have hsk:gE (j+1) S'=match decide (S'.getD (j+1) 0<S'.getD j 0) with|true=>gE j (mK S' j)|false=>S':=rfl
   refine zG hs ?_
   refine rgq [_,_,_,_,_,_,_,_,_,_,_,_,_,_,_] hs hw fun a W hs hw=>?_
   replace hs:Slots a 49 [(30,.bool (decide (S'.getD (j+1) 0<S'.getD j 0))),(0,.slice (some ⟨g,0,none⟩) n cap),(1,.int .i64 0),(2,.int .i64 (n:Int)),(6,.int .i64 (i:Int)),(7,.int .i64 ((j+1:Nat):Int))]:=hs.of ⟨rfl,rfl,rfl,rfl,rfl,rfl,trivial⟩
   cases c:decide (S'.getD (j+1) 0<S'.getD j 0) with
   |false=>
    rw [c] at hs hsk
    refine sv hs hw fun a hs=>?_
    exact out (g3.trans hsk) hs rfl rfl rfl rfl hw
   |true=>
    rw [c] at hs hsk
    refine zG hs ?_
    have hl3:Nat.ble (0+((j+1:Nat):Int).toNat*1+ [Value.int .i64 (S'.getD j 0)].length) (cV S' ++ ext).length=true:=Nat.ble_eq_true_of_le (by simp;omega)
    have hl4:Nat.ble (0+(IntKind.i64.wrap (((j+1:Nat):Int) - 1)).toNat*1+ [Value.int .i64 (S'.getD (j+1) 0)].length) (ov (cV S' ++ ext) (0+((j+1:Nat):Int).toNat*1) [.int .i64 (S'.getD j 0)]).length=true:=Nat.ble_eq_true_of_le (by rw [l0,ej];simp;omega)
    refine bF [15,17] [.f 0 0,.f 0 0,.f 0 1,.f 0 1,.f 0 1,.f 0 0,.f 0 0,.f 0 0,.f 0 0,.f 0 0,.f 0 0,.f 0 0,.f 0 0,.f 0 0,.f 0 0,.m 0,.f 1 1,.m 1] [.c0 _,.c0 _,.c0 _,.c0 _,.c0 _,.c0 _,.c0 _,.c0 _,.c0 _,.c0 _,.c0 _,.c0 _,.c0 _,.c0 _,.c0 _,.c1 (fun x=>undef),.c1 _,.c2 (fun x y=>undef)] (aA g (cV S' ++ ext) 2::L) (fun x=>aA g (ov (cV S' ++ ext) (0+((j+1:Nat):Int).toNat*1) [.int .i64 (S'.getD j 0)]) 2::L) (fun x y=>aA g (ov (ov (cV S' ++ ext) (0+((j+1:Nat):Int).toNat*1) [.int .i64 (S'.getD j 0)]) (0+(IntKind.i64.wrap (((j+1:Nat):Int) - 1)).toNat*1) [.int .i64 (S'.getD (j+1) 0)]) 2::L) (fun x y z=>[]) (fun x y z t=>[]) hs hw ?kk ⟨drs,drs,drs,drs,drs,drs,drs,drs,drs,drs,drs,drs,drs,drs,drs,drm,drs,drm,trivial⟩
    case kk=>
     intro _ _ a W hs hw
     rw [ej,Int.toNat_natCast,Int.toNat_natCast,sX (by omega),sX (by rw [List.length_set];omega)] at hw
     replace hs:Slots a 49 [(0,.slice (some ⟨g,0,none⟩) n cap),(1,.int .i64 0),(2,.int .i64 (n:Int)),(6,.int .i64 (i:Int)),(7,.int .i64 ((j+1:Nat):Int))]:=hs.of ⟨rfl,rfl,rfl,rfl,rfl,trivial⟩
     refine sv hs hw fun a hs=>?_
     exact bR (j,mK S' j) hs hw ⟨by show j≤i;omega,by rw [xE];exact g2,g3.trans hsk⟩ (by show j<j+1;omega) ⟨rfl,rfl,rfl,rfl,bS ej,trivial⟩
 ·have h6:iG (n - i) i S=S:=aB6 _ (by simp at hc;omega)
  rw [h6] at h4
  rw [h4]
  refine sc hs ?_
  exact cO hs rfl ⟨rfl,hw⟩⟩
theorem aGs {g cap:Nat} {L:List Res} {ext:List Value} (l:List Int) (hl:l.length≤12):Get Tryz.prog 312 [.slice (some ⟨g,0,none⟩) l.length cap] (aA g (cV l ++ ext) 2::L) (.tuple ⟨[]⟩) (aA g (cV (dR l) ++ ext) 2::L):=⟨fun {w W} hw=>by
 have hp:∀{W:World} {q:Int},Has 0 w W (aA g (cV l ++ ext) 2::L)→Calls Tryz.prog 319 ⟨[.slice (some ⟨g,0,none⟩) l.length cap,.int .i64 0,.int .i64 (l.length:Int),.int .i64 q]⟩ W fun e W'=>e= .returned (.tuple ⟨[]⟩)∧Has 0 w W' (aA g (cV (dR l) ++ ext) 2::L):=by
  intro W q hw
  refine enter Tryz.func319 Tryz.ntmps319 rfl rfl fun a hs=>?_
  refine sv hs hw fun a hs=>?_
  refine bX (σ:=Unit) (fun _=>[(0,.slice (some ⟨g,0,none⟩) l.length cap),(1,.int .i64 0),(2,.int .i64 (l.length:Int))]) (fun _=>aA g (cV l ++ ext) 2::L) (fun _=>True) (fun _=>0) () trivial hs ⟨rfl,rfl,rfl,trivial⟩ hw ?_
  clear hs hw
  intro _ a W _ hs hw
  refine sv hs hw fun a hs=>?_
  rw [show decide (IntKind.i64.wrap ((l.length:Int) - 0)≤12)=true from decide_eq_true (by rw [IntWalk.i64_in _ (by omega)];omega)] at hs
  refine sv hs hw fun a hs=>?_
  refine cl hs ((aGr l rfl hl).ok hw) fun a W hs hw=>?_
  refine sc hs ?_
  first
   |exact rt0 hs rfl ⟨rfl,hw⟩
   |exact cO hs rfl ⟨rfl,hw⟩
 refine enter Tryz.func312 Tryz.ntmps312 rfl rfl fun a hs=>?_
 refine sv hs hw fun a hs=>?_
 refine aF hs (hc:=Tryz.bits_Len (IntKind.u64.wrap (l.length:Int)) W (by rw [IntKind.wrap_u64];omega) (by rw [IntKind.wrap_u64];omega)) (k:=?_)
 rintro e W' ⟨rfl,rfl⟩
 refine ⟨_,rfl,fun a hs=>?_⟩
 refine cl hs (hp hw) fun a W hs hw=>?_
 refine sc hs ?_
 exact cO hs rfl ⟨rfl,hw⟩⟩
theorem aGt {g cap n:Nat} {L:List Res} {ext:List Value} (l:List Int) (hn:l.length=n) (hl:n≤12):Get Tryz.prog 282 [.slice (some ⟨g,0,none⟩) n cap,.int .i64 0,.int .i64 (n:Int)] (aA g (cV l ++ ext) 3::L) (.tuple ⟨[]⟩) (aA g (cV (dR l) ++ ext) 3::L):=⟨fun {w W} hw=>by
 refine enter Tryz.func282 Tryz.ntmps282 rfl rfl fun a hs=>?_
 refine sv hs hw fun a hs=>?_
 refine bX (σ:=Nat×List Int) (fun q=>[(0,.slice (some ⟨g,0,none⟩) n cap),(1,.int .i64 0),(2,.int .i64 (n:Int)),(6,.int .i64 (q.1:Int))]) (fun q=>aA g (cV q.2 ++ ext) 3::L) (fun q=>1≤q.1∧q.1≤n+1∧q.2.length=n∧dR l=iG (n - q.1) q.1 q.2) (fun q=>n+1 - q.1) (1,l) ⟨Nat.le_refl _,by omega,hn,by unfold dR;rw [hn]⟩ hs ⟨rfl,rfl,rfl,rfl,trivial⟩ hw ?_
 clear hs hw
 rintro ⟨i,S⟩ a W ⟨h1,h2,h3,h4⟩ hs hw
 simp only at h1 h2 h3 h4 hs hw
 refine sv hs hw fun a hs=>?_
 refine cI hs (kt:=fun hc=>?_) (kf:=fun hc=>?_)
 ·have hi:i<n:=by simpa using hc
  have h5:dR l=iG (n - (i+1)) (i+1) (gE i S):=by rw [h4,show n - i=(n - (i+1))+1 by omega];rfl
  refine sv hs hw fun a hs=>?_
  refine bX (σ:=Nat×List Int) (fun q=>[(0,.slice (some ⟨g,0,none⟩) n cap),(1,.int .i64 0),(2,.int .i64 (n:Int)),(6,.int .i64 (i:Int)),(7,.int .i64 (q.1:Int))]) (fun q=>aA g (cV q.2 ++ ext) 3::L) (fun q=>q.1≤i∧q.2.length=n∧gE i S=gE q.1 q.2) (fun q=>q.1) (i,S) ⟨Nat.le_refl _,h3,rfl⟩ hs ⟨rfl,rfl,rfl,rfl,rfl,trivial⟩ hw ?_
  clear hs hw
  rintro ⟨j,S'⟩ a W ⟨g1,g2,g3⟩ hs hw
  simp only at g1 g2 g3 hs hw
  have out:∀{a:Act} {W:World} {T:List (Nat×Value)},gE i S=S'→Slots a 49 T→lk T 0=some (.slice (some ⟨g,0,none⟩) n cap)→lk T 1=some (.int .i64 0)→lk T 2=some (.int .i64 (n:Int))→lk T 6=some (.int .i64 (IntKind.i64.wrap ((i:Int)+1)))→Has 0 w W (aA g (cV S' ++ ext) 3::L)→∃s':Nat×List Int,(1≤s'.1∧s'.1≤n+1∧s'.2.length=n∧dR l=iG (n - s'.1) s'.1 s'.2)∧n+1 - s'.1<n+1 - i∧Slots a 49 [(0,.slice (some ⟨g,0,none⟩) n cap),(1,.int .i64 0),(2,.int .i64 (n:Int)),(6,.int .i64 (s'.1:Int))]∧Has 0 w W (aA g (cV s'.2 ++ ext) 3::L):=by
   intro a W T e hs k0 k1 k2 k6 hw
   exact ⟨(i+1,S'),⟨by show 1≤i+1;omega,by show i+1≤n+1;omega,g2,by rw [h5,e]⟩,by show n+1 - (i+1)<n+1 - i;omega,hs.of ⟨k0,k1,k2,by rw [k6];exact bS (i1 (by omega)),trivial⟩,hw⟩
  cases j with
  |zero=>
   refine zG hs ?_
   refine rgp [_,_,_,_,_,_,_,_,_,_,_,_,_,_,_] hs hw fun a W hs hw=>?_
   refine sv hs hw fun a hs=>?_
   exact out g3 hs rfl rfl rfl rfl hw
  |succ j=>
   have he:decide (((j+1:Nat):Int) > 0)=true:=decide_eq_true (by omega)
   have ej:IntKind.i64.wrap (((j+1:Nat):Int) - 1)=(j:Int):=by rw [IntWalk.i64_in _ (by omega)];omega
   have hk0:(0:Int)≤((j+1:Nat):Int):=by omega
   have hk1:((j+1:Nat):Int)<(n:Int):=by omega
   have hk2:(0:Int)≤IntKind.i64.wrap (((j+1:Nat):Int) - 1):=by rw [ej];omega
   have hk3:IntKind.i64.wrap (((j+1:Nat):Int) - 1)<(n:Int):=by rw [ej];omega
   have hl1:(cV S' ++ ext)[0+((j+1:Nat):Int).toNat*1]? =some (.int .i64 (S'.getD (j+1) 0)):=qD (by omega)
   have hl2:(cV S' ++ ext)[0+(IntKind.i64.wrap (((j+1:Nat):Int) - 1)).toNat*1]? =some (.int .i64 (S'.getD j 0)):=by rw [ej];exact qD (by omega)
   have hsk:gE (j+1) S'=match decide (S'.getD (j+1) 0<S'.getD j 0) with|true=>gE j (mK S' j)|false=>S':=rfl
   refine zG hs ?_
   refine rgq [_,_,_,_,_,_,_,_,_,_,_,_,_,_,_] hs hw fun a W hs hw=>?_
   replace hs:Slots a 49 [(30,.bool (decide (S'.getD (j+1) 0<S'.getD j 0))),(0,.slice (some ⟨g,0,none⟩) n cap),(1,.int .i64 0),(2,.int .i64 (n:Int)),(6,.int .i64 (i:Int)),(7,.int .i64 ((j+1:Nat):Int))]:=hs.of ⟨rfl,rfl,rfl,rfl,rfl,rfl,trivial⟩
   cases c:decide (S'.getD (j+1) 0<S'.getD j 0) with
   |false=>
    rw [c] at hs hsk
    refine sv hs hw fun a hs=>?_
    exact out (g3.trans hsk) hs rfl rfl rfl rfl hw
   |true=>
    rw [c] at hs hsk
    refine zG hs ?_
    have hl3:Nat.ble (0+((j+1:Nat):Int).toNat*1+ [Value.int .i64 (S'.getD j 0)].length) (cV S' ++ ext).length=true:=Nat.ble_eq_true_of_le (by simp;omega)
    have hl4:Nat.ble (0+(IntKind.i64.wrap (((j+1:Nat):Int) - 1)).toNat*1+ [Value.int .i64 (S'.getD (j+1) 0)].length) (ov (cV S' ++ ext) (0+((j+1:Nat):Int).toNat*1) [.int .i64 (S'.getD j 0)]).length=true:=Nat.ble_eq_true_of_le (by rw [l0,ej];simp;omega)
    refine bF [15,17] [.f 0 0,.f 0 0,.f 0 1,.f 0 1,.f 0 1,.f 0 0,.f 0 0,.f 0 0,.f 0 0,.f 0 0,.f 0 0,.f 0 0,.f 0 0,.f 0 0,.f 0 0,.m 0,.f 1 1,.m 1] [.c0 _,.c0 _,.c0 _,.c0 _,.c0 _,.c0 _,.c0 _,.c0 _,.c0 _,.c0 _,.c0 _,.c0 _,.c0 _,.c0 _,.c0 _,.c1 (fun x=>undef),.c1 _,.c2 (fun x y=>undef)] (aA g (cV S' ++ ext) 3::L) (fun x=>aA g (ov (cV S' ++ ext) (0+((j+1:Nat):Int).toNat*1) [.int .i64 (S'.getD j 0)]) 3::L) (fun x y=>aA g (ov (ov (cV S' ++ ext) (0+((j+1:Nat):Int).toNat*1) [.int .i64 (S'.getD j 0)]) (0+(IntKind.i64.wrap (((j+1:Nat):Int) - 1)).toNat*1) [.int .i64 (S'.getD (j+1) 0)]) 3::L) (fun x y z=>[]) (fun x y z t=>[]) hs hw ?kk ⟨drs,drs,drs,drs,drs,drs,drs,drs,drs,drs,drs,drs,drs,drs,drs,drm,drs,drm,trivial⟩
    case kk=>
     intro _ _ a W hs hw
     rw [ej,Int.toNat_natCast,Int.toNat_natCast,sX (by omega),sX (by rw [List.length_set];omega)] at hw
     replace hs:Slots a 49 [(0,.slice (some ⟨g,0,none⟩) n cap),(1,.int .i64 0),(2,.int .i64 (n:Int)),(6,.int .i64 (i:Int)),(7,.int .i64 ((j+1:Nat):Int))]:=hs.of ⟨rfl,rfl,rfl,rfl,rfl,trivial⟩
     refine sv hs hw fun a hs=>?_
     exact bR (j,mK S' j) hs hw ⟨by show j≤i;omega,by rw [xE];exact g2,g3.trans hsk⟩ (by show j<j+1;omega) ⟨rfl,rfl,rfl,rfl,bS ej,trivial⟩
 ·have h6:iG (n - i) i S=S:=aB6 _ (by simp at hc;omega)
  rw [h6] at h4
  rw [h4]
  refine sc hs ?_
  exact cO hs rfl ⟨rfl,hw⟩⟩
theorem aGu {g cap:Nat} {L:List Res} {ext:List Value} (l:List Int) (hl:l.length≤12):Get Tryz.prog 186 [.slice (some ⟨g,0,none⟩) l.length cap] (aA g (cV l ++ ext) 3::L) (.tuple ⟨[]⟩) (aA g (cV (dR l) ++ ext) 3::L):=⟨fun {w W} hw=>by
 have hp:∀{W:World} {q:Int},Has 0 w W (aA g (cV l ++ ext) 3::L)→Calls Tryz.prog 254 ⟨[.slice (some ⟨g,0,none⟩) l.length cap,.int .i64 0,.int .i64 (l.length:Int),.int .i64 q]⟩ W fun e W'=>e= .returned (.tuple ⟨[]⟩)∧Has 0 w W' (aA g (cV (dR l) ++ ext) 3::L):=by
  intro W q hw
  refine enter Tryz.func254 Tryz.ntmps254 rfl rfl fun a hs=>?_
  refine sv hs hw fun a hs=>?_
  refine bX (σ:=Unit) (fun _=>[(0,.slice (some ⟨g,0,none⟩) l.length cap),(1,.int .i64 0),(2,.int .i64 (l.length:Int))]) (fun _=>aA g (cV l ++ ext) 3::L) (fun _=>True) (fun _=>0) () trivial hs ⟨rfl,rfl,rfl,trivial⟩ hw ?_
  clear hs hw
  intro _ a W _ hs hw
  refine sv hs hw fun a hs=>?_
  rw [show decide (IntKind.i64.wrap ((l.length:Int) - 0)≤12)=true from decide_eq_true (by rw [IntWalk.i64_in _ (by omega)];omega)] at hs
  refine sv hs hw fun a hs=>?_
  refine cl hs ((aGt l rfl hl).ok hw) fun a W hs hw=>?_
  refine sc hs ?_
  first
   |exact rt0 hs rfl ⟨rfl,hw⟩
   |exact cO hs rfl ⟨rfl,hw⟩
 refine enter Tryz.func186 Tryz.ntmps186 rfl rfl fun a hs=>?_
 refine sv hs hw fun a hs=>?_
 refine aF hs (hc:=Tryz.bits_Len (IntKind.u64.wrap (l.length:Int)) W (by rw [IntKind.wrap_u64];omega) (by rw [IntKind.wrap_u64];omega)) (k:=?_)
 rintro e W' ⟨rfl,rfl⟩
 refine ⟨_,rfl,fun a hs=>?_⟩
 refine cl hs (hp hw) fun a W hs hw=>?_
 refine sc hs ?_
 exact cO hs rfl ⟨rfl,hw⟩⟩
theorem xF:∀{q:Option Int} {l:List Int},gD q l=true→∀x∈l,1≤x∧x≤7
 |_,[],_,x,h=>by cases h
 |none,y::r,h,x,hx=>by
  simp [gD] at h
  rcases List.mem_cons.1 hx with rfl|hx
  ·omega
  ·exact xF h.2 x hx
 |some q,y::r,h,x,hx=>by
  simp [gD] at h
  rcases List.mem_cons.1 hx with rfl|hx
  ·omega
  ·exact xF h.2 x hx
theorem aB7 {l:List Int} (h:dD l=true):∀x∈l,1≤x∧x≤7:=by
 unfold dD at h
 rw [Bool.and_eq_true] at h
 exact xF h.1
def kY (l:List Int):List UInt8:=l.map fun x=>UInt8.ofNat (48+x).toNat
section
variable {l:List Int} {sl:Value} {L L1:List Res}
theorem aGv [c:dH (fun l=>aN sl l) L l L1]:Get Tryz.prog 88 [sl] L (.string ⟨(iF l).toArray⟩) L:=⟨fun {w W} hw=>by
 have hr:∀{W},Has 0 w W L→Rd W 1 sl l.length (bQ l):=fun h=>(h.pick c.p).rd_own In.hd
 obtain ⟨ad,cap,rfl⟩:=Has.own_slice (hw.pick c.p)
 refine enter Tryz.func88 Tryz.ntmps88 rfl rfl fun a hs=>?_
 refine sx hs hw fun a W hs hw=>?_
 unfold iF
 cases h:dD l with
 |false=>
  rw [h] at hs
  refine sv hs hw fun a hs=>?_
  exact rt1 hs rfl rfl ⟨rfl,hw⟩
 |true=>
 rw [h] at hs
 have hmem:=aB7 h
 have h7:=pU h
 refine sv hs hw fun a hs=>?_
 have hw:Has 0 w W (bY (.slice none 0 0) []::L):=hw.nilB 5
 refine bX (σ:=Nat×Option Addr×Nat) (fun u=>[(3,.slice u.2.1 (kY (l.take u.1)).length u.2.2),(9,.slice ad l.length cap),(10,.int .i64 (l.length:Int)),(11,.int .i64 (u.1:Int))]) (fun u=>bY (.slice u.2.1 (kY (l.take u.1)).length u.2.2) (kY (l.take u.1))::L) (fun u=>u.1≤l.length) (fun u=>l.length - u.1) (0,none,0) (Nat.zero_le _) hs ⟨rfl,rfl,rfl,rfl,trivial⟩ hw ?_
 clear hs hw
 rintro ⟨i,ad2,cap2⟩ a W hi hs hw
 have hi:i≤l.length:=hi
 simp only at hs hw
 refine sv hs hw fun a hs=>?_
 refine cI hs (kt:=fun hc=>?_) (kf:=fun hc=>?_)
 ·have hi':i<l.length:=by simpa using hc
  obtain ⟨o,ho,hd⟩:=dS hi'
  have hm:=hmem o (List.mem_of_getElem? ho)
  have hn:kY (l.take (i+1))=kY (l.take i) ++ [UInt8.ofNat (48+o).toNat]:=by unfold kY;rw [fS ho,List.map_append];rfl
  have hk:(kY (l.take i)).length≤7:=by unfold kY;rw [List.length_map,List.length_take];omega
  refine sc hs ?_
  refine iA hs (hr (hw.sub (List.Sublist.cons _ (List.Sublist.refl _)))) ho rfl fun a b f hs=>?_
  refine sv hs hw fun a hs=>?_
  rw [show IntKind.u8.wrap (IntKind.i64.wrap (48+o))=((UInt8.ofNat (48+o).toNat).toNat:Int) by
   rw [IntWalk.i64_in _ (by omega)]
   have:(48+o)=(((48+o).toNat:Nat):Int):=by omega
   rw [this]
   simp [IntKind.wrap,IntKind.bits,IntKind.signed]] at hs
  refine sn hs hw fun b a W hs hw=>?_
  refine hJ hs (hw.pick (Pick.tl Pick.hd)) (l:=kY (l.take i)) (m:=[UInt8.ofNat (48+o).toNat]) (hr:=uO (m:=1) (size:=1) (hw.pick (Pick.tl Pick.hd)) (In.tl In.hd) rfl rfl 1) (hb:=by simp;omega) (c:=fun a ad cap W hs hw=>?_)
  rw [←hn] at hs hw
  refine sv hs hw fun a hs=>?_
  exact bR (i+1,ad,cap) hs (hw.sl) hi' (by show l.length - (i+1)<l.length - i;omega) ⟨rfl,rfl,rfl,bS (i1 (by omega)),trivial⟩
 ·have:l.take i=l:=List.take_of_length_le (by simp at hc;omega)
  rw [this] at hs hw
  refine sv hs hw fun a hs=>?_
  refine l7 hs (r:=hw.rd_own In.hd) (k:=fun a hs=>?_)
  refine sv hs hw fun a hs=>?_
  exact rt1 hs rfl rfl ⟨rfl,hw.sub (List.Sublist.cons _ (List.Sublist.refl _))⟩⟩
theorem aGw {l2:List Int} {s2:Value} {L2:List Res} [c:dH (fun l=>aN sl l) L l L1] [c2:dH (fun l=>aN s2 l) L l2 L2]:Get Tryz.prog 190 [sl,s2] L (.bool (nM l l2)) L:=⟨fun {w W} hw=>by
 refine enter Tryz.func190 Tryz.ntmps190 rfl rfl fun a hs=>?_
 refine sv hs hw fun a hs=>?_
 let f:Nat→Bool:=fun (k:Nat)=>has l ((k:Int)+1) !=has l2 ((k:Int)+1)
 have hle:∀k,((List.range k).filter f).length≤k:=fun k=>Nat.le_trans (List.length_filter_le _ _) (by simp)
 refine bX (σ:=Nat) (fun k=>[(0,sl),(1,s2),(5,.int .i64 (((List.range k).filter f).length:Int)),(6,.int .i64 ((k:Int)+1))]) (fun _=>L) (fun k=>k≤7) (fun k=>7 - k) 0 (by decide) hs ⟨rfl,rfl,rfl,rfl,trivial⟩ hw ?_
 clear hs hw
 intro k a W hk hs hw
 have hk:k≤7:=hk
 refine sv hs hw fun a hs=>?_
 refine cI hs (kt:=fun hc=>?_) (kf:=fun hc=>?_)
 ·have hk':k<7:=by simp at hc;omega
  have hs1:((List.range (k+1)).filter f).length=((List.range k).filter f).length+(match f k with|true=>1|false=>0):=by
   rw [List.range_succ,List.filter_append,List.length_append]
   cases hf:f k <;> simp [hf]
  have hlk:=hle k
  refine sx hs hw fun a W hs hw=>?_
  rw [show (!(has l ((k:Int)+1) == has l2 ((k:Int)+1)))=f k from rfl] at hs
  cases c:f k with
  |true=>
   rw [c] at hs hs1
   replace hs1:((List.range (k+1)).filter f).length=((List.range k).filter f).length+1:=hs1
   refine sv hs hw fun a hs=>?_
   exact bR (k+1) hs hw hk' (by omega) ⟨rfl,rfl,bS (by rw [hs1,IntWalk.i64_in _ (by omega)];omega),bS (by rw [IntWalk.i64_in _ (by omega)];omega),trivial⟩
  |false=>
   rw [c] at hs hs1
   refine sv hs hw fun a hs=>?_
   exact bR (k+1) hs hw hk' (by omega) ⟨rfl,rfl,bS (by rw [hs1];rfl),bS (by rw [IntWalk.i64_in _ (by omega)];omega),trivial⟩
 ·have h7:k=7:=by simp at hc;omega
  subst h7
  have e:nM l l2=(dD l && dD l2 && decide (((List.range 7).filter f).length≤1)):=rfl
  rw [e]
  refine sx hs hw fun a W hs hw=>?_
  cases c1:dD l with
  |false=>
   rw [c1] at hs
   refine sv hs hw fun a hs=>?_
   exact rt1 hs rfl rfl ⟨rfl,hw⟩
  |true=>
  rw [c1] at hs
  refine sx hs hw fun a W hs hw=>?_
  cases c2:dD l2 with
  |false=>
   rw [c2] at hs
   refine sv hs hw fun a hs=>?_
   exact rt1 hs rfl rfl ⟨rfl,hw⟩
  |true=>
   rw [c2] at hs
   refine sv hs hw fun a hs=>?_
   have e3:decide ((((List.range 7).filter f).length:Int)≤1)=decide (((List.range 7).filter f).length≤1):=by by_cases h:((List.range 7).filter f).length≤1 <;> simp [h] <;> omega
   rw [e3] at hs
   exact rt1 hs rfl rfl ⟨rfl,hw⟩⟩
end
theorem sY {l:List Int} {x v:Int} (h:l.length=8):(eD l x v).length=8:=by simp [eD,h]
theorem aB8 {l:List Int} {x v:Int} (h:l.length=8) (hx:0≤x∧x<8):nth (eD l x v) x=v:=by
 unfold nth eD
 rw [List.getD_eq_getElem?_getD,List.getElem?_set,if_pos rfl,if_pos (by omega)];rfl
section
variable {p:Nat} {t:TrackD} {L L1:List Res} {X i:Int}
theorem track_Yes [c:dH (fun t=>gG p t) L t L1]:Get Tryz.prog 218 [ptr p,.int .i64 X,.int .i64 i] L (.bool (t.yesD X i).2) (gG p (t.yesD X i).1::L1):=⟨fun {w W} hw=>by
 obtain ⟨hl,hw⟩:=nR (hw.pick c.p)
 have e:t.yesD X i=match srv X && cX i with|false=>(t,false)|true=>(⟨eD t.next X (max (nth t.next X) (w64 (max (nth t.mat X) i+1))),eD t.mat X (max (nth t.mat X) i)⟩,decide (i > nth t.mat X)):=rfl
 rw [e]
 refine enter Tryz.func218 Tryz.ntmps218 rfl rfl fun a hs=>?_
 refine sx hs hw fun a W hs hw=>?_
 cases c1:srv X with
 |false=>
  rw [c1] at hs
  refine sv hs hw fun a hs=>?_
  exact rt1 hs rfl rfl ⟨rfl,iK hw hl⟩
 |true=>
  rw [c1] at hs
  refine sx hs hw fun a W hs hw=>?_
  cases c2:cX i with
  |false=>
   rw [c2] at hs
   refine sv hs hw fun a hs=>?_
   exact rt1 hs rfl rfl ⟨rfl,iK hw hl⟩
  |true=>
   rw [c2] at hs
   have hx:=p8 c1
   have hj0:=hx.1
   have hj1:X<((8:Nat):Int):=hx.2
   have hl2:=xB hl.1 hl.2 hx
   have hl3:=aGl hl.1 hl.2 hx (.int .i64 (max (nth t.mat X) i))
   refine sw (P:=Tryz.prog) hs hw fun a W hs hw=>?_
   refine bF [13] [.f 0 0,.f 0 0,.f 0 0,.f 0 0,.f 0 0,.f 0 0,.f 0 0,.f 0 0,.f 0 0,.f 0 0,.f 0 0,.f 0 0,.f 0 0,.m 0] [.c0 _,.c0 _,.c0 _,.c0 _,.c0 _,.c0 _,.c0 _,.c0 _,.c0 _,.c0 _,.c0 _,.c0 _,.c0 _,.c1 (fun x=>undef)] (aA p (bQ t.next ++ bQ t.mat) 340::L1) (fun x=>aA p (ov (bQ t.next ++ bQ t.mat) (0+8+X.toNat*1) [.int .i64 (max (nth t.mat X) i)]) 340::L1) (fun x y=>[]) (fun x y z=>[]) (fun x y z t=>[]) hs hw ?kk ⟨drs,drs,drs,drs,drs,drs,drs,drs,drs,drs,drs,drs,drs,drm,trivial⟩
   case kk=>
    intro _ a W hs hw
    rw [aGk hl.1 hl.2 hx] at hw
    replace hs:Slots a 58 [(0,ptr p),(1,.int .i64 X),(2,.int .i64 i),(7,.bool (decide (i > nth t.mat X)))]:=hs.of ⟨rfl,rfl,rfl,rfl,trivial⟩
    have hm:=aB8 (v:=max (nth t.mat X) i) hl.2 hx
    have hml:=sY (x:=X) (v:=max (nth t.mat X) i) hl.2
    clear hl2 hl3
    generalize eD t.mat X (max (nth t.mat X) i)=mt at *
    have hl1:=p9 (mt:=mt) hl.1 hx
    have hl2:=xB hl.1 hml hx
    have hl3:=qB hl.1 hml hx (.int .i64 (max (nth t.next X) (IntKind.i64.wrap (nth mt X+1))))
    refine sc hs ?_
    refine bF [19] [.f 0 0,.f 0 0,.f 0 0,.f 0 0,.f 0 0,.f 0 0,.f 0 0,.f 0 0,.f 0 0,.f 0 0,.f 0 0,.f 0 0,.f 0 0,.f 0 0,.f 0 0,.f 0 0,.f 0 0,.f 0 0,.f 0 0,.m 0] [.c0 _,.c0 _,.c0 _,.c0 _,.c0 _,.c0 _,.c0 _,.c0 _,.c0 _,.c0 _,.c0 _,.c0 _,.c0 _,.c0 _,.c0 _,.c0 _,.c0 _,.c0 _,.c0 _,.c1 (fun x=>undef)] (aA p (bQ t.next ++ bQ mt) 340::L1) (fun x=>aA p (ov (bQ t.next ++ bQ mt) (0+0+X.toNat*1) [.int .i64 (max (nth t.next X) (IntKind.i64.wrap (nth mt X+1)))]) 340::L1) (fun x y=>[]) (fun x y z=>[]) (fun x y z t=>[]) hs hw ?kk ⟨drs,drs,drs,drs,drs,drs,drs,drs,drs,drs,drs,drs,drs,drs,drs,drs,drs,drs,drs,drm,trivial⟩
    case kk=>
     intro _ a W hs hw
     rw [qA hl.1 hx,hm] at hw
     refine sv hs hw fun a hs=>?_
     exact rt1 hs rfl rfl ⟨rfl,iK (t:=⟨_,_⟩) hw ⟨sY hl.1,hml⟩⟩⟩
theorem track_No [c:dH (fun t=>gG p t) L t L1]:Get Tryz.prog 217 [ptr p,.int .i64 X,.int .i64 i] L (.bool (t.noD X i).2) (gG p (t.noD X i).1::L1):=⟨fun {w W} hw=>by
 obtain ⟨hl,hw⟩:=nR (hw.pick c.p)
 have e:t.noD X i=match srv X && cX i with|false=>(t,false)|true=>(⟨eD t.next X (max (min (w64 (nth t.next X - 1)) (w64 (i+1))) (w64 (nth t.mat X+1))),t.mat⟩,max (min (w64 (nth t.next X - 1)) (w64 (i+1))) (w64 (nth t.mat X+1)) !=nth t.next X):=rfl
 rw [e]
 refine enter Tryz.func217 Tryz.ntmps217 rfl rfl fun a hs=>?_
 refine sx hs hw fun a W hs hw=>?_
 cases c1:srv X with
 |false=>
  rw [c1] at hs
  refine sv hs hw fun a hs=>?_
  exact rt1 hs rfl rfl ⟨rfl,iK hw hl⟩
 |true=>
  rw [c1] at hs
  refine sx hs hw fun a W hs hw=>?_
  cases c2:cX i with
  |false=>
   rw [c2] at hs
   refine sv hs hw fun a hs=>?_
   exact rt1 hs rfl rfl ⟨rfl,iK hw hl⟩
  |true=>
   rw [c2] at hs
   have hx:=p8 c1
   have hj0:=hx.1
   have hj1:X<((8:Nat):Int):=hx.2
   have hl1:=p9 (mt:=t.mat) hl.1 hx
   have hl2:=xB hl.1 hl.2 hx
   have hl3:=qB hl.1 hl.2 hx (.int .i64 (max (min (w64 (nth t.next X - 1)) (w64 (i+1))) (w64 (nth t.mat X+1))))
   refine sw (P:=Tryz.prog) hs hw fun a W hs hw=>?_
   refine bF [18] [.f 0 0,.f 0 0,.f 0 0,.f 0 0,.f 0 0,.f 0 0,.f 0 0,.f 0 0,.f 0 0,.f 0 0,.f 0 0,.f 0 0,.f 0 0,.f 0 0,.f 0 0,.f 0 0,.f 0 0,.f 0 0,.m 0] [.c0 _,.c0 _,.c0 _,.c0 _,.c0 _,.c0 _,.c0 _,.c0 _,.c0 _,.c0 _,.c0 _,.c0 _,.c0 _,.c0 _,.c0 _,.c0 _,.c0 _,.c0 _,.c1 (fun x=>undef)] (aA p (bQ t.next ++ bQ t.mat) 340::L1) (fun x=>aA p (ov (bQ t.next ++ bQ t.mat) (0+0+X.toNat*1) [.int .i64 (max (min (w64 (nth t.next X - 1)) (w64 (i+1))) (w64 (nth t.mat X+1)))]) 340::L1) (fun x y=>[]) (fun x y z=>[]) (fun x y z t=>[]) hs hw ?kk ⟨drs,drs,drs,drs,drs,drs,drs,drs,drs,drs,drs,drs,drs,drs,drs,drs,drs,drs,drm,trivial⟩
   case kk=>
    intro _ a W hs hw
    rw [qA hl.1 hx] at hw
    replace hs:Slots a 49 [(0,ptr p),(1,.int .i64 X),(7,.int .i64 (nth t.next X))]:=hs.of ⟨rfl,rfl,rfl,trivial⟩
    have hm:=aB8 (v:=max (min (w64 (nth t.next X - 1)) (w64 (i+1))) (w64 (nth t.mat X+1))) hl.1 hx
    have hml:=sY (x:=X) (v:=max (min (w64 (nth t.next X - 1)) (w64 (i+1))) (w64 (nth t.mat X+1))) hl.1
    clear hl1 hl2 hl3
    have hl1:=p9 (mt:=t.mat) hml hx
    rw [hm] at hl1
    refine sw (P:=Tryz.prog) hs hw fun a W hs hw=>?_
    exact rt1 hs rfl rfl ⟨rfl,iK (t:=⟨_,_⟩) hw ⟨hml,hl.2⟩⟩⟩
end
theorem aB9 {cur:List Value} {l:List Int} {n:Nat} (h:cur.take (n*1)=l.map (Value.int .i64)):cur=cV l ++ cur.drop n:=by
 rw [Nat.mul_one] at h
 rw [show cV l=cur.take n from h.symm]
 exact (List.take_append_drop _ _).symm
section
variable {l:List Int} {sl:Value} {L L1:List Res} {x:Int}
theorem aJA (hl:l.length≤7) [c:dH (fun l=>aN sl l) L l L1]:New Tryz.prog 112 [sl,.int .i64 x] L (Option Addr×Nat) (fun s=> .tuple ⟨[.slice s.1 (pL l x).1.length s.2,.bool (pL l x).2]⟩) (fun s=>aN (.slice s.1 (pL l x).1.length s.2) (pL l x).1::L):=⟨fun {w W} hw=>by
 refine enter Tryz.func112 Tryz.ntmps112 rfl rfl fun a hs=>?_
 refine sv hs hw fun a hs=>?_
 refine sg hs hw (fun s a W hs hw=>?_) (g:=wU (l:=l) (by omega))
 refine sv hs hw fun a hs=>?_
 refine sn hs hw fun b a W hs hw=>?_
 refine mD hs hw (Pick.hd:Pick (aN (.slice s.1 l.length s.2) l) _ _) (by omega) fun a ad cap W hs hw=>?_
 have hlen:(l ++ [x]).length=l.length+1:=by simp
 have hpos:0<(l ++ [x]).length:=by omega
 have e:pL l x=match dD l && dD (dR (l ++ [x])) with|false=>([],false)|true=>(dR (l ++ [x]),true):=rfl
 rw [e]
 generalize l ++ [x]=m at *
 obtain ⟨g,cur,rfl,hcur,hcl,hkc,hcm,hw⟩:=hw.open_own hpos
 have hx:=aB9 hcur
 rw [hx] at hw
 have hxl:cur.length=m.length+(cur.drop m.length).length:=by rw [List.length_drop];omega
 generalize cur.drop m.length=ext at *
 refine sv hs hw fun a hs=>?_
 refine cl hs ((aGu m (by omega)).ok hw) fun a W hs hw=>?_
 have hil:=aB5 m
 have hw:Has 0 w W (aN (.slice (some ⟨g,0,none⟩) (dR m).length cap) (dR m)::L):=hw.shut_own (k:=(dR m).length) (size:=1) (cap:=cap) (xs:=cV (dR m)) (by rw [Nat.mul_one,show (dR m).length=(cV (dR m)).length by simp,List.take_left]) (by rw [List.length_append,List.length_map,hil];omega) (by omega) hcm
 rw [←hil] at hs
 refine sx hs hw fun a W hs hw=>?_
 have drop:∀{W},Has 0 w W (aN (.slice (some ⟨g,0,none⟩) (dR m).length cap) (dR m)::L)→Has 0 w W (aN (.slice none 0 0) []::L):=fun h=>(h.sub (List.Sublist.cons _ (List.Sublist.refl _))).nilOwn 3 1
 cases c1:dD l with
 |false=>
  rw [c1] at hs
  refine sv hs hw fun a hs=>?_
  exact rt2 hs rfl rfl rfl ⟨(none,0),rfl,drop hw⟩
 |true=>
 rw [c1] at hs
 refine sx hs hw fun a W hs hw=>?_
 cases c2:dD (dR m) with
 |false=>
  rw [c2] at hs
  refine sv hs hw fun a hs=>?_
  exact rt2 hs rfl rfl rfl ⟨(none,0),rfl,drop hw⟩
 |true=>
  rw [c2] at hs
  refine sv hs hw fun a hs=>?_
  exact rt2 hs rfl rfl rfl ⟨(some ⟨g,0,none⟩,cap),rfl,hw⟩⟩
theorem aBa {b:Nat} {E:TypeId} {at_:List Int} (h8:at_.length=8) [c:dH (fun l=>aN sl l) L l L1] (i2:In (aA b (bQ at_) E) L):Get Tryz.prog 293 [sl,.slice (some ⟨b,0,none⟩) 8 8] L (.int .i64 (sE l at_)) L:=⟨fun {w W} hw=>by
 have hr:∀{W},Has 0 w W L→Rd W 1 sl l.length (bQ l):=fun h=>(h.pick c.p).rd_own In.hd
 have hr2:∀{W},Has 0 w W L→Rd W 1 (.slice (some ⟨b,0,none⟩) 8 8) 8 (bQ at_):=fun h=>h.rd_lit i2 (by rw [List.length_map,h8]) (by omega)
 obtain ⟨ad0,cap0,rfl⟩:=Has.own_slice (hw.pick c.p)
 let f:Int→Int:=fun x=>if x<(at_.length:Int) then nth at_ x else 0
 have e:sE l at_=match dD l with|false=>0|true=>nth (dR (l.map f)) (((l.length:Int) - 1).tdiv 2):=rfl
 rw [e]
 refine enter Tryz.func293 Tryz.ntmps293 rfl rfl fun a hs=>?_
 refine sx hs hw fun a W hs hw=>?_
 cases h:dD l with
 |false=>
  rw [h] at hs
  refine sv hs hw fun a hs=>?_
  exact rt1 hs rfl rfl ⟨rfl,hw⟩
 |true=>
 rw [h] at hs
 have hmem:=aB7 h
 have h7:=pU h
 have hpos:0<l.length:=by
  unfold dD at h
  rw [Bool.and_eq_true] at h
  have:=of_decide_eq_true h.2;omega
 refine sv hs hw fun a hs=>?_
 have hw:Has 0 w W (wS (.slice none 0 0) []::L):=hw.nilOwn 2 1
 refine bX (σ:=Nat×Option Addr×Nat) (fun u=>[(1,.slice (some ⟨b,0,none⟩) 8 8),(5,.slice u.2.1 ((l.take u.1).map f).length u.2.2),(12,.slice ad0 l.length cap0),(13,.int .i64 (l.length:Int)),(14,.int .i64 (u.1:Int))]) (fun u=>wS (.slice u.2.1 ((l.take u.1).map f).length u.2.2) ((l.take u.1).map f)::L) (fun u=>u.1≤l.length) (fun u=>l.length - u.1) (0,none,0) (Nat.zero_le _) hs ⟨rfl,rfl,rfl,rfl,rfl,trivial⟩ hw ?_
 clear hs hw
 rintro ⟨i,ad,cap⟩ a W hi hs hw
 have hi:i≤l.length:=hi
 simp only at hs hw
 have sub1:∀{W A},Has 0 w W (A::L)→Has 0 w W L:=fun h=>h.sub (List.Sublist.cons _ (List.Sublist.refl _))
 refine sv hs hw fun a hs=>?_
 refine cI hs (kt:=fun hc=>?_) (kf:=fun hc=>?_)
 ·have hi':i<l.length:=by simpa using hc
  obtain ⟨o,ho,hd⟩:=dS hi'
  have hm:=hmem o (List.mem_of_getElem? ho)
  have hn:(l.take (i+1)).map f=(l.take i).map f ++ [nth at_ o]:=by rw [fS ho,List.map_append];simp [f,h8];omega
  have hk:((l.take i).map f).length≤7:=by rw [List.length_map,List.length_take];omega
  refine sc hs ?_
  refine iA hs (hr (sub1 hw)) ho rfl fun a b2 f2 hs=>?_
  refine sv hs hw fun a hs=>?_
  rw [show decide (o<((8:Nat):Int))=true from decide_eq_true (by omega)] at hs
  refine sv hs hw fun a hs=>?_
  refine iA (i:=o.toNat) (l:=at_) (u:=nth at_ o) hs (hr2 (sub1 hw)) (xA h8 (by omega)) h8 (hy:=by
   have:((o.toNat:Nat):Int)=o:=by omega
   rw [this];rfl) fun a b2 f2 hs=>?_
  refine sv hs hw fun a hs=>?_
  refine sn hs hw fun b3 a W hs hw=>?_
  refine mD hs hw (Pick.hd:Pick (wS (.slice ad ((l.take i).map f).length cap) ((l.take i).map f)) _ _) (by omega) fun a ad cap W hs hw=>?_
  rw [←hn] at hs hw
  refine sv hs hw fun a hs=>?_
  exact bR (i+1,ad,cap) hs hw hi' (by show l.length - (i+1)<l.length - i;omega) ⟨rfl,rfl,rfl,rfl,bS (i1 (by omega)),trivial⟩
 ·have:l.take i=l:=List.take_of_length_le (by simp at hc;omega)
  rw [this] at hs hw
  have hml:(l.map f).length=l.length:=by simp
  generalize l.map f=m at *
  obtain ⟨g,cur,rfl,hcur,hcl,hkc,hcm,hw⟩:=(show Has 0 w W (Sx.Own 2 1 (.slice ad m.length cap) m.length (bQ m)::L) from hw).open_own (by omega)
  have hx:=aB9 hcur
  rw [hx] at hw
  have hxl:cur.length=m.length+(cur.drop m.length).length:=by rw [List.length_drop];omega
  generalize cur.drop m.length=ext at *
  refine sv hs hw fun a hs=>?_
  refine cl hs ((aGs m (by omega)).ok hw) fun a W hs hw=>?_
  have hil:=aB5 m
  generalize dR m=sm at *
  refine sv hs hw fun a hs=>?_
  obtain ⟨k,hk⟩:∃k:Nat,((l.length:Int) - 1).tdiv 2=(k:Int):=⟨(((l.length:Int) - 1).tdiv 2).toNat,by rw [Int.tdiv_eq_ediv_of_nonneg (by omega)];omega⟩
  have hkl:k<sm.length:=by rw [Int.tdiv_eq_ediv_of_nonneg (by omega)] at hk;omega
  rw [hml,show IntKind.i64.wrap ((IntKind.i64.wrap ((l.length:Int) - 1)).tdiv 2)=(k:Int) by rw [IntWalk.i64_in ((l.length:Int) - 1) (by omega),hk,IntWalk.i64_in _ (by omega)]] at hs
  refine eG hs (h0:=by omega) (h1:=by omega) (c:=fun a hs=>?_)
  rw [Int.toNat_natCast] at hs
  refine fY hs (hw:=hw) (hi:=In.hd) (hv:=qD (k:=k) (S:=sm) (ext:=ext) hkl) (k:=fun a hs=>?_)
  refine sv hs hw fun a hs=>?_
  refine rt1 hs rfl rfl ⟨?_,sub1 hw⟩
  rw [hk];rfl⟩
end
end Go.Proofs.YtgpbngfehfbndaaGreatDoor.Sw
namespace Go.Sx
open Go.RowKit
section
variable {P:Program} {ops:Array Oper} {aD:List Oper} {Q:Exit→Act→World→Prop} {a:Act} {n:Nat} {L:List (Nat×Value)} {W:World} {d:Nat} {T S E:TypeId} {p:String} {e:Array Edge} {x:Operand} {k b o:Nat} {z:List Value}
theorem aBb {agg:Bool} [ar:Ar P S k E] [t:Ty P E agg z] (hs:Slots a n L) (hx:ev L x=some (.pointer (some ⟨b,o,none⟩)):=by with_unfolding_all exact rfl) (hd:Nat.blt d n=true:=by with_unfolding_all exact rfl)
  (c:∀a',Slots a' n ((d,.slice (some ⟨b,o,none⟩) k k)::L)→wpList P ops Q aD a' W):wpList P ops Q (⟨some d,.slice S x none none none,T,p,e,none⟩::aD) a W:=by
 refine bO hs hd (v:= .slice (some ⟨b,o,none⟩) k k) (W':=W) ?_ c
 simp only [execOp,Option.map_none,hs.ev hx]
 simp [Instr.sliceAt,Instr.sureAddr,run_underlying ar.out,Instr.sliceBounds,t.sizeOf,eF]
end
end Go.Sx
namespace Go.Proofs.YtgpbngfehfbndaaGreatDoor.Sw
open Go.RowKit Go.Sx
def i6 (v:Int) (k:Nat):List Int:=List.replicate k v ++ List.replicate (8 - k) 0
theorem nT {v:Int} {k:Nat} (h:k≤8):(i6 v k).length=8:=by simp [i6];omega
theorem aBc {v:Int} {k:Nat} (h:k<8):eD (i6 v k) (k:Int) v=i6 v (k+1):=by
 obtain rfl|rfl|rfl|rfl|rfl|rfl|rfl|rfl:k=0∨k=1∨k=2∨k=3∨k=4∨k=5∨k=6∨k=7:=by omega
 all_goals rfl
section
variable {p:Nat} {t:TrackD} {L L1 L2:List Res} {X i last:Int}
theorem aGx:New Tryz.prog 210 [.int .i64 last] L Nat (fun b=>ptr b) (fun b=>gG b (lP last)::L):=⟨fun {w W} hw=>by
 have e:lP last=⟨i6 (w64 ((match cX last with|true=>last|false=>0)+1)) 8,List.replicate 8 0⟩:=by
  unfold lP i6
  cases cX last <;> simp
 rw [e]
 refine enter Tryz.func210 Tryz.ntmps210 rfl rfl fun a hs=>?_
 refine sx hs hw fun a W hs hw=>?_
 cases c1:cX last with
 |true=>
  rw [c1] at hs
  refine sv hs hw fun a hs=>?_
  refine sn hs hw fun b a W hs hw=>?_
  refine sv hs hw fun a hs=>?_
  have hz:(aA b (bQ (i6 (w64 (last+1)) 0) ++ bQ (List.replicate 8 0)) 340::L)=(aA b (bQ (i6 (w64 (last+1)) 0) ++ bQ (List.replicate 8 0)) 340::L):=rfl
  refine bX (σ:=Nat) (fun k=>[(0,.int .i64 last),(3,ptr b),(10,.int .i64 (k:Int))]) (fun k=>aA b (bQ (i6 (w64 (last+1)) k) ++ bQ (List.replicate 8 0)) 340::L) (fun k=>k≤8) (fun k=>8 - k) 0 (Nat.zero_le _) hs ⟨rfl,rfl,rfl,trivial⟩ hw ?_
  clear hs hw
  intro k a W hk hs hw
  refine sv hs hw fun a hs=>?_
  refine cI hs (kt:=fun hc=>?_) (kf:=fun hc=>?_)
  ·have hk':k<8:=by have:=hc;simp at this;omega
   have hj0:(0:Int)≤(k:Int):=by omega
   have hj1:(k:Int)<((8:Nat):Int):=by omega
   have hl3:=qB (mt:=List.replicate 8 0) (x:=(k:Int)) (nT (v:=w64 (last+1)) hk) (by simp) ⟨hj0,by omega⟩ (.int .i64 (w64 (last+1)))
   refine sw (P:=Tryz.prog) hs hw fun a W hs hw=>?_
   rw [qA (nT hk) ⟨hj0,by omega⟩,aBc hk'] at hw
   exact bR (k+1) hs hw hk' (by show 8 - (k+1)<8 - k;omega) ⟨rfl,rfl,bS (i1 (by omega)),trivial⟩
  ·obtain rfl:k=8:=by simp at hc;omega
   refine sv hs hw fun a hs=>?_
   exact rt1 hs rfl rfl ⟨b,rfl,iK (t:=⟨_,_⟩) hw ⟨nT hk,by simp⟩⟩
 |false=>
  rw [c1] at hs
  refine sv hs hw fun a hs=>?_
  refine sn hs hw fun b a W hs hw=>?_
  refine sv hs hw fun a hs=>?_
  have hz:(aA b (bQ (i6 (w64 (0+1)) 0) ++ bQ (List.replicate 8 0)) 340::L)=(aA b (bQ (i6 (w64 (0+1)) 0) ++ bQ (List.replicate 8 0)) 340::L):=rfl
  refine bX (σ:=Nat) (fun k=>[(0,.int .i64 0),(3,ptr b),(10,.int .i64 (k:Int))]) (fun k=>aA b (bQ (i6 (w64 (0+1)) k) ++ bQ (List.replicate 8 0)) 340::L) (fun k=>k≤8) (fun k=>8 - k) 0 (Nat.zero_le _) hs ⟨rfl,rfl,rfl,trivial⟩ hw ?_
  clear hs hw
  intro k a W hk hs hw
  refine sv hs hw fun a hs=>?_
  refine cI hs (kt:=fun hc=>?_) (kf:=fun hc=>?_)
  ·have hk':k<8:=by have:=hc;simp at this;omega
   have hj0:(0:Int)≤(k:Int):=by omega
   have hj1:(k:Int)<((8:Nat):Int):=by omega
   have hl3:=qB (mt:=List.replicate 8 0) (x:=(k:Int)) (nT (v:=w64 (0+1)) hk) (by simp) ⟨hj0,by omega⟩ (.int .i64 (w64 (0+1)))
   refine sw (P:=Tryz.prog) hs hw fun a W hs hw=>?_
   rw [qA (nT hk) ⟨hj0,by omega⟩,aBc hk'] at hw
   exact bR (k+1) hs hw hk' (by show 8 - (k+1)<8 - k;omega) ⟨rfl,rfl,bS (i1 (by omega)),trivial⟩
  ·obtain rfl:k=8:=by simp at hc;omega
   refine sv hs hw fun a hs=>?_
   exact rt1 hs rfl rfl ⟨b,rfl,iK (t:=⟨_,_⟩) hw ⟨nT hk,by simp⟩⟩⟩
theorem aBd {l:List Int} (h:l.length=8):∃a b c d e f g i,l= [a,b,c,d,e,f,g,i]:=by
 match l,h with
 | [a,b,c,d,e,f,g,i],_=>exact ⟨a,b,c,d,e,f,g,i,rfl⟩
theorem aGy {l:List Int} {x v:Int} (h:l.length=8) (hx:0≤x∧x<8):ov (bQ l) (0+x.toNat*1) [.int .i64 v]=bQ (eD l x v):=by
 rw [show 0+x.toNat*1=x.toNat by omega,oQ (by simp;omega)]
 unfold eD bQ
 rw [List.map_set]
theorem aGz {sl:Value} {l:List Int} (self last:Int) [c:dH (fun t=>gG p t) L t L1] [c2:dH (fun l=>aN sl l) L l L2]:Get Tryz.prog 257 [ptr p,sl,.int .i64 self,.int .i64 last] L (.int .i64 (t.mid l self last)) L:=⟨fun {w W} hw=>by
 have e:t.mid l self last=sE l (match srv self with|true=>eD t.mat self last|false=>t.mat):=rfl
 obtain ⟨hl,_⟩:=nR (hw.pick c.p)
 rw [e]
 obtain ⟨nx,mt⟩:=t
 obtain ⟨hl1,hl2⟩:nx.length=8∧mt.length=8:=hl
 obtain ⟨n0,n1,n2,n3,n4,n5,n6,n7,hnx⟩:=aBd hl1
 obtain ⟨m0,m1,m2,m3,m4,m5,m6,m7,hmt⟩:=aBd hl2
 have drop1:∀{W A},Has 0 w W (A::L)→Has 0 w W L:=fun h=>h.sub (List.Sublist.cons _ (List.Sublist.refl _))
 refine enter Tryz.func257 Tryz.ntmps257 rfl rfl fun a hs=>?_
 refine sv hs hw fun a hs=>?_
 have hw2:Has 0 w W (aA p (bQ [n0,n1,n2,n3,n4,n5,n6,n7] ++ bQ [m0,m1,m2,m3,m4,m5,m6,m7]) 340::L1):=by
  have:=(nR (hw.pick c.p)).2
  rw [←hnx,←hmt];exact this
 refine uI hs (hw:=hw2) (hi:=In.hd) (k:=fun a hs=>?_)
 refine sn hs hw fun b a W hs hw=>?_
 refine sx hs hw fun a W hs hw=>?_
 replace hw:Has 0 w W (aA b (bQ mt) 338::L):=by rw [hmt];exact hw
 cases c1:srv self with
 |false=>
  rw [c1] at hs
  refine sv hs hw fun a hs=>?_
  refine aBb hs (c:=fun a hs=>?_)
  refine cl hs ((aBa (l:=l) (sl:=sl) (at_:=mt) (L:=aA b (bQ mt) 338::L) hl2 In.hd).ok hw) fun a W hs hw=>?_
  refine sv hs hw fun a hs=>?_
  exact rt1 hs rfl rfl ⟨rfl,drop1 hw⟩
 |true=>
  rw [c1] at hs
  have hx:=p8 c1
  have hj0:=hx.1
  have hj1:self<((8:Nat):Int):=hx.2
  have hl3:Nat.ble (0+self.toNat*1+ [Value.int .i64 last].length) (bQ mt).length=true:=Nat.ble_eq_true_of_le (by simp;omega)
  refine sw (P:=Tryz.prog) hs hw fun a W hs hw=>?_
  rw [aGy hl2 hx] at hw
  refine aBb hs (c:=fun a hs=>?_)
  refine cl hs ((aBa (l:=l) (sl:=sl) (at_:=eD mt self last) (L:=aA b (bQ (eD mt self last)) 338::L) (sY hl2) In.hd).ok hw) fun a W hs hw=>?_
  refine sv hs hw fun a hs=>?_
  exact rt1 hs rfl rfl ⟨rfl,drop1 hw⟩⟩
end
section
variable {H H':Fh} {p pl:Nat} {pv pt mv:Value} {r:RaftD} {w0 W:World} {R L:List Res} {l:List bP} {v:Value}
theorem aBe (h:Has 0 w0 W (aG H p r::R)):∃pl pv pt ad cap xs,Ch (MsgIn H) r.out.msgs xs∧Has 0 w0 W (Sx.Own 38 13 (.slice ad r.out.msgs.length cap) r.out.msgs.length xs::aK p r pl pv pt (.slice ad r.out.msgs.length cap)::aI pl r.l::VoR pv r.v::ToR pt r.t::R):=by
 obtain ⟨pl,pv,pt,mv,h⟩:=dG h
 obtain ⟨ad,cap,xs,rfl,hc,h⟩:=qC (h.pm:Has 0 w0 W (aC H mv r.out.msgs::aK p r pl pv pt mv::aI pl r.l::VoR pv r.v::ToR pt r.t::R))
 exact ⟨pl,pv,pt,ad,cap,xs,hc,h⟩
theorem aBf {xs:List Value} (h:Has 0 w0 W (Sx.Own 38 13 mv r.out.msgs.length xs::aK p r pl pv pt mv::aI pl r.l::VoR pv r.v::ToR pt r.t::R)) (hc:Ch (MsgIn H) r.out.msgs xs):Has 0 w0 W (aG H p r::R):=
 cF ((kX h hc).pm)
theorem fH (m:bP) (v:Value) (hm:fO H v m.es) (hc:m.snap.conf.size≤1000000) (hl:r.out.msgs.length≤1000) (hw:Has 0 w0 W (aG H p r::R)):
  Calls Tryz.prog 139 ⟨[ptr p,.agg ⟨aH m v⟩]⟩ W fun e W'=>e= .returned (.tuple ⟨[]⟩)∧Has 0 w0 W' (aG H p (r.say m)::R):=by
 obtain ⟨pl,pv,pt,ad,cap,xs,hch,hw⟩:=aBe hw
 obtain ⟨vad,vcap,rfl⟩:=hm.slice
 obtain ⟨R',hR⟩:∃R',R'=aI pl r.l::VoR pv r.v::ToR pt r.t::R:=⟨_,rfl⟩
 rw [←hR] at hw
 refine enter Tryz.func139 Tryz.ntmps139 rfl rfl fun a hs=>?_
 refine sc hs ?_
 refine sn hs hw fun b a W hs hw=>?_
 refine sc hs ?_
 refine bF [10,12] [.f 0 0,.f 0 0,.f 0 0,.f 0 0,.f 0 1,.f 0 1,.f 0 1,.f 0 1,.f 0 1,.f 0 0,.m 0,.f 1 1,.m 1] [.c0 _,.c0 _,.c0 _,.c0 _,.c0 _,.c0 _,.c0 _,.c0 _,.c0 _,.c0 _,.c1 (fun x=>undef),.c1 _,.c2 (fun x y=>undef)] (aA b (aH m (.slice vad m.es.length vcap)) 38::Sx.Own 38 13 (.slice ad r.out.msgs.length cap) r.out.msgs.length xs::aK p r pl pv pt (.slice ad r.out.msgs.length cap)::R') (fun x=>aA b (aH {m with from_:=r.id} (.slice vad m.es.length vcap)) 38::Sx.Own 38 13 (.slice ad r.out.msgs.length cap) r.out.msgs.length xs::aK p r pl pv pt (.slice ad r.out.msgs.length cap)::R') (fun x y=>aA b (aH {m with from_:=r.id,term:=r.h.term} (.slice vad m.es.length vcap)) 38::Sx.Own 38 13 (.slice ad r.out.msgs.length cap) r.out.msgs.length xs::aK p r pl pv pt (.slice ad r.out.msgs.length cap)::R') (fun x y z=>[]) (fun x y z t=>[]) hs hw ?kk ⟨drs,drs,drs,drs,drs,drs,drs,drs,drs,drs,drm,drs,drm,trivial⟩
 case kk=>
  intro _ _ a W hs hw
  replace hs:Slots a 27 [(0,ptr p),(3,ptr b)]:=hs.of ⟨rfl,rfl,trivial⟩
  obtain ⟨m',hm'⟩:∃m':bP,m'= {m with from_:=r.id,term:=r.h.term}:=⟨_,rfl⟩
  have hes:m'.es=m.es:=by rw [hm']
  have hin:MsgIn H m' (aH m' (.slice vad m.es.length vcap)):=⟨_,rfl,by rw [hes];exact hm,by rw [hm'];exact hc⟩
  rw [←hm'] at hw
  refine sc hs ?_
  refine bF [7,8,12] [.f 0 2,.f 0 1,.f 0 1,.f 0 1,.f 0 1,.f 0 1,.f 0 0,.m 0,.m 1,.f 2 2,.f 2 2,.f 2 2,.m 2] [.c0 _,.c0 _,.c0 _,.c0 _,.c0 _,.c0 _,.c0 _,.c1 (fun x=> .slice (some ⟨x.n,0,none⟩) 1 1),.c2 (fun x y=> .slice y.ad (r.out.msgs ++ [m']).length y.cap),.c2 _,.c2 _,.c2 _,.c3 (fun x y z=>undef)] (aA b (aH m' (.slice vad m.es.length vcap)) 38::Sx.Own 38 13 (.slice ad r.out.msgs.length cap) r.out.msgs.length xs::aK p r pl pv pt (.slice ad r.out.msgs.length cap)::R') (fun x=>aA x.n (aH m' (.slice vad m.es.length vcap)) 38::aA b (aH m' (.slice vad m.es.length vcap)) 38::Sx.Own 38 13 (.slice ad r.out.msgs.length cap) r.out.msgs.length xs::aK p r pl pv pt (.slice ad r.out.msgs.length cap)::R') (fun x y=>aA b (aH m' (.slice vad m.es.length vcap)) 38::Sx.Own 38 13 (.slice y.ad (r.out.msgs ++ [m']).length y.cap) (r.out.msgs ++ [m']).length (xs ++ aH m' (.slice vad m.es.length vcap))::aK p r pl pv pt (.slice ad r.out.msgs.length cap)::R') (fun x y z=>aA b (aH m' (.slice vad m.es.length vcap)) 38::Sx.Own 38 13 (.slice y.ad (r.out.msgs ++ [m']).length y.cap) (r.out.msgs ++ [m']).length (xs ++ aH m' (.slice vad m.es.length vcap))::aK p r pl pv pt (.slice y.ad (r.out.msgs ++ [m']).length y.cap)::R') (fun x y z t=>[]) hs hw ?kk ⟨drs,drs,drs,drs,drs,drs,drs,drn,?m1,drs,drs,drs,drm,trivial⟩
  case m1=>
   intro x y z t LD a W hs hw
   have hw:Has 0 w0 W (Sx.Own 38 13 (.slice ad r.out.msgs.length cap) r.out.msgs.length xs::aA x.n (aH m' (.slice vad m.es.length vcap)) 38::aA b (aH m' (.slice vad m.es.length vcap)) 38::aK p r pl pv pt (.slice ad r.out.msgs.length cap)::R'):=hw.pm
   refine jB hs hw In.hd hch hin rfl rfl (by omega) (by omega) (k:=fun a ad2 cap2 W hs hw _=>?_)
   exact ⟨{ad:=ad2,cap:=cap2},hs,hw.sl⟩
  case kk=>
   intro x y z a W hs hw
   refine cO hs rfl ⟨rfl,?_⟩
   rw [hR] at hw
   have he:r.say m= {r with out:={r.out with msgs:=r.out.msgs ++ [m']}}:=by rw [hm'];rfl
   rw [he]
   exact aBf (r:={r with out:={r.out with msgs:=r.out.msgs ++ [m']}}) (hw.sl) (hch.app (Ch.unit hin))
theorem sZ (h:fN) (hw:Has 0 w0 W (aG H p r::R)):
  Calls Tryz.prog 132 ⟨[ptr p,.agg ⟨[.int .i64 h.term,.int .i64 h.vote]⟩]⟩ W fun e W'=>e= .returned (.tuple ⟨[]⟩)∧Has 0 w0 W' (aG H p (r.hardD h)::R):=by
 obtain ⟨pl,pv,pt,mv,hw⟩:=dG hw
 obtain ⟨id,rh,rl,cm,role,ldr,hrd,rv,rt,⟨ms,hd,fr,sp⟩⟩:=r
 refine enter Tryz.func132 Tryz.ntmps132 rfl rfl fun a hs=>?_
 refine sc hs ?_
 refine sn hs hw fun b a W hs hw=>?_
 refine sc hs ?_
 cases hd with
 |true=>
  replace hw:Has 0 w0 W (aA b [.int .i64 h.term,.int .i64 h.vote] 44::gQ p id rh.term rh.vote pl cm role ldr hrd pv pt mv (true) fr sp::aI pl rl::VoR pv rv::ToR pt rt::aC H mv ms::R):=hw
  refine bF [17] [.f 0 0,.f 0 0,.f 0 0,.f 0 0,.f 0 0,.f 0 0,.f 0 0,.f 0 0,.f 0 0,.f 0 0,.f 0 0,.f 0 0,.f 0 0,.f 0 0,.f 0 0,.f 0 0,.f 0 0,.m 0] [.c0 _,.c0 _,.c0 _,.c0 _,.c0 _,.c0 _,.c0 _,.c0 _,.c0 _,.c0 _,.c0 _,.c0 _,.c0 _,.c0 _,.c0 _,.c0 _,.c0 _,.c1 (fun x=>undef)] (aA b [.int .i64 h.term,.int .i64 h.vote] 44::gQ p id rh.term rh.vote pl cm role ldr hrd pv pt mv (true) fr sp::aI pl rl::VoR pv rv::ToR pt rt::aC H mv ms::R) (fun x=>aA b [.int .i64 h.term,.int .i64 h.vote] 44::gQ p id rh.term rh.vote pl cm role ldr hrd pv pt mv (true) fr sp::aI pl rl::VoR pv rv::ToR pt rt::aC H mv ms::R) (fun x y=>[]) (fun x y z=>[]) (fun x y z t=>[]) hs hw ?kk ⟨drs,drs,drs,drs,drs,drs,drs,drs,drs,drs,drs,drs,drs,drs,drs,drs,drs,drm,trivial⟩
  case kk=>
   intro _ a W hs hw
   refine sx hs hw fun a W hs hw=>?_
   refine cO hs rfl ⟨rfl,?_⟩
   exact cF (r:=⟨id,h,rl,cm,role,ldr,hrd,rv,rt,⟨ms,true,fr,sp⟩⟩) (hw.sub (List.Sublist.cons _ (List.Sublist.refl _)))
 |false=>
  replace hw:Has 0 w0 W (aA b [.int .i64 h.term,.int .i64 h.vote] 44::gQ p id rh.term rh.vote pl cm role ldr hrd pv pt mv (false) fr sp::aI pl rl::VoR pv rv::ToR pt rt::aC H mv ms::R):=hw
  refine bF [17] [.f 0 0,.f 0 0,.f 0 0,.f 0 0,.f 0 0,.f 0 0,.f 0 0,.f 0 0,.f 0 0,.f 0 0,.f 0 0,.f 0 0,.f 0 0,.f 0 0,.f 0 0,.f 0 0,.f 0 0,.m 0] [.c0 _,.c0 _,.c0 _,.c0 _,.c0 _,.c0 _,.c0 _,.c0 _,.c0 _,.c0 _,.c0 _,.c0 _,.c0 (.bool (!((h.term == rh.term) && (h.vote == rh.vote)))),.c0 _,.c0 _,.c0 _,.c0 _,.c1 (fun x=>undef)] (aA b [.int .i64 h.term,.int .i64 h.vote] 44::gQ p id rh.term rh.vote pl cm role ldr hrd pv pt mv (false) fr sp::aI pl rl::VoR pv rv::ToR pt rt::aC H mv ms::R) (fun x=>aA b [.int .i64 h.term,.int .i64 h.vote] 44::gQ p id rh.term rh.vote pl cm role ldr hrd pv pt mv (!((h.term == rh.term) && (h.vote == rh.vote))) fr sp::aI pl rl::VoR pv rv::ToR pt rt::aC H mv ms::R) (fun x y=>[]) (fun x y z=>[]) (fun x y z t=>[]) hs hw ?kk ⟨drs,drs,drs,drs,drs,drs,drs,drs,drs,drs,drs,drs,?f12,drs,drs,drs,drs,drm,trivial⟩
  case f12=>
   refine ⟨?_,trivial,trivial,trivial,trivial⟩
   intro x y z t LD a W hs hw
   refine sc hs ?_
   refine aE1 [(2,.i h.term,.i rh.term),(3,.i h.vote,.i rh.vote)] ((h.term == rh.term) && (h.vote == rh.vote)) (by simp [FV.eqv]) hs (by simp only [List.mem_cons,List.not_mem_nil,or_false];rintro v (rfl|rfl) <;> exact rR _ _) fun a hs=>?_
   exact ⟨hs,hw⟩
  case kk=>
   intro _ a W hs hw
   refine sx hs hw fun a W hs hw=>?_
   refine cO hs rfl ⟨rfl,?_⟩
   exact cF (r:=⟨id,h,rl,cm,role,ldr,hrd,rv,rt,⟨ms,!((h.term == rh.term) && (h.vote == rh.vote)),fr,sp⟩⟩) (hw.sub (List.Sublist.cons _ (List.Sublist.refl _)))
theorem aHA (t:Int) (hw:Has 0 w0 W (aG H p r::R)):
  Calls Tryz.prog 140 ⟨[ptr p,.int .i64 t]⟩ W fun e W'=>e= .returned (.tuple ⟨[]⟩)∧Has 0 w0 W' (aG H p (r.yield t)::R):=by
 refine enter Tryz.func140 Tryz.ntmps140 rfl rfl fun a hs=>?_
 refine sv hs hw fun a hs=>?_
 refine cl hs (sZ ⟨t,0⟩ hw) fun a W hs hw=>?_
 obtain ⟨pl,pv,pt,mv,hw⟩:=dG hw
 refine sx hs hw fun a W hs hw=>?_
 exact cO hs rfl ⟨rfl,cF (r:=r.yield t) hw⟩
theorem s4 (hw:Has 0 w0 W (aG H p r::R)):
  Calls Tryz.prog 122 ⟨[ptr p]⟩ W fun e W'=>∃s:Option Addr×Nat,e= .returned (.agg ⟨[.slice s.1 r.out.msgs.length s.2,.bool r.out.hard,.int .i64 r.out.from_,.bool r.out.snap]⟩)∧True∧Has 0 w0 W' (aG H p r.did.1::aC H (.slice s.1 r.out.msgs.length s.2) r.out.msgs::R):=by
 obtain ⟨pl,pv,pt,ad,cap,xs,hch,hw⟩:=aBe hw
 refine enter Tryz.func122 Tryz.ntmps122 rfl rfl fun a hs=>?_
 refine sc hs ?_
 refine sn hs hw fun b2 a W hs hw=>?_
 refine sv hs hw fun a hs=>?_
 refine sn hs hw fun b3 a W hs hw=>?_
 refine sx hs hw fun a W hs hw=>?_
 refine rc1 hs rfl rfl hw (by repeat (first|exact In.hd|apply In.tl)) rfl ⟨(ad,cap),rfl,trivial,?_⟩
 have hw:Has 0 w0 W (Sx.Own 38 13 (.slice none 0 0) 0 []::_):=hw.nilOwn 38 13
 have hw:Has 0 w0 W (aG H p r.did.1::Sx.Own 38 13 (.slice ad r.out.msgs.length cap) r.out.msgs.length xs::R):=aBf (r:=r.did.1) (xs:=[]) (pl:=pl) (pv:=pv) (pt:=pt) (mv:= .slice none 0 0) (hw.sl) rfl
 exact (kX hw.swap2 hch).swap2
end
section
variable {H H':Fh} {p pl:Nat} {pv pt mv:Value} {r:RaftD} {w0 W:World} {R L:List Res} {l:List bP} {v:Value}
theorem qE (i:Int) (ok:Bool) (hw:Has 0 w0 W (aG H p r::R)):
  Calls Tryz.prog 215 ⟨[ptr p,.int .i64 i,.bool ok]⟩ W fun e W'=>e= .returned (.bool ok)∧Has 0 w0 W' (aG H p (r.changed i)::R):=by
 obtain ⟨pl,pv,pt,mv,hw⟩:=dG hw
 have he:r.changed i=match decide (i > 0) && (r.out.from_ == 0 || decide (i<r.out.from_)) with|true=>{r with out:={r.out with from_:=i}}|false=>r:=rfl
 rw [he]
 refine enter Tryz.func215 Tryz.ntmps215 rfl rfl fun a hs=>?_
 refine sv hs hw fun a hs=>?_
 cases c1:decide (i > 0) with
 |false=>
  rw [c1] at hs
  refine sv hs hw fun a hs=>?_
  exact rt1 hs rfl rfl ⟨rfl,cF hw⟩
 |true=>
 rw [c1] at hs
 refine sv hs hw fun a hs=>?_
 cases c2:r.out.from_ == 0 with
 |true=>
  rw [c2] at hs
  refine sx hs hw fun a W hs hw=>?_
  exact rt1 hs rfl rfl ⟨rfl,cF (r:={r with out:={r.out with from_:=i}}) hw⟩
 |false=>
 rw [c2] at hs
 refine sv hs hw fun a hs=>?_
 cases c3:decide (i<r.out.from_) with
 |true=>
  rw [c3] at hs
  refine sx hs hw fun a W hs hw=>?_
  exact rt1 hs rfl rfl ⟨rfl,cF (r:={r with out:={r.out with from_:=i}}) hw⟩
 |false=>
  rw [c3] at hs
  refine sv hs hw fun a hs=>?_
  exact rt1 hs rfl rfl ⟨rfl,cF hw⟩
theorem aHB {α:Type} {l:List α} {i:Nat} {o:α} (f:α→Bool) (h:l[i]? =some o):(l.take (i+1)).filter f=(l.take i).filter f ++ (match f o with|true=>[o]|false=>[]):=by
 rw [fS h,List.filter_append]
 cases hf:f o <;> simp [hf]
theorem aBg:∀(l:List bZ) (k:Int) (x:List Int×Int),jJ k l=some x→x.1.length≤7
 | [],_,_,h=>by cases h
 |e::r,k,x,h=>by
  unfold jJ at h
  split at h
  ·rename_i h1
   obtain rfl:=Option.some.inj h
   rw [Bool.and_eq_true] at h1
   unfold dK at h1⊢
   cases hm:dD (e.data.data.toList.map fun c=>(c.toNat:Int) - 48) with
   |false=>rw [hm] at h1;cases h1.1
   |true=>exact pU hm
  ·exact aBg r (k - 1) x h
theorem aHC (s:List UInt8):(dK s).1.length≤7:=by
 unfold dK
 cases hm:dD (s.map fun c=>(c.toNat:Int) - 48) with
 |false=>simp
 |true=>exact pU hm
theorem qF (l:LogD) (i:Int):(l.confAt i).1.length≤7:=by
 unfold LogD.confAt
 split
 ·rename_i x h;exact aBg _ _ x h
 ·split
  ·exact aHC _
  ·simp
theorem aBh (hw:Has 0 w0 W (aG H p r::R)):
  Calls Tryz.prog 138 ⟨[ptr p]⟩ W fun e W'=>∃s:Option Addr×Nat,e= .returned (.slice s.1 r.others.length s.2)∧True∧Has 0 w0 W' (aN (.slice s.1 r.others.length s.2) r.others::aG H p r::R):=by
 obtain ⟨pl,pv,pt,mv,hw⟩:=dG hw
 have he:r.others=r.l.conf.1.filter fun x=>x !=r.id:=rfl
 have h7:=qF r.l r.l.last
 rw [he]
 refine enter Tryz.func138 Tryz.ntmps138 rfl rfl fun a hs=>?_
 refine sx hs hw fun a W hs hw=>?_
 refine aF hs (hc:=(sO (l:=r.l)).ok hw.rebase) (k:=?_)
 rintro e' W' ⟨x,rfl,hw'⟩
 refine ⟨_,rfl,fun a hs=>?_⟩
 have hw:=(hw.trans hw').nilOwn 3 1
 rw [show r.l.conf.1=(r.l.confAt r.l.last).1 from rfl] at hs hw⊢
 generalize (r.l.confAt r.l.last).1=c at *
 replace hw:Has 0 w0 W' (aN (.slice none 0 0) []::aN (.slice x.1 c.length x.2) c::aK p r pl pv pt mv::aI pl r.l::VoR pv r.v::ToR pt r.t::aC H mv r.out.msgs::R):=hw
 refine sv hs hw fun a hs=>?_
 let f:Int→Bool:=fun x=>x !=r.id
 refine bX (σ:=Nat×Option Addr×Nat) (fun q=>[(0,ptr p),(5,.slice q.2.1 ((c.take q.1).filter f).length q.2.2),(16,.slice x.1 c.length x.2),(17,.int .i64 (c.length:Int)),(18,.int .i64 (q.1:Int))]) (fun q=>aN (.slice q.2.1 ((c.take q.1).filter f).length q.2.2) ((c.take q.1).filter f)::aN (.slice x.1 c.length x.2) c::aK p r pl pv pt mv::aI pl r.l::VoR pv r.v::ToR pt r.t::aC H mv r.out.msgs::R) (fun q=>q.1≤c.length) (fun q=>c.length - q.1) (0,none,0) (Nat.zero_le _) hs ⟨rfl,rfl,rfl,rfl,rfl,trivial⟩ hw ?_
 clear hs hw
 rintro ⟨i,ad,cap⟩ a W hi hs hw
 have hi:i≤c.length:=hi
 simp only at hs hw
 refine sv hs hw fun a hs=>?_
 refine cI hs (kt:=fun hc=>?_) (kf:=fun hc=>?_)
 ·have hi':i<c.length:=by simpa using hc
  obtain ⟨o,ho,hd⟩:=dS hi'
  have hn:=aHB f ho
  have hle:((c.take i).filter f).length≤7:=Nat.le_trans (List.length_filter_le _ _) (by rw [List.length_take];omega)
  refine sc hs ?_
  refine iA hs (hw.rd_own (In.tl In.hd)) ho rfl fun a b fo hs=>?_
  refine sv hs hw fun a hs=>?_
  rw [show (o !=r.id)=f o from rfl] at hs
  cases c1:f o with
  |true=>
   rw [c1] at hs hn
   replace hn:(c.take (i+1)).filter f=(c.take i).filter f ++ [o]:=hn
   refine sv hs hw fun a hs=>?_
   refine sn hs hw fun b a W hs hw=>?_
   refine mD hs hw Pick.hd (by omega) fun a ad cap W hs hw=>?_
   rw [←hn] at hs hw
   refine sv hs hw fun a hs=>?_
   exact bR (i+1,ad,cap) hs hw hi' (by show c.length - (i+1)<c.length - i;omega) ⟨rfl,rfl,rfl,rfl,bS (i1 (by omega)),trivial⟩
  |false=>
   rw [c1] at hs hn
   replace hn:(c.take (i+1)).filter f=(c.take i).filter f:=by rw [hn];simp
   refine sv hs hw fun a hs=>?_
   exact bR (i+1,ad,cap) hs (by show Has 0 w0 W (aN (.slice ad ((c.take (i+1)).filter f).length cap) ((c.take (i+1)).filter f)::_);rw [hn];exact hw) hi' (by show c.length - (i+1)<c.length - i;omega) ⟨rfl,by rw [hn];rfl,rfl,rfl,bS (i1 (by omega)),trivial⟩
 ·have:c.take i=c:=List.take_of_length_le (by simp at hc;omega)
  rw [this] at hs hw
  refine sv hs hw fun a hs=>?_
  refine rt1 hs rfl rfl ⟨(ad,cap),rfl,trivial,?_⟩
  have hw:Has 0 w0 W (aG H p r::aN (.slice ad (c.filter f).length cap) (c.filter f)::R):=cF (hw.sl)
  exact hw.swap2
end
section
variable {L:List Res} {X i j:Int} {sl:Value}
instance track_Next0:Get Tryz.prog 219 [.pointer none,.int .i64 X] L (.int .i64 0) L:=⟨fun {w W} hw=>by
 refine enter Tryz.func219 Tryz.ntmps219 rfl rfl fun a hs=>?_
 refine sx hs hw fun a W hs hw=>?_
 exact rt1 hs rfl rfl ⟨rfl,hw⟩⟩
instance track_Sent0:Get Tryz.prog 262 [.pointer none,.int .i64 X,.int .i64 i] L (.tuple ⟨[]⟩) L:=⟨fun {w W} hw=>by
 refine enter Tryz.func262 Tryz.ntmps262 rfl rfl fun a hs=>?_
 refine sx hs hw fun a W hs hw=>?_
 exact cO hs rfl ⟨rfl,hw⟩⟩
instance track_Yes0:Get Tryz.prog 218 [.pointer none,.int .i64 X,.int .i64 i] L (.bool false) L:=⟨fun {w W} hw=>by
 refine enter Tryz.func218 Tryz.ntmps218 rfl rfl fun a hs=>?_
 refine sx hs hw fun a W hs hw=>?_
 exact rt1 hs rfl rfl ⟨rfl,hw⟩⟩
instance track_No0:Get Tryz.prog 217 [.pointer none,.int .i64 X,.int .i64 i] L (.bool false) L:=⟨fun {w W} hw=>by
 refine enter Tryz.func217 Tryz.ntmps217 rfl rfl fun a hs=>?_
 refine sx hs hw fun a W hs hw=>?_
 exact rt1 hs rfl rfl ⟨rfl,hw⟩⟩
instance track_Middle0:Get Tryz.prog 257 [.pointer none,sl,.int .i64 i,.int .i64 j] L (.int .i64 0) L:=⟨fun {w W} hw=>by
 refine enter Tryz.func257 Tryz.ntmps257 rfl rfl fun a hs=>?_
 refine sx hs hw fun a W hs hw=>?_
 exact rt1 hs rfl rfl ⟨rfl,hw⟩⟩
end
section
variable {w0 W:World} {R:List Res} {pt pv:Value} {t:jK} {v:kP} {o:TrackD} {vo:VotesD} {q:Nat} {X i j:Int} {sl:Value} {l:List Int}
theorem qG (h:Has 0 w0 W (ToR pt (some o)::R)):∃q,pt=ptr q∧Has 0 w0 W (gG q o::R):=by
 obtain ⟨q,h⟩:=Has.open h
 have h:Has 0 w0 W (gG q o::bN (pt=ptr q)::R):=h
 exact ⟨q,h.told (In.tl In.hd),h.sl⟩
theorem nU (h:Has 0 w0 W (gG q o::R)):Has 0 w0 W (ToR (ptr q) (some o)::R):=
 Has.shut q ((h.fact (rfl:ptr q=ptr q)).pm)
theorem qH (h:Has 0 w0 W (ToR pt none::R)):pt= .pointer none:=(show Has 0 w0 W (bN (pt= .pointer none)::R) from h).told In.hd
theorem s6 (h:Has 0 w0 W (VoR pv (some vo)::R)):∃q,pv=ptr q∧Has 0 w0 W (fW q vo::R):=by
 obtain ⟨q,h⟩:=Has.open h
 have h:Has 0 w0 W (fW q vo::bN (pv=ptr q)::R):=h
 exact ⟨q,h.told (In.tl In.hd),h.sl⟩
theorem qI (h:Has 0 w0 W (fW q vo::R)):Has 0 w0 W (VoR (ptr q) (some vo)::R):=
 Has.shut q ((h.fact (rfl:ptr q=ptr q)).pm)
theorem s7 (h:Has 0 w0 W (VoR pv none::R)):pv= .pointer none:=(show Has 0 w0 W (bN (pv= .pointer none)::R) from h).told In.hd
theorem xG (hw:Has 0 w0 W (ToR pt t::R)):Calls Tryz.prog 219 ⟨[pt,.int .i64 X]⟩ W fun e W'=>e= .returned (.int .i64 (bJ t X))∧Has 0 w0 W' (ToR pt t::R):=by
 cases t with
 |none=>obtain rfl:=qH hw;exact track_Next0.ok hw
 |some o=>obtain ⟨q,rfl,h⟩:=qG hw;exact (track_Next.ok h).mono fun e W' ⟨h1,h2⟩=>⟨h1,nU h2⟩
theorem aHD (hw:Has 0 w0 W (ToR pt t::R)):Calls Tryz.prog 262 ⟨[pt,.int .i64 X,.int .i64 i]⟩ W fun e W'=>e= .returned (.tuple ⟨[]⟩)∧Has 0 w0 W' (ToR pt (mL t X i)::R):=by
 cases t with
 |none=>obtain rfl:=qH hw;exact track_Sent0.ok hw
 |some o=>obtain ⟨q,rfl,h⟩:=qG hw;exact (track_Sent.ok h).mono fun e W' ⟨h1,h2⟩=>⟨h1,nU h2⟩
theorem aHE (hw:Has 0 w0 W (ToR pt t::R)):Calls Tryz.prog 218 ⟨[pt,.int .i64 X,.int .i64 i]⟩ W fun e W'=>e= .returned (.bool (gF t X i).2)∧Has 0 w0 W' (ToR pt (gF t X i).1::R):=by
 cases t with
 |none=>obtain rfl:=qH hw;exact track_Yes0.ok hw
 |some o=>obtain ⟨q,rfl,h⟩:=qG hw;exact (track_Yes.ok h).mono fun e W' ⟨h1,h2⟩=>⟨h1,nU h2⟩
theorem aHF (hw:Has 0 w0 W (ToR pt t::R)):Calls Tryz.prog 217 ⟨[pt,.int .i64 X,.int .i64 i]⟩ W fun e W'=>e= .returned (.bool (gO t X i).2)∧Has 0 w0 W' (ToR pt (gO t X i).1::R):=by
 cases t with
 |none=>obtain rfl:=qH hw;exact track_No0.ok hw
 |some o=>obtain ⟨q,rfl,h⟩:=qG hw;exact (track_No.ok h).mono fun e W' ⟨h1,h2⟩=>⟨h1,nU h2⟩
theorem aHG (hw:Has 0 w0 W (ToR pt t::aN sl l::R)):Calls Tryz.prog 257 ⟨[pt,sl,.int .i64 i,.int .i64 j]⟩ W fun e W'=>e= .returned (.int .i64 (kR t l i j))∧Has 0 w0 W' (ToR pt t::aN sl l::R):=by
 cases t with
 |none=>obtain rfl:=qH hw;exact track_Middle0.ok hw
 |some o=>obtain ⟨q,rfl,h⟩:=qG hw;exact ((aGz i j).ok h).mono fun e W' ⟨h1,h2⟩=>⟨h1,nU h2⟩
theorem aHH (hb:∀o,v=some o→o.yes.length≤1000) (hw:Has 0 w0 W (VoR pv v::R)):Calls Tryz.prog 134 ⟨[pv,.int .i64 X]⟩ W fun e W'=>∃b,e= .returned (.bool b)∧True∧Has 0 w0 W' (VoR pv (sF v X)::R):=by
 cases v with
 |none=>obtain rfl:=s7 hw;exact (vote_Yes0.ok hw).mono fun e W' ⟨h1,h2⟩=>⟨_,h1,trivial,h2⟩
 |some o=>obtain ⟨q,rfl,h⟩:=s6 hw;exact ((aBJ (hb o rfl)).ok h).mono fun e W' ⟨h1,h2⟩=>⟨_,h1,trivial,qI h2⟩
theorem aHI (hb:∀o,v=some o→o.no.length≤1000) (hw:Has 0 w0 W (VoR pv v::R)):Calls Tryz.prog 212 ⟨[pv,.int .i64 X]⟩ W fun e W'=>∃b,e= .returned (.bool b)∧True∧Has 0 w0 W' (VoR pv (sG v X)::R):=by
 cases v with
 |none=>obtain rfl:=s7 hw;exact (vote_No0.ok hw).mono fun e W' ⟨h1,h2⟩=>⟨_,h1,trivial,h2⟩
 |some o=>obtain ⟨q,rfl,h⟩:=s6 hw;exact ((aGN (hb o rfl)).ok h).mono fun e W' ⟨h1,h2⟩=>⟨_,h1,trivial,qI h2⟩
theorem xH (hw:Has 0 w0 W (VoR pv v::R)):Calls Tryz.prog 135 ⟨[pv]⟩ W fun e W'=>e= .returned (.bool (kQ v))∧Has 0 w0 W' (VoR pv v::R):=by
 cases v with
 |none=>obtain rfl:=s7 hw;exact vote_Won0.ok hw
 |some o=>obtain ⟨q,rfl,h⟩:=s6 hw;exact (vote_Won.ok h).mono fun e W' ⟨h1,h2⟩=>⟨h1,qI h2⟩
theorem aBi (hw:Has 0 w0 W (VoR pv v::R)):Calls Tryz.prog 213 ⟨[pv]⟩ W fun e W'=>e= .returned (.bool (pM v))∧Has 0 w0 W' (VoR pv v::R):=by
 cases v with
 |none=>obtain rfl:=s7 hw;exact vote_Lost0.ok hw
 |some o=>obtain ⟨q,rfl,h⟩:=s6 hw;exact (vote_Lost.ok h).mono fun e W' ⟨h1,h2⟩=>⟨h1,qI h2⟩
end
theorem aBj {α:Type} {p:α→Bool} {l:List α} {i:Nat} {o:α} (h:l[i]? =some o) (ha:(l.take i).any p=false) (hp:p o=false):(l.take (i+1)).any p=false:=by
 rw [fS h,List.any_append,ha];simp [hp]
def j9 (x:Int):Bool:=decide (x<0) || decide (x > 1099511627776)
section
variable {p:Nat} {l:LogD} {w0 W:World} {L R:List Res}
theorem aHJ (x:Int):Get Tryz.prog 237 [.int .i64 x] L (.bool (j9 x)) L:=⟨fun {w W} hw=>by
 refine enter Tryz.func237 Tryz.ntmps237 rfl rfl fun a hs=>?_
 refine sv hs hw fun a hs=>?_
 unfold j9
 cases c1:decide (x<0) with
 |true=>
  rw [c1] at hs
  refine sv hs hw fun a hs=>?_
  exact rt1 hs rfl rfl ⟨rfl,hw⟩
 |false=>
  rw [c1] at hs
  refine sv hs hw fun a hs=>?_
  exact rt1 hs rfl rfl ⟨rfl,hw⟩⟩
theorem aHK (all:List Int) (v:Value) (r:∀{W},Has 0 w0 W R→Rd W 1 v all.length (bQ all)) (hw:Has 0 w0 W R):
  Calls Tryz.prog 271 ⟨[v,.func (.func 237) ⟨[]⟩ ⟨[]⟩]⟩ W fun e W'=>∃i:Int,e= .returned (.int .i64 i)∧decide (i≥0)=all.any j9∧Has 0 w0 W' R:=by
 obtain ⟨sad,scap,rfl⟩:∃ad cap,v= .slice ad all.length cap:=by obtain ⟨_,ad,cap,e,_⟩:=r hw;exact ⟨ad,cap,e⟩
 have hlen:=(r hw).len
 refine enter Tryz.func271 Tryz.ntmps271 rfl rfl fun a hs=>?_
 refine sv hs hw fun a hs=>?_
 refine bX (σ:=Nat) (fun i=>[(0,.slice sad all.length scap),(1,.func (.func 237) ⟨[]⟩ ⟨[]⟩),(7,.int .i64 (all.length:Int)),(8,.int .i64 (i:Int))]) (fun _=>R) (fun i=>i≤all.length∧(all.take i).any j9=false) (fun i=>all.length - i) 0 ⟨Nat.zero_le _,rfl⟩ hs ⟨rfl,rfl,rfl,rfl,trivial⟩ hw ?_
 clear hs hw
 rintro i a W ⟨hi,ha⟩ hs hw
 refine sv hs hw fun a hs=>?_
 refine cI hs (kt:=fun hcc=>?_) (kf:=fun hcc=>?_)
 ·have hi':i<all.length:=by simpa using hcc
  obtain ⟨o,ho,hd⟩:=dS hi'
  refine sv hs hw fun a hs=>?_
  refine iA hs (r hw) ho rfl fun a b f hs=>?_
  refine aAH hs (hf:=by kernel_rfl) (hc:=(aHJ (L:=R) o).ok hw.rebase) (k:=?_)
  rintro e0 W1 ⟨rfl,hw'⟩
  refine ⟨_,rfl,fun a hs=>?_⟩
  have hw:=hw.trans hw'
  cases hq:j9 o with
  |true=>
   rw [hq] at hs
   refine sv hs hw fun a hs=>?_
   exact rt1 hs rfl rfl ⟨_,rfl,by rw [List.any_eq_true.2 ⟨o,List.mem_of_getElem? ho,hq⟩];exact decide_eq_true (by omega),hw⟩
  |false=>
   rw [hq] at hs
   refine sv hs hw fun a hs=>?_
   exact bR (i+1) hs hw ⟨hi',aBj ho ha hq⟩ (by show all.length - (i+1)<all.length - i;omega) ⟨rfl,rfl,rfl,bS (i1 (by omega)),trivial⟩
 ·have:all.take i=all:=List.take_of_length_le (by simp at hcc;omega)
  rw [this] at ha
  refine sv hs hw fun a hs=>?_
  exact rt1 hs rfl rfl ⟨_,rfl,by rw [ha];decide,hw⟩
theorem aHL (all:List Int) (v:Value) (r:∀{W},Has 0 w0 W R→Rd W 1 v all.length (bQ all)) (hw:Has 0 w0 W R):
  Calls Tryz.prog 162 ⟨[v]⟩ W fun e W'=>e= .returned (.bool (!all.any j9))∧Has 0 w0 W' R:=by
 have h1:∀{W},Has 0 w0 W R→Calls Tryz.prog 236 ⟨[v,.func (.func 237) ⟨[]⟩ ⟨[]⟩]⟩ W fun e W'=>e= .returned (.bool (all.any j9))∧Has 0 w0 W' R:=by
  intro W hw
  refine enter Tryz.func236 Tryz.ntmps236 rfl rfl fun a hs=>?_
  refine sv hs hw fun a hs=>?_
  refine aF hs (hc:=aHK all v r hw) (k:=?_)
  rintro e0 W1 ⟨i,rfl,hi,hw⟩
  refine ⟨_,rfl,fun a hs=>?_⟩
  refine sv hs hw fun a hs=>?_
  rw [hi] at hs
  exact rt1 hs rfl rfl ⟨rfl,hw⟩
 refine enter Tryz.func162 Tryz.ntmps162 rfl rfl fun a hs=>?_
 refine sv hs hw fun a hs=>?_
 refine cl hs (h1 hw) fun a W hs hw=>?_
 refine sv hs hw fun a hs=>?_
 exact rt1 hs rfl rfl ⟨rfl,hw⟩
theorem aHM (x:Int):j9 x=!cX x:=by unfold j9 cX;cases decide (x<0) <;> cases decide (x > 1099511627776) <;> rfl
theorem aHN (s:eA) (l:List bZ) (v:Value) (hm:wN s l=true) (hc:s.conf.size≤1000000) (hd:∀e∈l,e.data.size≤1000000) (hr:∀{W},Has 0 w0 W R→Rd W 4 v l.length (l.flatMap bE)) (hw:Has 0 w0 W R):
  Calls Tryz.prog 93 ⟨[.agg ⟨e7 s⟩,v]⟩ W fun e W'=>∃q:Nat,e= .returned (ptr q)∧True∧Has 0 w0 W' (aI q ⟨s,l⟩::R):=by
 unfold wN at hm
 simp only [Bool.and_eq_true] at hm
 obtain ⟨⟨⟨h1,h2⟩,h3⟩,h4⟩:=hm
 have h3':decide ((l.length:Int) > 200)=false:=by simpa using h3
 have h200:=of_decide_eq_false h3'
 have hin:0≤s.ix∧s.ix≤1099511627776:=by unfold cX at h1;simp at h1;omega
 obtain ⟨vad,vcap,rfl⟩:∃ad cap,v= .slice ad l.length cap:=by obtain ⟨_,ad,cap,e,_⟩:=hr hw;exact ⟨ad,cap,e⟩
 have ho:([s.ix,s.term].any j9)=false:=by simp [aHM,h1,h2]
 refine enter Tryz.func93 Tryz.ntmps93 rfl rfl fun a hs=>?_
 refine sc hs ?_
 refine sn hs hw fun b2 a W hs hw=>?_
 refine sv hs hw fun a hs=>?_
 refine sn hs hw fun b3 a W hs hw=>?_
 replace hw:Has 0 w0 W (aA b3 (bQ [s.ix,s.term]) 2::aA b2 (e7 s) 36::R):=hw
 refine cl hs (aHL [s.ix,s.term] _ (fun h=>h.rd_lit (cs:=bQ [s.ix,s.term]) (n:=2) (size:=1) In.hd (by rfl) (by omega)) hw) fun a W hs hw=>?_
 rw [ho] at hs
 refine sv hs hw fun a hs=>?_
 rw [h3'] at hs
 refine sv hs hw fun a hs=>?_
 refine cl hs (aBR w0 _ s.ix s.term l _ _ (fun h=>hr (h.sub (List.Sublist.cons _ (List.Sublist.cons _ (List.Sublist.refl _))))) hw) fun a W hs hw=>?_
 rw [h4] at hs
 refine sv hs hw fun a hs=>?_
 replace hw:Has 0 w0 W (aA b2 (e7 s) 36::R):=hw.sub (List.Sublist.cons _ (List.Sublist.refl _))
 refine bF [2,4] [.f 0 1,.f 0 0,.m 0,.f 1 1,.m 1,.f 2 2] [.c0 _,.c0 _,.c1 (fun x=> .slice x.ad l.length x.cap),.c1 _,.c2 (fun x y=>ptr y.n),.c2 _] (aA b2 (e7 s) 36::R) (fun x=>bC (.slice x.ad l.length x.cap) l::aA b2 (e7 s) 36::R) (fun x y=>eO y.n s (.slice x.ad l.length x.cap)::bC (.slice x.ad l.length x.cap) l::aA b2 (e7 s) 36::R) (fun x y z=>[]) (fun x y z t=>[]) hs hw ?kk ⟨drs,drs,?m0,drs,drn,drs,trivial⟩
 case m0=>
  intro x y z t LD a W hs hw
  refine cle hs (sQ w0 W l _ _ (by omega) (fun h=>hr (h.sub (List.Sublist.cons _ (List.Sublist.refl _)))) hw) fun x a W _ hs hw=>?_
  exact ⟨{ad:=x.1,cap:=x.2},hs,hw⟩
 case kk=>
  intro x y a W hs hw
  refine sc hs ?_
  refine rt1 hs rfl rfl ⟨y.n,rfl,trivial,?_⟩
  exact gX (l:=⟨s,l⟩) (hw.sl) ⟨hin.1,hin.2,by show l.length≤200;omega,hc,hd⟩
end
section
variable {H H':Fh} {p pl:Nat} {pv pt mv:Value} {r:RaftD} {w0 W:World} {R L:List Res} {l:List bP} {v:Value}
theorem aBk (kind:Int) (s:ByteArray) (hsz:s.size≤1000000) (hw:Has 0 w0 W (aG H p r::R)):
  Calls Tryz.prog 192 ⟨[ptr p,.int .i64 kind,.string s]⟩ W fun e W'=>e= .returned (.int .i64 (r.put kind s).2)∧Has 0 w0 W' (aG H p (r.put kind s).1::R):=by
 obtain ⟨pl,pv,pt,mv,hw⟩:=dG hw
 obtain ⟨hl,_⟩:=iJ (hw.swap2:Has 0 w0 W (aI pl r.l::aK p r pl pv pt mv::VoR pv r.v::ToR pt r.t::aC H mv r.out.msgs::R))
 have hla:=nS hl
 have ⟨hl0,hl1,hl2,_,_⟩:=hl
 have hi0:0≤w64 (r.l.last+1):=by rw [show w64 (r.l.last+1)=r.l.last+1 from IntWalk.i64_in _ (by omega)];omega
 obtain ⟨e,he⟩:∃e:bZ,e=⟨w64 (r.l.last+1),r.h.term,kind,s⟩:=⟨_,rfl⟩
 have hput:r.put kind s=({r with l:=(r.l.put [e]).1}.changed (r.l.put [e]).2.1,w64 (r.l.last+1)):=by rw [he];rfl
 rw [hput]
 have hes:∀e'∈[e],0≤e'.ix∧e'.data.size≤1000000:=by
  intro e' h
  obtain rfl:=List.mem_singleton.1 h
  rw [he];exact ⟨hi0,hsz⟩
 refine enter Tryz.func192 Tryz.ntmps192 rfl rfl fun a hs=>?_
 refine sx hs hw fun a W hs hw=>?_
 refine bF [14,15,18] [.f 0 2,.f 0 1,.f 0 1,.f 0 1,.f 0 1,.f 0 0,.f 0 0,.f 0 0,.f 0 0,.f 0 0,.f 0 0,.f 0 0,.f 0 0,.f 0 0,.m 0,.m 1,.f 2 2,.f 2 2,.m 2] [.c0 _,.c0 _,.c0 _,.c0 _,.c0 _,.c0 _,.c0 _,.c0 _,.c0 _,.c0 _,.c0 _,.c0 _,.c0 _,.c0 _,.c1 (fun x=> .slice (some ⟨x.n,0,none⟩) 1 1),.c2 (fun x y=> .tuple ⟨[.int .i64 (r.l.put [e]).2.1,.bool (r.l.put [e]).2.2]⟩),.c2 _,.c2 _,.c3 (fun x y z=> .bool (r.l.put [e]).2.2)] (aK p r pl pv pt mv::aI pl (r.l)::VoR pv r.v::ToR pt r.t::aC H mv r.out.msgs::R) (fun x=>aA x.n (bE ⟨w64 (r.l.last+1),r.h.term,kind,s⟩) 137::aK p r pl pv pt mv::aI pl (r.l)::VoR pv r.v::ToR pt r.t::aC H mv r.out.msgs::R) (fun x y=>aA x.n (bE e) 137::aK p r pl pv pt mv::aI pl ((r.l.put [e]).1)::VoR pv r.v::ToR pt r.t::aC H mv r.out.msgs::R) (fun x y z=>aA x.n (bE e) 137::aG H p ({r with l:=(r.l.put [e]).1}.changed (r.l.put [e]).2.1)::R) (fun x y z t=>[]) hs hw ?kk ⟨drs,drs,drs,drs,drs,drs,drs,drs,drs,drs,drs,drs,drs,drs,drn,?m1,drs,drs,?m2,trivial⟩
 case m1=>
  intro x y z t LD a W hs hw
  rw [←he] at hw
  have hw:Has 0 w0 W (aI pl r.l::aA x.n (bE e) 137::aK p r pl pv pt mv::VoR pv r.v::ToR pt r.t::aC H mv r.out.msgs::R):=hw.pm
  refine cl hs (pZ [e] (.slice (some ⟨x.n,0,none⟩) 1 1) (by simp) hes (fun h=>h.rd_lit (cs:=bE e) (n:=1) (size:=4) In.hd (by rfl) (by omega)) hw) fun a W hs hw=>?_
  exact ⟨{},hs,hw.pm⟩
 case m2=>
  intro x y z t LD a W hs hw
  have hw:Has 0 w0 W (aG H p {r with l:=(r.l.put [e]).1}::aA x.n (bE e) 137::R):=cF (r:={r with l:=(r.l.put [e]).1}) (hw.pm)
  refine cl hs (qE _ _ hw) fun a W hs hw=>?_
  exact ⟨{},hs,hw.swap2⟩
 case kk=>
  intro x y z a W hs hw
  refine sv hs hw fun a hs=>?_
  exact rt1 hs rfl rfl ⟨rfl,hw.sub (List.Sublist.cons _ (List.Sublist.refl _))⟩
end
section
variable {H H':Fh} {p pl:Nat} {pv pt mv:Value} {r:RaftD} {w0 W:World} {R L:List Res} {l:List bP} {v:Value}
theorem fP:fO H (.slice none 0 0) []:=RdH.nil H 4 0 (by omega)
abbrev i7:List Value:=aH cP (.slice none 0 0)
theorem s8 (to_:Int) (hl:r.out.msgs.length≤1000) (hw:Has 0 w0 W (aG H p r::Fz H::R)):
  Calls Tryz.prog 206 ⟨[ptr p,.int .i64 to_]⟩ W fun e W'=>e= .returned (.tuple ⟨[]⟩)∧∃H',H.le H'∧Has 0 w0 W' (aG H' p (r.send to_)::Fz H'::R):=by
 obtain ⟨pl,pv,pt,mv,hw⟩:=dG hw
 obtain ⟨hlw,_⟩:=iJ (hw.swap2:Has 0 w0 W (aI pl r.l::aK p r pl pv pt mv::VoR pv r.v::ToR pt r.t::aC H mv r.out.msgs::Fz H::R))
 refine enter Tryz.func206 Tryz.ntmps206 rfl rfl fun a hs=>?_
 refine sv hs hw fun a hs=>?_
 have hw:Has 0 w0 W (ToR pt r.t::aK p r pl pv pt mv::aI pl r.l::VoR pv r.v::aC H mv r.out.msgs::Fz H::R):=hw.pm
 refine cl hs (xG hw) fun a W hs hw=>?_
 have hw:Has 0 w0 W (aK p r pl pv pt mv::aI pl r.l::VoR pv r.v::ToR pt (r.t)::aC H mv r.out.msgs::Fz H::R):=hw.pm
 refine sx hs hw fun a W hs hw=>?_
 cases c1:decide (bJ r.t to_<r.l.first) with
 |true=>
  rw [c1] at hs
  have he:r.send to_=r.say {cP with kind:=5,to_:=to_,snap:=r.l.s}:=by unfold RaftD.send;rw [if_pos (of_decide_eq_true c1)]
  rw [he]
  refine sx hs hw fun a W hs hw=>?_
  have hw:Has 0 w0 W (aG H p r::Fz H::R):=cF hw
  refine cl hs (fH {cP with kind:=5,to_:=to_,snap:=r.l.s} (.slice none 0 0) fP hlw.2.2.2.1 hl hw) fun a W hs hw=>?_
  refine sc hs ?_
  exact rt0 hs rfl ⟨rfl,H,Fh.le.refl H,hw⟩
 |false=>
 rw [c1] at hs
 refine sx hs hw fun a W hs hw=>?_
 refine fL (G:=0) (w:=w0) (σ:=Un) (V:=fun u=>[.int .i64 to_,.int .i64 (bJ r.t to_),.int .i64 (w64 (bJ r.t to_ - 1)),.int .i64 (r.l.term (w64 (bJ r.t to_ - 1))).1,ptr p,ptr p,.pointer (some ⟨p,0+3,none⟩),ptr pl,.int .i64 (bJ r.t to_),.slice (u 9).ad (r.l.get (bJ r.t to_) 8).length (u 9).cap,ptr p,ptr p,.pointer (some ⟨p,0+4,none⟩),.int .i64 r.commit,.agg ⟨aH ⟨3,0,to_,0,w64 (bJ r.t to_ - 1),(r.l.term (w64 (bJ r.t to_ - 1))).1,r.commit,false,r.l.get (bJ r.t to_) 8,zeroSnap⟩ (.slice (u 14).ad (r.l.get (bJ r.t to_) 8).length (u 14).cap)⟩,ptr (u 15).n,.bool true])
  (Rs:=fun u D=>(if D 15 then aA (u 15).n (if D 16 then aH ⟨3,0,to_,0,w64 (bJ r.t to_ - 1),(r.l.term (w64 (bJ r.t to_ - 1))).1,r.commit,false,r.l.get (bJ r.t to_) 8,zeroSnap⟩ (.slice (u 9).ad (r.l.get (bJ r.t to_) 8).length (u 9).cap) else i7) 38 else bK)::(if D 9 then bC (.slice (u 9).ad (r.l.get (bJ r.t to_) 8).length (u 9).cap) (r.l.get (bJ r.t to_) 8) else bK)::bN (D 14=true→u 14=u 9)::aK p r pl pv pt mv::aI pl r.l::VoR pv r.v::ToR pt (r.t)::aC H mv r.out.msgs::Fz H::R) (fun _=>{}) hs ?h0 (hVu:=?vu) (ho:=⟨?c0,?c1,?c2,?c3,?c4,?c5,?c6,?c7,?c8,?c9,?c10,?c11,?c12,?c13,?c14,?c15,?c16,trivial⟩) (k:=?kk)
 case h0=>exact ((hw.fact (show false=true→({}:Un)= {} from fun _=>rfl)).free).free
 case vu=>
  intro u u' j h
  rcases j with _|_|_|_|_|_|_|_|_|_|_|_|_|_|_|_|_|j
  all_goals first|rfl|simp [h]
 case c9=>
  intro u LD D a W hcl hi hp hs hw
  have h14:=Go.Sx.not_done hcl hi 14 (by kernel_rfl)
  have h16:=Go.Sx.not_done hcl hi 16 (by kernel_rfl)
  simp only [hi,h16,Bool.false_eq_true,if_false] at hw
  refine sg hs hw (fun x a W hs hw=>?_) (g:=mT)
  refine Or.inr ⟨{ad:=x.1,cap:=x.2},hs,?_⟩
  show Has 0 w0 _ ((if D 15=true then aA (u 15).n (if D 16=true then _ else i7) 38 else bK)::bC (.slice x.1 (r.l.get (bJ r.t to_) 8).length x.2) (r.l.get (bJ r.t to_) 8)::bN (D 14=true→u 14= {ad:=x.1,cap:=x.2})::aK p r pl pv pt mv::aI pl r.l::VoR pv r.v::ToR pt (r.t)::aC H mv r.out.msgs::Fz H::R)
  rw [h16,h14]
  have hw:=hw.fact (show false=true→u 14= {ad:=x.1,cap:=x.2} from fun h=>by cases h)
  exact hw.sl
 case c0=>exact dru
 case c1=>exact dru
 case c2=>exact dru
 case c3=>exact dru
 case c4=>exact dru
 case c5=>exact dru
 case c6=>exact dru
 case c7=>exact dru
 case c8=>exact dru
 case c10=>exact dru
 case c11=>exact dru
 case c12=>exact dru
 case c13=>exact dru
 case c14=>
  intro u LD D a W hcl hi hp hs hw
  have h9:=Go.Sx.done hp 9 (by kernel_rfl)
  refine sv hs hw fun a hs=>?_
  refine Or.inr ⟨u 9,hs,?_⟩
  show Has 0 w0 _ ((if D 15=true then aA (u 15).n (if D 16=true then aH ⟨3,0,to_,0,w64 (bJ r.t to_ - 1),(r.l.term (w64 (bJ r.t to_ - 1))).1,r.commit,false,r.l.get (bJ r.t to_) 8,zeroSnap⟩ (.slice (u 9).ad (r.l.get (bJ r.t to_) 8).length (u 9).cap) else i7) 38 else bK)::(if D 9=true then bC (.slice (u 9).ad (r.l.get (bJ r.t to_) 8).length (u 9).cap) (r.l.get (bJ r.t to_) 8) else bK)::bN (true=true→u 9=u 9)::aK p r pl pv pt mv::aI pl r.l::VoR pv r.v::ToR pt (r.t)::aC H mv r.out.msgs::Fz H::R)
  have hw:=hw.fact (show true=true→u 9=u 9 from fun _=>rfl)
  exact hw.sl
 case c15=>
  intro u LD D a W hcl hi hp hs hw
  have h16:=Go.Sx.not_done hcl hi 16 (by kernel_rfl)
  simp only [hi,Bool.false_eq_true,if_false] at hw
  refine sn hs hw fun b a W hs hw=>?_
  refine Or.inr ⟨{n:=b},hs,?_⟩
  show Has 0 w0 _ (aA b (if (Nat.beq 16 15 || D 16)=true then _ else _) _::_)
  rw [h16]
  exact hw.fill Upd.hd
 case c16=>
  intro u LD D a W hcl hi hp hs hw
  have h15:=Go.Sx.done hp 15 (by kernel_rfl)
  have h14:=Go.Sx.done hp 14 (by kernel_rfl)
  simp only [h15,hi,Bool.false_eq_true,if_false,if_true] at hw
  have h9:=hw.told (In.tl (In.tl In.hd)) h14
  refine d6 hs (hw:=hw) (vs:=aH ⟨3,0,to_,0,w64 (bJ r.t to_ - 1),(r.l.term (w64 (bJ r.t to_ - 1))).1,r.commit,false,r.l.get (bJ r.t to_) 8,zeroSnap⟩ (.slice (u 14).ad (r.l.get (bJ r.t to_) 8).length (u 14).cap)) (k:=fun W hs hw=>?_)
  refine Or.inl ⟨hs,?_⟩
  have e:(aH ⟨3,0,to_,0,w64 (bJ r.t to_ - 1),(r.l.term (w64 (bJ r.t to_ - 1))).1,r.commit,false,r.l.get (bJ r.t to_) 8,zeroSnap⟩ (.slice (u 14).ad (r.l.get (bJ r.t to_) 8).length (u 14).cap))=aH ⟨3,0,to_,0,w64 (bJ r.t to_ - 1),(r.l.term (w64 (bJ r.t to_ - 1))).1,r.commit,false,r.l.get (bJ r.t to_) 8,zeroSnap⟩ (.slice (u 9).ad (r.l.get (bJ r.t to_) 8).length (u 9).cap):=by rw [h9]
  have hw:Has 0 w0 W (aA (u 15).n (aH ⟨3,0,to_,0,w64 (bJ r.t to_ - 1),(r.l.term (w64 (bJ r.t to_ - 1))).1,r.commit,false,r.l.get (bJ r.t to_) 8,zeroSnap⟩ (.slice (u 14).ad (r.l.get (bJ r.t to_) 8).length (u 14).cap)) 38::(if D 9=true then bC (.slice (u 9).ad (r.l.get (bJ r.t to_) 8).length (u 9).cap) (r.l.get (bJ r.t to_) 8) else bK)::bN (D 14=true→u 14=u 9)::aK p r pl pv pt mv::aI pl r.l::VoR pv r.v::ToR pt (r.t)::aC H mv r.out.msgs::Fz H::R):=hw
  rw [e] at hw
  show Has 0 w0 _ ((if D 15=true then _ else _)::_)
  rw [h15]
  exact hw
 case kk=>
 intro u a W hs hw
 have hw:Has 0 w0 W (aA (u 15).n (aH ⟨3,0,to_,0,w64 (bJ r.t to_ - 1),(r.l.term (w64 (bJ r.t to_ - 1))).1,r.commit,false,r.l.get (bJ r.t to_) 8,zeroSnap⟩ (.slice (u 9).ad (r.l.get (bJ r.t to_) 8).length (u 9).cap)) 38::bC (.slice (u 9).ad (r.l.get (bJ r.t to_) 8).length (u 9).cap) (r.l.get (bJ r.t to_) 8)::bN (true=true→u 14=u 9)::aK p r pl pv pt mv::aI pl r.l::VoR pv r.v::ToR pt (r.t)::aC H mv r.out.msgs::Fz H::R):=hw
 replace hs:Slots a 70 [(0,ptr p),(1,.int .i64 to_),(4,.int .i64 (bJ r.t to_)),(7,ptr (u 15).n)]:=hs.of ⟨rfl,rfl,rfl,rfl,trivial⟩
 obtain ⟨b,hb⟩:∃b,b=(u 15).n:=⟨_,rfl⟩
 obtain ⟨xx,hx⟩:∃xx:Un,xx=u 9:=⟨_,rfl⟩
 rw [←hb] at hs hw
 rw [←hx] at hw
 have hw:Has 0 w0 W (bC (.slice xx.ad (r.l.get (bJ r.t to_) 8).length xx.cap) (r.l.get (bJ r.t to_) 8)::Fz H::aC H mv r.out.msgs::aA b (aH ⟨3,0,to_,0,w64 (bJ r.t to_ - 1),(r.l.term (w64 (bJ r.t to_ - 1))).1,r.commit,false,r.l.get (bJ r.t to_) 8,zeroSnap⟩ (.slice (xx).ad (r.l.get (bJ r.t to_) 8).length (xx).cap)) 38::aK p r pl pv pt mv::aI pl r.l::VoR pv r.v::ToR pt r.t::R):=hw.sl
 obtain ⟨H',hle,hw,hes⟩:=hw.freeze_own
 have hw:=xD hw.swap2 hle
 have he:r.send to_= {r with t:=mL r.t to_ (w64 (w64 (bJ r.t to_ - 1)+((r.l.get (bJ r.t to_) 8).length:Int)))}.say ⟨3,0,to_,0,w64 (bJ r.t to_ - 1),(r.l.term (w64 (bJ r.t to_ - 1))).1,r.commit,false,r.l.get (bJ r.t to_) 8,zeroSnap⟩:=by unfold RaftD.send;rw [if_neg (of_decide_eq_false c1)];rfl
 rw [he]
 generalize r.l.get (bJ r.t to_) 8=es at *
 have hw:Has 0 w0 W (aA b (aH ⟨3,0,to_,0,w64 (bJ r.t to_ - 1),(r.l.term (w64 (bJ r.t to_ - 1))).1,r.commit,false,es,zeroSnap⟩ (.slice xx.ad es.length xx.cap)) 38::aK p r pl pv pt mv::aI pl r.l::VoR pv r.v::ToR pt (r.t)::aC H' mv r.out.msgs::Fz H'::R):=hw.pm
 refine sc hs ?_
 refine bF [11] [.f 0 0,.f 0 0,.f 0 0,.f 0 0,.f 0 0,.f 0 0,.f 0 0,.f 0 0,.f 0 0,.f 0 0,.f 0 0,.m 0] [.c0 _,.c0 _,.c0 _,.c0 _,.c0 _,.c0 _,.c0 _,.c0 _,.c0 _,.c0 _,.c0 _,.c1 (fun x=> .tuple ⟨[]⟩)] (aA b (aH ⟨3,0,to_,0,w64 (bJ r.t to_ - 1),(r.l.term (w64 (bJ r.t to_ - 1))).1,r.commit,false,es,zeroSnap⟩ (.slice xx.ad es.length xx.cap)) 38::aK p r pl pv pt mv::aI pl r.l::VoR pv r.v::ToR pt (r.t)::aC H' mv r.out.msgs::Fz H'::R) (fun x=>aA b (aH ⟨3,0,to_,0,w64 (bJ r.t to_ - 1),(r.l.term (w64 (bJ r.t to_ - 1))).1,r.commit,false,es,zeroSnap⟩ (.slice xx.ad es.length xx.cap)) 38::aK p r pl pv pt mv::aI pl r.l::VoR pv r.v::ToR pt (mL r.t to_ (w64 (w64 (bJ r.t to_ - 1)+(es.length:Int))))::aC H' mv r.out.msgs::Fz H'::R) (fun x y=>[]) (fun x y z=>[]) (fun x y z t=>[]) hs hw ?kk ⟨drs,drs,drs,drs,drs,drs,drs,drs,drs,drs,drs,?m0,trivial⟩
 case m0=>
  intro x1 y z t LD a W hs hw
  have hw:Has 0 w0 W (ToR pt r.t::aA b (aH ⟨3,0,to_,0,w64 (bJ r.t to_ - 1),(r.l.term (w64 (bJ r.t to_ - 1))).1,r.commit,false,es,zeroSnap⟩ (.slice xx.ad es.length xx.cap)) 38::aK p r pl pv pt mv::aI pl r.l::VoR pv r.v::aC H' mv r.out.msgs::Fz H'::R):=hw.pm
  refine cl hs (aHD hw) fun a W hs hw=>?_
  exact ⟨{},hs,hw.pm⟩
 case kk=>
  intro _ a W hs hw
  refine sv hs hw fun a hs=>?_
  have hw:Has 0 w0 W (aG H' p {r with t:=mL r.t to_ (w64 (w64 (bJ r.t to_ - 1)+(es.length:Int)))}::Fz H'::R):=cF (r:={r with t:=mL r.t to_ (w64 (w64 (bJ r.t to_ - 1)+(es.length:Int)))}) (hw.sub (List.Sublist.cons _ (List.Sublist.refl _)))
  refine cl hs (fH (r:={r with t:=mL r.t to_ (w64 (w64 (bJ r.t to_ - 1)+(es.length:Int)))}) ⟨3,0,to_,0,w64 (bJ r.t to_ - 1),(r.l.term (w64 (bJ r.t to_ - 1))).1,r.commit,false,es,zeroSnap⟩ (.slice xx.ad es.length xx.cap) hes (by show (0:Nat)≤1000000;omega) hl hw) fun a W hs hw=>?_
  refine sc hs ?_
  exact cO hs rfl ⟨rfl,H',hle,hw⟩
end
section
variable {H H':Fh} {p pl:Nat} {pv pt mv:Value} {r:RaftD} {w0 W:World} {R L:List Res} {l:List bP} {v:Value}
theorem qJ (r:RaftD) (i:Int):(r.changed i).out.msgs=r.out.msgs:=by unfold RaftD.changed;split <;> rfl
theorem aHO (r:RaftD) (x:Int):(r.send x).out.msgs.length=r.out.msgs.length+1:=by
 unfold RaftD.send
 split <;> simp [RaftD.say]
theorem aBl (r:RaftD):r.others.length≤7:=Nat.le_trans (List.length_filter_le _ _) (qF r.l r.l.last)
theorem aHP (l:List Int):∀r:RaftD,(l.foldl RaftD.send r).out.msgs.length=r.out.msgs.length+l.length:=by
 induction l with
 |nil=>intro r;rfl
 |cons x l ih=>intro r;rw [List.foldl_cons,ih,aHO];simp;omega
theorem aBm {α β:Type} {f:β→α→β} {l:List α} {i:Nat} {o:α} {b:β} (h:l[i]? =some o):(l.take (i+1)).foldl f b=f ((l.take i).foldl f b) o:=by
 rw [fS h,List.foldl_append];rfl
theorem s9 (hl:r.out.msgs.length≤900) (hw:Has 0 w0 W (aG H p r::Fz H::R)):
  Calls Tryz.prog 130 ⟨[ptr p]⟩ W fun e W'=>e= .returned (.tuple ⟨[]⟩)∧∃H',H.le H'∧Has 0 w0 W' (aG H' p r.all::Fz H'::R):=by
 have he:r.all=match r.role == 2 with|false=>r|true=>r.others.foldl RaftD.send r:=rfl
 rw [he]
 have hw0:=hw
 obtain ⟨pl,pv,pt,mv,hw⟩:=dG hw
 have h7:=aBl r
 refine enter Tryz.func130 Tryz.ntmps130 rfl rfl fun a hs=>?_
 refine sv hs hw fun a hs=>?_
 rw [show (r.role !=2)=!(r.role == 2) from rfl] at hs
 replace hw:=hw0
 cases c1:r.role == 2 with
 |false=>
  rw [c1] at hs
  refine sc hs ?_
  exact rt0 hs rfl ⟨rfl,H,Fh.le.refl H,hw⟩
 |true=>
  rw [c1] at hs
  refine sv hs hw fun a hs=>?_
  refine cle hs (aBh hw) fun s a W _ hs hw=>?_
  refine sv hs hw fun a hs=>?_
  have hw:Has 0 w0 W (aG H p r::Fz H::aN (.slice s.1 r.others.length s.2) r.others::R):=hw.pm
  have hlen:∀i,((r.others.take i).foldl RaftD.send r).out.msgs.length≤1000:=fun i=>by rw [aHP,List.length_take];omega
  generalize r.others=c at *
  refine bX (σ:=Nat×Fh) (fun q=>[(0,ptr p),(10,.slice s.1 c.length s.2),(11,.int .i64 (c.length:Int)),(12,.int .i64 (q.1:Int))]) (fun q=>aG q.2 p ((c.take q.1).foldl RaftD.send r)::Fz q.2::aN (.slice s.1 c.length s.2) c::R) (fun q=>q.1≤c.length∧H.le q.2) (fun q=>c.length - q.1) (0,H) ⟨Nat.zero_le _,Fh.le.refl H⟩ hs ⟨rfl,rfl,rfl,rfl,trivial⟩ hw ?_
  clear hs hw
  rintro ⟨i,H2⟩ a W ⟨hi,hle⟩ hs hw
  simp only at hi hle hs hw
  refine sv hs hw fun a hs=>?_
  refine cI hs (kt:=fun hc=>?_) (kf:=fun hc=>?_)
  ·have hi':i<c.length:=by simpa using hc
   obtain ⟨o,ho,hd⟩:=dS hi'
   refine sc hs ?_
   refine iA hs (hw.rd_own (In.tl (In.tl In.hd))) ho rfl fun a b f hs=>?_
   refine sv hs hw fun a hs=>?_
   refine aF hs (hc:=s8 o (hlen i) hw) (k:=?_)
   rintro e' W' ⟨rfl,H3,hle3,hw⟩
   refine ⟨_,rfl,fun a hs=>?_⟩
   refine sv hs hw fun a hs=>?_
   rw [←aBm (f:=RaftD.send) (b:=r) ho] at hw
   exact bR (i+1,H3) hs hw ⟨hi',hle.trans hle3⟩ (by show c.length - (i+1)<c.length - i;omega) ⟨rfl,rfl,rfl,bS (i1 (by omega)),trivial⟩
  ·have:c.take i=c:=List.take_of_length_le (by simp at hc;omega)
   rw [this] at hw
   refine sc hs ?_
   exact cO hs rfl ⟨rfl,H2,hle,hw.sl⟩
theorem tA (hw:Has 0 w0 W (aG H p r::R)):
  Calls Tryz.prog 193 ⟨[ptr p]⟩ W fun e W'=>e= .returned (.tuple ⟨[]⟩)∧Has 0 w0 W' (aG H p r.move::R):=by
 obtain ⟨pl,pv,pt,mv,hw⟩:=dG hw
 have h7:=qF r.l r.l.last
 refine enter Tryz.func193 Tryz.ntmps193 rfl rfl fun a hs=>?_
 refine sv hs hw fun a hs=>?_
 refine aF hs (hc:=(sO (l:=r.l)).ok hw.rebase) (k:=?_)
 rintro e' W' ⟨xx,rfl,hw'⟩
 refine ⟨_,rfl,fun a hs=>?_⟩
 have hw:=hw.trans hw'
 have hm:r.move=(if kR r.t r.l.conf.1 r.id r.l.last≤r.commit∨r.l.fits (kR r.t r.l.conf.1 r.id r.l.last) r.h.term=false then r
  else match !has r.l.conf.1 r.id && decide (r.l.conf.2≤kR r.t r.l.conf.1 r.id r.l.last) with
   |true=>{r with commit:=kR r.t r.l.conf.1 r.id r.l.last,role:=0,leader:=0}
   |false=>{r with commit:=kR r.t r.l.conf.1 r.id r.l.last}):=rfl
 rw [hm]
 rw [show r.l.conf=r.l.confAt r.l.last from rfl] at hs hw⊢
 generalize (r.l.confAt r.l.last).1=c at *
 generalize (r.l.confAt r.l.last).2=ci at *
 replace hw:Has 0 w0 W' (aN (.slice xx.1 c.length xx.2) c::aK p r pl pv pt mv::aI pl r.l::VoR pv r.v::ToR pt r.t::aC H mv r.out.msgs::R):=hw
 refine sv hs hw fun a hs=>?_
 refine bF [13,14] [.f 0 1,.f 0 1,.f 0 1,.f 0 1,.f 0 1,.f 0 1,.f 0 1,.f 0 1,.f 0 1,.f 0 0,.f 0 0,.f 0 0,.f 0 0,.m 0,.m 1,.f 2 2] [.c0 _,.c0 _,.c0 _,.c0 _,.c0 _,.c0 _,.c0 _,.c0 _,.c0 _,.c0 _,.c0 _,.c0 _,.c0 _,.c1 (fun x=> .int .i64 r.l.last),.c2 (fun x y=> .int .i64 (kR r.t c r.id r.l.last)),.c2 _] (aN (.slice xx.1 c.length xx.2) c::aK p r pl pv pt mv::aI pl r.l::VoR pv r.v::ToR pt r.t::aC H mv r.out.msgs::R) (fun x=>aN (.slice xx.1 c.length xx.2) c::aK p r pl pv pt mv::aI pl r.l::VoR pv r.v::ToR pt r.t::aC H mv r.out.msgs::R) (fun x y=>aN (.slice xx.1 c.length xx.2) c::aK p r pl pv pt mv::aI pl r.l::VoR pv r.v::ToR pt r.t::aC H mv r.out.msgs::R) (fun x y z=>[]) (fun x y z t=>[]) hs hw ?kk ⟨drs,drs,drs,drs,drs,drs,drs,drs,drs,drs,drs,drs,drs,drm,?m1,drs,trivial⟩
 case m1=>
  intro x y z t LD a W hs hw
  have hw:Has 0 w0 W (ToR pt r.t::aN (.slice xx.1 c.length xx.2) c::aK p r pl pv pt mv::aI pl r.l::VoR pv r.v::aC H mv r.out.msgs::R):=hw.pm
  refine cl hs (aHG hw) fun a W hs hw=>?_
  exact ⟨{},hs,hw.pm⟩
 case kk=>
 intro _ _ a W hs hw
 generalize kR r.t c r.id r.l.last=N at *
 replace hs:Slots a 70 [(0,ptr p),(2,.slice xx.1 c.length xx.2),(3,.int .i64 ci),(4,.int .i64 N)]:=hs.of ⟨rfl,rfl,rfl,rfl,trivial⟩
 refine sc hs ?_
 have fin:∀{W r'},Has 0 w0 W (aN (.slice xx.1 c.length xx.2) c::aK p r' pl pv pt mv::aI pl r'.l::VoR pv r'.v::ToR pt r'.t::aC H mv r'.out.msgs::R)→Has 0 w0 W (aG H p r'::R):=fun h=>cF (h.sub (List.Sublist.cons _ (List.Sublist.refl _)))
 cases c1:decide (N≤r.commit) with
 |true=>
  refine bF [17] [.f 0 0,.f 0 0,.f 0 0,.f 0 0,.f 0 0,.f 0 0,.f 0 0,.f 0 0,.f 0 0,.f 0 0,.f 0 0,.f 0 0,.f 0 0,.f 0 0,.f 0 0,.f 0 0,.f 0 0,.m 0,.f 1 1,.f 1 1] [.c0 _,.c0 _,.c0 _,.c0 _,.c0 _,.c0 (.bool true),.c0 _,.c0 _,.c0 _,.c0 _,.c0 _,.c0 _,.c0 _,.c0 _,.c0 _,.c0 _,.c0 _,.c1 (fun x=>undef),.c1 _,.c1 _] (aN (.slice xx.1 c.length xx.2) c::aK p r pl pv pt mv::aI pl r.l::VoR pv r.v::ToR pt r.t::aC H mv r.out.msgs::R) (fun x=>aN (.slice xx.1 c.length xx.2) c::aK p r pl pv pt mv::aI pl r.l::VoR pv r.v::ToR pt r.t::aC H mv r.out.msgs::R) (fun x y=>[]) (fun x y z=>[]) (fun x y z t=>[]) hs hw ?kk ⟨drs,drs,drs,drs,drs,?f5,drs,drs,drs,drs,drs,drs,drs,drs,drs,drs,drs,drm,drs,drs,trivial⟩
  case f5=>
   refine ⟨?_,trivial,trivial,trivial,trivial⟩
   intro x y z t LD a W hs hw
   refine sv hs hw fun a hs=>?_
   rw [c1] at hs
   exact ⟨hs,hw⟩
  case kk=>
   intro _ a W hs hw
   rw [if_pos (.inl (of_decide_eq_true c1))]
   refine sc hs ?_
   exact rt0 hs rfl ⟨rfl,fin hw⟩
 |false=>
  refine bF [17] [.f 0 0,.f 0 0,.f 0 0,.f 0 0,.f 0 0,.f 0 0,.f 0 0,.f 0 0,.f 0 0,.f 0 0,.f 0 0,.f 0 0,.f 0 0,.f 0 0,.f 0 0,.f 0 0,.f 0 0,.m 0,.f 1 1,.f 1 1] [.c0 _,.c0 _,.c0 _,.c0 _,.c0 _,.c0 (.bool false),.c0 _,.c0 _,.c0 _,.c0 _,.c0 _,.c0 _,.c0 _,.c0 _,.c0 _,.c0 _,.c0 _,.c1 (fun x=> .bool (r.l.fits N r.h.term)),.c1 _,.c1 _] (aN (.slice xx.1 c.length xx.2) c::aK p r pl pv pt mv::aI pl r.l::VoR pv r.v::ToR pt r.t::aC H mv r.out.msgs::R) (fun x=>aN (.slice xx.1 c.length xx.2) c::aK p r pl pv pt mv::aI pl r.l::VoR pv r.v::ToR pt r.t::aC H mv r.out.msgs::R) (fun x y=>[]) (fun x y z=>[]) (fun x y z t=>[]) hs hw ?kk ⟨drs,drs,drs,drs,drs,?f5,drs,drs,drs,drs,drs,drs,drs,drs,drs,drs,drs,drm,drs,drs,trivial⟩
  case f5=>
   refine ⟨?_,trivial,trivial,trivial,trivial⟩
   intro x y z t LD a W hs hw
   refine sv hs hw fun a hs=>?_
   rw [c1] at hs
   exact ⟨hs,hw⟩
  case kk=>
  intro _ a W hs hw
  replace hs:Slots a 70 [(0,ptr p),(2,.slice xx.1 c.length xx.2),(3,.int .i64 ci),(4,.int .i64 N),(47,.bool (!r.l.fits N r.h.term))]:=hs.of ⟨rfl,rfl,rfl,rfl,rfl,trivial⟩
  cases c2:r.l.fits N r.h.term with
  |false=>
   rw [c2] at hs
   rw [if_pos (.inr rfl)]
   refine sc hs ?_
   exact rt0 hs rfl ⟨rfl,fin hw⟩
  |true=>
   rw [c2] at hs
   rw [if_neg (by have:=of_decide_eq_false c1;simp;omega)]
   refine sx hs hw fun a W hs hw=>?_
   cases c3:has c r.id with
   |true=>
    rw [c3] at hs
    refine sv hs hw fun a hs=>?_
    exact cO hs rfl ⟨rfl,fin (r':={r with commit:=N}) hw⟩
   |false=>
    rw [c3] at hs
    refine sv hs hw fun a hs=>?_
    cases c4:decide (ci≤N) with
    |false=>
     rw [c4] at hs
     refine sc hs ?_
     exact cO hs rfl ⟨rfl,fin (r':={r with commit:=N}) hw⟩
    |true=>
     rw [c4] at hs
     refine sx hs hw fun a W hs hw=>?_
     exact cO hs rfl ⟨rfl,fin (r':={r with commit:=N,role:=0,leader:=0}) hw⟩
theorem aHQ (m:bP) (v:Value) (hv:∃ad cap,v= .slice ad m.es.length cap) (hw:Has 0 w0 W (aG H p r::R)):
  Calls Tryz.prog 214 ⟨[ptr p,.agg ⟨aH m v⟩]⟩ W fun e W'=>e= .returned (.bool (!(r.role == 2)))∧Has 0 w0 W' (aG H p (match r.role == 2 with|true=>r|false=>{r with role:=0,leader:=m.from_,heard:=true})::R):=by
 obtain ⟨vad,vcap,rfl⟩:=hv
 obtain ⟨pl,pv,pt,mv,hw⟩:=dG hw
 refine enter Tryz.func214 Tryz.ntmps214 rfl rfl fun a hs=>?_
 refine sc hs ?_
 refine sn hs hw fun b a W hs hw=>?_
 refine sv hs hw fun a hs=>?_
 cases c1:r.role == 2 with
 |true=>
  rw [c1] at hs
  refine sv hs hw fun a hs=>?_
  exact rt1 hs rfl rfl ⟨rfl,cF (hw.sub (List.Sublist.cons _ (List.Sublist.refl _)))⟩
 |false=>
  rw [c1] at hs
  refine sc hs ?_
  replace hw:Has 0 w0 W (aA b (aH m (.slice vad m.es.length vcap)) 38::gQ p r.id r.h.term r.h.vote pl r.commit (r.role) (r.leader) (r.heard) pv pt mv r.out.hard r.out.from_ r.out.snap::aI pl r.l::VoR pv r.v::ToR pt r.t::aC H mv r.out.msgs::R):=hw
  refine bF [7,10,13] [.f 0 0,.f 0 1,.f 0 2,.f 0 1,.f 0 1,.f 0 0,.f 0 0,.m 0,.f 1 1,.f 1 1,.m 1,.f 2 2,.f 2 2,.m 2] [.c0 _,.c0 _,.c0 _,.c0 _,.c0 _,.c0 _,.c0 _,.c1 (fun x=>undef),.c1 _,.c1 _,.c2 (fun x y=>undef),.c2 _,.c2 _,.c3 (fun x y z=>undef)] (aA b (aH m (.slice vad m.es.length vcap)) 38::gQ p r.id r.h.term r.h.vote pl r.commit (r.role) (r.leader) (r.heard) pv pt mv r.out.hard r.out.from_ r.out.snap::aI pl r.l::VoR pv r.v::ToR pt r.t::aC H mv r.out.msgs::R) (fun x=>aA b (aH m (.slice vad m.es.length vcap)) 38::gQ p r.id r.h.term r.h.vote pl r.commit (0) (r.leader) (r.heard) pv pt mv r.out.hard r.out.from_ r.out.snap::aI pl r.l::VoR pv r.v::ToR pt r.t::aC H mv r.out.msgs::R) (fun x y=>aA b (aH m (.slice vad m.es.length vcap)) 38::gQ p r.id r.h.term r.h.vote pl r.commit (0) (m.from_) (r.heard) pv pt mv r.out.hard r.out.from_ r.out.snap::aI pl r.l::VoR pv r.v::ToR pt r.t::aC H mv r.out.msgs::R) (fun x y z=>aA b (aH m (.slice vad m.es.length vcap)) 38::gQ p r.id r.h.term r.h.vote pl r.commit (0) (m.from_) (true) pv pt mv r.out.hard r.out.from_ r.out.snap::aI pl r.l::VoR pv r.v::ToR pt r.t::aC H mv r.out.msgs::R) (fun x y z t=>[]) hs hw ?kk ⟨drs,drs,drs,drs,drs,drs,drs,drm,drs,drs,drm,drs,drs,drm,trivial⟩
  case kk=>
   intro _ _ _ a W hs hw
   refine sv hs hw fun a hs=>?_
   exact rt1 hs rfl rfl ⟨rfl,cF (r:={r with role:=0,leader:=m.from_,heard:=true}) (hw.sub (List.Sublist.cons _ (List.Sublist.refl _)))⟩
end
section
variable {H H':Fh} {p pl:Nat} {pv pt mv:Value} {r:RaftD} {w0 W:World} {R L:List Res} {l:List bP} {v:Value}
theorem aBn (r:RaftD) (k:Int) (s:ByteArray):(r.put k s).1.out.msgs=r.out.msgs:=by
 unfold RaftD.put
 exact qJ _ _
theorem tB (r:RaftD):r.move.out.msgs=r.out.msgs:=by
 unfold RaftD.move
 simp only []
 split
 ·rfl
 ·split <;> rfl
theorem xI (hl:r.out.msgs.length≤900) (hw:Has 0 w0 W (aG H p r::Fz H::R)):
  Calls Tryz.prog 136 ⟨[ptr p]⟩ W fun e W'=>e= .returned (.tuple ⟨[]⟩)∧∃H',H.le H'∧Has 0 w0 W' (aG H' p r.lead::Fz H'::R):=by
 obtain ⟨pl,pv,pt,mv,hw⟩:=dG hw
 refine enter Tryz.func136 Tryz.ntmps136 rfl rfl fun a hs=>?_
 refine sx hs hw fun a W hs hw=>?_
 refine sg hs hw (fun q a W hs hw=>?_) (g:=aGx)
 refine sx hs hw fun a W hs hw=>?_
 obtain ⟨r1,hr1⟩:∃r1:RaftD,r1= {r with role:=2,leader:=r.id,t:=some (lP r.l.last)}:=⟨_,rfl⟩
 have hrl:r1.l=r.l:=by rw [hr1]
 have he:r.lead=(if ((r1.l.get r1.l.first 200).length:Int)<200 then (r1.put 1 ⟨#[]⟩).1 else r1).move.all:=by rw [hr1];rfl
 rw [he]
 have hm1:r1.out.msgs.length≤900:=by rw [hr1];exact hl
 have hw:Has 0 w0 W (gG q (lP r.l.last)::aK p {r with role:=2,leader:=r.id,t:=some (lP r.l.last)} pl pv (ptr q) mv::aI pl r.l::VoR pv r.v::ToR pt r.t::aC H mv r.out.msgs::Fz H::R):=hw
 have hw:=nU hw
 have hw:Has 0 w0 W (aG H p r1::Fz H::R):=by rw [hr1];exact cF (r:={r with role:=2,leader:=r.id,t:=some (lP r.l.last)}) (hw.sl)
 clear hr1 he
 obtain ⟨pl1,pv1,pt1,mv1,hw⟩:=dG hw
 refine bF [8,9] [.f 0 1,.f 0 1,.f 0 1,.f 0 1,.f 0 0,.f 0 0,.f 0 0,.f 0 0,.m 0,.m 1,.f 2 2,.f 2 2] [.c0 _,.c0 _,.c0 _,.c0 _,.c0 _,.c0 _,.c0 _,.c0 _,.c1 (fun x=> .int .i64 r1.l.first),.c2 (fun x y=> .slice y.ad (r1.l.get r1.l.first 200).length y.cap),.c2 _,.c2 _] (aK p r1 pl1 pv1 pt1 mv1::aI pl1 r1.l::VoR pv1 r1.v::ToR pt1 r1.t::aC H mv1 r1.out.msgs::Fz H::R) (fun x=>aK p r1 pl1 pv1 pt1 mv1::aI pl1 r1.l::VoR pv1 r1.v::ToR pt1 r1.t::aC H mv1 r1.out.msgs::Fz H::R) (fun x y=>aK p r1 pl1 pv1 pt1 mv1::aI pl1 r1.l::VoR pv1 r1.v::ToR pt1 r1.t::aC H mv1 r1.out.msgs::Fz H::R) (fun x y z=>[]) (fun x y z t=>[]) hs hw ?kk ⟨drs,drs,drs,drs,drs,drs,drs,drs,drm,?m1,drs,drs,trivial⟩
 case m1=>
  intro x y z t LD a W hs hw
  refine sg hs hw (fun s a W hs hw=>?_) (g:=mT)
  exact ⟨{ad:=s.1,cap:=s.2},hs,hw.sub (List.Sublist.cons _ (List.Sublist.refl _))⟩
 case kk=>
 intro _ y a W hs hw
 have hw:Has 0 w0 W (aG H p r1::Fz H::R):=cF hw
 replace hs:Slots a 39 [(0,ptr p),(32,.bool (decide (((r1.l.get r1.l.first 200).length:Int)<200)))]:=hs.of ⟨rfl,rfl,trivial⟩
 cases c1:decide (((r1.l.get r1.l.first 200).length:Int)<200) with
 |true=>
  rw [c1] at hs
  rw [if_pos (of_decide_eq_true c1)]
  refine sv hs hw fun a hs=>?_
  refine cl hs (aBk 1 ⟨#[]⟩ (by show (0:Nat)≤1000000;omega) hw) fun a W hs hw=>?_
  refine sv hs hw fun a hs=>?_
  refine cl hs (tA hw) fun a W hs hw=>?_
  refine sv hs hw fun a hs=>?_
  refine aF hs (hc:=s9 (by rw [tB,aBn];exact hm1) hw) (k:=?_)
  rintro e' W' ⟨rfl,H3,hle3,hw⟩
  refine ⟨_,rfl,fun a hs=>?_⟩
  refine sc hs ?_
  exact cO hs rfl ⟨rfl,H3,hle3,hw⟩
 |false=>
  rw [c1] at hs
  rw [if_neg (of_decide_eq_false c1)]
  refine sv hs hw fun a hs=>?_
  refine cl hs (tA hw) fun a W hs hw=>?_
  refine sv hs hw fun a hs=>?_
  refine aF hs (hc:=s9 (by rw [tB];exact hm1) hw) (k:=?_)
  rintro e' W' ⟨rfl,H3,hle3,hw⟩
  refine ⟨_,rfl,fun a hs=>?_⟩
  refine sc hs ?_
  exact cO hs rfl ⟨rfl,H3,hle3,hw⟩
end
section
variable {H H':Fh} {p pl:Nat} {pv pt mv:Value} {r:RaftD} {w0 W:World} {R L:List Res} {l:List bP} {v:Value}
theorem aHR (m:bP) (v:Value) (hv:∃ad cap,v= .slice ad m.es.length cap) (hl:r.out.msgs.length≤1000) (hw:Has 0 w0 W (aG H p r::R)):
  Calls Tryz.prog 141 ⟨[ptr p,.agg ⟨aH m v⟩]⟩ W fun e W'=>e= .returned (.tuple ⟨[]⟩)∧Has 0 w0 W' (aG H p (r.asked m)::R):=by
 obtain ⟨vad,vcap,rfl⟩:=hv
 have he2:r.asked m=match (r.h.vote == 0 || r.h.vote == m.from_) && r.l.newer m.ix m.lterm with
  |true=>{r.hardD ⟨r.h.term,m.from_⟩ with heard:=true}.say {cP with kind:=2,to_:=m.from_,yes:=true}
  |false=>r.say {cP with kind:=2,to_:=m.from_}:=rfl
 obtain ⟨pl,pv,pt,mv,hw⟩:=dG hw
 refine enter Tryz.func141 Tryz.ntmps141 rfl rfl fun a hs=>?_
 refine sc hs ?_
 refine sn hs hw fun b a W hs hw=>?_
 refine sc hs ?_
 cases cA:(r.h.vote == 0) with
 |true=>
  have he1:∀g:Bool,g=true→g=r.l.newer m.ix m.lterm→r.asked m= {r.hardD ⟨r.h.term,m.from_⟩ with heard:=true}.say {cP with kind:=2,to_:=m.from_,yes:=true}:=fun g h1 h2=>by rw [he2,cA,←h2,h1];rfl
  have he0:∀g:Bool,g=false→g=r.l.newer m.ix m.lterm→r.asked m=r.say {cP with kind:=2,to_:=m.from_}:=fun g h1 h2=>by rw [he2,cA,←h2,h1];rfl
  refine bF [25] [.f 0 0,.f 0 0,.f 0 0,.f 0 0,.f 0 0,.f 0 0,.f 0 0,.f 0 0,.f 0 0,.f 0 0,.f 0 0,.f 0 0,.f 0 0,.f 0 0,.f 0 0,.f 0 0,.f 0 0,.f 0 0,.f 0 0,.f 0 0,.f 0 0,.f 0 0,.f 0 0,.f 0 0,.f 0 0,.m 0,.f 1 1,.f 1 1] [.c0 _,.c0 _,.c0 _,.c0 _,.c0 _,.c0 (.bool true),.c0 _,.c0 _,.c0 _,.c0 _,.c0 _,.c0 _,.c0 _,.c0 _,.c0 _,.c0 _,.c0 _,.c0 _,.c0 _,.c0 _,.c0 _,.c0 _,.c0 _,.c0 _,.c0 _,.c1 (fun x=> .bool (r.l.newer m.ix m.lterm)),.c1 _,.c1 _] (aA b (aH m (.slice vad m.es.length vcap)) 38::aK p r pl pv pt mv::aI pl r.l::VoR pv r.v::ToR pt r.t::aC H mv r.out.msgs::R) (fun x=>aA b (aH m (.slice vad m.es.length vcap)) 38::aK p r pl pv pt mv::aI pl r.l::VoR pv r.v::ToR pt r.t::aC H mv r.out.msgs::R) (fun x y=>[]) (fun x y z=>[]) (fun x y z t=>[]) hs hw ?kk ⟨drs,drs,drs,drs,drs,?f5,drs,drs,drs,drs,drs,drs,drs,drs,drs,drs,drs,drs,drs,drs,drs,drs,drs,drs,drs,drm,drs,drs,trivial⟩
  case f5=>
   refine ⟨?_,trivial,trivial,trivial,trivial⟩
   intro x y z t LD a W hs hw
   refine sv hs hw fun a hs=>?_
   rw [cA] at hs
   exact ⟨hs,hw⟩
  case kk=>
   intro _ a W hs hw
   clear he2
   replace hs:Slots a 52 [(0,ptr p),(3,ptr b),(4,.bool (r.l.newer m.ix m.lterm))]:=hs.of ⟨rfl,rfl,rfl,trivial⟩
   cases c2:r.l.newer m.ix m.lterm with
   |true=>
    rw [c2] at hs
    refine sv hs hw fun a hs=>?_
    refine bF [9] [.f 0 0,.f 0 0,.f 0 0,.f 0 0,.f 0 0,.f 0 0,.f 0 0,.f 0 0,.f 0 0,.m 0] [.c0 _,.c0 _,.c0 _,.c0 _,.c0 _,.c0 _,.c0 _,.c0 _,.c0 _,.c1 (fun x=> .tuple ⟨[]⟩)] (aA b (aH m (.slice vad m.es.length vcap)) 38::aK p r pl pv pt mv::aI pl r.l::VoR pv r.v::ToR pt r.t::aC H mv r.out.msgs::R) (fun x=>aA b (aH m (.slice vad m.es.length vcap)) 38::aG H p (r.hardD ⟨r.h.term,m.from_⟩)::R) (fun x y=>[]) (fun x y z=>[]) (fun x y z t=>[]) hs hw ?kk ⟨drs,drs,drs,drs,drs,drs,drs,drs,drs,?m0,trivial⟩
    case m0=>
     intro x y z t LD a W hs hw
     have hw:Has 0 w0 W (aG H p r::aA b (aH m (.slice vad m.es.length vcap)) 38::R):=cF (hw.pm)
     refine cl hs (sZ ⟨r.h.term,m.from_⟩ hw) fun a W hs hw=>?_
     exact ⟨{},hs,hw.swap2⟩
    case kk=>
     intro _ a W hs hw
     obtain ⟨r2,hr2⟩:∃r2:RaftD,r2=r.hardD ⟨r.h.term,m.from_⟩:=⟨_,rfl⟩
     rw [←hr2] at hw
     have he:r.asked m= {r2 with heard:=true}.say {cP with kind:=2,to_:=m.from_,yes:=true}:=by rw [hr2,he1 _ c2 rfl]
     have hm2:r2.out.msgs.length≤1000:=by rw [hr2];exact hl
     rw [he]
     obtain ⟨pl2,pv2,pt2,mv2,hw⟩:=dG hw.swap2
     refine sx hs hw fun a W hs hw=>?_
     have hw:Has 0 w0 W (aG H p {r2 with heard:=true}::aA b (aH m (.slice vad m.es.length vcap)) 38::R):=cF (r:={r2 with heard:=true}) hw
     refine cl hs (fH (r:={r2 with heard:=true}) {cP with kind:=2,to_:=m.from_,yes:=true} (.slice none 0 0) fP (by show (0:Nat)≤1000000;omega) hm2 hw) fun a W hs hw=>?_
     refine sc hs ?_
     exact cO hs rfl ⟨rfl,hw.sl⟩
   |false=>
    rw [c2] at hs
    have he:r.asked m=r.say {cP with kind:=2,to_:=m.from_}:=he0 _ c2 rfl
    rw [he]
    refine sx hs hw fun a W hs hw=>?_
    have hw:Has 0 w0 W (aG H p r::aA b (aH m (.slice vad m.es.length vcap)) 38::R):=cF (hw.pm)
    refine cl hs (fH {cP with kind:=2,to_:=m.from_} (.slice none 0 0) fP (by show (0:Nat)≤1000000;omega) hl hw) fun a W hs hw=>?_
    refine sc hs ?_
    exact cO hs rfl ⟨rfl,hw.sl⟩
 |false=>
  cases cB:(r.h.vote == m.from_) with
  |true=>
   have he1:∀g:Bool,g=true→g=r.l.newer m.ix m.lterm→r.asked m= {r.hardD ⟨r.h.term,m.from_⟩ with heard:=true}.say {cP with kind:=2,to_:=m.from_,yes:=true}:=fun g h1 h2=>by rw [he2,cA,cB,←h2,h1];rfl
   have he0:∀g:Bool,g=false→g=r.l.newer m.ix m.lterm→r.asked m=r.say {cP with kind:=2,to_:=m.from_}:=fun g h1 h2=>by rw [he2,cA,cB,←h2,h1];rfl
   refine bF [25] [.f 0 0,.f 0 0,.f 0 0,.f 0 0,.f 0 0,.f 0 0,.f 0 0,.f 0 0,.f 0 0,.f 0 0,.f 0 0,.f 0 0,.f 0 0,.f 0 0,.f 0 0,.f 0 0,.f 0 0,.f 0 0,.f 0 0,.f 0 0,.f 0 0,.f 0 0,.f 0 0,.f 0 0,.f 0 0,.m 0,.f 1 1,.f 1 1] [.c0 _,.c0 _,.c0 _,.c0 _,.c0 _,.c0 (.bool false),.c0 _,.c0 _,.c0 _,.c0 _,.c0 _,.c0 _,.c0 _,.c0 _,.c0 (.bool true),.c0 _,.c0 _,.c0 _,.c0 _,.c0 _,.c0 _,.c0 _,.c0 _,.c0 _,.c0 _,.c1 (fun x=> .bool (r.l.newer m.ix m.lterm)),.c1 _,.c1 _] (aA b (aH m (.slice vad m.es.length vcap)) 38::aK p r pl pv pt mv::aI pl r.l::VoR pv r.v::ToR pt r.t::aC H mv r.out.msgs::R) (fun x=>aA b (aH m (.slice vad m.es.length vcap)) 38::aK p r pl pv pt mv::aI pl r.l::VoR pv r.v::ToR pt r.t::aC H mv r.out.msgs::R) (fun x y=>[]) (fun x y z=>[]) (fun x y z t=>[]) hs hw ?kk ⟨drs,drs,drs,drs,drs,?f5,drs,drs,drs,drs,drs,drs,drs,drs,?f14,drs,drs,drs,drs,drs,drs,drs,drs,drs,drs,drm,drs,drs,trivial⟩
   case f5=>
    refine ⟨?_,trivial,trivial,trivial,trivial⟩
    intro x y z t LD a W hs hw
    refine sv hs hw fun a hs=>?_
    rw [cA] at hs
    exact ⟨hs,hw⟩
   case f14=>
    refine ⟨?_,trivial,trivial,trivial,trivial⟩
    intro x y z t LD a W hs hw
    refine sv hs hw fun a hs=>?_
    rw [cB] at hs
    exact ⟨hs,hw⟩
   case kk=>
    intro _ a W hs hw
    clear he2
    replace hs:Slots a 52 [(0,ptr p),(3,ptr b),(4,.bool (r.l.newer m.ix m.lterm))]:=hs.of ⟨rfl,rfl,rfl,trivial⟩
    cases c2:r.l.newer m.ix m.lterm with
    |true=>
     rw [c2] at hs
     refine sv hs hw fun a hs=>?_
     refine bF [9] [.f 0 0,.f 0 0,.f 0 0,.f 0 0,.f 0 0,.f 0 0,.f 0 0,.f 0 0,.f 0 0,.m 0] [.c0 _,.c0 _,.c0 _,.c0 _,.c0 _,.c0 _,.c0 _,.c0 _,.c0 _,.c1 (fun x=> .tuple ⟨[]⟩)] (aA b (aH m (.slice vad m.es.length vcap)) 38::aK p r pl pv pt mv::aI pl r.l::VoR pv r.v::ToR pt r.t::aC H mv r.out.msgs::R) (fun x=>aA b (aH m (.slice vad m.es.length vcap)) 38::aG H p (r.hardD ⟨r.h.term,m.from_⟩)::R) (fun x y=>[]) (fun x y z=>[]) (fun x y z t=>[]) hs hw ?kk ⟨drs,drs,drs,drs,drs,drs,drs,drs,drs,?m0,trivial⟩
     case m0=>
      intro x y z t LD a W hs hw
      have hw:Has 0 w0 W (aG H p r::aA b (aH m (.slice vad m.es.length vcap)) 38::R):=cF (hw.pm)
      refine cl hs (sZ ⟨r.h.term,m.from_⟩ hw) fun a W hs hw=>?_
      exact ⟨{},hs,hw.swap2⟩
     case kk=>
      intro _ a W hs hw
      obtain ⟨r2,hr2⟩:∃r2:RaftD,r2=r.hardD ⟨r.h.term,m.from_⟩:=⟨_,rfl⟩
      rw [←hr2] at hw
      have he:r.asked m= {r2 with heard:=true}.say {cP with kind:=2,to_:=m.from_,yes:=true}:=by rw [hr2,he1 _ c2 rfl]
      have hm2:r2.out.msgs.length≤1000:=by rw [hr2];exact hl
      rw [he]
      obtain ⟨pl2,pv2,pt2,mv2,hw⟩:=dG hw.swap2
      refine sx hs hw fun a W hs hw=>?_
      have hw:Has 0 w0 W (aG H p {r2 with heard:=true}::aA b (aH m (.slice vad m.es.length vcap)) 38::R):=cF (r:={r2 with heard:=true}) hw
      refine cl hs (fH (r:={r2 with heard:=true}) {cP with kind:=2,to_:=m.from_,yes:=true} (.slice none 0 0) fP (by show (0:Nat)≤1000000;omega) hm2 hw) fun a W hs hw=>?_
      refine sc hs ?_
      exact cO hs rfl ⟨rfl,hw.sl⟩
    |false=>
     rw [c2] at hs
     have he:r.asked m=r.say {cP with kind:=2,to_:=m.from_}:=he0 _ c2 rfl
     rw [he]
     refine sx hs hw fun a W hs hw=>?_
     have hw:Has 0 w0 W (aG H p r::aA b (aH m (.slice vad m.es.length vcap)) 38::R):=cF (hw.pm)
     refine cl hs (fH {cP with kind:=2,to_:=m.from_} (.slice none 0 0) fP (by show (0:Nat)≤1000000;omega) hl hw) fun a W hs hw=>?_
     refine sc hs ?_
     exact cO hs rfl ⟨rfl,hw.sl⟩
  |false=>
   refine bF [25] [.f 0 0,.f 0 0,.f 0 0,.f 0 0,.f 0 0,.f 0 0,.f 0 0,.f 0 0,.f 0 0,.f 0 0,.f 0 0,.f 0 0,.f 0 0,.f 0 0,.f 0 0,.f 0 0,.f 0 0,.f 0 0,.f 0 0,.f 0 0,.f 0 0,.f 0 0,.f 0 0,.f 0 0,.f 0 0,.m 0,.f 1 1,.f 1 1] [.c0 _,.c0 _,.c0 _,.c0 _,.c0 _,.c0 (.bool false),.c0 _,.c0 _,.c0 _,.c0 _,.c0 _,.c0 _,.c0 _,.c0 _,.c0 (.bool false),.c0 _,.c0 _,.c0 _,.c0 _,.c0 _,.c0 _,.c0 _,.c0 _,.c0 _,.c0 _,.c1 (fun x=>undef),.c1 _,.c1 _] (aA b (aH m (.slice vad m.es.length vcap)) 38::aK p r pl pv pt mv::aI pl r.l::VoR pv r.v::ToR pt r.t::aC H mv r.out.msgs::R) (fun x=>aA b (aH m (.slice vad m.es.length vcap)) 38::aK p r pl pv pt mv::aI pl r.l::VoR pv r.v::ToR pt r.t::aC H mv r.out.msgs::R) (fun x y=>[]) (fun x y z=>[]) (fun x y z t=>[]) hs hw ?kk ⟨drs,drs,drs,drs,drs,?f5,drs,drs,drs,drs,drs,drs,drs,drs,?f14,drs,drs,drs,drs,drs,drs,drs,drs,drs,drs,drm,drs,drs,trivial⟩
   case f5=>
    refine ⟨?_,trivial,trivial,trivial,trivial⟩
    intro x y z t LD a W hs hw
    refine sv hs hw fun a hs=>?_
    rw [cA] at hs
    exact ⟨hs,hw⟩
   case f14=>
    refine ⟨?_,trivial,trivial,trivial,trivial⟩
    intro x y z t LD a W hs hw
    refine sv hs hw fun a hs=>?_
    rw [cB] at hs
    exact ⟨hs,hw⟩
   case kk=>
    intro _ a W hs hw
    replace hs:Slots a 52 [(0,ptr p),(3,ptr b),(4,.bool false)]:=hs.of ⟨rfl,rfl,rfl,trivial⟩
    have he:r.asked m=r.say {cP with kind:=2,to_:=m.from_}:=by rw [he2,cA,cB];rfl
    rw [he]
    refine sx hs hw fun a W hs hw=>?_
    have hw:Has 0 w0 W (aG H p r::aA b (aH m (.slice vad m.es.length vcap)) 38::R):=cF (hw.pm)
    refine cl hs (fH {cP with kind:=2,to_:=m.from_} (.slice none 0 0) fP (by show (0:Nat)≤1000000;omega) hl hw) fun a W hs hw=>?_
    refine sc hs ?_
    exact cO hs rfl ⟨rfl,hw.sl⟩
end
section
variable {H H':Fh} {p pl:Nat} {pv pt mv:Value} {r:RaftD} {w0 W:World} {R L:List Res} {l:List bP} {v:Value}
theorem aHS (m:bP) (v:Value) (hv:∃ad cap,v= .slice ad m.es.length cap) (hl:r.out.msgs.length≤900) (hy:∀o,r.v=some o→o.yes.length≤1000∧o.no.length≤1000) (hw:Has 0 w0 W (aG H p r::Fz H::R)):
  Calls Tryz.prog 142 ⟨[ptr p,.agg ⟨aH m v⟩]⟩ W fun e W'=>e= .returned (.tuple ⟨[]⟩)∧∃H',H.le H'∧Has 0 w0 W' (aG H' p (r.voted m)::Fz H'::R):=by
 obtain ⟨vad,vcap,rfl⟩:=hv
 obtain ⟨vo,hvo⟩:∃vo,vo=(match m.yes with|true=>sF r.v m.from_|false=>sG r.v m.from_):=⟨_,rfl⟩
 have he:r.voted m=match r.role == 1 with
  |false=>r
  |true=>match kQ vo,pM vo with
   |true,_=>{r with v:=vo}.lead
   |false,true=>{r with v:=vo,role:=0}
   |false,false=>{r with v:=vo}:=by rw [hvo];rfl
 rw [he]
 obtain ⟨pl,pv,pt,mv,hw⟩:=dG hw
 refine enter Tryz.func142 Tryz.ntmps142 rfl rfl fun a hs=>?_
 refine sc hs ?_
 refine sn hs hw fun b a W hs hw=>?_
 refine sv hs hw fun a hs=>?_
 rw [show (r.role !=1)=!(r.role == 1) from rfl] at hs
 cases c1:r.role == 1 with
 |false=>
  rw [c1] at hs
  refine sc hs ?_
  have hw:Has 0 w0 W (aG H p r::aA b (aH m (.slice vad m.es.length vcap)) 38::Fz H::R):=cF (hw.pm)
  exact rt0 hs rfl ⟨rfl,H,Fh.le.refl H,hw.sl⟩
 |true=>
 rw [c1] at hs
 refine sv hs hw fun a hs=>?_
 have mid:∀{W},Has 0 w0 W (aA b (aH m (.slice vad m.es.length vcap)) 38::aK p r pl pv pt mv::aI pl r.l::VoR pv (vo)::ToR pt r.t::aC H mv r.out.msgs::Fz H::R)→Has 0 w0 W (aG H p {r with v:=vo}::Fz H::R):=fun h=>cF (r:={r with v:=vo}) (h.sub (List.Sublist.cons _ (List.Sublist.refl _)))
 cases c2:m.yes with
 |true=>
  rw [c2] at hs hvo
  replace hvo:vo=sF r.v m.from_:=hvo
  refine sc hs ?_
  refine bF [6] [.f 0 0,.f 0 0,.f 0 0,.f 0 0,.f 0 0,.f 0 0,.m 0] [.c0 _,.c0 _,.c0 _,.c0 _,.c0 _,.c0 _,.c1 (fun x=>x.v)] (aA b (aH m (.slice vad m.es.length vcap)) 38::aK p r pl pv pt mv::aI pl r.l::VoR pv (r.v)::ToR pt r.t::aC H mv r.out.msgs::Fz H::R) (fun x=>aA b (aH m (.slice vad m.es.length vcap)) 38::aK p r pl pv pt mv::aI pl r.l::VoR pv (vo)::ToR pt r.t::aC H mv r.out.msgs::Fz H::R) (fun x y=>[]) (fun x y z=>[]) (fun x y z t=>[]) hs hw ?kk ⟨drs,drs,drs,drs,drs,drs,?m0,trivial⟩
  case m0=>
   intro x y z t LD a W hs hw
   have hw:Has 0 w0 W (VoR pv r.v::aA b (aH m (.slice vad m.es.length vcap)) 38::aK p r pl pv pt mv::aI pl r.l::ToR pt r.t::aC H mv r.out.msgs::Fz H::R):=hw.pm
   refine cle hs (aHH (X:=m.from_) (fun o h=>(hy o h).1) hw) fun bb a W _ hs hw=>?_
   rw [←hvo] at hw
   exact ⟨{v:= .bool bb},hs,hw.pm⟩
  case kk=>
   intro _ a W hs hw
   replace hs:Slots a 42 [(0,ptr p)]:=hs.of ⟨rfl,trivial⟩
   refine sv hs hw fun a hs=>?_
   have hw:Has 0 w0 W (VoR pv vo::aA b (aH m (.slice vad m.es.length vcap)) 38::aK p r pl pv pt mv::aI pl r.l::ToR pt r.t::aC H mv r.out.msgs::Fz H::R):=hw.pm
   refine cl hs (xH hw) fun a W hs hw=>?_
   have hw:Has 0 w0 W (aA b (aH m (.slice vad m.es.length vcap)) 38::aK p r pl pv pt mv::aI pl r.l::VoR pv (vo)::ToR pt r.t::aC H mv r.out.msgs::Fz H::R):=hw.pm
   refine sv hs hw fun a hs=>?_
   cases c3:kQ vo with
   |true=>
    rw [c3] at hs
    refine sv hs hw fun a hs=>?_
    have hw:=mid hw
    refine aF hs (hc:=xI (r:={r with v:=vo}) hl hw) (k:=?_)
    rintro e' W' ⟨rfl,H3,hle3,hw⟩
    refine ⟨_,rfl,fun a hs=>?_⟩
    refine sc hs ?_
    exact cO hs rfl ⟨rfl,H3,hle3,hw⟩
   |false=>
    rw [c3] at hs
    refine sv hs hw fun a hs=>?_
    have hw:Has 0 w0 W (VoR pv vo::aA b (aH m (.slice vad m.es.length vcap)) 38::aK p r pl pv pt mv::aI pl r.l::ToR pt r.t::aC H mv r.out.msgs::Fz H::R):=hw.pm
    refine cl hs (aBi hw) fun a W hs hw=>?_
    have hw:Has 0 w0 W (aA b (aH m (.slice vad m.es.length vcap)) 38::aK p r pl pv pt mv::aI pl r.l::VoR pv (vo)::ToR pt r.t::aC H mv r.out.msgs::Fz H::R):=hw.pm
    refine sv hs hw fun a hs=>?_
    cases c4:pM vo with
    |true=>
     rw [c4] at hs
     refine sx hs hw fun a W hs hw=>?_
     exact cO hs rfl ⟨rfl,H,Fh.le.refl H,cF (r:={r with v:=vo,role:=0}) (hw.sub (List.Sublist.cons _ (List.Sublist.refl _)))⟩
    |false=>
     rw [c4] at hs
     refine sc hs ?_
     exact cO hs rfl ⟨rfl,H,Fh.le.refl H,mid hw⟩
 |false=>
  rw [c2] at hs hvo
  replace hvo:vo=sG r.v m.from_:=hvo
  refine sc hs ?_
  refine bF [6] [.f 0 0,.f 0 0,.f 0 0,.f 0 0,.f 0 0,.f 0 0,.m 0] [.c0 _,.c0 _,.c0 _,.c0 _,.c0 _,.c0 _,.c1 (fun x=>x.v)] (aA b (aH m (.slice vad m.es.length vcap)) 38::aK p r pl pv pt mv::aI pl r.l::VoR pv (r.v)::ToR pt r.t::aC H mv r.out.msgs::Fz H::R) (fun x=>aA b (aH m (.slice vad m.es.length vcap)) 38::aK p r pl pv pt mv::aI pl r.l::VoR pv (vo)::ToR pt r.t::aC H mv r.out.msgs::Fz H::R) (fun x y=>[]) (fun x y z=>[]) (fun x y z t=>[]) hs hw ?kk ⟨drs,drs,drs,drs,drs,drs,?m0,trivial⟩
  case m0=>
   intro x y z t LD a W hs hw
   have hw:Has 0 w0 W (VoR pv r.v::aA b (aH m (.slice vad m.es.length vcap)) 38::aK p r pl pv pt mv::aI pl r.l::ToR pt r.t::aC H mv r.out.msgs::Fz H::R):=hw.pm
   refine cle hs (aHI (X:=m.from_) (fun o h=>(hy o h).2) hw) fun bb a W _ hs hw=>?_
   rw [←hvo] at hw
   exact ⟨{v:= .bool bb},hs,hw.pm⟩
  case kk=>
   intro _ a W hs hw
   replace hs:Slots a 42 [(0,ptr p)]:=hs.of ⟨rfl,trivial⟩
   refine sv hs hw fun a hs=>?_
   have hw:Has 0 w0 W (VoR pv vo::aA b (aH m (.slice vad m.es.length vcap)) 38::aK p r pl pv pt mv::aI pl r.l::ToR pt r.t::aC H mv r.out.msgs::Fz H::R):=hw.pm
   refine cl hs (xH hw) fun a W hs hw=>?_
   have hw:Has 0 w0 W (aA b (aH m (.slice vad m.es.length vcap)) 38::aK p r pl pv pt mv::aI pl r.l::VoR pv (vo)::ToR pt r.t::aC H mv r.out.msgs::Fz H::R):=hw.pm
   refine sv hs hw fun a hs=>?_
   cases c3:kQ vo with
   |true=>
    rw [c3] at hs
    refine sv hs hw fun a hs=>?_
    have hw:=mid hw
    refine aF hs (hc:=xI (r:={r with v:=vo}) hl hw) (k:=?_)
    rintro e' W' ⟨rfl,H3,hle3,hw⟩
    refine ⟨_,rfl,fun a hs=>?_⟩
    refine sc hs ?_
    exact cO hs rfl ⟨rfl,H3,hle3,hw⟩
   |false=>
    rw [c3] at hs
    refine sv hs hw fun a hs=>?_
    have hw:Has 0 w0 W (VoR pv vo::aA b (aH m (.slice vad m.es.length vcap)) 38::aK p r pl pv pt mv::aI pl r.l::ToR pt r.t::aC H mv r.out.msgs::Fz H::R):=hw.pm
    refine cl hs (aBi hw) fun a W hs hw=>?_
    have hw:Has 0 w0 W (aA b (aH m (.slice vad m.es.length vcap)) 38::aK p r pl pv pt mv::aI pl r.l::VoR pv (vo)::ToR pt r.t::aC H mv r.out.msgs::Fz H::R):=hw.pm
    refine sv hs hw fun a hs=>?_
    cases c4:pM vo with
    |true=>
     rw [c4] at hs
     refine sx hs hw fun a W hs hw=>?_
     exact cO hs rfl ⟨rfl,H,Fh.le.refl H,cF (r:={r with v:=vo,role:=0}) (hw.sub (List.Sublist.cons _ (List.Sublist.refl _)))⟩
    |false=>
     rw [c4] at hs
     refine sc hs ?_
     exact cO hs rfl ⟨rfl,H,Fh.le.refl H,mid hw⟩
end
section
variable {H H':Fh} {p pl:Nat} {pv pt mv:Value} {r:RaftD} {w0 W:World} {R L:List Res} {l:List bP} {v:Value}
theorem aHT (m:bP) (v:Value) (hv:∃ad cap,v= .slice ad m.es.length cap) (hl:r.out.msgs.length≤900) (hw:Has 0 w0 W (aG H p r::Fz H::R)):
  Calls Tryz.prog 144 ⟨[ptr p,.agg ⟨aH m v⟩]⟩ W fun e W'=>e= .returned (.tuple ⟨[]⟩)∧∃H',H.le H'∧Has 0 w0 W' (aG H' p (r.ack m)::Fz H'::R):=by
 obtain ⟨vad,vcap,rfl⟩:=hv
 obtain ⟨pl,pv,pt,mv,hw⟩:=dG hw
 refine enter Tryz.func144 Tryz.ntmps144 rfl rfl fun a hs=>?_
 refine sc hs ?_
 refine sn hs hw fun b a W hs hw=>?_
 refine sc hs ?_
 have fin:∀{W},Has 0 w0 W (aA b (aH m (.slice vad m.es.length vcap)) 38::aK p r pl pv pt mv::aI pl r.l::VoR pv r.v::ToR pt (r.t)::aC H mv r.out.msgs::Fz H::R)→Has 0 w0 W (aG H p r::Fz H::R):=fun h=>cF (h.sub (List.Sublist.cons _ (List.Sublist.refl _)))
 cases c1:(r.role == 2) with
 |false=>
  have he:r.ack m=r:=by unfold RaftD.ack;rw [if_pos (.inl (by simpa using c1))]
  rw [he]
  refine bF [12] [.f 0 0,.f 0 0,.f 0 0,.f 0 0,.f 0 0,.f 0 0,.f 0 1,.f 0 1,.f 0 0,.f 0 0,.f 0 0,.f 0 0,.m 0,.f 1 1,.f 1 1] [.c0 _,.c0 _,.c0 _,.c0 _,.c0 (.bool true),.c0 _,.c0 _,.c0 _,.c0 _,.c0 _,.c0 _,.c0 _,.c1 (fun x=>undef),.c1 _,.c1 _] (aA b (aH m (.slice vad m.es.length vcap)) 38::aK p r pl pv pt mv::aI pl r.l::VoR pv r.v::ToR pt (r.t)::aC H mv r.out.msgs::Fz H::R) (fun x=>aA b (aH m (.slice vad m.es.length vcap)) 38::aK p r pl pv pt mv::aI pl r.l::VoR pv r.v::ToR pt (r.t)::aC H mv r.out.msgs::Fz H::R) (fun x y=>[]) (fun x y z=>[]) (fun x y z t=>[]) hs hw ?kk ⟨drs,drs,drs,drs,?f4,drs,drs,drs,drs,drs,drs,drs,drm,drs,drs,trivial⟩
  case f4=>
   refine ⟨?_,trivial,trivial,trivial,trivial⟩
   intro x y z t LD a W hs hw
   refine sv hs hw fun a hs=>?_
   rw [show (r.role !=2)=!(r.role == 2) from rfl,c1] at hs
   exact ⟨hs,hw⟩
  case kk=>
   intro _ a W hs hw
   refine sc hs ?_
   exact rt0 hs rfl ⟨rfl,H,Fh.le.refl H,fin hw⟩
 |true=>
  refine bF [12] [.f 0 0,.f 0 0,.f 0 0,.f 0 0,.f 0 0,.f 0 0,.f 0 1,.f 0 1,.f 0 0,.f 0 0,.f 0 0,.f 0 0,.m 0,.f 1 1,.f 1 1] [.c0 _,.c0 _,.c0 _,.c0 _,.c0 (.bool false),.c0 _,.c0 _,.c0 _,.c0 _,.c0 _,.c0 _,.c0 _,.c1 (fun x=> .int .i64 r.l.last),.c1 _,.c1 _] (aA b (aH m (.slice vad m.es.length vcap)) 38::aK p r pl pv pt mv::aI pl r.l::VoR pv r.v::ToR pt (r.t)::aC H mv r.out.msgs::Fz H::R) (fun x=>aA b (aH m (.slice vad m.es.length vcap)) 38::aK p r pl pv pt mv::aI pl r.l::VoR pv r.v::ToR pt (r.t)::aC H mv r.out.msgs::Fz H::R) (fun x y=>[]) (fun x y z=>[]) (fun x y z t=>[]) hs hw ?kk ⟨drs,drs,drs,drs,?f4,drs,drs,drs,drs,drs,drs,drs,drm,drs,drs,trivial⟩
  case f4=>
   refine ⟨?_,trivial,trivial,trivial,trivial⟩
   intro x y z t LD a W hs hw
   refine sv hs hw fun a hs=>?_
   rw [show (r.role !=2)=!(r.role == 2) from rfl,c1] at hs
   exact ⟨hs,hw⟩
  case kk=>
  intro _ a W hs hw
  replace hs:Slots a 70 [(0,ptr p),(3,ptr b),(18,.bool (decide (m.ix > r.l.last)))]:=hs.of ⟨rfl,rfl,rfl,trivial⟩
  have hr2:r.role=2:=by simpa using c1
  cases c2:decide (m.ix > r.l.last) with
  |true=>
   rw [c2] at hs
   have he:r.ack m=r:=by unfold RaftD.ack;rw [if_pos (.inr (of_decide_eq_true c2))]
   rw [he]
   refine sc hs ?_
   exact rt0 hs rfl ⟨rfl,H,Fh.le.refl H,fin hw⟩
  |false=>
  rw [c2] at hs
  have he:r.ack m=match m.yes with
   |false=>match (gO r.t m.from_ m.ix).2 with
    |true=>{r with t:=(gO r.t m.from_ m.ix).1}.send m.from_
    |false=>{r with t:=(gO r.t m.from_ m.ix).1}
   |true=>
    let q:=match (gF r.t m.from_ m.ix).2 with|true=>{r with t:=(gF r.t m.from_ m.ix).1}.move|false=>{r with t:=(gF r.t m.from_ m.ix).1}
    match (q.role == 2) && decide (bJ q.t m.from_≤q.l.last) with
    |true=>q.send m.from_
    |false=>q:=by
   unfold RaftD.ack
   rw [if_neg (by have:=of_decide_eq_false c2;simp [hr2];omega)]
   rfl
  refine sv hs hw fun a hs=>?_
  cases c3:m.yes with
  |false=>
   rw [c3] at hs
   rw [he,c3]
   refine sc hs ?_
   refine bF [8] [.f 0 0,.f 0 0,.f 0 0,.f 0 0,.f 0 0,.f 0 0,.f 0 0,.f 0 0,.m 0] [.c0 _,.c0 _,.c0 _,.c0 _,.c0 _,.c0 _,.c0 _,.c0 _,.c1 (fun x=> .bool (gO r.t m.from_ m.ix).2)] (aA b (aH m (.slice vad m.es.length vcap)) 38::aK p r pl pv pt mv::aI pl r.l::VoR pv r.v::ToR pt (r.t)::aC H mv r.out.msgs::Fz H::R) (fun x=>aA b (aH m (.slice vad m.es.length vcap)) 38::aK p r pl pv pt mv::aI pl r.l::VoR pv r.v::ToR pt ((gO r.t m.from_ m.ix).1)::aC H mv r.out.msgs::Fz H::R) (fun x y=>[]) (fun x y z=>[]) (fun x y z t=>[]) hs hw ?kk ⟨drs,drs,drs,drs,drs,drs,drs,drs,?m0,trivial⟩
   case m0=>
    intro x y z t LD a W hs hw
    have hw:Has 0 w0 W (ToR pt r.t::aA b (aH m (.slice vad m.es.length vcap)) 38::aK p r pl pv pt mv::aI pl r.l::VoR pv r.v::aC H mv r.out.msgs::Fz H::R):=hw.pm
    refine cl hs (aHF hw) fun a W hs hw=>?_
    exact ⟨{},hs,hw.pm⟩
   case kk=>
   intro _ a W hs hw
   replace hs:Slots a 70 [(0,ptr p),(3,ptr b),(30,.bool (gO r.t m.from_ m.ix).2)]:=hs.of ⟨rfl,rfl,rfl,trivial⟩
   have hq:Has 0 w0 W (aG H p {r with t:=(gO r.t m.from_ m.ix).1}::Fz H::aA b (aH m (.slice vad m.es.length vcap)) 38::R):=cF (r:={r with t:=(gO r.t m.from_ m.ix).1}) (hw.pm)
   cases c4:(gO r.t m.from_ m.ix).2 with
   |true=>
    rw [c4] at hs
    refine sv hs hw fun a hs=>?_
    refine aF hs (hc:=s8 (r:={r with t:=(gO r.t m.from_ m.ix).1}) m.from_ (by show r.out.msgs.length≤1000;omega) hq) (k:=?_)
    rintro e' W' ⟨rfl,H3,hle3,hw⟩
    refine ⟨_,rfl,fun a hs=>?_⟩
    refine sc hs ?_
    exact rt0 hs rfl ⟨rfl,H3,hle3,hw.sl⟩
   |false=>
    rw [c4] at hs
    refine sc hs ?_
    exact rt0 hs rfl ⟨rfl,H,Fh.le.refl H,hq.sl⟩
  |true=>
   rw [c3] at hs
   refine sc hs ?_
   refine bF [8] [.f 0 0,.f 0 0,.f 0 0,.f 0 0,.f 0 0,.f 0 0,.f 0 0,.f 0 0,.m 0] [.c0 _,.c0 _,.c0 _,.c0 _,.c0 _,.c0 _,.c0 _,.c0 _,.c1 (fun x=> .bool (gF r.t m.from_ m.ix).2)] (aA b (aH m (.slice vad m.es.length vcap)) 38::aK p r pl pv pt mv::aI pl r.l::VoR pv r.v::ToR pt (r.t)::aC H mv r.out.msgs::Fz H::R) (fun x=>aA b (aH m (.slice vad m.es.length vcap)) 38::aK p r pl pv pt mv::aI pl r.l::VoR pv r.v::ToR pt ((gF r.t m.from_ m.ix).1)::aC H mv r.out.msgs::Fz H::R) (fun x y=>[]) (fun x y z=>[]) (fun x y z t=>[]) hs hw ?kk ⟨drs,drs,drs,drs,drs,drs,drs,drs,?m0,trivial⟩
   case m0=>
    intro x y z t LD a W hs hw
    have hw:Has 0 w0 W (ToR pt r.t::aA b (aH m (.slice vad m.es.length vcap)) 38::aK p r pl pv pt mv::aI pl r.l::VoR pv r.v::aC H mv r.out.msgs::Fz H::R):=hw.pm
    refine cl hs (aHE hw) fun a W hs hw=>?_
    exact ⟨{},hs,hw.pm⟩
   case kk=>
   intro _ a W hs hw
   replace hs:Slots a 70 [(0,ptr p),(3,ptr b),(43,.bool (gF r.t m.from_ m.ix).2)]:=hs.of ⟨rfl,rfl,rfl,trivial⟩
   have hqw:Has 0 w0 W (aG H p {r with t:=(gF r.t m.from_ m.ix).1}::Fz H::aA b (aH m (.slice vad m.es.length vcap)) 38::R):=cF (r:={r with t:=(gF r.t m.from_ m.ix).1}) (hw.pm)
   cases c4:(gF r.t m.from_ m.ix).2 with
   |true=>
    rw [c4] at hs
    replace hw:=hqw
    refine sv hs hw fun a hs=>?_
    refine cl hs (tA (r:={r with t:=(gF r.t m.from_ m.ix).1}) hw) fun a W hs hqw=>?_
    obtain ⟨q,hq⟩:∃q,q=RaftD.move {r with t:=(gF r.t m.from_ m.ix).1}:=⟨_,rfl⟩
    refine sc hs ?_
    have hmq:q.out.msgs.length≤900:=by rw [hq];rw [tB];exact hl
    have heq:r.ack m=match (q.role == 2) && decide (bJ q.t m.from_≤q.l.last) with
     |true=>q.send m.from_
     |false=>q:=by
     rw [hq,he,c3]
     simp only [c4]
    rw [heq]
    rw [←hq] at hqw
    clear hw
    obtain ⟨pl2,pv2,pt2,mv2,hw⟩:=dG hqw
    replace hs:Slots a 70 [(0,ptr p),(3,ptr b)]:=hs.of ⟨rfl,rfl,trivial⟩
    cases c5:(q.role == 2) with
    |false=>
     refine bF [12,17] [.f 0 0,.f 0 0,.f 0 0,.f 0 0,.f 0 0,.f 0 0,.f 0 0,.f 0 0,.f 0 0,.f 0 0,.f 0 0,.f 0 0,.m 0,.f 0 1,.f 0 1,.f 0 1,.f 0 1,.m 1,.f 2 2,.f 2 2] [.c0 _,.c0 _,.c0 _,.c0 _,.c0 (.bool false),.c0 _,.c0 _,.c0 _,.c0 _,.c0 _,.c0 _,.c0 _,.c1 (fun x=>undef),.c0 _,.c0 _,.c0 _,.c0 _,.c2 (fun x y=>undef),.c2 _,.c2 _] (aK p q pl2 pv2 pt2 mv2::aI pl2 q.l::VoR pv2 q.v::ToR pt2 q.t::aC H mv2 q.out.msgs::Fz H::aA b (aH m (.slice vad m.es.length vcap)) 38::R) (fun x=>aK p q pl2 pv2 pt2 mv2::aI pl2 q.l::VoR pv2 q.v::ToR pt2 q.t::aC H mv2 q.out.msgs::Fz H::aA b (aH m (.slice vad m.es.length vcap)) 38::R) (fun x y=>aK p q pl2 pv2 pt2 mv2::aI pl2 q.l::VoR pv2 q.v::ToR pt2 q.t::aC H mv2 q.out.msgs::Fz H::aA b (aH m (.slice vad m.es.length vcap)) 38::R) (fun x y z=>[]) (fun x y z t=>[]) hs hw ?kk ⟨drs,drs,drs,drs,?f4,drs,drs,drs,drs,drs,drs,drs,drm,drs,drs,drs,drs,drm,drs,drs,trivial⟩
     case f4=>
      refine ⟨?_,trivial,trivial,trivial,trivial⟩
      intro x y z t LD a W hs hw
      refine sv hs hw fun a hs=>?_
      rw [c5] at hs
      exact ⟨hs,hw⟩
     case kk=>
      intro _ _ a W hs hw
      have hw:Has 0 w0 W (aG H p q::Fz H::aA b (aH m (.slice vad m.es.length vcap)) 38::R):=cF hw
      refine sc hs ?_
      exact cO hs rfl ⟨rfl,H,Fh.le.refl H,hw.sl⟩
    |true=>
     refine bF [12,17] [.f 0 0,.f 0 0,.f 0 0,.f 0 0,.f 0 0,.f 0 0,.f 0 0,.f 0 0,.f 0 0,.f 0 0,.f 0 0,.f 0 0,.m 0,.f 0 1,.f 0 1,.f 0 1,.f 0 1,.m 1,.f 2 2,.f 2 2] [.c0 _,.c0 _,.c0 _,.c0 _,.c0 (.bool true),.c0 _,.c0 _,.c0 _,.c0 _,.c0 _,.c0 _,.c0 _,.c1 (fun x=> .int .i64 (bJ q.t m.from_)),.c0 _,.c0 _,.c0 _,.c0 _,.c2 (fun x y=> .int .i64 q.l.last),.c2 _,.c2 _] (aK p q pl2 pv2 pt2 mv2::aI pl2 q.l::VoR pv2 q.v::ToR pt2 q.t::aC H mv2 q.out.msgs::Fz H::aA b (aH m (.slice vad m.es.length vcap)) 38::R) (fun x=>aK p q pl2 pv2 pt2 mv2::aI pl2 q.l::VoR pv2 q.v::ToR pt2 q.t::aC H mv2 q.out.msgs::Fz H::aA b (aH m (.slice vad m.es.length vcap)) 38::R) (fun x y=>aK p q pl2 pv2 pt2 mv2::aI pl2 q.l::VoR pv2 q.v::ToR pt2 q.t::aC H mv2 q.out.msgs::Fz H::aA b (aH m (.slice vad m.es.length vcap)) 38::R) (fun x y z=>[]) (fun x y z t=>[]) hs hw ?kk ⟨drs,drs,drs,drs,?f4,drs,drs,drs,drs,drs,drs,drs,?m0,drs,drs,drs,drs,drm,drs,drs,trivial⟩
     case f4=>
      refine ⟨?_,trivial,trivial,trivial,trivial⟩
      intro x y z t LD a W hs hw
      refine sv hs hw fun a hs=>?_
      rw [c5] at hs
      exact ⟨hs,hw⟩
     case m0=>
      intro x y z t LD a W hs hw
      refine sc hs ?_
      have hw:Has 0 w0 W (ToR pt2 q.t::aK p q pl2 pv2 pt2 mv2::aI pl2 q.l::VoR pv2 q.v::aC H mv2 q.out.msgs::Fz H::aA b (aH m (.slice vad m.es.length vcap)) 38::R):=hw.pm
      refine cl hs (xG hw) fun a W hs hw=>?_
      exact ⟨{},hs,hw.pm⟩
     case kk=>
     intro _ _ a W hs hw
     have hw:Has 0 w0 W (aG H p q::Fz H::aA b (aH m (.slice vad m.es.length vcap)) 38::R):=cF hw
     replace hs:Slots a 70 [(0,ptr p),(3,ptr b),(65,.bool (decide (bJ q.t m.from_≤q.l.last)))]:=hs.of ⟨rfl,rfl,rfl,trivial⟩
     cases c6:decide (bJ q.t m.from_≤q.l.last) with
     |true=>
      rw [c6] at hs
      refine sv hs hw fun a hs=>?_
      refine aF hs (hc:=s8 m.from_ (by omega) hw) (k:=?_)
      rintro e' W' ⟨rfl,H3,hle3,hw⟩
      refine ⟨_,rfl,fun a hs=>?_⟩
      refine sc hs ?_
      exact cO hs rfl ⟨rfl,H3,hle3,hw.sl⟩
     |false=>
      rw [c6] at hs
      refine sc hs ?_
      exact cO hs rfl ⟨rfl,H,Fh.le.refl H,hw.sl⟩
   |false=>
    rw [c4] at hs
    obtain ⟨q,hq⟩:∃q,q=({r with t:=(gF r.t m.from_ m.ix).1}:RaftD):=⟨_,rfl⟩
    refine sc hs ?_
    have hmq:q.out.msgs.length≤900:=by rw [hq];exact hl
    have heq:r.ack m=match (q.role == 2) && decide (bJ q.t m.from_≤q.l.last) with
     |true=>q.send m.from_
     |false=>q:=by
     rw [hq,he,c3]
     simp only [c4]
    rw [heq]
    rw [←hq] at hqw
    clear hw
    obtain ⟨pl2,pv2,pt2,mv2,hw⟩:=dG hqw
    replace hs:Slots a 70 [(0,ptr p),(3,ptr b)]:=hs.of ⟨rfl,rfl,trivial⟩
    cases c5:(q.role == 2) with
    |false=>
     refine bF [12,17] [.f 0 0,.f 0 0,.f 0 0,.f 0 0,.f 0 0,.f 0 0,.f 0 0,.f 0 0,.f 0 0,.f 0 0,.f 0 0,.f 0 0,.m 0,.f 0 1,.f 0 1,.f 0 1,.f 0 1,.m 1,.f 2 2,.f 2 2] [.c0 _,.c0 _,.c0 _,.c0 _,.c0 (.bool false),.c0 _,.c0 _,.c0 _,.c0 _,.c0 _,.c0 _,.c0 _,.c1 (fun x=>undef),.c0 _,.c0 _,.c0 _,.c0 _,.c2 (fun x y=>undef),.c2 _,.c2 _] (aK p q pl2 pv2 pt2 mv2::aI pl2 q.l::VoR pv2 q.v::ToR pt2 q.t::aC H mv2 q.out.msgs::Fz H::aA b (aH m (.slice vad m.es.length vcap)) 38::R) (fun x=>aK p q pl2 pv2 pt2 mv2::aI pl2 q.l::VoR pv2 q.v::ToR pt2 q.t::aC H mv2 q.out.msgs::Fz H::aA b (aH m (.slice vad m.es.length vcap)) 38::R) (fun x y=>aK p q pl2 pv2 pt2 mv2::aI pl2 q.l::VoR pv2 q.v::ToR pt2 q.t::aC H mv2 q.out.msgs::Fz H::aA b (aH m (.slice vad m.es.length vcap)) 38::R) (fun x y z=>[]) (fun x y z t=>[]) hs hw ?kk ⟨drs,drs,drs,drs,?f4,drs,drs,drs,drs,drs,drs,drs,drm,drs,drs,drs,drs,drm,drs,drs,trivial⟩
     case f4=>
      refine ⟨?_,trivial,trivial,trivial,trivial⟩
      intro x y z t LD a W hs hw
      refine sv hs hw fun a hs=>?_
      rw [c5] at hs
      exact ⟨hs,hw⟩
     case kk=>
      intro _ _ a W hs hw
      have hw:Has 0 w0 W (aG H p q::Fz H::aA b (aH m (.slice vad m.es.length vcap)) 38::R):=cF hw
      refine sc hs ?_
      exact cO hs rfl ⟨rfl,H,Fh.le.refl H,hw.sl⟩
    |true=>
     refine bF [12,17] [.f 0 0,.f 0 0,.f 0 0,.f 0 0,.f 0 0,.f 0 0,.f 0 0,.f 0 0,.f 0 0,.f 0 0,.f 0 0,.f 0 0,.m 0,.f 0 1,.f 0 1,.f 0 1,.f 0 1,.m 1,.f 2 2,.f 2 2] [.c0 _,.c0 _,.c0 _,.c0 _,.c0 (.bool true),.c0 _,.c0 _,.c0 _,.c0 _,.c0 _,.c0 _,.c0 _,.c1 (fun x=> .int .i64 (bJ q.t m.from_)),.c0 _,.c0 _,.c0 _,.c0 _,.c2 (fun x y=> .int .i64 q.l.last),.c2 _,.c2 _] (aK p q pl2 pv2 pt2 mv2::aI pl2 q.l::VoR pv2 q.v::ToR pt2 q.t::aC H mv2 q.out.msgs::Fz H::aA b (aH m (.slice vad m.es.length vcap)) 38::R) (fun x=>aK p q pl2 pv2 pt2 mv2::aI pl2 q.l::VoR pv2 q.v::ToR pt2 q.t::aC H mv2 q.out.msgs::Fz H::aA b (aH m (.slice vad m.es.length vcap)) 38::R) (fun x y=>aK p q pl2 pv2 pt2 mv2::aI pl2 q.l::VoR pv2 q.v::ToR pt2 q.t::aC H mv2 q.out.msgs::Fz H::aA b (aH m (.slice vad m.es.length vcap)) 38::R) (fun x y z=>[]) (fun x y z t=>[]) hs hw ?kk ⟨drs,drs,drs,drs,?f4,drs,drs,drs,drs,drs,drs,drs,?m0,drs,drs,drs,drs,drm,drs,drs,trivial⟩
     case f4=>
      refine ⟨?_,trivial,trivial,trivial,trivial⟩
      intro x y z t LD a W hs hw
      refine sv hs hw fun a hs=>?_
      rw [c5] at hs
      exact ⟨hs,hw⟩
     case m0=>
      intro x y z t LD a W hs hw
      refine sc hs ?_
      have hw:Has 0 w0 W (ToR pt2 q.t::aK p q pl2 pv2 pt2 mv2::aI pl2 q.l::VoR pv2 q.v::aC H mv2 q.out.msgs::Fz H::aA b (aH m (.slice vad m.es.length vcap)) 38::R):=hw.pm
      refine cl hs (xG hw) fun a W hs hw=>?_
      exact ⟨{},hs,hw.pm⟩
     case kk=>
     intro _ _ a W hs hw
     have hw:Has 0 w0 W (aG H p q::Fz H::aA b (aH m (.slice vad m.es.length vcap)) 38::R):=cF hw
     replace hs:Slots a 70 [(0,ptr p),(3,ptr b),(65,.bool (decide (bJ q.t m.from_≤q.l.last)))]:=hs.of ⟨rfl,rfl,rfl,trivial⟩
     cases c6:decide (bJ q.t m.from_≤q.l.last) with
     |true=>
      rw [c6] at hs
      refine sv hs hw fun a hs=>?_
      refine aF hs (hc:=s8 m.from_ (by omega) hw) (k:=?_)
      rintro e' W' ⟨rfl,H3,hle3,hw⟩
      refine ⟨_,rfl,fun a hs=>?_⟩
      refine sc hs ?_
      exact cO hs rfl ⟨rfl,H3,hle3,hw.sl⟩
     |false=>
      rw [c6] at hs
      refine sc hs ?_
      exact cO hs rfl ⟨rfl,H,Fh.le.refl H,hw.sl⟩
end
end Go.Proofs.YtgpbngfehfbndaaGreatDoor.Sw
