import Derived.Test.YtgpbngfehfbndaaGreatDoorV18
import Derived.Test.YtgpbngfehfbndaaGreatDoorV19
set_option maxHeartbeats 16000000
set_option linter.all false
set_option maxRecDepth 10000
namespace Go.Proofs.YtgpbngfehfbndaaGreatDoor.Sw
open Go.RowKit Go.Sx
abbrev fN (H:Fh) (v:Value) (l:List bY):Prop:=RdH H 4 v l.length (l.flatMap bA)
theorem sS (l:List bY):∀u∈l.flatMap bA,u.oneCell'=true:=by
 intro u hu;obtain ⟨o,_,ho⟩:=List.mem_flatMap.1 hu;simp only [bA,List.mem_cons,List.not_mem_nil,or_false] at ho;rcases ho with rfl|rfl|rfl|rfl <;> rfl
theorem aGV (l:List bY):(l.flatMap bA).length=l.length*4:=Ch.length EE.len (nZ l)
theorem sT (w0 W:World) (l:List bY) (v:Value) (R:List Res) (hl:l.length≤1000) (hr:∀{W},Has 0 w0 W R→Rd W 4 v l.length (l.flatMap bA)) (hw:Has 0 w0 W R):
  Calls Tryz.prog 79 ⟨[v]⟩ W fun e W'=>∃s:Option Addr×Nat,e= .returned (.slice s.1 l.length s.2)∧True∧Has 0 w0 W' (bE (.slice s.1 l.length s.2) l::R):=by
 obtain ⟨ad,cap,rfl⟩:∃ad cap,v= .slice ad l.length cap:=by obtain ⟨_,ad,cap,e,_⟩:=hr hw;exact ⟨ad,cap,e⟩
 refine en Tryz.func79 Tryz.ntmps79 fun a hs=>?_;refine sv hs hw fun a hs=>?_;refine kR hs (c:=fun a hs=>?_);cases ad with
 |none=>
  refine sv hs hw fun a hs=>?_;have h0:l= []:=by
   obtain ⟨_,ad,cap,e,_,_,h|⟨b,o,h,_⟩⟩:=hr hw
   ·exact List.eq_nil_of_length_eq_zero h
   ·injection e with e1 _ _;rw [←e1] at h;cases h
  subst h0;exact rt1 hs rfl rfl ⟨(none,0),rfl,trivial,hw.nilOwn 137 4⟩
 |some A=>
  rw [show (some A).isNone=false from rfl] at hs;refine sc hs ?_;refine o6 hs hw (c:=fun a ad W hw hs=>?_);refine sv hs hw fun a hs=>?_;refine lL hs (hw:=hw) (k:=0) (m:=l.length) (xs:=[]) (news:=l.flatMap bA) (hsrc:=eZ (hr (hw.d1)) (sS l)) (h63:=by omega) (hb:=by omega) (c:=fun a ad2 cap2 W hs hw=>?_);rw [List.nil_append,Nat.zero_add] at hw;rw [Nat.zero_add] at hs;refine sv hs hw fun a hs=>?_;exact rt1 hs rfl rfl ⟨(ad2,cap2),rfl,trivial,hw⟩
theorem p7 {P:Program} {ops:Array Oper} {rest:List Oper} {Q:Exit→Act→World→Prop} {a:Act} {n:Nat} {L:List (Nat×Value)} {W:World} {d:Nat} {T S E:TypeId} {p:String} {e:Array Edge} {x y:Operand} {i:Nat} {q:IntKind} {z:List Value} {agg:Bool} [sl:Sl P S E] [t:Ty P E agg z] {v:Value} {l:List bY} {u:bY} (hs:Slots a n L) (r:Rd W 4 v l.length (l.flatMap bA)) (hi:l[i]? =some u)
  (c:∀a' b o,(∀j x,(bA u)[j]? =some x→W.cell? ⟨b,o+j,none⟩=some x)→Slots a' n ((d,.pointer (some ⟨b,o,none⟩))::L)→wpList P ops Q rest a' W) (hx:ev L x=some v:=by with_unfolding_all exact rfl) (hy:ev L y=some (.int q (i:Int)):=by with_unfolding_all exact rfl) (hd:Nat.blt d n=true:=by with_unfolding_all exact rfl) (hz:z.length=4:=by with_unfolding_all exact rfl):
  wpList P ops Q (⟨some d,.indexAddr S x y,T,p,e,none⟩::rest) a W:=by
 refine gT hs r EE.len (nZ l) hi rfl hx hy hd hz (fun a' b o c0 hc hcl hpc hlt hs=>?_);obtain rfl:c0=bA u:=hc;exact c a' b o hpc hs
theorem aBQ (w0 W:World) (i t:Int) (l:List bY) (v:Value) (R:List Res) (hr:∀{W},Has 0 w0 W R→Rd W 4 v l.length (l.flatMap bA)) (hw:Has 0 w0 W R):
  Calls Tryz.prog 163 ⟨[.int .i64 i,.int .i64 t,v]⟩ W fun e W'=>e= .returned (.bool (gW i t l))∧Has 0 w0 W' R:=by
 have hlen:=(hr hw).len;obtain ⟨ad,cap,rfl⟩:∃ad cap,v= .slice ad l.length cap:=by obtain ⟨_,ad,cap,e,_⟩:=hr hw;exact ⟨ad,cap,e⟩
 refine en Tryz.func163 Tryz.ntmps163 fun a hs=>?_;refine sv hs hw fun a hs=>?_;refine bX (σ:=Nat×Int×Int) (fun q=>[(0,.int .i64 q.2.1),(1,.int .i64 q.2.2),(9,.slice ad l.length cap),(10,.int .i64 (l.length:Int)),(11,.int .i64 (q.1:Int))]) (fun _=>R) (fun q=>q.1≤l.length∧gW i t l=gW q.2.1 q.2.2 (l.drop q.1)) (fun q=>l.length - q.1) (0,i,t) ⟨Nat.zero_le _,rfl⟩ hs ⟨rfl,rfl,rfl,rfl,rfl,trivial⟩ hw ?_;clear hs hw;rintro ⟨j,x,y⟩ a W ⟨hj,hh⟩ hs hw;simp only at hj hh hs hw;refine sv hs hw fun a hs=>?_;refine cI hs (kt:=fun hc=>?_) (kf:=fun hc=>?_)
 ·have hj':j<l.length:=by simpa using hc
  obtain ⟨e,he,hd⟩:=dP hj';rw [hd] at hh;refine sc hs ?_;refine p7 hs (hr hw) he fun a b o hpc hs=>?_;refine eC hs (z:=zEnt) (cs:=bA e) (hc:=hpc) (hl:=by rfl) (c:=fun a hs=>?_);refine sn hs hw fun b8 a W hs hw=>?_;refine sx hs hw fun a W hs hw=>?_;rw [show IntKind.i64.wrap (x+1)=w64 (x+1) from rfl] at hs;have hq:gW x y (e::l.drop (j+1))=(!(e.ix !=w64 (x+1)) && !decide (e.term<y) && gW e.ix e.term (l.drop (j+1))):=rfl;cases c1:(e.ix !=w64 (x+1)) with
  |true=>
   rw [c1] at hs hq;refine sv hs hw fun a hs=>?_;exact rt1 hs rfl rfl ⟨by rw [hh,hq];rfl,hw.d1⟩
  |false=>
  rw [c1] at hs hq;refine sv hs hw fun a hs=>?_;cases c2:decide (e.term<y) with
  |true=>
   rw [c2] at hs hq;refine sv hs hw fun a hs=>?_;exact rt1 hs rfl rfl ⟨by rw [hh,hq];rfl,hw.d1⟩
  |false=>
   rw [c2] at hs hq;refine zG hs ?_;refine rgp [_,_,_,_,_,_] hs hw fun a W hs hw=>?_;refine sv hs hw fun a hs=>?_;exact bS (j+1,e.ix,e.term) hs (hw.d1) ⟨hj',by rw [hh,hq];rfl⟩ (by show l.length - (j+1)<l.length - j;omega) ⟨rfl,rfl,rfl,rfl,bU (i1 (by omega)),trivial⟩
 ·have:l.drop j= []:=List.drop_eq_nil_of_le (by simp at hc;omega);refine sv hs hw fun a hs=>?_;exact rt1 hs rfl rfl ⟨by rw [hh,this];rfl,hw⟩
theorem aBR:∀(l:List bY) (m:Nat),(l.drop m).flatMap bA=(l.flatMap bA).drop (m*4)
 | [],m=>by simp
 |x::l,0=>by simp
 |x::l,m+1=>by
  rw [List.drop_succ_cons,aBR l m,List.flatMap_cons,show (m+1)*4=(bA x).length+m*4 by show _=4+m*4;omega,List.drop_length_add_append]
theorem p8:∀(l:List bY) (m:Nat),(l.take m).flatMap bA=(l.flatMap bA).take (m*4)
 | [],m=>by simp
 |x::l,0=>by simp
 |x::l,m+1=>by
  rw [List.take_succ_cons,List.flatMap_cons,p8 l m,List.flatMap_cons,show (m+1)*4=(bA x).length+m*4 by show _=4+m*4;omega,List.take_length_add_append]
theorem aGW {W:World} {g m m' cap:Nat} {E:TypeId} {cur:List Value} {l:List bY} (hg:W.heap[g]? =some (.cells ⟨cur⟩ E (0,0))) (ht:cur.take (l.length*4)=l.flatMap bA) (hk:l.length≤cap) (hm:cap≤maxLen) (h1:m+m'≤l.length):
  Rd W 4 (.slice (some ⟨g,m*4,none⟩) m' (cap - m)) ((l.drop m).take m').length (((l.drop m).take m').flatMap bA):=by
 have e:((l.drop m).take m').length=m':=by rw [List.length_take,List.length_drop];omega
 rw [e];refine ⟨by rw [aGV,e],_,_,rfl,by omega,by unfold maxLen at hm;omega,.inr ⟨g,m*4,rfl,iX hg,fun j u hu=>?_⟩⟩;rw [p8,aBR,←ht,List.getElem?_take] at hu;split at hu
 ·rw [List.getElem?_drop,List.getElem?_take] at hu;split at hu
  ·rw [hC hg];exact hu
  ·cases hu
 ·cases hu
section
variable {p:Nat} {l:LogD} {L L1:List Res} {i n:Int}
theorem mZ [c:dH (fun l=>aG p l) L l L1]:New Tryz.prog 125 [ptr p,.int .i64 i,.int .i64 n] L (Option Addr×Nat) (fun x=> .slice x.1 (l.get i n).length x.2) (fun x=>bE (.slice x.1 (l.get i n).length x.2) (l.get i n)::L):=⟨fun {w W} hw=>by
 refine en Tryz.func125 Tryz.ntmps125 fun a hs=>?_;refine sx hs hw fun a W hs hw=>?_;have none_:∀{W},l.get i n= []→Has 0 w W L→Has 0 w W (bE (.slice none (l.get i n).length 0) (l.get i n)::L):=fun h hw=>by rw [h];exact hw.nilOwn 137 4
 cases c1:decide (i<l.first) with
 |true=>
  rw [c1] at hs;refine sv hs hw fun a hs=>?_;have e:l.get i n= []:=by unfold LogD.get;rw [if_pos (.inl (of_decide_eq_true c1))]
  refine rt1 hs rfl (v:= .slice none (l.get i n).length 0) (by rw [e];rfl) ⟨(none,0),rfl,none_ e hw⟩
 |false=>
 rw [c1] at hs;refine sx hs hw fun a W hs hw=>?_;cases c2:decide (i > l.last) with
 |true=>
  rw [c2] at hs;refine sv hs hw fun a hs=>?_;have e:l.get i n= []:=by unfold LogD.get;rw [if_pos (.inr (.inl (of_decide_eq_true c2)))]
  refine rt1 hs rfl (v:= .slice none (l.get i n).length 0) (by rw [e];rfl) ⟨(none,0),rfl,none_ e hw⟩
 |false=>
 rw [c2] at hs;refine sx hs hw fun a W hs hw=>?_;cases c3:decide (n<1) with
 |true=>
  rw [c3] at hs;refine sv hs hw fun a hs=>?_;have e:l.get i n= []:=by unfold LogD.get;rw [if_pos (.inr (.inr (of_decide_eq_true c3)))]
  refine rt1 hs rfl (v:= .slice none (l.get i n).length 0) (by rw [e];rfl) ⟨(none,0),rfl,none_ e hw⟩
 |false=>
 rw [c3] at hs;refine zG hs ?_;have g1:=of_decide_eq_false c1;have g2:=of_decide_eq_false c2;have g3:=of_decide_eq_false c3;obtain ⟨hl,ad,cap,hw⟩:=iQ (hw.pick c.p);have hf:=sQ hl;have hla:=n9 hl;have ⟨hl0,hl1,hl2,_,_⟩:=hl;obtain ⟨k,hk⟩:∃k:Nat,w64 (i - l.first)=(k:Int):=⟨(i - l.first).toNat,by rw [show w64 (i - l.first)=i - l.first from IntWalk.i64_in _ (by omega)];omega⟩
 have hkl:k<l.l.length:=by rw [show w64 (i - l.first)=i - l.first from IntWalk.i64_in _ (by omega)] at hk;omega
 obtain ⟨m,hm⟩:∃m:Nat,m=min n.toNat (l.l.length - k):=⟨_,rfl⟩
 have e:l.get i n=(l.l.drop k).take m:=by
  unfold LogD.get;rw [if_neg (by omega),hk,Int.toNat_natCast,hm]
  by_cases h:n.toNat≤l.l.length - k
  ·rw [Nat.min_eq_left h]
  ·rw [Nat.min_eq_right (by omega),List.take_of_length_le (by rw [List.length_drop];omega),List.take_of_length_le (by rw [List.length_drop];omega)]
 rw [e];obtain ⟨g,cur,rfl,hcur,hcl,hkc,hcm,hw⟩:=(show Has _ _ _ (Sx.Own 137 4 _ _ _::eW p l.s _::L1) from hw.swap2).open_own (by omega)
 refine gS [_,_,_,_,_,_,_,_,_,_] (fun _=>_) hs hw (ho:=⟨dr,dr,dr,dr,dr,dr,dr,by
   intro LD D a W hcl hi hp hs hw;refine sv hs hw fun a hs=>?_;rw [show IntKind.i64.wrap (i - w64 (l.s.ix+1))=(k:Int) from hk] at hs;exact ⟨hs,hw⟩,by
   intro LD D a W hcl hi hp hs hw;refine sG hs (m:=k) (by omega) hkc (c:=fun a hs=>?_)
   exact ⟨hs,hw⟩,dr,trivial⟩) (k:=fun a W hs hw=>?_)
 have et:gH g zEnt.length l.l.length cap k= .slice (some ⟨g,k*4,none⟩) (l.l.length - k) (cap - k):=by unfold gH;rw [if_neg (by omega)];rfl
 replace hs:Slots a 42 [(7,gH g zEnt.length l.l.length cap k),(2,.int .i64 n)]:=hs.ot;rw [et] at hs;refine sv hs hw fun a hs=>?_;refine o7 hs (k:=fun a hs=>?_);rw [show (if ((l.l.length - k:Nat):Int)<n then ((l.l.length - k:Nat):Int) else n)=(m:Int) by rw [hm];split <;> omega] at hs;refine pP (k:=l.l.length - k) (cap:=cap - k) (m:=m) hs (by omega) (by omega) (by omega) (c:=fun a hs=>?_);have hr:∀{W},Has 0 w W (aA g cur 137::eW p l.s (.slice (some ⟨g,0,none⟩) l.l.length cap)::L1)→Rd W 4 (.slice (some ⟨g,k*4,none⟩) m (cap - k)) ((l.l.drop k).take m).length (((l.l.drop k).take m).flatMap bA):=fun h=>aGW (h.block In.hd).1 hcur hkc hcm (by omega);have hml:((l.l.drop k).take m).length=m:=by rw [List.length_take,List.length_drop];omega
 refine cle hs (sT w W ((l.l.drop k).take m) _ _ (by omega) hr hw) fun x a W _ hs hw=>?_;refine sv hs hw fun a hs=>?_;refine rt1 hs rfl rfl ⟨x,rfl,?_⟩;have hw:=(hw.pick (Pick.tl Pick.hd)).shut_own (k:=l.l.length) (size:=4) (cap:=cap) (xs:=l.l.flatMap bA) hcur hcl hkc hcm;have hw:Has 0 w W (aG p l::bE (.slice x.1 ((l.l.drop k).take m).length x.2) ((l.l.drop k).take m)::L1):=iC (hw.pm) hl
 exact hw.unpick (Pick.tl c.p)⟩
end
def nameS:ByteArray:=⟨#[115,116,97,116,101]⟩
theorem aBS:lA nameS.data.toList=true:=by decide
theorem sU:nameS.size≤1000:=by decide
abbrev cX (h:fM) (s:dI) (v:Value):List Value:=[.int .i64 h.term,.int .i64 h.vote,.int .i64 s.ix,.int .i64 s.term,.string s.conf,.string s.data,v]
abbrev bO (p d:Nat) (h:fM) (s:dI) (v:Value) (size:Nat):Res:=aA p [ptr d,.int .i64 h.term,.int .i64 h.vote,.int .i64 s.ix,.int .i64 s.term,.string s.conf,.string s.data,v,.int .i64 (size:Int)] 229
theorem aBT:∀(k:Nat) (s:List UInt8),(iP k s).length≤3015*k
 |0,_=>by simp [iP]
 |k+1,s=>by
  by_cases h:s= []
  ·subst h;simp [aBG]
  ·rw [aBH h,List.length_append];have h1:=mX 4 (s.take 3000);have h2:=aBT k (s.drop 3000);have h3:(s.take 3000).length≤3000:=by rw [List.length_take];omega
   omega
theorem aGX {s:dI} (hm:eK s=true):(cY s).length≤212000:=by
 have hb:s.conf.size≤50:=by
  unfold eK at hm;simp at hm;omega
 have p1:=Ph.putI_length_le s.ix;have p2:=Ph.putI_length_le s.term;have p3:=mJ s.conf;have p4:=Ph.putI_length_le (s.data.data.toList.length:Int);have p5:=aBT 70 s.data.data.toList;unfold cY;rw [List.length_append];have p6:=mX 3 (Ph.putI s.ix ++ Ph.putI s.term ++ Ph.putT s.conf.data.toList ++ Ph.putI (s.data.data.toList.length:Int));simp only [List.length_append] at p6;omega
theorem aGY (h:fM):(cP h).length≤40:=by
 have p1:=Ph.putI_length_le h.term;have p2:=Ph.putI_length_le h.vote;have:=mX 1 (Ph.putI h.term ++ Ph.putI h.vote);rw [List.length_append] at this;unfold cP;omega
theorem wY {e:bY} (hm:eH e=true):(cJ e).length≤2560:=by
 have hb:e.data.size≤2500:=by unfold eH at hm;simp at hm;omega
 have p1:=Ph.putI_length_le e.ix;have p2:=Ph.putI_length_le e.term;have p3:=Ph.putI_length_le e.kind;have p4:=mJ e.data;have:=mX 2 (Ph.putI e.ix ++ Ph.putI e.term ++ Ph.putI e.kind ++ Ph.putT e.data.data.toList);simp only [List.length_append] at this;unfold cJ;omega
theorem sV:∀{l:List bY},(∀e∈l,eH e=true)→(l.flatMap cJ).length≤2560*l.length
 | [],_=>by simp
 |e::l,h=>by
  rw [List.flatMap_cons,List.length_append,List.length_cons];have h1:=wY (h e (List.mem_cons_self ..));have h2:=sV fun e he=>h e (List.mem_cons_of_mem _ he);omega
theorem aBU {l:List bY} {i:Nat} {e:bY} (h:l[i]? =some e):(l.take (i+1)).flatMap cJ=(l.take i).flatMap cJ ++ cJ e:=by
 rw [fQ h,List.flatMap_append];simp
theorem aGZ (w0 W:World) (h:fM) (s:dI) (log:List bY) (v:Value) (R:List Res) (hh:iA h=true) (hsm:eK s=true) (hl:log.length≤200) (he:∀e∈log,eH e=true) (hr:∀{W},Has 0 w0 W R→Rd W 4 v log.length (log.flatMap bA)) (hw:Has 0 w0 W R):
  Calls Tryz.prog 231 ⟨[.agg ⟨cX h s v⟩]⟩ W fun e W'=>∃x:Option Addr×Nat,e= .returned (.slice x.1 (cY s ++ cP h ++ log.flatMap cJ).length x.2)∧True∧Has 0 w0 W' (bG (.slice x.1 (cY s ++ cP h ++ log.flatMap cJ).length x.2) (cY s ++ cP h ++ log.flatMap cJ)::R):=by
 obtain ⟨vad,vcap,rfl⟩:∃ad cap,v= .slice ad log.length cap:=by obtain ⟨_,ad,cap,e,_⟩:=hr hw;exact ⟨ad,cap,e⟩
 have l1:=aGX hsm;have l2:=aGY h;have l3:=sV he;refine en Tryz.func231 Tryz.ntmps231 fun a hs=>?_;refine sc hs ?_;refine sn hs hw fun b a W hs hw=>?_;refine zA hs hw ?_;clear hs;intro a hs;refine bB [2,6,7] [.f 0 0,.f 0 0,.m 0,.f 0 1,.f 0 1,.f 0 1,.m 1,.m 2,.f 3 3] [.c0 _,.c0 _,.c1 (fun x=> .slice x.ad (cY s).length x.cap),.c0 _,.c0 _,.c0 _,.c2 (fun x y=> .slice y.ad (cP h).length y.cap),.c3 (fun x y z=> .slice z.ad (cY s ++ cP h).length z.cap),.c3 _] (aA b (cX h s (.slice vad log.length vcap)) 158::R) (fun x=>bG (.slice x.ad (cY s).length x.cap) (cY s)::aA b (cX h s (.slice vad log.length vcap)) 158::R) (fun x y=>bG (.slice y.ad (cP h).length y.cap) (cP h)::bG (.slice x.ad (cY s).length x.cap) (cY s)::aA b (cX h s (.slice vad log.length vcap)) 158::R) (fun x y z=>bG (.slice y.ad (cP h).length y.cap) (cP h)::bG (.slice z.ad (cY s ++ cP h).length z.cap) (cY s ++ cP h)::aA b (cX h s (.slice vad log.length vcap)) 158::R) (fun x y z t=>[]) hs hw ?kk ⟨drs,drs,?m0,drs,drs,drs,?m1,?m2,drs,trivial⟩
 case m0=>
  intro x y z t LD a W hs hw;refine aH hs (hc:=(wR (s:=s) hsm).ok hw.rebase) (k:=?_);rintro e' W' ⟨x,rfl,hw'⟩;exact ⟨_,rfl,fun a hs=>⟨{ad:=x.1,cap:=x.2},hs,hw.trans hw'⟩⟩
 case m1=>
  intro x y z t LD a W hs hw;refine aH hs (hc:=(aBE (h:=h) hh).ok hw.rebase) (k:=?_);rintro e' W' ⟨x,rfl,hw'⟩;exact ⟨_,rfl,fun a hs=>⟨{ad:=x.1,cap:=x.2},hs,hw.trans hw'⟩⟩
 case m2=>
  intro x y z t LD a W hs hw;refine gQ hs hw (l:=cY s) (m:=cP h) (hr:=eZ (hw.rd_own In.hd) (iY _)) (hb:=by omega) (c:=fun a ad2 cap2 W hs hw=>?_);exact ⟨{ad:=ad2,cap:=cap2},hs,hw⟩
 case kk=>
  intro x y z a W hs hw;replace hs:Slots a 28 [(3,.slice z.ad (cY s ++ cP h).length z.cap),(1,ptr b)]:=hs.ot;replace hw:Has 0 w0 W (bG (.slice z.ad (cY s ++ cP h).length z.cap) (cY s ++ cP h)::aA b (cX h s (.slice vad log.length vcap)) 158::R):=hw.sl;have l4:(cY s ++ cP h).length≤212040:=by rw [List.length_append];omega
  generalize cY s ++ cP h=o at *;have drop:∀{W A B},Has 0 w0 W (A::B::R)→Has 0 w0 W R:=fun h=>h.d2;refine sv hs hw fun a hs=>?_;have e0:o ++ (log.take 0).flatMap cJ=o:=by simp
  refine bX (σ:=Nat×Option Addr×Nat) (fun q=>[(3,.slice q.2.1 (o ++ (log.take q.1).flatMap cJ).length q.2.2),(15,.slice vad log.length vcap),(16,.int .i64 (log.length:Int)),(17,.int .i64 (q.1:Int))]) (fun q=>bG (.slice q.2.1 (o ++ (log.take q.1).flatMap cJ).length q.2.2) (o ++ (log.take q.1).flatMap cJ)::aA b (cX h s (.slice vad log.length vcap)) 158::R) (fun q=>q.1≤log.length) (fun q=>log.length - q.1) (0,z.ad,z.cap) (Nat.zero_le _) hs ⟨by rw [e0];rfl,rfl,rfl,rfl,trivial⟩ (by rw [e0];exact hw) ?_;clear hs hw;rintro ⟨i,ad,cap⟩ a W hi hs hw;have hi:i≤log.length:=hi;simp only at hs hw;refine sv hs hw fun a hs=>?_;refine cI hs (kt:=fun hc=>?_) (kf:=fun hc=>?_)
  ·have hi':i<log.length:=by simpa using hc
   obtain ⟨e,he1,hd⟩:=dP hi';have hem:=he e (List.mem_of_getElem? he1);have hsn:=aBU he1;have l5:((log.take i).flatMap cJ).length≤2560*200:=Nat.le_trans (sV fun e h=>he e (List.mem_of_mem_take h)) (by rw [List.length_take];omega);have l6:=wY hem;refine sc hs ?_;refine p7 hs (hr (drop hw)) he1 fun a b2 o2 hpc hs=>?_;refine eC hs (z:=zEnt) (cs:=bA e) (hc:=hpc) (hl:=by rfl) (c:=fun a hs=>?_);refine sn hs hw fun b8 a W hs hw=>?_;refine sx hs hw fun a W hs hw=>?_;have hw:Has 0 w0 W (aA b8 (bA e) 137::bG (.slice ad (o ++ (log.take i).flatMap cJ).length cap) (o ++ (log.take i).flatMap cJ)::aA b (cX h s (.slice vad log.length vcap)) 158::R):=hw;refine aH hs (hc:=(aBF (e:=e) hem).ok hw.rebase) (k:=?_);rintro e' W' ⟨x,rfl,hw'⟩;refine ⟨_,rfl,fun a hs=>?_⟩;have hw:=hw.trans hw';refine gQ hs hw (l:=o ++ (log.take i).flatMap cJ) (m:=cJ e) (hr:=eZ (hw.rd_own In.hd) (iY _)) (hb:=by rw [List.length_append];omega) (c:=fun a ad2 cap2 W hs hw=>?_);rw [List.append_assoc,←hsn] at hs hw;refine sv hs hw fun a hs=>?_;exact bS (i+1,ad2,cap2) hs (hw.sl) hi' (by show log.length - (i+1)<log.length - i;omega) ⟨rfl,rfl,rfl,bU (i1 (by omega)),trivial⟩
  ·have:log.take i=log:=List.take_of_length_le (by simp at hc;omega);rw [this] at hs hw;refine sv hs hw fun a hs=>?_;exact rt1 hs rfl rfl ⟨(ad,cap),rfl,trivial,hw.sub (List.Sublist.cons_cons _ (List.Sublist.cons _ (List.Sublist.refl _)))⟩
end Go.Proofs.YtgpbngfehfbndaaGreatDoor.Sw
namespace Go.Sx
open Go.RowKit
section
variable {P:Program} {ops:Array Oper} {rest:List Oper} {Q:Exit→Act→World→Prop} {a:Act} {n:Nat} {L:List (Nat×Value)} {W:World} {d:Nat} {T S E:TypeId} {p:String} {e:Array Edge} {x lo hi mx:Operand} {k cap b o:Nat} {q q':IntKind} {z xs:List Value}
theorem aG2 {agg:Bool} [sl:Sl P S E] [t:Ty P E agg z] (hs:Slots a n L) (hx:ev L x=some (.slice none 0 0):=by with_unfolding_all exact rfl) (hh:ev L hi=some (.int q 0):=by with_unfolding_all exact rfl) (hm:ev L mx=some (.int q' 0):=by with_unfolding_all exact rfl) (hd:Nat.blt d n=true:=by with_unfolding_all exact rfl)
  (c:∀a',Slots a' n ((d,.slice none 0 0)::L)→wpList P ops Q rest a' W):wpList P ops Q (⟨some d,.slice S x none (some hi) (some mx),T,p,e,none⟩::rest) a W:=by
 have hb:∀(y:Nat) (c:BoundsCode) (q:IntKind),(Instr.sliceBound (.int q 0) y c).run P W= .ok 0 W:=by
  intro y c q;simp [Instr.sliceBound,asIntOf]
 have hbs:(Instr.sliceBounds true 0 0 none (some (.int q 0)) (some (.int q' 0))).run P W= .ok (0,0,0) W:=by
  unfold Instr.sliceBounds;simp [hb]
 refine bP hs hd (v:= .slice none 0 0) (W':=W) ?_ c;simp only [execOp,Option.map_some,Option.map_none,hs.ev hx,hs.ev hh,hs.ev hm,Instr.sliceAt,Instr.slice,Sem.run_bind,run_underlying sl.out,Result.andThen_ok,hbs,t.sizeOf,Sem.run_pure];simp
def sW (size b o k cap:Nat):Value:= .slice (if cap=1 then some ⟨b,o,none⟩ else some ⟨b,o+size,none⟩) (k - 1) (cap - 1)
theorem aBW {agg:Bool} [sl:Sl P S E] [t:Ty P E agg z] (hs:Slots a n L) (h1:1≤k) (hc:k≤cap) (hx:ev L x=some (.slice (some ⟨b,o,none⟩) k cap):=by with_unfolding_all exact rfl) (hl:ev L lo=some (.int q 1):=by with_unfolding_all exact rfl) (hd:Nat.blt d n=true:=by with_unfolding_all exact rfl)
  (c:∀a',Slots a' n ((d,sW z.length b o k cap)::L)→wpList P ops Q rest a' W):wpList P ops Q (⟨some d,.slice S x (some lo) none none,T,p,e,none⟩::rest) a W:=by
 have hb:(Instr.sliceBound (.int q 1) k .sliceB).run P W= .ok 1 W:=by
  have:(0:Int)≤(1:Int)∧(1:Int)≤(k:Int):=⟨by omega,by omega⟩
  simp only [Instr.sliceBound,asIntOf,Sem.run_bind,Sem.run_pure,Result.andThen_ok];rw [if_pos this];simp
 have hbs:(Instr.sliceBounds true k cap (some (.int q 1)) none none).run P W= .ok (1,k,cap) W:=by
  unfold Instr.sliceBounds;simp [hb]
 refine bP hs hd (v:=sW z.length b o k cap) (W':=W) ?_ c;simp only [execOp,Option.map_some,Option.map_none,hs.ev hx,hs.ev hl,Instr.sliceAt,Instr.slice,Sem.run_bind,run_underlying sl.out,Result.andThen_ok,hbs,t.sizeOf,Sem.run_pure];unfold sW
 by_cases h0:cap=1
 ·rw [if_pos h0,if_pos h0]
 ·rw [if_neg h0,if_neg h0];simp [eF]
theorem kG (h:Rd W k (.slice (some ⟨b,o,none⟩) n cap) n xs) (hn:0<n):∀(j:Nat) (x:Value),xs[j]? =some x→W.cell? ⟨b,o+j,none⟩=some x:=by
 obtain ⟨_,ad,cap,e,_,_,h|⟨b',o',e2,_,h⟩⟩:=h
 ·omega
 ·injection e with e1 _ _;rw [←e1] at e2;injection e2 with e2;injection e2 with e3 e4 _;subst e3 e4;exact h
theorem jX {v:Value} (h:Rd W k v n xs) (hn:0<n):∃b o cap,v= .slice (some ⟨b,o,none⟩) n cap∧n≤cap:=by
 obtain ⟨_,ad,cap,e,h2,_,h|⟨b',o',e2,_,h⟩⟩:=h
 ·omega
 ·subst e2;exact ⟨b',o',cap,e,h2⟩
theorem aBX {size:Nat} (h:Rd W size (.slice (some ⟨b,o,none⟩) k cap) k xs) (hk:1≤k):Rd W size (sW size b o k cap) (k - 1) (xs.drop size):=by
 have hc:=kG h (by omega);obtain ⟨h1,ad,cap',e,h2,h3,h4⟩:=h;injection e with e1 _ e2;subst e1 e2;refine ⟨by rw [List.length_drop,h1,Nat.sub_mul,Nat.one_mul],_,_,rfl,by omega,by omega,?_⟩
 by_cases h0:cap=1
 ·exact .inl (by omega)
 ·rcases h4 with h4|⟨b',o',e,hlt,_⟩
  ·omega
  ·injection e with e;injection e with e1 e2 _;subst e1 e2;refine .inr ⟨b,o+size,by rw [if_neg h0],hlt,fun j x hx=>?_⟩;rw [List.getElem?_drop] at hx;rw [Nat.add_assoc];exact hc _ _ hx
end
theorem Has.own_cases {G:Nat} {w W:World} {R:List Res} {E:TypeId} {size k:Nat} {v:Value} {xs:List Value} (h:Has G w W (Own E size v k xs::R)):
  (v= .slice none 0 0∧k=0)∨∃g cap cur,v= .slice (some ⟨g,0,none⟩) k cap∧cur.take (k*size)=xs∧cur.length=cap*size∧k≤cap∧cap≤maxLen∧Has G w W (aA g cur E::R):=by
 obtain ⟨F1,h1,h2,h3⟩:=h.has;obtain ⟨hl,h0|⟨g,cap',cur,e,hF,hg,hnc,hcm,hcs,ht⟩⟩:=h2
 ·exact .inl h0
 ·exact .inr ⟨g,cap',cur,e,ht,hcs,hnc,hcm,h.ext,h.glob,F1,h1,⟨hF,hg⟩,h3⟩
end Go.Sx
namespace Go.Proofs.YtgpbngfehfbndaaGreatDoor.Sw
open Go.RowKit Go.Sx
theorem qA {e:bY} {r l:List bY} (h:l=e::r):(l.flatMap bA)[0]? =some (.int .i64 e.ix)∧(l.flatMap bA)[1]? =some (.int .i64 e.term):=by
 subst h;rw [List.flatMap_cons];exact ⟨rfl,rfl⟩
def okp (l:LogD) (es:List bY):Prop:=∀e r,es=e::r→e.ix≤l.last+1∧gW e.ix e.term r=true
theorem aG3 {l:LogD} {e:bY} {r:List bY} (hl:kD l) (h0:0≤e.ix) (h:okp l (e::r)) (hk:e.ix≤l.s.ix∨l.fits e.ix e.term=true):okp l r:=by
 intro e2 r2 hr;obtain ⟨h1,h2⟩:=h e r rfl;have hla:=n9 hl;have ⟨hl0,hl1,hl2,_,_⟩:=hl;subst hr;have h3:(!(e2.ix !=w64 (e.ix+1)) && !decide (e2.term<e.term) && gW e2.ix e2.term r2)=true:=h2;simp only [Bool.and_eq_true,Bool.not_eq_true',bne_eq_false_iff_eq] at h3;refine ⟨?_,h3.2⟩;have:e.ix≤l.last:=by
  rcases hk with hk|hk
  ·omega
  ·unfold LogD.fits at hk;rw [Bool.and_eq_true] at hk;have h5:=hk.1;unfold LogD.term at h5;split at h5
   ·cases h5
   ·rename_i h6;omega
 rw [h3.1.1,show w64 (e.ix+1)=e.ix+1 from IntWalk.i64_in _ (by omega)];omega
section
variable {p:Nat} {l:LogD} {w0 W:World} {R:List Res}
theorem qB (es:List bY) (v:Value) (hn:es.length≤200) (hes:∀e∈es,0≤e.ix∧e.data.size≤1000000) (hr:∀{W},Has 0 w0 W R→Rd W 4 v es.length (es.flatMap bA)) (hw:Has 0 w0 W (aG p l::R)):
  Calls Tryz.prog 216 ⟨[ptr p,v]⟩ W fun e W'=>e= .returned (.tuple ⟨[.int .i64 (l.put es).2.1,.bool (l.put es).2.2]⟩)∧Has 0 w0 W' (aG p (l.put es).1::R):=by
 have sub1:∀{W A},Has 0 w0 W (A::R)→Has 0 w0 W R:=fun h=>h.d1;obtain ⟨vad,vcap,rfl⟩:∃ad cap,v= .slice ad es.length cap:=by obtain ⟨_,ad,cap,e,_⟩:=hr (sub1 hw);exact ⟨ad,cap,e⟩
 obtain ⟨hl,_⟩:=iQ hw;have hla:=n9 hl;have hfi:=sQ hl;have ⟨hl0,hl1,hl2,hl3,hl4⟩:=hl;refine en Tryz.func216 Tryz.ntmps216 fun a hs=>?_;refine sv hs hw fun a hs=>?_;cases h0:((es.length:Int) == 0) with
 |true=>
  rw [h0] at hs;refine sv hs hw fun a hs=>?_;obtain rfl:es= []:=List.eq_nil_of_length_eq_zero (by simpa using h0);exact rt2 hs rfl rfl rfl ⟨rfl,hw⟩
 |false=>
 rw [h0] at hs;have hpos:0<es.length:=by
  rcases Nat.eq_zero_or_pos es.length with h|h
  ·rw [h] at h0;cases h0
  ·exact h
 obtain ⟨e,r,hE⟩:∃e r,es=e::r:=by cases es with|nil=>simp at hpos|cons e r=>exact ⟨e,r,rfl⟩
 obtain ⟨b,o,cap,hv,hcap⟩:=jX (hr (sub1 hw)) hpos;injection hv with hv1 _ hv2;subst hv1 hv2;have hcell:∀{W},Has 0 w0 W R→_:=fun h=>kG (hr h) hpos;have hfh:=qA hE;have hk0:(0:Int)≤0:=by omega
 have hk1:(0:Int)<((es.length:Nat):Int):=by omega
 have hput:l.put es=if w64 (l.last+1)<e.ix∨gW (w64 (e.ix - 1)) e.term es=false then (l,0,false)
  else match l.skip es with
   | []=>(l,0,true)
   |x::y=>
    if x.term<(l.term (w64 (x.ix - 1))).1∨200<w64 (w64 (x.ix - l.first)+((x::y).length:Int)) then (l,0,false)
    else (⟨l.s,l.l.take (w64 (x.ix - l.first)).toNat ++ (x::y)⟩,x.ix,true):=by rw [hE];rfl
 refine sc hs ?_;cases c1:decide (e.ix > w64 (l.last+1)) with
 |true=>
  refine bB [5,19] [.f 0 1,.f 0 1,.f 0 1,.f 0 1,.f 0 0,.m 0,.f 1 1,.f 1 1,.f 1 1,.f 1 1,.f 1 1,.f 1 1,.f 1 1,.f 1 1,.f 1 1,.f 1 1,.f 1 1,.f 1 1,.f 1 1,.m 1,.f 2 2,.f 2 2] [.c0 _,.c0 _,.c0 _,.c0 (.int .i64 e.ix),.c0 _,.c1 (fun x=> .int .i64 l.last),.c1 _,.c1 (fun x=> .bool true),.c1 _,.c1 _,.c1 _,.c1 _,.c1 _,.c1 _,.c1 _,.c1 _,.c1 _,.c1 _,.c1 _,.c2 (fun x y=>undef),.c2 _,.c2 _] (aG p l::R) (fun x=>aG p l::R) (fun x y=>aG p l::R) (fun x y z=>[]) (fun x y z t=>[]) hs hw ?kk ⟨drs,drs,drs,?f3,drs,drm,drs,?f7,drs,drs,drs,drs,drs,drs,drs,drs,drs,drs,drs,drm,drs,drs,trivial⟩
  case f3=>
   refine ⟨?_,?_,trivial,trivial,trivial⟩ <;>
   ·intro x y z t LD a W hs hw;refine eQ hs (hc:=hcell (sub1 hw) 0 _ hfh.1) (c:=fun a hs=>?_);exact ⟨hs,hw⟩
  case f7=>
   refine ⟨trivial,?_,trivial,trivial,trivial⟩;intro x y z t LD a W hs hw;refine sv hs hw fun a hs=>?_;rw [show decide (e.ix > IntKind.i64.wrap (l.last+1))=true from c1] at hs;exact ⟨hs,hw⟩
  case kk=>
   intro _ _ a W hs hw;refine sv hs hw fun a hs=>?_;rw [hput,if_pos (.inl (of_decide_eq_true c1))];exact rt2 hs rfl rfl rfl ⟨rfl,hw⟩
 |false=>
 refine bB [5,19] [.f 0 1,.f 0 1,.f 0 1,.f 0 1,.f 0 0,.m 0,.f 1 1,.f 1 1,.f 1 1,.f 1 1,.f 1 1,.f 1 1,.f 1 1,.f 1 1,.f 1 1,.f 1 1,.f 1 1,.f 1 1,.f 1 1,.m 1,.f 2 2,.f 2 2] [.c0 _,.c0 _,.c0 _,.c0 (.int .i64 e.ix),.c0 _,.c1 (fun x=> .int .i64 l.last),.c1 _,.c1 (fun x=> .bool false),.c1 _,.c1 _,.c1 _,.c1 _,.c1 (fun x=> .int .i64 e.ix),.c1 _,.c1 _,.c1 _,.c1 _,.c1 (fun x=> .int .i64 e.term),.c1 _,.c2 (fun x y=> .bool (gW (w64 (e.ix - 1)) e.term es)),.c2 _,.c2 _] (aG p l::R) (fun x=>aG p l::R) (fun x y=>aG p l::R) (fun x y z=>[]) (fun x y z t=>[]) hs hw ?kk ⟨drs,drs,drs,?f3,drs,drm,drs,?f7,drs,drs,drs,drs,?f12,drs,drs,drs,drs,?f17,drs,?m1,drs,drs,trivial⟩
 case f3=>
  refine ⟨?_,?_,trivial,trivial,trivial⟩ <;>
  ·intro x y z t LD a W hs hw;refine eQ hs (hc:=hcell (sub1 hw) 0 _ hfh.1) (c:=fun a hs=>?_);exact ⟨hs,hw⟩
 case f7=>
  refine ⟨trivial,?_,trivial,trivial,trivial⟩;intro x y z t LD a W hs hw;refine sv hs hw fun a hs=>?_;rw [show decide (e.ix > IntKind.i64.wrap (l.last+1))=false from c1] at hs;exact ⟨hs,hw⟩
 case f12=>
  refine ⟨trivial,?_,trivial,trivial,trivial⟩;intro x y z t LD a W hs hw;refine sc hs ?_;refine eQ hs (hc:=hcell (sub1 hw) 0 _ hfh.1) (c:=fun a hs=>?_);exact ⟨hs,hw⟩
 case f17=>
  refine ⟨trivial,?_,trivial,trivial,trivial⟩;intro x y z t LD a W hs hw;refine sc hs ?_;refine eQ hs (hc:=hcell (sub1 hw) 1 _ hfh.2) (c:=fun a hs=>?_);exact ⟨hs,hw⟩
 case m1=>
  intro x y z t LD a W hs hw;refine sc hs ?_;refine cl hs (aBQ w0 _ (w64 (e.ix - 1)) e.term es _ (aG p l::R) (fun h=>hr (sub1 h)) hw) fun a W hs hw=>?_;exact ⟨{},hs,hw⟩
 case kk=>
 intro _ _ a W hs hw;replace hs:Slots a 110 [(0,ptr p),(1,.slice (some ⟨b,o,none⟩) es.length vcap),(36,.bool (!gW (w64 (e.ix - 1)) e.term es))]:=hs.ot;cases c2:gW (w64 (e.ix - 1)) e.term es with
 |false=>
  rw [c2] at hs;refine sv hs hw fun a hs=>?_;rw [hput,if_pos (.inr c2)];exact rt2 hs rfl rfl rfl ⟨rfl,hw⟩
 |true=>
 rw [c2] at hs;have hput2:l.put es=match l.skip es with
   | []=>(l,0,true)
   |x::y=>
    if x.term<(l.term (w64 (x.ix - 1))).1∨200<w64 (w64 (x.ix - l.first)+((x::y).length:Int)) then (l,0,false)
    else (⟨l.s,l.l.take (w64 (x.ix - l.first)).toNat ++ (x::y)⟩,x.ix,true):=by rw [hput,if_neg (by have:=of_decide_eq_false c1;rw [c2];simp;omega)]
 have hokp:okp l es:=by
  intro e' r' h;rw [hE] at h;injection h with h1 h2;subst h1 h2;have:=of_decide_eq_false c1;have hw64:w64 (l.last+1)=l.last+1:=IntWalk.i64_in _ (by omega);rw [hw64] at this;refine ⟨by omega,?_⟩;rw [hE] at c2;have h3:(!(e.ix !=w64 (w64 (e.ix - 1)+1)) && !decide (e.term<e.term) && gW e.ix e.term r)=true:=c2;simp only [Bool.and_eq_true] at h3;exact h3.2
 clear hcell hfh hk0 hk1 hput;refine sc hs ?_;refine bX (σ:=Nat×Option Addr×Nat) (fun q=>[(0,ptr p),(1,.slice q.2.1 (es.length - q.1) q.2.2)]) (fun _=>aG p l::R) (fun q=>q.1≤es.length∧(∀W,Has 0 w0 W R→Rd W 4 (.slice q.2.1 (es.length - q.1) q.2.2) (es.length - q.1) ((es.drop q.1).flatMap bA))∧okp l (es.drop q.1)∧l.skip es=l.skip (es.drop q.1)) (fun q=>es.length - q.1) (0,some ⟨b,o,none⟩,vcap) ⟨Nat.zero_le _,fun W h=>hr h,hokp,rfl⟩ hs ⟨rfl,rfl,trivial⟩ hw ?_;clear hs hw;rintro ⟨j,ad,cap⟩ a W ⟨hj,hrj,hoj,hsk⟩ hs hw;simp only at hj hrj hoj hsk hs hw
 by_cases hj':j=es.length
 ·have hz:es.length - j=0:=by omega
  rw [hz] at hs;refine sc hs ?_;refine bB [24] [.f 0 0,.f 0 0,.f 0 0,.f 0 0,.f 0 0,.f 0 0,.f 0 0,.f 0 0,.f 0 0,.f 0 0,.f 0 0,.f 0 0,.f 0 0,.f 0 0,.f 0 0,.f 0 0,.f 0 0,.f 0 0,.f 0 0,.f 0 0,.f 0 0,.f 0 0,.f 0 0,.f 0 0,.m 0,.f 1 1,.f 1 1] [.c0 _,.c0 _,.c0 _,.c0 _,.c0 _,.c0 _,.c0 _,.c0 _,.c0 _,.c0 _,.c0 _,.c0 _,.c0 _,.c0 _,.c0 _,.c0 _,.c0 _,.c0 _,.c0 _,.c0 _,.c0 _,.c0 _,.c0 _,.c0 _,.c1 (fun x=>undef),.c1 _,.c1 _] (aG p l::R) (fun x=>aG p l::R) (fun x y=>[]) (fun x y z=>[]) (fun x y z t=>[]) hs hw ?kk ⟨drs,drs,drs,drs,drs,drs,drs,drs,drs,drs,drs,drs,drs,drs,drs,drs,drs,drs,drs,drs,drs,drs,drs,drs,drm,drs,drs,trivial⟩
  case kk=>
   intro _ a W hs hw;refine sv hs hw fun a hs=>?_;rw [show l.put es=(l,0,true) by rw [hput2,hsk,List.drop_of_length_le (by omega)];rfl];exact rt2 hs rfl rfl rfl ⟨rfl,hw⟩
 ·have hlt:j<es.length:=by omega
  obtain ⟨e',he',hd⟩:=dP hlt;have hmem:=hes e' (List.mem_of_getElem? he');obtain ⟨b',o',cap',hv,hcap'⟩:=jX (hrj W (sub1 hw)) (by omega);injection hv with hv1 _ hv2;subst hv1 hv2;have hcell:∀{W},Has 0 w0 W R→_:=fun {W} h=>kG (hrj W h) (by omega);have hfh:=qA hd;have hk0:(0:Int)≤0:=by omega
  have hk1:(0:Int)<((es.length - j:Nat):Int):=by omega
  have hg0:decide (((es.length - j:Nat):Int) > 0)=true:=decide_eq_true hk1;have hnx:okp l (es.drop (j+1))∨¬(e'.ix≤l.s.ix∨l.fits e'.ix e'.term=true):=by
   by_cases h:e'.ix≤l.s.ix∨l.fits e'.ix e'.term=true
   ·exact .inl (aG3 hl hmem.1 (hd▸hoj) h)
   ·exact .inr h
  have hfl:(es.drop (j+1)).flatMap bA=((es.drop j).flatMap bA).drop 4:=by rw [hd,List.flatMap_cons];rfl
  have hskn:e'.ix≤l.s.ix∨l.fits e'.ix e'.term=true→l.skip es=l.skip (es.drop (j+1)):=by
   intro h;rw [hsk,hd];show (if e'.ix≤l.s.ix∨l.fits e'.ix e'.term=true then l.skip (es.drop (j+1)) else _)=_;rw [if_pos h]
  refine sc hs ?_;cases c3:decide (e'.ix≤l.s.ix) with
  |true=>
   have hor:e'.ix≤l.s.ix∨l.fits e'.ix e'.term=true:= .inl (of_decide_eq_true c3);refine bB [24] [.f 0 0,.f 0 0,.f 0 0,.f 0 0,.f 0 0,.f 0 0,.f 0 0,.f 0 0,.f 0 0,.f 0 0,.f 0 0,.f 0 0,.f 0 0,.f 0 0,.f 0 0,.f 0 0,.f 0 0,.f 0 0,.f 0 0,.f 0 0,.f 0 0,.f 0 0,.f 0 0,.f 0 0,.m 0,.f 1 1,.f 1 1] [.c0 _,.c0 _,.c0 (.bool true),.c0 _,.c0 _,.c0 _,.c0 _,.c0 (.int .i64 e'.ix),.c0 _,.c0 _,.c0 _,.c0 _,.c0 (.int .i64 l.s.ix),.c0 (.bool true),.c0 _,.c0 _,.c0 _,.c0 _,.c0 _,.c0 _,.c0 _,.c0 _,.c0 _,.c0 _,.c1 (fun x=>undef),.c1 _,.c1 _] (aG p l::R) (fun x=>aG p l::R) (fun x y=>[]) (fun x y z=>[]) (fun x y z t=>[]) hs hw ?kk ⟨drs,drs,?f2,drs,drs,drs,drs,?f7,drs,drs,drs,drs,?f12,?f13,drs,drs,drs,drs,drs,drs,drs,drs,drs,drs,drm,drs,drs,trivial⟩
   case f2=>
    refine ⟨?_,trivial,trivial,trivial,trivial⟩;intro x y z t LD a W hs hw;refine sv hs hw fun a hs=>?_;rw [hg0] at hs;exact ⟨hs,hw⟩
   case f7=>
    refine ⟨?_,trivial,trivial,trivial,trivial⟩;intro x y z t LD a W hs hw;refine sc hs ?_;refine eQ hs (hc:=hcell (sub1 hw) 0 _ hfh.1) (c:=fun a hs=>?_);exact ⟨hs,hw⟩
   case f12=>
    refine ⟨?_,trivial,trivial,trivial,trivial⟩;intro x y z t LD a W hs hw;obtain ⟨_,ad3,cap3,hw2⟩:=iQ hw;refine sc hs ?_;refine gC hs (hw:=hw2) (hi:=In.hd) (k:=fun a hs=>?_);exact ⟨hs,hw⟩
   case f13=>
    refine ⟨?_,trivial,trivial,trivial,trivial⟩;intro x y z t LD a W hs hw;refine sv hs hw fun a hs=>?_;rw [c3] at hs;exact ⟨hs,hw⟩
   case kk=>
    intro _ a W hs hw;refine sv hs hw fun a hs=>?_;refine aBW hs (by omega) hcap' (c:=fun a hs=>?_);refine sv hs hw fun a hs=>?_;have hlen:es.length - (j+1)=es.length - j - 1:=by omega
    exact bS (j+1,_,cap - 1) hs hw ⟨hlt,fun W h=>by rw [hlen,hfl];exact aBX (hrj W h) (by omega),hnx.resolve_right (fun h=>h hor),hskn hor⟩ (by show es.length - (j+1)<es.length - j;omega) ⟨rfl,by rw [hlen];rfl,trivial⟩
  |false=>
   refine bB [24] [.f 0 0,.f 0 0,.f 0 0,.f 0 0,.f 0 0,.f 0 0,.f 0 0,.f 0 0,.f 0 0,.f 0 0,.f 0 0,.f 0 0,.f 0 0,.f 0 0,.f 0 0,.f 0 0,.f 0 0,.f 0 0,.f 0 0,.f 0 0,.f 0 0,.f 0 0,.f 0 0,.f 0 0,.m 0,.f 1 1,.f 1 1] [.c0 _,.c0 _,.c0 (.bool true),.c0 _,.c0 _,.c0 _,.c0 _,.c0 (.int .i64 e'.ix),.c0 _,.c0 _,.c0 _,.c0 _,.c0 (.int .i64 l.s.ix),.c0 (.bool false),.c0 _,.c0 _,.c0 _,.c0 _,.c0 _,.c0 (.int .i64 e'.ix),.c0 _,.c0 _,.c0 _,.c0 (.int .i64 e'.term),.c1 (fun x=> .bool (l.fits e'.ix e'.term)),.c1 _,.c1 _] (aG p l::R) (fun x=>aG p l::R) (fun x y=>[]) (fun x y z=>[]) (fun x y z t=>[]) hs hw ?kk ⟨drs,drs,?f2,drs,drs,drs,drs,?f7,drs,drs,drs,drs,?f12,?f13,drs,drs,drs,drs,drs,?f19,drs,drs,drs,?f23,drm,drs,drs,trivial⟩
   case f2=>
    refine ⟨?_,trivial,trivial,trivial,trivial⟩;intro x y z t LD a W hs hw;refine sv hs hw fun a hs=>?_;rw [hg0] at hs;exact ⟨hs,hw⟩
   case f7=>
    refine ⟨?_,trivial,trivial,trivial,trivial⟩;intro x y z t LD a W hs hw;refine sc hs ?_;refine eQ hs (hc:=hcell (sub1 hw) 0 _ hfh.1) (c:=fun a hs=>?_);exact ⟨hs,hw⟩
   case f12=>
    refine ⟨?_,trivial,trivial,trivial,trivial⟩;intro x y z t LD a W hs hw;obtain ⟨_,ad3,cap3,hw2⟩:=iQ hw;refine sc hs ?_;refine gC hs (hw:=hw2) (hi:=In.hd) (k:=fun a hs=>?_);exact ⟨hs,hw⟩
   case f13=>
    refine ⟨?_,trivial,trivial,trivial,trivial⟩;intro x y z t LD a W hs hw;refine sv hs hw fun a hs=>?_;rw [c3] at hs;exact ⟨hs,hw⟩
   case f19=>
    refine ⟨?_,trivial,trivial,trivial,trivial⟩;intro x y z t LD a W hs hw;refine sc hs ?_;refine eQ hs (hc:=hcell (sub1 hw) 0 _ hfh.1) (c:=fun a hs=>?_);exact ⟨hs,hw⟩
   case f23=>
    refine ⟨?_,trivial,trivial,trivial,trivial⟩;intro x y z t LD a W hs hw;refine sc hs ?_;refine eQ hs (hc:=hcell (sub1 hw) 1 _ hfh.2) (c:=fun a hs=>?_);exact ⟨hs,hw⟩
   case kk=>
   intro _ a W hs hw;replace hs:Slots a 110 [(0,ptr p),(1,.slice (some ⟨b',o',none⟩) (es.length - j) cap),(63,.bool (l.fits e'.ix e'.term))]:=hs.ot;cases c4:l.fits e'.ix e'.term with
   |true=>
    rw [c4] at hs;have hor:e'.ix≤l.s.ix∨l.fits e'.ix e'.term=true:= .inr c4;refine sv hs hw fun a hs=>?_;refine aBW hs (by omega) hcap' (c:=fun a hs=>?_);refine sv hs hw fun a hs=>?_;have hlen:es.length - (j+1)=es.length - j - 1:=by omega
    exact bS (j+1,_,cap - 1) hs hw ⟨hlt,fun W h=>by rw [hlen,hfl];exact aBX (hrj W h) (by omega),hnx.resolve_right (fun h=>h hor),hskn hor⟩ (by show es.length - (j+1)<es.length - j;omega) ⟨rfl,by rw [hlen];rfl,trivial⟩
   |false=>
    rw [c4] at hs;have hskx:l.skip es=e'::es.drop (j+1):=by
     rw [hsk,hd];show (if e'.ix≤l.s.ix∨l.fits e'.ix e'.term=true then _ else _)=_;rw [if_neg (by rw [c4];have:=of_decide_eq_false c3;simp;omega)]
    have hx1:e'.ix≤l.last+1:=by rw [hd] at hoj;exact (hoj _ _ rfl).1
    have hx2:l.s.ix<e'.ix:=by have:=of_decide_eq_false c3;omega
    obtain ⟨k,hk,hkl⟩:∃k:Nat,w64 (e'.ix - l.first)=(k:Int)∧k≤l.l.length:=⟨(e'.ix - l.first).toNat,by rw [show w64 (e'.ix - l.first)=e'.ix - l.first from IntWalk.i64_in _ (by omega)];omega,by omega⟩
    have hlen:(e'::es.drop (j+1)).length=es.length - j:=by rw [←hd,List.length_drop]
    have hz:(((es.length - j:Nat):Int) == 0)=false:=by simp;omega
    have hp3:l.put es=if e'.term<(l.term (w64 (e'.ix - 1))).1∨200<w64 ((k:Int)+((es.length - j:Nat):Int)) then (l,0,false) else (⟨l.s,l.l.take k ++ es.drop j⟩,e'.ix,true):=by
     rw [hput2,hskx];show (if _∨200<w64 (w64 (e'.ix - l.first)+((e'::es.drop (j+1)).length:Int)) then _ else ((⟨l.s,l.l.take (w64 (e'.ix - l.first)).toNat ++ (e'::es.drop (j+1))⟩:LogD),_,_))=_;rw [hlen,hk,←hd,Int.toNat_natCast]
    refine sv hs hw fun a hs=>?_;rw [hz] at hs;refine sv hs hw fun a hs=>?_;refine eL hs (h0:=hk0) (h1:=hk1) (c:=fun a hs=>?_);refine sv hs hw fun a hs=>?_;refine eQ hs (hc:=hcell (sub1 hw) 0 _ hfh.1) (c:=fun a hs=>?_);refine sx hs hw fun a W hs hw=>?_;rw [show IntKind.i64.wrap (e'.ix - l.first)=(k:Int) from hk] at hs;refine eL hs (h0:=hk0) (h1:=hk1) (c:=fun a hs=>?_);refine sv hs hw fun a hs=>?_;refine eQ hs (hc:=hcell (sub1 hw) 1 _ hfh.2) (c:=fun a hs=>?_);refine sv hs hw fun a hs=>?_;rw [show IntKind.i64.wrap (e'.ix - 1)=w64 (e'.ix - 1) from rfl] at hs;cases c5:decide (e'.term<(l.term (w64 (e'.ix - 1))).1) with
    |true=>
     rw [c5] at hs;refine sv hs hw fun a hs=>?_;rw [hp3,if_pos (.inl (of_decide_eq_true c5))];exact rt2 hs rfl rfl rfl ⟨rfl,hw⟩
    |false=>
    rw [c5] at hs;refine sv hs hw fun a hs=>?_;rw [show IntKind.i64.wrap ((k:Int)+((es.length - j:Nat):Int))=w64 ((k:Int)+((es.length - j:Nat):Int)) from rfl] at hs;cases c6:decide (w64 ((k:Int)+((es.length - j:Nat):Int)) > 200) with
    |true=>
     rw [c6] at hs;refine sv hs hw fun a hs=>?_;rw [hp3,if_pos (.inr (of_decide_eq_true c6))];exact rt2 hs rfl rfl rfl ⟨rfl,hw⟩
    |false=>
    rw [c6] at hs;have h5:=of_decide_eq_false c5;have h6:=of_decide_eq_false c6;rw [hp3,if_neg (by omega)];have hsum:k+(es.length - j)≤200:=by
     rw [show w64 ((k:Int)+((es.length - j:Nat):Int))=(k:Int)+((es.length - j:Nat):Int) from IntWalk.i64_in _ (by omega)] at h6;omega
    have hlen2:(l.l.take k ++ es.drop j).length=k+(es.length - j):=by rw [List.length_append,List.length_take,List.length_drop];omega
    have hfm:(l.l.take k ++ es.drop j).flatMap bA=(l.l.take k).flatMap bA ++ (es.drop j).flatMap bA:=List.flatMap_append
    have hwf:kD ⟨l.s,l.l.take k ++ es.drop j⟩:=⟨hl0,hl1,by show (l.l.take k ++ es.drop j).length≤200;omega,hl3,fun e h=>by
     rcases List.mem_append.1 h with h|h
     ·exact hl4 e (List.mem_of_mem_take h)
     ·exact (hes e (List.mem_of_mem_drop h)).2⟩
    obtain ⟨_,ad3,cap3,hw⟩:=iQ hw;rcases (show Has 0 w0 W (Sx.Own 137 4 (.slice ad3 l.l.length cap3) l.l.length (l.l.flatMap bA)::eW p l.s (.slice ad3 l.l.length cap3)::R) from hw.swap2).own_cases with ⟨hv,hv0⟩|⟨g,cap4,cur,hv,hcur,hcl,hkc,hcm,hw⟩
    ·injection hv with hv1 _ hv2;subst hv1 hv2;obtain rfl:k=0:=by omega
     have hnil:l.l= []:=List.eq_nil_of_length_eq_zero hv0;rw [hnil] at hw hlen2 hfm hwf⊢;refine sv hs hw fun a hs=>?_;refine aG2 hs (c:=fun a hs=>?_);refine sv hs hw fun a hs=>?_;refine lL hs (hw:=(hw.swap2:Has 0 w0 W (Sx.Own 137 4 (.slice none 0 0) 0 []::eW p l.s (.slice none 0 0)::R))) (k:=0) (m:=es.length - j) (xs:=[]) (news:=(es.drop j).flatMap bA) (hsrc:=eZ (hrj _ (sub1 (hw.d1))) (sS _)) (h63:=by omega) (hb:=by omega) (c:=fun a ad2 cap2 W hs hw=>?_);refine sx hs hw fun a W hs hw=>?_;refine rt2 hs rfl rfl rfl ⟨rfl,?_⟩;refine iC (l:=⟨l.s,[].take 0 ++ es.drop j⟩) (v:= .slice ad2 (0+(es.length - j)) cap2) ?_ hwf;show Has 0 w0 W (eW p l.s _::Sx.Own _ 4 _ ([].take 0 ++ es.drop j).length (([].take 0 ++ es.drop j).flatMap bA)::R);rw [hlen2,hfm];exact hw.swap2
    ·injection hv with hv1 _ hv2;subst hv1 hv2;refine sv hs hw fun a hs=>?_;refine aFy hs (z:=zEnt) (g:=g) (k:=k) (cap:=cap3) (hk:=by omega) (c:=fun a hs=>?_);refine sv hs hw fun a hs=>?_;have htk:cur.take (k*4)=(l.l.take k).flatMap bA:=by rw [p8,←hcur,List.take_take,Nat.min_eq_left (by omega)]
     refine aFz hs hw (hw.block In.hd).1 (k:=k) (size:=4) (m:=es.length - j) (by omega) htk (eZ (hrj _ (sub1 (hw.d1))) (sS _)) (by omega) (by omega) (by omega) (c:=fun a ad2 cap2 W hs hw=>?_);refine sx hs hw fun a W hs hw=>?_;refine rt2 hs rfl rfl rfl ⟨rfl,?_⟩;refine iC (l:=⟨l.s,l.l.take k ++ es.drop j⟩) (v:= .slice ad2 (k+(es.length - j)) cap2) ?_ hwf;show Has 0 w0 W (eW p l.s _::Sx.Own _ 4 _ (l.l.take k ++ es.drop j).length ((l.l.take k ++ es.drop j).flatMap bA)::R);rw [hlen2,hfm];exact hw.sl
end
end Go.Proofs.YtgpbngfehfbndaaGreatDoor.Sw
namespace Go.Sx
open Go.RowKit
section
variable {P:Program} {ops:Array Oper} {rest:List Oper} {Q:Exit→Act→World→Prop} {a:Act} {n:Nat} {L:List (Nat×Value)} {W:World} {d k cap:Nat} {T S S' E:TypeId} {p:String} {e:Array Edge} {x:Operand} {ad:Option Addr}
theorem sX [sl:Sl P S E] (hs:Slots a n L) (c:∀a',Slots a' n ((d,.bool (!ad.isNone))::L)→wpList P ops Q rest a' W) (hx:ev L x=some (.slice ad k cap):=by with_unfolding_all exact rfl) (hd:Nat.blt d n=true:=by with_unfolding_all exact rfl):wpList P ops Q (⟨some d,.binOp .neq S x (.const (.slice none 0 0)) S',T,p,e,none⟩::rest) a W:=by
 refine bP hs hd (W':=W) ?_ c;have h2:(binOp .neq S (.slice ad k cap) (.slice none 0 0)).run P W= .ok (.bool (!ad.isNone)) W:=run_neq_slice_nil W S E ad k cap sl.out;have h3:a.eval (.const (.slice none 0 0))= .slice none 0 0:=rfl;simp only [execOp,hs.ev hx,h3,Sem.run_bind];simp [eqGuard,h2]
end
end Go.Sx
namespace Go.Proofs.YtgpbngfehfbndaaGreatDoor.Sw
open Go.RowKit Go.Sx
abbrev aF (m:bF) (v:Value):List Value:=[.int .i64 m.kind,.int .i64 m.from_,.int .i64 m.to_,.int .i64 m.term,.int .i64 m.ix,.int .i64 m.lterm,.int .i64 m.commit,.bool m.yes,v,.int .i64 m.snap.ix,.int .i64 m.snap.term,.string m.snap.conf,.string m.snap.data]
def MsgIn (H:Fh) (m:bF) (cs:List Value):Prop:=∃v,cs=aF m v∧fN H v m.es∧m.snap.conf.size≤1000000
theorem MsgIn.len {H:Fh}:∀(m:bF) (c:List Value),MsgIn H m c→c.length=13:=by rintro m c ⟨v,rfl,_⟩;rfl
theorem MsgIn.le {H H':Fh} (h:H.le H'):∀(m:bF) (c:List Value),MsgIn H m c→MsgIn H' m c:=by rintro m c ⟨v,rfl,h1,h2⟩;exact ⟨v,rfl,h1.le h,h2⟩
theorem MsgIn.ones {H:Fh}:∀(m:bF) (c:List Value),MsgIn H m c→∀v∈c,v.oneCell'=true:=by
 rintro m c ⟨v,rfl,h,_⟩ u hu;obtain ⟨ad,cap,rfl⟩:=h.slice;simp only [aF,List.mem_cons,List.not_mem_nil,or_false] at hu;rcases hu with rfl|rfl|rfl|rfl|rfl|rfl|rfl|rfl|rfl|rfl|rfl|rfl|rfl <;> rfl
def aD (H:Fh) (v:Value) (l:List bF):Res:=Ex fun xs:List Value=>Sx.Own 38 13 v l.length xs::bQ (Ch (MsgIn H) l xs):: []
def VoR (v:Value):k5→Res
 |none=>bQ (v= .pointer none)
 |some o=>Ex fun q:Nat=>gA q o::bQ (v=ptr q):: []
def ToR (v:Value):jW→Res
 |none=>bQ (v= .pointer none)
 |some o=>Ex fun q:Nat=>gL q o::bQ (v=ptr q):: []
abbrev gY (p:Nat) (id ht hv:Int) (pl:Nat) (cm role ldr:Int) (hrd:Bool) (pv pt mv:Value) (hard:Bool) (fr:Int) (sp:Bool):Res:=aA p [.int .i64 id,.int .i64 ht,.int .i64 hv,ptr pl,.int .i64 cm,.int .i64 role,.int .i64 ldr,.bool hrd,pv,pt,mv,.bool hard,.int .i64 fr,.bool sp] 105
abbrev aJ (p:Nat) (r:RaftD) (pl:Nat) (pv pt mv:Value):Res:=aA p [.int .i64 r.id,.int .i64 r.h.term,.int .i64 r.h.vote,ptr pl,.int .i64 r.commit,.int .i64 r.role,.int .i64 r.leader,.bool r.heard,pv,pt,mv,.bool r.out.hard,.int .i64 r.out.from_,.bool r.out.snap] 105
def aE (H:Fh) (p:Nat) (r:RaftD):Res:=Ex fun x:Nat×Value×Value×Value=>aJ p r x.1 x.2.1 x.2.2.1 x.2.2.2::aG x.1 r.l::VoR x.2.1 r.v::ToR x.2.2.1 r.t::aD H x.2.2.2 r.out.msgs:: []
section
variable {H H':Fh} {p pl:Nat} {pv pt mv:Value} {r:RaftD} {w W:World} {R L:List Res} {l:List bF} {v:Value}
theorem qJ (h:Has 0 w W (aD H v l::R)):∃ad cap xs,v= .slice ad l.length cap∧Ch (MsgIn H) l xs∧Has 0 w W (Sx.Own 38 13 v l.length xs::R):=by
 obtain ⟨xs,h⟩:=Has.open h;have h:Has 0 w W (Sx.Own 38 13 v l.length xs::bQ (Ch (MsgIn H) l xs)::R):=h;obtain ⟨ad,cap,rfl⟩:=h.own_slice;exact ⟨ad,cap,xs,rfl,h.told (In.tl In.hd),h.sl⟩
theorem lB {xs:List Value} (h:Has 0 w W (Sx.Own 38 13 v l.length xs::R)) (hc:Ch (MsgIn H) l xs):Has 0 w W (aD H v l::R):=Has.shut xs ((h.fact hc).pm)
theorem xE (h:Has 0 w W (aD H v l::R)) (hl:H.le H'):Has 0 w W (aD H' v l::R):=by
 obtain ⟨ad,cap,xs,rfl,hc,h⟩:=qJ h;exact lB h (hc.mono (MsgIn.le hl))
theorem cD (h:Has 0 w W (aJ p r pl pv pt mv::aG pl r.l::VoR pv r.v::ToR pt r.t::aD H mv r.out.msgs::R)):Has 0 w W (aE H p r::R):=Has.shut (pl,pv,pt,mv) h
theorem dG (h:Has 0 w W (aE H p r::R)):∃pl pv pt mv,Has 0 w W (aJ p r pl pv pt mv::aG pl r.l::VoR pv r.v::ToR pt r.t::aD H mv r.out.msgs::R):=by
 obtain ⟨⟨pl,pv,pt,mv⟩,h⟩:=Has.open h;exact ⟨pl,pv,pt,mv,h⟩
theorem aBZ (h:Has 0 w W (aE H p r::R)) (hl:H.le H'):Has 0 w W (aE H' p r::R):=by
 obtain ⟨pl,pv,pt,mv,h⟩:=dG h;have h:Has 0 w W (aD H mv r.out.msgs::aJ p r pl pv pt mv::aG pl r.l::VoR pv r.v::ToR pt r.t::R):=h.pm;exact cD ((xE h hl).pm)
theorem aB0 {b:Nat} {lo:Int} {l:List Int} {L1:List Res} (hl:l.length≤100) [c:dH (fun l=>aA b (l.map (Value.int .i64)) 2) L l L1]:Get Tryz.prog 204 [.int .i64 lo,.slice (some ⟨b,0,none⟩) l.length l.length] L (.bool (inR lo 1099511627776 l)) L:=⟨fun {w W} hw=>by
 have hr:∀{W},Has 0 w W L→Rd W 1 (.slice (some ⟨b,0,none⟩) l.length l.length) l.length (l.map (Value.int .i64)):=fun h=>(h.pick c.p).rd_lit In.hd (by simp) (by omega);refine en Tryz.func204 Tryz.ntmps204 fun a hs=>?_;refine sv hs hw fun a hs=>?_;refine bX (σ:=Nat) (fun i=>[(0,.int .i64 lo),(7,.slice (some ⟨b,0,none⟩) l.length l.length),(8,.int .i64 (l.length:Int)),(9,.int .i64 (i:Int))]) (fun _=>L) (fun i=>i≤l.length∧inR lo 1099511627776 l=inR lo 1099511627776 (l.drop i)) (fun i=>l.length - i) 0 ⟨Nat.zero_le _,rfl⟩ hs ⟨rfl,rfl,rfl,rfl,trivial⟩ hw ?_;clear hs hw;rintro i a W ⟨hi',hh⟩ hs hw;refine sv hs hw fun a hs=>?_;refine cI hs (kt:=fun hc=>?_) (kf:=fun hc=>?_)
 ·have hi2:i<l.length:=by simpa using hc
  obtain ⟨o,ho,hd⟩:=dP hi2;rw [hd] at hh;refine sc hs ?_;refine iI hs (hr hw) ho rfl fun a b f hs=>?_;refine sv hs hw fun a hs=>?_;have hq:inR lo 1099511627776 (o::l.drop (i+1))=(!decide (o<lo) && !decide (o > 1099511627776) && inR lo 1099511627776 (l.drop (i+1))):=rfl;cases c1:decide (o<lo) with
  |true=>
   rw [c1] at hs hq;refine sv hs hw fun a hs=>?_;exact rt1 hs rfl rfl ⟨by rw [hh,hq];rfl,hw⟩
  |false=>
  rw [c1] at hs hq;refine sv hs hw fun a hs=>?_;cases c2:decide (o > 1099511627776) with
  |true=>
   rw [c2] at hs hq;refine sv hs hw fun a hs=>?_;exact rt1 hs rfl rfl ⟨by rw [hh,hq];rfl,hw⟩
  |false=>
   rw [c2] at hs hq;refine sv hs hw fun a hs=>?_;exact bS (i+1) hs hw ⟨hi2,by rw [hh,hq];simp⟩ (by omega) ⟨rfl,rfl,rfl,bU (i1 (by omega)),trivial⟩
 ·have:l.drop i= []:=List.drop_eq_nil_of_le (by simp at hc;omega);refine sv hs hw fun a hs=>?_
  exact rt1 hs rfl rfl ⟨by rw [hh,this];rfl,hw⟩⟩
instance raft_server {x:Int}:Get Tryz.prog 203 [.int .i64 x] L (.bool (srv x)) L:=⟨fun {w W} hw=>by
 refine en Tryz.func203 Tryz.ntmps203 fun a hs=>?_;refine sv hs hw fun a hs=>?_;unfold srv;cases c1:decide (x≥1) with
 |false=>
  rw [c1] at hs;refine sv hs hw fun a hs=>?_;exact rt1 hs rfl rfl ⟨rfl,hw⟩
 |true=>
  rw [c1] at hs;refine sv hs hw fun a hs=>?_
  exact rt1 hs rfl rfl ⟨rfl,hw⟩⟩
theorem aGj {s:dI} (hm:eK s=false):Get Tryz.prog 153 [.agg ⟨dM s⟩] L (.slice none 0 0) L:=⟨fun {w W} hw=>by
 refine en Tryz.func153 Tryz.ntmps153 fun a hs=>?_;refine sc hs ?_;refine sn hs hw fun b a W hs hw=>?_;refine sv hs hw fun a hs=>?_;refine cl hs ((wal_may (s:=s)).ok hw) fun a W hs hw=>?_;rw [hm] at hs;refine sv hs hw fun a hs=>?_
 exact rt1 hs rfl rfl ⟨rfl,hw.d1⟩⟩
end
end Go.Proofs.YtgpbngfehfbndaaGreatDoor.Sw
