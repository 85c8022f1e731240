/-
  Texts of the proof, one behind the other (part 20).
-/
import Derived.Test.YtgpbngfehfbndaaGreatDoorM18
import Derived.Test.YtgpbngfehfbndaaGreatDoorM19
import Derived.WalkKit
import Derived.WalkLawsBesides
import Derived.WalkSpells
import Derived.Lib.Hide
import Derived.Deep.QuietTactic
import Derived.BigQuiet
import Derived.Test.YtgpbngfehfbndaaGreatDoorChecked
import Derived.Laws.Bits64
import Derived.Laws.Bits64b
import Derived.Laws.BitsLemmas
import Derived.Laws.DeepNot64
import Derived.WalkSmall
import Derived.Deep.Draws
import Derived.Lib.ValidLaws
import Derived.Lib.MapLaws
import Derived.Lib.TrimUEq
import Derived.Lib.RuneBytes
import Derived.Laws.RangeAny
import Derived.Laws.Strings
import GoSem.Op.String
import Derived.Laws.StructEq
import Derived.IntWalk
import Derived.Shelf.Small.Bits
import Derived.Shelf.Strconv.Itoa0
import Derived.Ground.Names2Prog
import Derived.Shelf.Slices.Clone
import Derived.Shelf.Bytes.SlSearch0
import Derived.Ground.SlbCloneProg
import Derived.Shelf.Bytes.SlClone
import Derived.Shelf.Bytes.Small
import Derived.Shelf.Unicode.ValidAny
import Derived.Test.YtgpbngfehfbndaaGreatDoorProg
import Derived.Below
import Derived.Tactics
import Derived.RegionTactic
import Derived.Deep.AppendSrc
import Derived.Laws.AppendOwn
import Derived.Laws.BytesString
import Derived.Laws.Tables
import Derived.Laws.IdiomStrings
import Derived.Laws.Small
import Derived.Maps.RangeRun
import Derived.Deep.RegionHeld3
import Derived.DataShut
import Derived.Lib.UnsafeStr
import Derived.Deep.AppendLies
set_option maxHeartbeats 16000000
set_option linter.unusedVariables false
set_option maxRecDepth 10000
namespace Go.Proofs.YtgpbngfehfbndaaGreatDoor.Sw
open Go.RowKit Go.Sx
abbrev fW (H:Fh) (v:Value) (l:List cD):Prop:=RdH H 4 v l.length (l.flatMap bD)
theorem tM (l:List cD):∀u∈l.flatMap bD,u.oneCell'=true:=by
 intro u hu;obtain ⟨o,_,ho⟩:=List.mem_flatMap.1 hu;simp only [bD,List.mem_cons,List.not_mem_nil,or_false] at ho;rcases ho with rfl|rfl|rfl|rfl <;> rfl
theorem aHK (l:List cD):(l.flatMap bD).length=l.length*4:=Ch.length EE.len (qQ l)
theorem tN (w0 W:World) (l:List cD) (v:Value) (R:List Res) (hl:l.length≤1000) (hr:∀{W},Has 0 w0 W R→Rd W 4 v l.length (l.flatMap bD)) (hw:Has 0 w0 W R):
  Calls Tryz.prog 79 ⟨[v]⟩ W fun e W'=>∃s:Option Addr×Nat,e= .returned (.slice s.1 l.length s.2)∧True∧Has 0 w0 W' (bV (.slice s.1 l.length s.2) l::R):=by
 obtain ⟨ad,cap,rfl⟩:∃ad cap,v= .slice ad l.length cap:=by obtain ⟨_,ad,cap,e,_⟩:=hr hw;exact ⟨ad,cap,e⟩
 refine enter Tryz.func79 Tryz.ntmps79 rfl rfl fun a hs=>?_;refine sv hs hw fun a hs=>?_;refine k7 hs (c:=fun a hs=>?_);cases ad with
 |none=>
  refine sv hs hw fun a hs=>?_;have h0:l= []:=by
   obtain ⟨_,ad,cap,e,_,_,h|⟨b,o,h,_⟩⟩:=hr hw
   ·exact List.eq_nil_of_length_eq_zero h
   ·injection e with e1 _ _;rw [←e1] at h;cases h
  subst h0;exact rt1 hs rfl rfl ⟨(none,0),rfl,trivial,hw.nilOwn 137 4⟩
 |some A=>
  rw [show (some A).isNone=false from rfl] at hs;refine sc hs ?_;refine pQ hs hw (c:=fun a ad W hw hs=>?_);refine sv hs hw fun a hs=>?_;refine kZ hs (hw:=hw) (k:=0) (m:=l.length) (xs:=[]) (news:=l.flatMap bD) (hsrc:=fK (hr (hw.d1)) (tM l)) (h63:=by omega) (hb:=by omega) (c:=fun a ad2 cap2 W hs hw=>?_);rw [List.nil_append,Nat.zero_add] at hw;rw [Nat.zero_add] at hs;refine sv hs hw fun a hs=>?_;exact rt1 hs rfl rfl ⟨(ad2,cap2),rfl,trivial,hw⟩
theorem qS {P:Program} {ops:Array Oper} {aE:List Oper} {Q:Exit→Act→World→Prop} {a:Act} {n:Nat} {L:List (Nat×Value)} {W:World} {d:Nat} {T S E:TypeId} {p:String} {e:Array Edge} {x y:Operand} {i:Nat} {q:IntKind} {z:List Value} {agg:Bool} [sl:Sl P S E] [t:Ty P E agg z] {v:Value} {l:List cD} {u:cD} (hs:Slots a n L) (r:Rd W 4 v l.length (l.flatMap bD)) (hi:l[i]? =some u)
  (c:∀a' b o,(∀j x,(bD u)[j]? =some x→W.cell? ⟨b,o+j,none⟩=some x)→Slots a' n ((d,.pointer (some ⟨b,o,none⟩))::L)→wpList P ops Q aE a' W) (hx:ev L x=some v:=by with_unfolding_all exact rfl) (hy:ev L y=some (.int q (i:Int)):=by with_unfolding_all exact rfl) (hd:Nat.blt d n=true:=by with_unfolding_all exact rfl) (hz:z.length=4:=by with_unfolding_all exact rfl):
  wpList P ops Q (⟨some d,.indexAddr S x y,T,p,e,none⟩::aE) a W:=by
 refine gA hs r EE.len (qQ l) hi rfl hx hy hd hz (fun a' b o c0 hc hcl hpc hlt hs=>?_);obtain rfl:c0=bD u:=hc;exact c a' b o hpc hs
theorem aCD (w0 W:World) (i t:Int) (l:List cD) (v:Value) (R:List Res) (hr:∀{W},Has 0 w0 W R→Rd W 4 v l.length (l.flatMap bD)) (hw:Has 0 w0 W R):
  Calls Tryz.prog 163 ⟨[.int .i64 i,.int .i64 t,v]⟩ W fun e W'=>e= .returned (.bool (gV i t l))∧Has 0 w0 W' R:=by
 have hlen:=(hr hw).len;obtain ⟨ad,cap,rfl⟩:∃ad cap,v= .slice ad l.length cap:=by obtain ⟨_,ad,cap,e,_⟩:=hr hw;exact ⟨ad,cap,e⟩
 refine enter Tryz.func163 Tryz.ntmps163 rfl rfl fun a hs=>?_;refine sv hs hw fun a hs=>?_;refine bY (σ:=Nat×Int×Int) (fun q=>[(0,.int .i64 q.2.1),(1,.int .i64 q.2.2),(9,.slice ad l.length cap),(10,.int .i64 (l.length:Int)),(11,.int .i64 (q.1:Int))]) (fun _=>R) (fun q=>q.1≤l.length∧gV i t l=gV q.2.1 q.2.2 (l.drop q.1)) (fun q=>l.length - q.1) (0,i,t) ⟨Nat.zero_le _,rfl⟩ hs ⟨rfl,rfl,rfl,rfl,rfl,trivial⟩ hw ?_;clear hs hw;rintro ⟨j,x,y⟩ a W ⟨hj,hh⟩ hs hw;simp only at hj hh hs hw;refine sv hs hw fun a hs=>?_;refine cI hs (kt:=fun hc=>?_) (kf:=fun hc=>?_)
 ·have hj':j<l.length:=by simpa using hc
  obtain ⟨e,he,hd⟩:=dR hj';rw [hd] at hh;refine sc hs ?_;refine qS hs (hr hw) he fun a b o hpc hs=>?_;refine eE hs (z:=zEnt) (cs:=bD e) (hc:=hpc) (hl:=by rfl) (c:=fun a hs=>?_);refine sn hs hw fun b8 a W hs hw=>?_;refine sx hs hw fun a W hs hw=>?_;rw [show IntKind.i64.wrap (x+1)=w64 (x+1) from rfl] at hs;have hq:gV x y (e::l.drop (j+1))=(!(e.ix !=w64 (x+1)) && !decide (e.term<y) && gV e.ix e.term (l.drop (j+1))):=rfl;cases c1:(e.ix !=w64 (x+1)) with
  |true=>
   rw [c1] at hs hq;refine sv hs hw fun a hs=>?_;exact rt1 hs rfl rfl ⟨by rw [hh,hq];rfl,hw.d1⟩
  |false=>
  rw [c1] at hs hq;refine sv hs hw fun a hs=>?_;cases c2:decide (e.term<y) with
  |true=>
   rw [c2] at hs hq;refine sv hs hw fun a hs=>?_;exact rt1 hs rfl rfl ⟨by rw [hh,hq];rfl,hw.d1⟩
  |false=>
   rw [c2] at hs hq;refine zG hs ?_;refine rgp [_,_,_,_,_,_] hs hw fun a W hs hw=>?_;refine sv hs hw fun a hs=>?_;exact bQ (j+1,e.ix,e.term) hs (hw.d1) ⟨hj',by rw [hh,hq];rfl⟩ (by show l.length - (j+1)<l.length - j;omega) ⟨rfl,rfl,rfl,rfl,bR (i1 (by omega)),trivial⟩
 ·have:l.drop j= []:=List.drop_eq_nil_of_le (by simp at hc;omega);refine sv hs hw fun a hs=>?_;exact rt1 hs rfl rfl ⟨by rw [hh,this];rfl,hw⟩
theorem aCE:∀(l:List cD) (m:Nat),(l.drop m).flatMap bD=(l.flatMap bD).drop (m*4)
 | [],m=>by simp
 |x::l,0=>by simp
 |x::l,m+1=>by
  rw [List.drop_succ_cons,aCE l m,List.flatMap_cons,show (m+1)*4=(bD x).length+m*4 by show _=4+m*4;omega,List.drop_length_add_append]
theorem tO:∀(l:List cD) (m:Nat),(l.take m).flatMap bD=(l.flatMap bD).take (m*4)
 | [],m=>by simp
 |x::l,0=>by simp
 |x::l,m+1=>by
  rw [List.take_succ_cons,List.flatMap_cons,tO l m,List.flatMap_cons,show (m+1)*4=(bD x).length+m*4 by show _=4+m*4;omega,List.take_length_add_append]
theorem aHL {W:World} {g m m' cap:Nat} {E:TypeId} {cur:List Value} {l:List cD} (hg:W.heap[g]? =some (.cells ⟨cur⟩ E (0,0))) (ht:cur.take (l.length*4)=l.flatMap bD) (hk:l.length≤cap) (hm:cap≤maxLen) (h1:m+m'≤l.length):
  Rd W 4 (.slice (some ⟨g,m*4,none⟩) m' (cap - m)) ((l.drop m).take m').length (((l.drop m).take m').flatMap bD):=by
 have e:((l.drop m).take m').length=m':=by rw [List.length_take,List.length_drop];omega
 rw [e];refine ⟨by rw [aHK,e],_,_,rfl,by omega,by unfold maxLen at hm;omega,.inr ⟨g,m*4,rfl,jN hg,fun j u hu=>?_⟩⟩;rw [tO,aCE,←ht,List.getElem?_take] at hu;split at hu
 ·rw [List.getElem?_drop,List.getElem?_take] at hu;split at hu
  ·rw [iJ hg];exact hu
  ·cases hu
 ·cases hu
section
variable {p:Nat} {l:LogD} {L L1:List Res} {i n:Int}
theorem nL [c:dI (fun l=>aH p l) L l L1]:New Tryz.prog 125 [ptr p,.int .i64 i,.int .i64 n] L (Option Addr×Nat) (fun x=> .slice x.1 (l.get i n).length x.2) (fun x=>bV (.slice x.1 (l.get i n).length x.2) (l.get i n)::L):=⟨fun {w W} hw=>by
 refine enter Tryz.func125 Tryz.ntmps125 rfl rfl fun a hs=>?_;refine sx hs hw fun a W hs hw=>?_;have none_:∀{W},l.get i n= []→Has 0 w W L→Has 0 w W (bV (.slice none (l.get i n).length 0) (l.get i n)::L):=fun h hw=>by rw [h];exact hw.nilOwn 137 4
 cases c1:decide (i<l.first) with
 |true=>
  rw [c1] at hs;refine sv hs hw fun a hs=>?_;have e:l.get i n= []:=by unfold LogD.get;rw [if_pos (.inl (of_decide_eq_true c1))]
  refine rt1 hs rfl (v:= .slice none (l.get i n).length 0) (by rw [e];rfl) ⟨(none,0),rfl,none_ e hw⟩
 |false=>
 rw [c1] at hs;refine sx hs hw fun a W hs hw=>?_;cases c2:decide (i > l.last) with
 |true=>
  rw [c2] at hs;refine sv hs hw fun a hs=>?_;have e:l.get i n= []:=by unfold LogD.get;rw [if_pos (.inr (.inl (of_decide_eq_true c2)))]
  refine rt1 hs rfl (v:= .slice none (l.get i n).length 0) (by rw [e];rfl) ⟨(none,0),rfl,none_ e hw⟩
 |false=>
 rw [c2] at hs;refine sx hs hw fun a W hs hw=>?_;cases c3:decide (n<1) with
 |true=>
  rw [c3] at hs;refine sv hs hw fun a hs=>?_;have e:l.get i n= []:=by unfold LogD.get;rw [if_pos (.inr (.inr (of_decide_eq_true c3)))]
  refine rt1 hs rfl (v:= .slice none (l.get i n).length 0) (by rw [e];rfl) ⟨(none,0),rfl,none_ e hw⟩
 |false=>
 rw [c3] at hs;refine zG hs ?_;have g1:=of_decide_eq_false c1;have g2:=of_decide_eq_false c2;have g3:=of_decide_eq_false c3;obtain ⟨hl,ad,cap,hw⟩:=iU (hw.pick c.p);have hf:=tL hl;have hla:=oO hl;have ⟨hl0,hl1,hl2,_,_⟩:=hl;obtain ⟨k,hk⟩:∃k:Nat,w64 (i - l.first)=(k:Int):=⟨(i - l.first).toNat,by rw [show w64 (i - l.first)=i - l.first from IntWalk.i64_in _ (by omega)];omega⟩
 have hkl:k<l.l.length:=by rw [show w64 (i - l.first)=i - l.first from IntWalk.i64_in _ (by omega)] at hk;omega
 obtain ⟨m,hm⟩:∃m:Nat,m=min n.toNat (l.l.length - k):=⟨_,rfl⟩
 have e:l.get i n=(l.l.drop k).take m:=by
  unfold LogD.get;rw [if_neg (by omega),hk,Int.toNat_natCast,hm]
  by_cases h:n.toNat≤l.l.length - k
  ·rw [Nat.min_eq_left h]
  ·rw [Nat.min_eq_right (by omega),List.take_of_length_le (by rw [List.length_drop];omega),List.take_of_length_le (by rw [List.length_drop];omega)]
 rw [e];obtain ⟨g,cur,rfl,hcur,hcl,hkc,hcm,hw⟩:=(show Has _ _ _ (Sx.Own 137 4 _ _ _::eT p l.s _::L1) from hw.swap2).open_own (by omega)
 refine gT [_,_,_,_,_,_,_,_,_,_] (fun _=>_) hs hw (ho:=⟨dr,dr,dr,dr,dr,dr,dr,by
   intro LD D a W hcl hi hp hs hw;refine sv hs hw fun a hs=>?_;rw [show IntKind.i64.wrap (i - w64 (l.s.ix+1))=(k:Int) from hk] at hs;exact ⟨hs,hw⟩,by
   intro LD D a W hcl hi hp hs hw;refine tC hs (m:=k) (by omega) hkc (c:=fun a hs=>?_)
   exact ⟨hs,hw⟩,dr,trivial⟩) (k:=fun a W hs hw=>?_)
 have et:gU g zEnt.length l.l.length cap k= .slice (some ⟨g,k*4,none⟩) (l.l.length - k) (cap - k):=by unfold gU;rw [if_neg (by omega)];rfl
 replace hs:Slots a 42 [(7,gU g zEnt.length l.l.length cap k),(2,.int .i64 n)]:=hs.ot;rw [et] at hs;refine sv hs hw fun a hs=>?_;refine sK hs (k:=fun a hs=>?_);rw [show (if ((l.l.length - k:Nat):Int)<n then ((l.l.length - k:Nat):Int) else n)=(m:Int) by rw [hm];split <;> omega] at hs;refine qE (k:=l.l.length - k) (cap:=cap - k) (m:=m) hs (by omega) (by omega) (by omega) (c:=fun a hs=>?_);have hr:∀{W},Has 0 w W (aA g cur 137::eT p l.s (.slice (some ⟨g,0,none⟩) l.l.length cap)::L1)→Rd W 4 (.slice (some ⟨g,k*4,none⟩) m (cap - k)) ((l.l.drop k).take m).length (((l.l.drop k).take m).flatMap bD):=fun h=>aHL (h.block In.hd).1 hcur hkc hcm (by omega);have hml:((l.l.drop k).take m).length=m:=by rw [List.length_take,List.length_drop];omega
 refine cle hs (tN w W ((l.l.drop k).take m) _ _ (by omega) hr hw) fun x a W _ hs hw=>?_;refine sv hs hw fun a hs=>?_;refine rt1 hs rfl rfl ⟨x,rfl,?_⟩;have hw:=(hw.pick (Pick.tl Pick.hd)).shut_own (k:=l.l.length) (size:=4) (cap:=cap) (xs:=l.l.flatMap bD) hcur hcl hkc hcm;have hw:Has 0 w W (aH p l::bV (.slice x.1 ((l.l.drop k).take m).length x.2) ((l.l.drop k).take m)::L1):=iD (hw.pm) hl
 exact hw.unpick (Pick.tl c.p)⟩
end
def nameS:ByteArray:=⟨#[115,116,97,116,101]⟩
theorem aCF:lM nameS.data.toList=true:=by decide
theorem yJ:nameS.size≤1000:=by decide
abbrev dH (h:fV) (s:eC) (v:Value):List Value:=[.int .i64 h.term,.int .i64 h.vote,.int .i64 s.ix,.int .i64 s.term,.string s.conf,.string s.data,v]
abbrev cQ (p d:Nat) (h:fV) (s:eC) (v:Value) (size:Nat):Res:=aA p [ptr d,.int .i64 h.term,.int .i64 h.vote,.int .i64 s.ix,.int .i64 s.term,.string s.conf,.string s.data,v,.int .i64 (size:Int)] 229
theorem aCG:∀(k:Nat) (s:List UInt8),(iT k s).length≤3015*k
 |0,_=>by simp [iT]
 |k+1,s=>by
  by_cases h:s= []
  ·subst h;simp [aBs]
  ·rw [aBt h,List.length_append];have h1:=nI 4 (s.take 3000);have h2:=aCG k (s.drop 3000);have h3:(s.take 3000).length≤3000:=by rw [List.length_take];omega
   omega
theorem aHM {s:eC} (hm:fA s=true):(dC s).length≤212000:=by
 have hb:s.conf.size≤50:=by
  unfold fA at hm;simp at hm;omega
 have p1:=Ph.putI_length_le s.ix;have p2:=Ph.putI_length_le s.term;have p3:=m8 s.conf;have p4:=Ph.putI_length_le (s.data.data.toList.length:Int);have p5:=aCG 70 s.data.data.toList;unfold dC;rw [List.length_append];have p6:=nI 3 (Ph.putI s.ix ++ Ph.putI s.term ++ Ph.putT s.conf.data.toList ++ Ph.putI (s.data.data.toList.length:Int));simp only [List.length_append] at p6;omega
theorem aHN (h:fV):(cW h).length≤40:=by
 have p1:=Ph.putI_length_le h.term;have p2:=Ph.putI_length_le h.vote;have:=nI 1 (Ph.putI h.term ++ Ph.putI h.vote);rw [List.length_append] at this;unfold cW;omega
theorem yK {e:cD} (hm:eS e=true):(cM e).length≤2560:=by
 have hb:e.data.size≤2500:=by unfold eS at hm;simp at hm;omega
 have p1:=Ph.putI_length_le e.ix;have p2:=Ph.putI_length_le e.term;have p3:=Ph.putI_length_le e.kind;have p4:=m8 e.data;have:=nI 2 (Ph.putI e.ix ++ Ph.putI e.term ++ Ph.putI e.kind ++ Ph.putT e.data.data.toList);simp only [List.length_append] at this;unfold cM;omega
theorem tP:∀{l:List cD},(∀e∈l,eS e=true)→(l.flatMap cM).length≤2560*l.length
 | [],_=>by simp
 |e::l,h=>by
  rw [List.flatMap_cons,List.length_append,List.length_cons];have h1:=yK (h e (List.mem_cons_self ..));have h2:=tP fun e he=>h e (List.mem_cons_of_mem _ he);omega
theorem aCH {l:List cD} {i:Nat} {e:cD} (h:l[i]? =some e):(l.take (i+1)).flatMap cM=(l.take i).flatMap cM ++ cM e:=by
 rw [gB h,List.flatMap_append];simp
theorem aHO (w0 W:World) (h:fV) (s:eC) (log:List cD) (v:Value) (R:List Res) (hh:jH h=true) (hsm:fA s=true) (hl:log.length≤200) (he:∀e∈log,eS e=true) (hr:∀{W},Has 0 w0 W R→Rd W 4 v log.length (log.flatMap bD)) (hw:Has 0 w0 W R):
  Calls Tryz.prog 231 ⟨[.agg ⟨dH h s v⟩]⟩ W fun e W'=>∃x:Option Addr×Nat,e= .returned (.slice x.1 (dC s ++ cW h ++ log.flatMap cM).length x.2)∧True∧Has 0 w0 W' (bP (.slice x.1 (dC s ++ cW h ++ log.flatMap cM).length x.2) (dC s ++ cW h ++ log.flatMap cM)::R):=by
 obtain ⟨vad,vcap,rfl⟩:∃ad cap,v= .slice ad log.length cap:=by obtain ⟨_,ad,cap,e,_⟩:=hr hw;exact ⟨ad,cap,e⟩
 have l1:=aHM hsm;have l2:=aHN h;have l3:=tP he;refine enter Tryz.func231 Tryz.ntmps231 rfl rfl fun a hs=>?_;refine sc hs ?_;refine sn hs hw fun b a W hs hw=>?_;refine zA hs hw ?_;clear hs;intro a hs;refine bG [2,6,7] [.f 0 0,.f 0 0,.m 0,.f 0 1,.f 0 1,.f 0 1,.m 1,.m 2,.f 3 3] [.c0 _,.c0 _,.c1 (fun x=> .slice x.ad (dC s).length x.cap),.c0 _,.c0 _,.c0 _,.c2 (fun x y=> .slice y.ad (cW h).length y.cap),.c3 (fun x y z=> .slice z.ad (dC s ++ cW h).length z.cap),.c3 _] (aA b (dH h s (.slice vad log.length vcap)) 158::R) (fun x=>bP (.slice x.ad (dC s).length x.cap) (dC s)::aA b (dH h s (.slice vad log.length vcap)) 158::R) (fun x y=>bP (.slice y.ad (cW h).length y.cap) (cW h)::bP (.slice x.ad (dC s).length x.cap) (dC s)::aA b (dH h s (.slice vad log.length vcap)) 158::R) (fun x y z=>bP (.slice y.ad (cW h).length y.cap) (cW h)::bP (.slice z.ad (dC s ++ cW h).length z.cap) (dC s ++ cW h)::aA b (dH h s (.slice vad log.length vcap)) 158::R) (fun x y z t=>[]) hs hw ?kk ⟨drs,drs,?m0,drs,drs,drs,?m1,?m2,drs,trivial⟩
 case m0=>
  intro x y z t LD a W hs hw;refine aG hs (hc:=(yE (s:=s) hsm).ok hw.rebase) (k:=?_);rintro e' W' ⟨x,rfl,hw'⟩;exact ⟨_,rfl,fun a hs=>⟨{ad:=x.1,cap:=x.2},hs,hw.trans hw'⟩⟩
 case m1=>
  intro x y z t LD a W hs hw;refine aG hs (hc:=(aBq (h:=h) hh).ok hw.rebase) (k:=?_);rintro e' W' ⟨x,rfl,hw'⟩;exact ⟨_,rfl,fun a hs=>⟨{ad:=x.1,cap:=x.2},hs,hw.trans hw'⟩⟩
 case m2=>
  intro x y z t LD a W hs hw;refine iK hs hw (l:=dC s) (m:=cW h) (hr:=fK (hw.rd_own In.hd) (kD _)) (hb:=by omega) (c:=fun a ad2 cap2 W hs hw=>?_);exact ⟨{ad:=ad2,cap:=cap2},hs,hw⟩
 case kk=>
  intro x y z a W hs hw;replace hs:Slots a 28 [(3,.slice z.ad (dC s ++ cW h).length z.cap),(1,ptr b)]:=hs.ot;replace hw:Has 0 w0 W (bP (.slice z.ad (dC s ++ cW h).length z.cap) (dC s ++ cW h)::aA b (dH h s (.slice vad log.length vcap)) 158::R):=hw.sl;have l4:(dC s ++ cW h).length≤212040:=by rw [List.length_append];omega
  generalize dC s ++ cW h=o at *;have drop:∀{W A B},Has 0 w0 W (A::B::R)→Has 0 w0 W R:=fun h=>h.d2;refine sv hs hw fun a hs=>?_;have e0:o ++ (log.take 0).flatMap cM=o:=by simp
  refine bY (σ:=Nat×Option Addr×Nat) (fun q=>[(3,.slice q.2.1 (o ++ (log.take q.1).flatMap cM).length q.2.2),(15,.slice vad log.length vcap),(16,.int .i64 (log.length:Int)),(17,.int .i64 (q.1:Int))]) (fun q=>bP (.slice q.2.1 (o ++ (log.take q.1).flatMap cM).length q.2.2) (o ++ (log.take q.1).flatMap cM)::aA b (dH h s (.slice vad log.length vcap)) 158::R) (fun q=>q.1≤log.length) (fun q=>log.length - q.1) (0,z.ad,z.cap) (Nat.zero_le _) hs ⟨by rw [e0];rfl,rfl,rfl,rfl,trivial⟩ (by rw [e0];exact hw) ?_;clear hs hw;rintro ⟨i,ad,cap⟩ a W hi hs hw;have hi:i≤log.length:=hi;simp only at hs hw;refine sv hs hw fun a hs=>?_;refine cI hs (kt:=fun hc=>?_) (kf:=fun hc=>?_)
  ·have hi':i<log.length:=by simpa using hc
   obtain ⟨e,he1,hd⟩:=dR hi';have hem:=he e (List.mem_of_getElem? he1);have hsn:=aCH he1;have l5:((log.take i).flatMap cM).length≤2560*200:=Nat.le_trans (tP fun e h=>he e (List.mem_of_mem_take h)) (by rw [List.length_take];omega);have l6:=yK hem;refine sc hs ?_;refine qS hs (hr (drop hw)) he1 fun a b2 o2 hpc hs=>?_;refine eE hs (z:=zEnt) (cs:=bD e) (hc:=hpc) (hl:=by rfl) (c:=fun a hs=>?_);refine sn hs hw fun b8 a W hs hw=>?_;refine sx hs hw fun a W hs hw=>?_;have hw:Has 0 w0 W (aA b8 (bD e) 137::bP (.slice ad (o ++ (log.take i).flatMap cM).length cap) (o ++ (log.take i).flatMap cM)::aA b (dH h s (.slice vad log.length vcap)) 158::R):=hw;refine aG hs (hc:=(aBr (e:=e) hem).ok hw.rebase) (k:=?_);rintro e' W' ⟨x,rfl,hw'⟩;refine ⟨_,rfl,fun a hs=>?_⟩;have hw:=hw.trans hw';refine iK hs hw (l:=o ++ (log.take i).flatMap cM) (m:=cM e) (hr:=fK (hw.rd_own In.hd) (kD _)) (hb:=by rw [List.length_append];omega) (c:=fun a ad2 cap2 W hs hw=>?_);rw [List.append_assoc,←hsn] at hs hw;refine sv hs hw fun a hs=>?_;exact bQ (i+1,ad2,cap2) hs (hw.sl) hi' (by show log.length - (i+1)<log.length - i;omega) ⟨rfl,rfl,rfl,bR (i1 (by omega)),trivial⟩
  ·have:log.take i=log:=List.take_of_length_le (by simp at hc;omega);rw [this] at hs hw;refine sv hs hw fun a hs=>?_;exact rt1 hs rfl rfl ⟨(ad,cap),rfl,trivial,hw.sub (List.Sublist.cons_cons _ (List.Sublist.cons _ (List.Sublist.refl _)))⟩
end Go.Proofs.YtgpbngfehfbndaaGreatDoor.Sw
namespace Go.Sx
open Go.RowKit
section
variable {P:Program} {ops:Array Oper} {aE:List Oper} {Q:Exit→Act→World→Prop} {a:Act} {n:Nat} {L:List (Nat×Value)} {W:World} {d:Nat} {T S E:TypeId} {p:String} {e:Array Edge} {x lo hi mx:Operand} {k cap b o:Nat} {q q':IntKind} {z xs:List Value}
theorem aHR {agg:Bool} [sl:Sl P S E] [t:Ty P E agg z] (hs:Slots a n L) (hx:ev L x=some (.slice none 0 0):=by with_unfolding_all exact rfl) (hh:ev L hi=some (.int q 0):=by with_unfolding_all exact rfl) (hm:ev L mx=some (.int q' 0):=by with_unfolding_all exact rfl) (hd:Nat.blt d n=true:=by with_unfolding_all exact rfl)
  (c:∀a',Slots a' n ((d,.slice none 0 0)::L)→wpList P ops Q aE a' W):wpList P ops Q (⟨some d,.slice S x none (some hi) (some mx),T,p,e,none⟩::aE) a W:=by
 have hb:∀(y:Nat) (c:BoundsCode) (q:IntKind),(Instr.sliceBound (.int q 0) y c).run P W= .ok 0 W:=by
  intro y c q;simp [Instr.sliceBound,asIntOf]
 have hbs:(Instr.sliceBounds true 0 0 none (some (.int q 0)) (some (.int q' 0))).run P W= .ok (0,0,0) W:=by
  unfold Instr.sliceBounds;simp [hb]
 refine bW hs hd (v:= .slice none 0 0) (W':=W) ?_ c;simp only [execOp,Option.map_some,Option.map_none,hs.ev hx,hs.ev hh,hs.ev hm,Instr.sliceAt,Instr.slice,Sem.run_bind,run_underlying sl.out,Result.andThen_ok,hbs,t.sizeOf,Sem.run_pure];simp
def tR (size b o k cap:Nat):Value:= .slice (if cap=1 then some ⟨b,o,none⟩ else some ⟨b,o+size,none⟩) (k - 1) (cap - 1)
theorem aCJ {agg:Bool} [sl:Sl P S E] [t:Ty P E agg z] (hs:Slots a n L) (h1:1≤k) (hc:k≤cap) (hx:ev L x=some (.slice (some ⟨b,o,none⟩) k cap):=by with_unfolding_all exact rfl) (hl:ev L lo=some (.int q 1):=by with_unfolding_all exact rfl) (hd:Nat.blt d n=true:=by with_unfolding_all exact rfl)
  (c:∀a',Slots a' n ((d,tR z.length b o k cap)::L)→wpList P ops Q aE a' W):wpList P ops Q (⟨some d,.slice S x (some lo) none none,T,p,e,none⟩::aE) a W:=by
 have hb:(Instr.sliceBound (.int q 1) k .sliceB).run P W= .ok 1 W:=by
  have:(0:Int)≤(1:Int)∧(1:Int)≤(k:Int):=⟨by omega,by omega⟩
  simp only [Instr.sliceBound,asIntOf,Sem.run_bind,Sem.run_pure,Result.andThen_ok];rw [if_pos this];simp
 have hbs:(Instr.sliceBounds true k cap (some (.int q 1)) none none).run P W= .ok (1,k,cap) W:=by
  unfold Instr.sliceBounds;simp [hb]
 refine bW hs hd (v:=tR z.length b o k cap) (W':=W) ?_ c;simp only [execOp,Option.map_some,Option.map_none,hs.ev hx,hs.ev hl,Instr.sliceAt,Instr.slice,Sem.run_bind,run_underlying sl.out,Result.andThen_ok,hbs,t.sizeOf,Sem.run_pure];unfold tR
 by_cases h0:cap=1
 ·rw [if_pos h0,if_pos h0]
 ·rw [if_neg h0,if_neg h0];simp [eK]
theorem mI (h:Rd W k (.slice (some ⟨b,o,none⟩) n cap) n xs) (hn:0<n):∀(j:Nat) (x:Value),xs[j]? =some x→W.cell? ⟨b,o+j,none⟩=some x:=by
 obtain ⟨_,ad,cap,e,_,_,h|⟨b',o',e2,_,h⟩⟩:=h
 ·omega
 ·injection e with e1 _ _;rw [←e1] at e2;injection e2 with e2;injection e2 with e3 e4 _;subst e3 e4;exact h
theorem jZ {v:Value} (h:Rd W k v n xs) (hn:0<n):∃b o cap,v= .slice (some ⟨b,o,none⟩) n cap∧n≤cap:=by
 obtain ⟨_,ad,cap,e,h2,_,h|⟨b',o',e2,_,h⟩⟩:=h
 ·omega
 ·subst e2;exact ⟨b',o',cap,e,h2⟩
theorem aCK {size:Nat} (h:Rd W size (.slice (some ⟨b,o,none⟩) k cap) k xs) (hk:1≤k):Rd W size (tR size b o k cap) (k - 1) (xs.drop size):=by
 have hc:=mI h (by omega);obtain ⟨h1,ad,cap',e,h2,h3,h4⟩:=h;injection e with e1 _ e2;subst e1 e2;refine ⟨by rw [List.length_drop,h1,Nat.sub_mul,Nat.one_mul],_,_,rfl,by omega,by omega,?_⟩
 by_cases h0:cap=1
 ·exact .inl (by omega)
 ·rcases h4 with h4|⟨b',o',e,hlt,_⟩
  ·omega
  ·injection e with e;injection e with e1 e2 _;subst e1 e2;refine .inr ⟨b,o+size,by rw [if_neg h0],hlt,fun j x hx=>?_⟩;rw [List.getElem?_drop] at hx;rw [Nat.add_assoc];exact hc _ _ hx
end
theorem Has.own_cases {G:Nat} {w W:World} {R:List Res} {E:TypeId} {size k:Nat} {v:Value} {xs:List Value} (h:Has G w W (Own E size v k xs::R)):
  (v= .slice none 0 0∧k=0)∨∃g cap cur,v= .slice (some ⟨g,0,none⟩) k cap∧cur.take (k*size)=xs∧cur.length=cap*size∧k≤cap∧cap≤maxLen∧Has G w W (aA g cur E::R):=by
 obtain ⟨F1,h1,h2,h3⟩:=h.has;obtain ⟨hl,h0|⟨g,cap',cur,e,hF,hg,hnc,hcm,hcs,ht⟩⟩:=h2
 ·exact .inl h0
 ·exact .inr ⟨g,cap',cur,e,ht,hcs,hnc,hcm,h.ext,h.glob,F1,h1,⟨hF,hg⟩,h3⟩
end Go.Sx
namespace Go.Proofs.YtgpbngfehfbndaaGreatDoor.Sw
open Go.RowKit Go.Sx
theorem qT {e:cD} {r l:List cD} (h:l=e::r):(l.flatMap bD)[0]? =some (.int .i64 e.ix)∧(l.flatMap bD)[1]? =some (.int .i64 e.term):=by
 subst h;rw [List.flatMap_cons];exact ⟨rfl,rfl⟩
def okp (l:LogD) (es:List cD):Prop:=∀e r,es=e::r→e.ix≤l.last+1∧gV e.ix e.term r=true
theorem aHS {l:LogD} {e:cD} {r:List cD} (hl:kR l) (h0:0≤e.ix) (h:okp l (e::r)) (hk:e.ix≤l.s.ix∨l.fits e.ix e.term=true):okp l r:=by
 intro e2 r2 hr;obtain ⟨h1,h2⟩:=h e r rfl;have hla:=oO hl;have ⟨hl0,hl1,hl2,_,_⟩:=hl;subst hr;have h3:(!(e2.ix !=w64 (e.ix+1)) && !decide (e2.term<e.term) && gV e2.ix e2.term r2)=true:=h2;simp only [Bool.and_eq_true,Bool.not_eq_true',bne_eq_false_iff_eq] at h3;refine ⟨?_,h3.2⟩;have:e.ix≤l.last:=by
  rcases hk with hk|hk
  ·omega
  ·unfold LogD.fits at hk;rw [Bool.and_eq_true] at hk;have h5:=hk.1;unfold LogD.term at h5;split at h5
   ·cases h5
   ·rename_i h6;omega
 rw [h3.1.1,show w64 (e.ix+1)=e.ix+1 from IntWalk.i64_in _ (by omega)];omega
section
variable {p:Nat} {l:LogD} {w0 W:World} {R:List Res}
theorem qU (es:List cD) (v:Value) (hn:es.length≤200) (hes:∀e∈es,0≤e.ix∧e.data.size≤1000000) (hr:∀{W},Has 0 w0 W R→Rd W 4 v es.length (es.flatMap bD)) (hw:Has 0 w0 W (aH p l::R)):
  Calls Tryz.prog 216 ⟨[ptr p,v]⟩ W fun e W'=>e= .returned (.tuple ⟨[.int .i64 (l.put es).2.1,.bool (l.put es).2.2]⟩)∧Has 0 w0 W' (aH p (l.put es).1::R):=by
 have sub1:∀{W A},Has 0 w0 W (A::R)→Has 0 w0 W R:=fun h=>h.d1;obtain ⟨vad,vcap,rfl⟩:∃ad cap,v= .slice ad es.length cap:=by obtain ⟨_,ad,cap,e,_⟩:=hr (sub1 hw);exact ⟨ad,cap,e⟩
 obtain ⟨hl,_⟩:=iU hw;have hla:=oO hl;have hfi:=tL hl;have ⟨hl0,hl1,hl2,hl3,hl4⟩:=hl;refine enter Tryz.func216 Tryz.ntmps216 rfl rfl fun a hs=>?_;refine sv hs hw fun a hs=>?_;cases h0:((es.length:Int) == 0) with
 |true=>
  rw [h0] at hs;refine sv hs hw fun a hs=>?_;obtain rfl:es= []:=List.eq_nil_of_length_eq_zero (by simpa using h0);exact rt2 hs rfl rfl rfl ⟨rfl,hw⟩
 |false=>
 rw [h0] at hs;have hpos:0<es.length:=by
  rcases Nat.eq_zero_or_pos es.length with h|h
  ·rw [h] at h0;cases h0
  ·exact h
 obtain ⟨e,r,hE⟩:∃e r,es=e::r:=by cases es with|nil=>simp at hpos|cons e r=>exact ⟨e,r,rfl⟩
 obtain ⟨b,o,cap,hv,hcap⟩:=jZ (hr (sub1 hw)) hpos;injection hv with hv1 _ hv2;subst hv1 hv2;have hcell:∀{W},Has 0 w0 W R→_:=fun h=>mI (hr h) hpos;have hfh:=qT hE;have hk0:(0:Int)≤0:=by omega
 have hk1:(0:Int)<((es.length:Nat):Int):=by omega
 have hput:l.put es=if w64 (l.last+1)<e.ix∨gV (w64 (e.ix - 1)) e.term es=false then (l,0,false)
  else match l.skip es with
   | []=>(l,0,true)
   |x::y=>
    if x.term<(l.term (w64 (x.ix - 1))).1∨200<w64 (w64 (x.ix - l.first)+((x::y).length:Int)) then (l,0,false)
    else (⟨l.s,l.l.take (w64 (x.ix - l.first)).toNat ++ (x::y)⟩,x.ix,true):=by rw [hE];rfl
 refine sc hs ?_;cases c1:decide (e.ix > w64 (l.last+1)) with
 |true=>
  refine bG [5,19] [.f 0 1,.f 0 1,.f 0 1,.f 0 1,.f 0 0,.m 0,.f 1 1,.f 1 1,.f 1 1,.f 1 1,.f 1 1,.f 1 1,.f 1 1,.f 1 1,.f 1 1,.f 1 1,.f 1 1,.f 1 1,.f 1 1,.m 1,.f 2 2,.f 2 2] [.c0 _,.c0 _,.c0 _,.c0 (.int .i64 e.ix),.c0 _,.c1 (fun x=> .int .i64 l.last),.c1 _,.c1 (fun x=> .bool true),.c1 _,.c1 _,.c1 _,.c1 _,.c1 _,.c1 _,.c1 _,.c1 _,.c1 _,.c1 _,.c1 _,.c2 (fun x y=>undef),.c2 _,.c2 _] (aH p l::R) (fun x=>aH p l::R) (fun x y=>aH p l::R) (fun x y z=>[]) (fun x y z t=>[]) hs hw ?kk ⟨drs,drs,drs,?f3,drs,drm,drs,?f7,drs,drs,drs,drs,drs,drs,drs,drs,drs,drs,drs,drm,drs,drs,trivial⟩
  case f3=>
   refine ⟨?_,?_,trivial,trivial,trivial⟩ <;>
   ·intro x y z t LD a W hs hw;refine eN hs (hc:=hcell (sub1 hw) 0 _ hfh.1) (c:=fun a hs=>?_);exact ⟨hs,hw⟩
  case f7=>
   refine ⟨trivial,?_,trivial,trivial,trivial⟩;intro x y z t LD a W hs hw;refine sv hs hw fun a hs=>?_;rw [show decide (e.ix > IntKind.i64.wrap (l.last+1))=true from c1] at hs;exact ⟨hs,hw⟩
  case kk=>
   intro _ _ a W hs hw;refine sv hs hw fun a hs=>?_;rw [hput,if_pos (.inl (of_decide_eq_true c1))];exact rt2 hs rfl rfl rfl ⟨rfl,hw⟩
 |false=>
 refine bG [5,19] [.f 0 1,.f 0 1,.f 0 1,.f 0 1,.f 0 0,.m 0,.f 1 1,.f 1 1,.f 1 1,.f 1 1,.f 1 1,.f 1 1,.f 1 1,.f 1 1,.f 1 1,.f 1 1,.f 1 1,.f 1 1,.f 1 1,.m 1,.f 2 2,.f 2 2] [.c0 _,.c0 _,.c0 _,.c0 (.int .i64 e.ix),.c0 _,.c1 (fun x=> .int .i64 l.last),.c1 _,.c1 (fun x=> .bool false),.c1 _,.c1 _,.c1 _,.c1 _,.c1 (fun x=> .int .i64 e.ix),.c1 _,.c1 _,.c1 _,.c1 _,.c1 (fun x=> .int .i64 e.term),.c1 _,.c2 (fun x y=> .bool (gV (w64 (e.ix - 1)) e.term es)),.c2 _,.c2 _] (aH p l::R) (fun x=>aH p l::R) (fun x y=>aH p l::R) (fun x y z=>[]) (fun x y z t=>[]) hs hw ?kk ⟨drs,drs,drs,?f3,drs,drm,drs,?f7,drs,drs,drs,drs,?f12,drs,drs,drs,drs,?f17,drs,?m1,drs,drs,trivial⟩
 case f3=>
  refine ⟨?_,?_,trivial,trivial,trivial⟩ <;>
  ·intro x y z t LD a W hs hw;refine eN hs (hc:=hcell (sub1 hw) 0 _ hfh.1) (c:=fun a hs=>?_);exact ⟨hs,hw⟩
 case f7=>
  refine ⟨trivial,?_,trivial,trivial,trivial⟩;intro x y z t LD a W hs hw;refine sv hs hw fun a hs=>?_;rw [show decide (e.ix > IntKind.i64.wrap (l.last+1))=false from c1] at hs;exact ⟨hs,hw⟩
 case f12=>
  refine ⟨trivial,?_,trivial,trivial,trivial⟩;intro x y z t LD a W hs hw;refine sc hs ?_;refine eN hs (hc:=hcell (sub1 hw) 0 _ hfh.1) (c:=fun a hs=>?_);exact ⟨hs,hw⟩
 case f17=>
  refine ⟨trivial,?_,trivial,trivial,trivial⟩;intro x y z t LD a W hs hw;refine sc hs ?_;refine eN hs (hc:=hcell (sub1 hw) 1 _ hfh.2) (c:=fun a hs=>?_);exact ⟨hs,hw⟩
 case m1=>
  intro x y z t LD a W hs hw;refine sc hs ?_;refine cl hs (aCD w0 _ (w64 (e.ix - 1)) e.term es _ (aH p l::R) (fun h=>hr (sub1 h)) hw) fun a W hs hw=>?_;exact ⟨{},hs,hw⟩
 case kk=>
 intro _ _ a W hs hw;replace hs:Slots a 110 [(0,ptr p),(1,.slice (some ⟨b,o,none⟩) es.length vcap),(36,.bool (!gV (w64 (e.ix - 1)) e.term es))]:=hs.ot;cases c2:gV (w64 (e.ix - 1)) e.term es with
 |false=>
  rw [c2] at hs;refine sv hs hw fun a hs=>?_;rw [hput,if_pos (.inr c2)];exact rt2 hs rfl rfl rfl ⟨rfl,hw⟩
 |true=>
 rw [c2] at hs;have hput2:l.put es=match l.skip es with
   | []=>(l,0,true)
   |x::y=>
    if x.term<(l.term (w64 (x.ix - 1))).1∨200<w64 (w64 (x.ix - l.first)+((x::y).length:Int)) then (l,0,false)
    else (⟨l.s,l.l.take (w64 (x.ix - l.first)).toNat ++ (x::y)⟩,x.ix,true):=by rw [hput,if_neg (by have:=of_decide_eq_false c1;rw [c2];simp;omega)]
 have hokp:okp l es:=by
  intro e' r' h;rw [hE] at h;injection h with h1 h2;subst h1 h2;have:=of_decide_eq_false c1;have hw64:w64 (l.last+1)=l.last+1:=IntWalk.i64_in _ (by omega);rw [hw64] at this;refine ⟨by omega,?_⟩;rw [hE] at c2;have h3:(!(e.ix !=w64 (w64 (e.ix - 1)+1)) && !decide (e.term<e.term) && gV e.ix e.term r)=true:=c2;simp only [Bool.and_eq_true] at h3;exact h3.2
 clear hcell hfh hk0 hk1 hput;refine sc hs ?_;refine bY (σ:=Nat×Option Addr×Nat) (fun q=>[(0,ptr p),(1,.slice q.2.1 (es.length - q.1) q.2.2)]) (fun _=>aH p l::R) (fun q=>q.1≤es.length∧(∀W,Has 0 w0 W R→Rd W 4 (.slice q.2.1 (es.length - q.1) q.2.2) (es.length - q.1) ((es.drop q.1).flatMap bD))∧okp l (es.drop q.1)∧l.skip es=l.skip (es.drop q.1)) (fun q=>es.length - q.1) (0,some ⟨b,o,none⟩,vcap) ⟨Nat.zero_le _,fun W h=>hr h,hokp,rfl⟩ hs ⟨rfl,rfl,trivial⟩ hw ?_;clear hs hw;rintro ⟨j,ad,cap⟩ a W ⟨hj,hrj,hoj,hsk⟩ hs hw;simp only at hj hrj hoj hsk hs hw
 by_cases hj':j=es.length
 ·have hz:es.length - j=0:=by omega
  rw [hz] at hs;refine sc hs ?_;refine bG [24] [.f 0 0,.f 0 0,.f 0 0,.f 0 0,.f 0 0,.f 0 0,.f 0 0,.f 0 0,.f 0 0,.f 0 0,.f 0 0,.f 0 0,.f 0 0,.f 0 0,.f 0 0,.f 0 0,.f 0 0,.f 0 0,.f 0 0,.f 0 0,.f 0 0,.f 0 0,.f 0 0,.f 0 0,.m 0,.f 1 1,.f 1 1] [.c0 _,.c0 _,.c0 _,.c0 _,.c0 _,.c0 _,.c0 _,.c0 _,.c0 _,.c0 _,.c0 _,.c0 _,.c0 _,.c0 _,.c0 _,.c0 _,.c0 _,.c0 _,.c0 _,.c0 _,.c0 _,.c0 _,.c0 _,.c0 _,.c1 (fun x=>undef),.c1 _,.c1 _] (aH p l::R) (fun x=>aH p l::R) (fun x y=>[]) (fun x y z=>[]) (fun x y z t=>[]) hs hw ?kk ⟨drs,drs,drs,drs,drs,drs,drs,drs,drs,drs,drs,drs,drs,drs,drs,drs,drs,drs,drs,drs,drs,drs,drs,drs,drm,drs,drs,trivial⟩
  case kk=>
   intro _ a W hs hw;refine sv hs hw fun a hs=>?_;rw [show l.put es=(l,0,true) by rw [hput2,hsk,List.drop_of_length_le (by omega)];rfl];exact rt2 hs rfl rfl rfl ⟨rfl,hw⟩
 ·have hlt:j<es.length:=by omega
  obtain ⟨e',he',hd⟩:=dR hlt;have hmem:=hes e' (List.mem_of_getElem? he');obtain ⟨b',o',cap',hv,hcap'⟩:=jZ (hrj W (sub1 hw)) (by omega);injection hv with hv1 _ hv2;subst hv1 hv2;have hcell:∀{W},Has 0 w0 W R→_:=fun {W} h=>mI (hrj W h) (by omega);have hfh:=qT hd;have hk0:(0:Int)≤0:=by omega
  have hk1:(0:Int)<((es.length - j:Nat):Int):=by omega
  have hg0:decide (((es.length - j:Nat):Int) > 0)=true:=decide_eq_true hk1;have hnx:okp l (es.drop (j+1))∨¬(e'.ix≤l.s.ix∨l.fits e'.ix e'.term=true):=by
   by_cases h:e'.ix≤l.s.ix∨l.fits e'.ix e'.term=true
   ·exact .inl (aHS hl hmem.1 (hd▸hoj) h)
   ·exact .inr h
  have hfl:(es.drop (j+1)).flatMap bD=((es.drop j).flatMap bD).drop 4:=by rw [hd,List.flatMap_cons];rfl
  have hskn:e'.ix≤l.s.ix∨l.fits e'.ix e'.term=true→l.skip es=l.skip (es.drop (j+1)):=by
   intro h;rw [hsk,hd];show (if e'.ix≤l.s.ix∨l.fits e'.ix e'.term=true then l.skip (es.drop (j+1)) else _)=_;rw [if_pos h]
  refine sc hs ?_;cases c3:decide (e'.ix≤l.s.ix) with
  |true=>
   have hor:e'.ix≤l.s.ix∨l.fits e'.ix e'.term=true:= .inl (of_decide_eq_true c3);refine bG [24] [.f 0 0,.f 0 0,.f 0 0,.f 0 0,.f 0 0,.f 0 0,.f 0 0,.f 0 0,.f 0 0,.f 0 0,.f 0 0,.f 0 0,.f 0 0,.f 0 0,.f 0 0,.f 0 0,.f 0 0,.f 0 0,.f 0 0,.f 0 0,.f 0 0,.f 0 0,.f 0 0,.f 0 0,.m 0,.f 1 1,.f 1 1] [.c0 _,.c0 _,.c0 (.bool true),.c0 _,.c0 _,.c0 _,.c0 _,.c0 (.int .i64 e'.ix),.c0 _,.c0 _,.c0 _,.c0 _,.c0 (.int .i64 l.s.ix),.c0 (.bool true),.c0 _,.c0 _,.c0 _,.c0 _,.c0 _,.c0 _,.c0 _,.c0 _,.c0 _,.c0 _,.c1 (fun x=>undef),.c1 _,.c1 _] (aH p l::R) (fun x=>aH p l::R) (fun x y=>[]) (fun x y z=>[]) (fun x y z t=>[]) hs hw ?kk ⟨drs,drs,?f2,drs,drs,drs,drs,?f7,drs,drs,drs,drs,?f12,?f13,drs,drs,drs,drs,drs,drs,drs,drs,drs,drs,drm,drs,drs,trivial⟩
   case f2=>
    refine ⟨?_,trivial,trivial,trivial,trivial⟩;intro x y z t LD a W hs hw;refine sv hs hw fun a hs=>?_;rw [hg0] at hs;exact ⟨hs,hw⟩
   case f7=>
    refine ⟨?_,trivial,trivial,trivial,trivial⟩;intro x y z t LD a W hs hw;refine sc hs ?_;refine eN hs (hc:=hcell (sub1 hw) 0 _ hfh.1) (c:=fun a hs=>?_);exact ⟨hs,hw⟩
   case f12=>
    refine ⟨?_,trivial,trivial,trivial,trivial⟩;intro x y z t LD a W hs hw;obtain ⟨_,ad3,cap3,hw2⟩:=iU hw;refine sc hs ?_;refine fY hs (hw:=hw2) (hi:=In.hd) (k:=fun a hs=>?_);exact ⟨hs,hw⟩
   case f13=>
    refine ⟨?_,trivial,trivial,trivial,trivial⟩;intro x y z t LD a W hs hw;refine sv hs hw fun a hs=>?_;rw [c3] at hs;exact ⟨hs,hw⟩
   case kk=>
    intro _ a W hs hw;refine sv hs hw fun a hs=>?_;refine aCJ hs (by omega) hcap' (c:=fun a hs=>?_);refine sv hs hw fun a hs=>?_;have hlen:es.length - (j+1)=es.length - j - 1:=by omega
    exact bQ (j+1,_,cap - 1) hs hw ⟨hlt,fun W h=>by rw [hlen,hfl];exact aCK (hrj W h) (by omega),hnx.resolve_right (fun h=>h hor),hskn hor⟩ (by show es.length - (j+1)<es.length - j;omega) ⟨rfl,by rw [hlen];rfl,trivial⟩
  |false=>
   refine bG [24] [.f 0 0,.f 0 0,.f 0 0,.f 0 0,.f 0 0,.f 0 0,.f 0 0,.f 0 0,.f 0 0,.f 0 0,.f 0 0,.f 0 0,.f 0 0,.f 0 0,.f 0 0,.f 0 0,.f 0 0,.f 0 0,.f 0 0,.f 0 0,.f 0 0,.f 0 0,.f 0 0,.f 0 0,.m 0,.f 1 1,.f 1 1] [.c0 _,.c0 _,.c0 (.bool true),.c0 _,.c0 _,.c0 _,.c0 _,.c0 (.int .i64 e'.ix),.c0 _,.c0 _,.c0 _,.c0 _,.c0 (.int .i64 l.s.ix),.c0 (.bool false),.c0 _,.c0 _,.c0 _,.c0 _,.c0 _,.c0 (.int .i64 e'.ix),.c0 _,.c0 _,.c0 _,.c0 (.int .i64 e'.term),.c1 (fun x=> .bool (l.fits e'.ix e'.term)),.c1 _,.c1 _] (aH p l::R) (fun x=>aH p l::R) (fun x y=>[]) (fun x y z=>[]) (fun x y z t=>[]) hs hw ?kk ⟨drs,drs,?f2,drs,drs,drs,drs,?f7,drs,drs,drs,drs,?f12,?f13,drs,drs,drs,drs,drs,?f19,drs,drs,drs,?f23,drm,drs,drs,trivial⟩
   case f2=>
    refine ⟨?_,trivial,trivial,trivial,trivial⟩;intro x y z t LD a W hs hw;refine sv hs hw fun a hs=>?_;rw [hg0] at hs;exact ⟨hs,hw⟩
   case f7=>
    refine ⟨?_,trivial,trivial,trivial,trivial⟩;intro x y z t LD a W hs hw;refine sc hs ?_;refine eN hs (hc:=hcell (sub1 hw) 0 _ hfh.1) (c:=fun a hs=>?_);exact ⟨hs,hw⟩
   case f12=>
    refine ⟨?_,trivial,trivial,trivial,trivial⟩;intro x y z t LD a W hs hw;obtain ⟨_,ad3,cap3,hw2⟩:=iU hw;refine sc hs ?_;refine fY hs (hw:=hw2) (hi:=In.hd) (k:=fun a hs=>?_);exact ⟨hs,hw⟩
   case f13=>
    refine ⟨?_,trivial,trivial,trivial,trivial⟩;intro x y z t LD a W hs hw;refine sv hs hw fun a hs=>?_;rw [c3] at hs;exact ⟨hs,hw⟩
   case f19=>
    refine ⟨?_,trivial,trivial,trivial,trivial⟩;intro x y z t LD a W hs hw;refine sc hs ?_;refine eN hs (hc:=hcell (sub1 hw) 0 _ hfh.1) (c:=fun a hs=>?_);exact ⟨hs,hw⟩
   case f23=>
    refine ⟨?_,trivial,trivial,trivial,trivial⟩;intro x y z t LD a W hs hw;refine sc hs ?_;refine eN hs (hc:=hcell (sub1 hw) 1 _ hfh.2) (c:=fun a hs=>?_);exact ⟨hs,hw⟩
   case kk=>
   intro _ a W hs hw;replace hs:Slots a 110 [(0,ptr p),(1,.slice (some ⟨b',o',none⟩) (es.length - j) cap),(63,.bool (l.fits e'.ix e'.term))]:=hs.ot;cases c4:l.fits e'.ix e'.term with
   |true=>
    rw [c4] at hs;have hor:e'.ix≤l.s.ix∨l.fits e'.ix e'.term=true:= .inr c4;refine sv hs hw fun a hs=>?_;refine aCJ hs (by omega) hcap' (c:=fun a hs=>?_);refine sv hs hw fun a hs=>?_;have hlen:es.length - (j+1)=es.length - j - 1:=by omega
    exact bQ (j+1,_,cap - 1) hs hw ⟨hlt,fun W h=>by rw [hlen,hfl];exact aCK (hrj W h) (by omega),hnx.resolve_right (fun h=>h hor),hskn hor⟩ (by show es.length - (j+1)<es.length - j;omega) ⟨rfl,by rw [hlen];rfl,trivial⟩
   |false=>
    rw [c4] at hs;have hskx:l.skip es=e'::es.drop (j+1):=by
     rw [hsk,hd];show (if e'.ix≤l.s.ix∨l.fits e'.ix e'.term=true then _ else _)=_;rw [if_neg (by rw [c4];have:=of_decide_eq_false c3;simp;omega)]
    have hx1:e'.ix≤l.last+1:=by rw [hd] at hoj;exact (hoj _ _ rfl).1
    have hx2:l.s.ix<e'.ix:=by have:=of_decide_eq_false c3;omega
    obtain ⟨k,hk,hkl⟩:∃k:Nat,w64 (e'.ix - l.first)=(k:Int)∧k≤l.l.length:=⟨(e'.ix - l.first).toNat,by rw [show w64 (e'.ix - l.first)=e'.ix - l.first from IntWalk.i64_in _ (by omega)];omega,by omega⟩
    have hlen:(e'::es.drop (j+1)).length=es.length - j:=by rw [←hd,List.length_drop]
    have hz:(((es.length - j:Nat):Int) == 0)=false:=by simp;omega
    have hp3:l.put es=if e'.term<(l.term (w64 (e'.ix - 1))).1∨200<w64 ((k:Int)+((es.length - j:Nat):Int)) then (l,0,false) else (⟨l.s,l.l.take k ++ es.drop j⟩,e'.ix,true):=by
     rw [hput2,hskx];show (if _∨200<w64 (w64 (e'.ix - l.first)+((e'::es.drop (j+1)).length:Int)) then _ else ((⟨l.s,l.l.take (w64 (e'.ix - l.first)).toNat ++ (e'::es.drop (j+1))⟩:LogD),_,_))=_;rw [hlen,hk,←hd,Int.toNat_natCast]
    refine sv hs hw fun a hs=>?_;rw [hz] at hs;refine sv hs hw fun a hs=>?_;refine eF hs (h0:=hk0) (h1:=hk1) (c:=fun a hs=>?_);refine sv hs hw fun a hs=>?_;refine eN hs (hc:=hcell (sub1 hw) 0 _ hfh.1) (c:=fun a hs=>?_);refine sx hs hw fun a W hs hw=>?_;rw [show IntKind.i64.wrap (e'.ix - l.first)=(k:Int) from hk] at hs;refine eF hs (h0:=hk0) (h1:=hk1) (c:=fun a hs=>?_);refine sv hs hw fun a hs=>?_;refine eN hs (hc:=hcell (sub1 hw) 1 _ hfh.2) (c:=fun a hs=>?_);refine sv hs hw fun a hs=>?_;rw [show IntKind.i64.wrap (e'.ix - 1)=w64 (e'.ix - 1) from rfl] at hs;cases c5:decide (e'.term<(l.term (w64 (e'.ix - 1))).1) with
    |true=>
     rw [c5] at hs;refine sv hs hw fun a hs=>?_;rw [hp3,if_pos (.inl (of_decide_eq_true c5))];exact rt2 hs rfl rfl rfl ⟨rfl,hw⟩
    |false=>
    rw [c5] at hs;refine sv hs hw fun a hs=>?_;rw [show IntKind.i64.wrap ((k:Int)+((es.length - j:Nat):Int))=w64 ((k:Int)+((es.length - j:Nat):Int)) from rfl] at hs;cases c6:decide (w64 ((k:Int)+((es.length - j:Nat):Int)) > 200) with
    |true=>
     rw [c6] at hs;refine sv hs hw fun a hs=>?_;rw [hp3,if_pos (.inr (of_decide_eq_true c6))];exact rt2 hs rfl rfl rfl ⟨rfl,hw⟩
    |false=>
    rw [c6] at hs;have h5:=of_decide_eq_false c5;have h6:=of_decide_eq_false c6;rw [hp3,if_neg (by omega)];have hsum:k+(es.length - j)≤200:=by
     rw [show w64 ((k:Int)+((es.length - j:Nat):Int))=(k:Int)+((es.length - j:Nat):Int) from IntWalk.i64_in _ (by omega)] at h6;omega
    have hlen2:(l.l.take k ++ es.drop j).length=k+(es.length - j):=by rw [List.length_append,List.length_take,List.length_drop];omega
    have hfm:(l.l.take k ++ es.drop j).flatMap bD=(l.l.take k).flatMap bD ++ (es.drop j).flatMap bD:=List.flatMap_append
    have hwf:kR ⟨l.s,l.l.take k ++ es.drop j⟩:=⟨hl0,hl1,by show (l.l.take k ++ es.drop j).length≤200;omega,hl3,fun e h=>by
     rcases List.mem_append.1 h with h|h
     ·exact hl4 e (List.mem_of_mem_take h)
     ·exact (hes e (List.mem_of_mem_drop h)).2⟩
    obtain ⟨_,ad3,cap3,hw⟩:=iU hw;rcases (show Has 0 w0 W (Sx.Own 137 4 (.slice ad3 l.l.length cap3) l.l.length (l.l.flatMap bD)::eT p l.s (.slice ad3 l.l.length cap3)::R) from hw.swap2).own_cases with ⟨hv,hv0⟩|⟨g,cap4,cur,hv,hcur,hcl,hkc,hcm,hw⟩
    ·injection hv with hv1 _ hv2;subst hv1 hv2;obtain rfl:k=0:=by omega
     have hnil:l.l= []:=List.eq_nil_of_length_eq_zero hv0;rw [hnil] at hw hlen2 hfm hwf⊢;refine sv hs hw fun a hs=>?_;refine aHR hs (c:=fun a hs=>?_);refine sv hs hw fun a hs=>?_;refine kZ hs (hw:=(hw.swap2:Has 0 w0 W (Sx.Own 137 4 (.slice none 0 0) 0 []::eT p l.s (.slice none 0 0)::R))) (k:=0) (m:=es.length - j) (xs:=[]) (news:=(es.drop j).flatMap bD) (hsrc:=fK (hrj _ (sub1 (hw.d1))) (tM _)) (h63:=by omega) (hb:=by omega) (c:=fun a ad2 cap2 W hs hw=>?_);refine sx hs hw fun a W hs hw=>?_;refine rt2 hs rfl rfl rfl ⟨rfl,?_⟩;refine iD (l:=⟨l.s,[].take 0 ++ es.drop j⟩) (v:= .slice ad2 (0+(es.length - j)) cap2) ?_ hwf;show Has 0 w0 W (eT p l.s _::Sx.Own _ 4 _ ([].take 0 ++ es.drop j).length (([].take 0 ++ es.drop j).flatMap bD)::R);rw [hlen2,hfm];exact hw.swap2
    ·injection hv with hv1 _ hv2;subst hv1 hv2;refine sv hs hw fun a hs=>?_;refine aGo hs (z:=zEnt) (g:=g) (k:=k) (cap:=cap3) (hk:=by omega) (c:=fun a hs=>?_);refine sv hs hw fun a hs=>?_;have htk:cur.take (k*4)=(l.l.take k).flatMap bD:=by rw [tO,←hcur,List.take_take,Nat.min_eq_left (by omega)]
     refine aGp hs hw (hw.block In.hd).1 (k:=k) (size:=4) (m:=es.length - j) (by omega) htk (fK (hrj _ (sub1 (hw.d1))) (tM _)) (by omega) (by omega) (by omega) (c:=fun a ad2 cap2 W hs hw=>?_);refine sx hs hw fun a W hs hw=>?_;refine rt2 hs rfl rfl rfl ⟨rfl,?_⟩;refine iD (l:=⟨l.s,l.l.take k ++ es.drop j⟩) (v:= .slice ad2 (k+(es.length - j)) cap2) ?_ hwf;show Has 0 w0 W (eT p l.s _::Sx.Own _ 4 _ (l.l.take k ++ es.drop j).length ((l.l.take k ++ es.drop j).flatMap bD)::R);rw [hlen2,hfm];exact hw.sl
end
end Go.Proofs.YtgpbngfehfbndaaGreatDoor.Sw
namespace Go.Sx
open Go.RowKit
section
variable {P:Program} {ops:Array Oper} {aE:List Oper} {Q:Exit→Act→World→Prop} {a:Act} {n:Nat} {L:List (Nat×Value)} {W:World} {d k cap:Nat} {T S S' E:TypeId} {p:String} {e:Array Edge} {x:Operand} {ad:Option Addr}
theorem yO [sl:Sl P S E] (hs:Slots a n L) (c:∀a',Slots a' n ((d,.bool (!ad.isNone))::L)→wpList P ops Q aE a' W) (hx:ev L x=some (.slice ad k cap):=by with_unfolding_all exact rfl) (hd:Nat.blt d n=true:=by with_unfolding_all exact rfl):wpList P ops Q (⟨some d,.binOp .neq S x (.const (.slice none 0 0)) S',T,p,e,none⟩::aE) a W:=by
 refine bW hs hd (W':=W) ?_ c;have h2:(binOp .neq S (.slice ad k cap) (.slice none 0 0)).run P W= .ok (.bool (!ad.isNone)) W:=run_neq_slice_nil W S E ad k cap sl.out;have h3:a.eval (.const (.slice none 0 0))= .slice none 0 0:=rfl;simp only [execOp,hs.ev hx,h3,Sem.run_bind];simp [eqGuard,h2]
end
end Go.Sx
namespace Go.Proofs.YtgpbngfehfbndaaGreatDoor.Sw
open Go.RowKit Go.Sx
abbrev aI (m:bS) (v:Value):List Value:=[.int .i64 m.kind,.int .i64 m.from_,.int .i64 m.to_,.int .i64 m.term,.int .i64 m.ix,.int .i64 m.lterm,.int .i64 m.commit,.bool m.yes,v,.int .i64 m.snap.ix,.int .i64 m.snap.term,.string m.snap.conf,.string m.snap.data]
def MsgIn (H:Fh) (m:bS) (cs:List Value):Prop:=∃v,cs=aI m v∧fW H v m.es∧m.snap.conf.size≤1000000
theorem MsgIn.len {H:Fh}:∀(m:bS) (c:List Value),MsgIn H m c→c.length=13:=by rintro m c ⟨v,rfl,_⟩;rfl
theorem MsgIn.le {H H':Fh} (h:H.le H'):∀(m:bS) (c:List Value),MsgIn H m c→MsgIn H' m c:=by rintro m c ⟨v,rfl,h1,h2⟩;exact ⟨v,rfl,h1.le h,h2⟩
theorem MsgIn.ones {H:Fh}:∀(m:bS) (c:List Value),MsgIn H m c→∀v∈c,v.oneCell'=true:=by
 rintro m c ⟨v,rfl,h,_⟩ u hu;obtain ⟨ad,cap,rfl⟩:=h.slice;simp only [aI,List.mem_cons,List.not_mem_nil,or_false] at hu;rcases hu with rfl|rfl|rfl|rfl|rfl|rfl|rfl|rfl|rfl|rfl|rfl|rfl|rfl <;> rfl
def aD (H:Fh) (v:Value) (l:List bS):Res:=Ex fun xs:List Value=>Sx.Own 38 13 v l.length xs::bO (Ch (MsgIn H) l xs):: []
def VoR (v:Value):lF→Res
 |none=>bO (v= .pointer none)
 |some o=>Ex fun q:Nat=>gF q o::bO (v=ptr q):: []
def ToR (v:Value):jY→Res
 |none=>bO (v= .pointer none)
 |some o=>Ex fun q:Nat=>gM q o::bO (v=ptr q):: []
abbrev gZ (p:Nat) (id ht hv:Int) (pl:Nat) (cm role ldr:Int) (hrd:Bool) (pv pt mv:Value) (hard:Bool) (fr:Int) (sp:Bool):Res:=aA p [.int .i64 id,.int .i64 ht,.int .i64 hv,ptr pl,.int .i64 cm,.int .i64 role,.int .i64 ldr,.bool hrd,pv,pt,mv,.bool hard,.int .i64 fr,.bool sp] 105
abbrev aK (p:Nat) (r:RaftD) (pl:Nat) (pv pt mv:Value):Res:=aA p [.int .i64 r.id,.int .i64 r.h.term,.int .i64 r.h.vote,ptr pl,.int .i64 r.commit,.int .i64 r.role,.int .i64 r.leader,.bool r.heard,pv,pt,mv,.bool r.out.hard,.int .i64 r.out.from_,.bool r.out.snap] 105
def aF (H:Fh) (p:Nat) (r:RaftD):Res:=Ex fun x:Nat×Value×Value×Value=>aK p r x.1 x.2.1 x.2.2.1 x.2.2.2::aH x.1 r.l::VoR x.2.1 r.v::ToR x.2.2.1 r.t::aD H x.2.2.2 r.out.msgs:: []
section
variable {H H':Fh} {p pl:Nat} {pv pt mv:Value} {r:RaftD} {w W:World} {R L:List Res} {l:List bS} {v:Value}
theorem q9 (h:Has 0 w W (aD H v l::R)):∃ad cap xs,v= .slice ad l.length cap∧Ch (MsgIn H) l xs∧Has 0 w W (Sx.Own 38 13 v l.length xs::R):=by
 obtain ⟨xs,h⟩:=Has.open h;have h:Has 0 w W (Sx.Own 38 13 v l.length xs::bO (Ch (MsgIn H) l xs)::R):=h;obtain ⟨ad,cap,rfl⟩:=h.own_slice;exact ⟨ad,cap,xs,rfl,h.told (In.tl In.hd),h.sl⟩
theorem j0 {xs:List Value} (h:Has 0 w W (Sx.Own 38 13 v l.length xs::R)) (hc:Ch (MsgIn H) l xs):Has 0 w W (aD H v l::R):=Has.shut xs ((h.fact hc).pm)
theorem yP (h:Has 0 w W (aD H v l::R)) (hl:H.le H'):Has 0 w W (aD H' v l::R):=by
 obtain ⟨ad,cap,xs,rfl,hc,h⟩:=q9 h;exact j0 h (hc.mono (MsgIn.le hl))
theorem cG (h:Has 0 w W (aK p r pl pv pt mv::aH pl r.l::VoR pv r.v::ToR pt r.t::aD H mv r.out.msgs::R)):Has 0 w W (aF H p r::R):=Has.shut (pl,pv,pt,mv) h
theorem dG (h:Has 0 w W (aF H p r::R)):∃pl pv pt mv,Has 0 w W (aK p r pl pv pt mv::aH pl r.l::VoR pv r.v::ToR pt r.t::aD H mv r.out.msgs::R):=by
 obtain ⟨⟨pl,pv,pt,mv⟩,h⟩:=Has.open h;exact ⟨pl,pv,pt,mv,h⟩
theorem aCN (h:Has 0 w W (aF H p r::R)) (hl:H.le H'):Has 0 w W (aF H' p r::R):=by
 obtain ⟨pl,pv,pt,mv,h⟩:=dG h;have h:Has 0 w W (aD H mv r.out.msgs::aK p r pl pv pt mv::aH pl r.l::VoR pv r.v::ToR pt r.t::R):=h.pm;exact cG ((yP h hl).pm)
theorem aCO {b:Nat} {lo:Int} {l:List Int} {L1:List Res} (hl:l.length≤100) [c:dI (fun l=>aA b (l.map (Value.int .i64)) 2) L l L1]:Get Tryz.prog 204 [.int .i64 lo,.slice (some ⟨b,0,none⟩) l.length l.length] L (.bool (inR lo 1099511627776 l)) L:=⟨fun {w W} hw=>by
 have hr:∀{W},Has 0 w W L→Rd W 1 (.slice (some ⟨b,0,none⟩) l.length l.length) l.length (l.map (Value.int .i64)):=fun h=>(h.pick c.p).rd_lit In.hd (by simp) (by omega);refine enter Tryz.func204 Tryz.ntmps204 rfl rfl fun a hs=>?_;refine sv hs hw fun a hs=>?_;refine bY (σ:=Nat) (fun i=>[(0,.int .i64 lo),(7,.slice (some ⟨b,0,none⟩) l.length l.length),(8,.int .i64 (l.length:Int)),(9,.int .i64 (i:Int))]) (fun _=>L) (fun i=>i≤l.length∧inR lo 1099511627776 l=inR lo 1099511627776 (l.drop i)) (fun i=>l.length - i) 0 ⟨Nat.zero_le _,rfl⟩ hs ⟨rfl,rfl,rfl,rfl,trivial⟩ hw ?_;clear hs hw;rintro i a W ⟨hi',hh⟩ hs hw;refine sv hs hw fun a hs=>?_;refine cI hs (kt:=fun hc=>?_) (kf:=fun hc=>?_)
 ·have hi2:i<l.length:=by simpa using hc
  obtain ⟨o,ho,hd⟩:=dR hi2;rw [hd] at hh;refine sc hs ?_;refine hQ hs (hr hw) ho rfl fun a b f hs=>?_;refine sv hs hw fun a hs=>?_;have hq:inR lo 1099511627776 (o::l.drop (i+1))=(!decide (o<lo) && !decide (o > 1099511627776) && inR lo 1099511627776 (l.drop (i+1))):=rfl;cases c1:decide (o<lo) with
  |true=>
   rw [c1] at hs hq;refine sv hs hw fun a hs=>?_;exact rt1 hs rfl rfl ⟨by rw [hh,hq];rfl,hw⟩
  |false=>
  rw [c1] at hs hq;refine sv hs hw fun a hs=>?_;cases c2:decide (o > 1099511627776) with
  |true=>
   rw [c2] at hs hq;refine sv hs hw fun a hs=>?_;exact rt1 hs rfl rfl ⟨by rw [hh,hq];rfl,hw⟩
  |false=>
   rw [c2] at hs hq;refine sv hs hw fun a hs=>?_;exact bQ (i+1) hs hw ⟨hi2,by rw [hh,hq];simp⟩ (by omega) ⟨rfl,rfl,rfl,bR (i1 (by omega)),trivial⟩
 ·have:l.drop i= []:=List.drop_eq_nil_of_le (by simp at hc;omega);refine sv hs hw fun a hs=>?_
  exact rt1 hs rfl rfl ⟨by rw [hh,this];rfl,hw⟩⟩
instance raft_server {x:Int}:Get Tryz.prog 203 [.int .i64 x] L (.bool (srv x)) L:=⟨fun {w W} hw=>by
 refine enter Tryz.func203 Tryz.ntmps203 rfl rfl fun a hs=>?_;refine sv hs hw fun a hs=>?_;unfold srv;cases c1:decide (x≥1) with
 |false=>
  rw [c1] at hs;refine sv hs hw fun a hs=>?_;exact rt1 hs rfl rfl ⟨rfl,hw⟩
 |true=>
  rw [c1] at hs;refine sv hs hw fun a hs=>?_
  exact rt1 hs rfl rfl ⟨rfl,hw⟩⟩
theorem aH9 {s:eC} (hm:fA s=false):Get Tryz.prog 153 [.agg ⟨fG s⟩] L (.slice none 0 0) L:=⟨fun {w W} hw=>by
 refine enter Tryz.func153 Tryz.ntmps153 rfl rfl fun a hs=>?_;refine sc hs ?_;refine sn hs hw fun b a W hs hw=>?_;refine sv hs hw fun a hs=>?_;refine cl hs ((wal_may (s:=s)).ok hw) fun a W hs hw=>?_;rw [hm] at hs;refine sv hs hw fun a hs=>?_
 exact rt1 hs rfl rfl ⟨rfl,hw.d1⟩⟩
end
end Go.Proofs.YtgpbngfehfbndaaGreatDoor.Sw
