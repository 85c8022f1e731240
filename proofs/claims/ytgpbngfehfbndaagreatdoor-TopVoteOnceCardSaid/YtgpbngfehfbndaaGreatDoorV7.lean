import Derived.Test.YtgpbngfehfbndaaGreatDoorV5
import Derived.Test.YtgpbngfehfbndaaGreatDoorV6
import Derived.Laws.Small
set_option maxHeartbeats 16000000
set_option linter.all false
namespace Go.Sx
open Go.RowKit
def Ch {α:Type} (R:α→List Value→Prop):List α→List Value→Prop
 | [],cs=>cs= []
 |a::l,cs=>∃c cs',cs=c ++ cs'∧R a c∧Ch R l cs'
section
variable {α:Type} {R R':α→List Value→Prop} {k:Nat}
theorem Ch.length (hk:∀a c,R a c→c.length=k):∀{l:List α} {cs:List Value},Ch R l cs→cs.length=l.length*k
 | [],cs,h=>by
  have h:cs= []:=h;subst h;simp
 |a::l,_,⟨c,cs',rfl,h1,h2⟩=>by
  have:=Ch.length hk h2;have:=hk a c h1;rw [List.length_append,List.length_cons,Nat.add_mul];omega
theorem Ch.app:∀{l m:List α} {cs ds:List Value},Ch R l cs→Ch R m ds→Ch R (l ++ m) (cs ++ ds)
 | [],m,cs,ds,h,h2=>by
  have h:cs= []:=h;subst h;exact h2
 |a::l,m,_,ds,⟨c,cs',rfl,h1,h2⟩,h3=>⟨c,cs' ++ ds,by simp,h1,Ch.app h2 h3⟩
theorem Ch.unit {a:α} {c:List Value} (h:R a c):Ch R [a] c:=⟨c,[],by simp,h,rfl⟩
theorem Ch.mono (h:∀a c,R a c→R' a c):∀{l:List α} {cs:List Value},Ch R l cs→Ch R' l cs
 | [],cs,h0=>h0
 |a::l,_,⟨c,cs',e,h1,h2⟩=>⟨c,cs',e,h a c h1,Ch.mono h h2⟩
theorem Ch.split (hk:∀a c,R a c→c.length=k):∀{l:List α} {cs:List Value} {i:Nat} {a:α},Ch R l cs→l[i]? =some a→
  ∃cs1 c cs2,cs=cs1 ++ (c ++ cs2)∧cs1.length=i*k∧R a c∧Ch R (l.take i) cs1∧Ch R (l.drop (i+1)) cs2
 | [],_,_,_,_,h=>by simp at h
 |b::l,_,0,a,⟨c,cs',rfl,h1,h2⟩,h=>by
  simp only [List.getElem?_cons_zero,Option.some.injEq] at h;subst h;exact ⟨[],c,cs',rfl,by simp,h1,rfl,h2⟩
 |b::l,_,i+1,a,⟨c,cs',rfl,h1,h2⟩,h=>by
  rw [List.getElem?_cons_succ] at h;obtain ⟨cs1,c',cs2,rfl,h3,h4,h5,h6⟩:=Ch.split hk h2 h;refine ⟨c ++ cs1,c',cs2,by simp,?_,h4,⟨c,cs1,rfl,h1,h5⟩,h6⟩;have:=hk b c h1;rw [List.length_append,Nat.add_mul];omega
theorem Ch.get (hk:∀a c,R a c→c.length=k) {l:List α} {cs:List Value} {i:Nat} {a:α} (h:Ch R l cs) (hi:l[i]? =some a):∃c,R a c∧c.length=k∧cut cs (i*k) k=c:=by
 obtain ⟨cs1,c,cs2,rfl,h1,h2,_,_⟩:=h.split hk hi;have:=hk a c h2;refine ⟨c,h2,this,?_⟩;rw [gB,List.drop_append,h1,Nat.sub_self,List.drop_of_length_le (by omega),List.nil_append,List.drop_zero,List.take_append_of_le_length (by omega),List.take_of_length_le (by omega)]
theorem Ch.set (hk:∀a c,R a c→c.length=k) {l:List α} {cs:List Value} {i:Nat} {a:α} {c:List Value} (h:Ch R l cs) (hi:i<l.length) (ha:R a c):Ch R (l.set i a) (ov cs (i*k) c):=by
 obtain ⟨cs1,c0,cs2,rfl,h1,h2,h3,h4⟩:=h.split hk (i:=i) (a:=l[i]) (by simp [hi]);have e1:=hk _ _ h2;have e2:=hk _ _ ha;rw [jK _ _ _ (by simp;omega),List.set_eq_take_append_cons_drop,if_pos hi];have e3:(cs1 ++ (c0 ++ cs2)).take (i*k)=cs1:=by rw [←h1];simp
 have e4:(cs1 ++ (c0 ++ cs2)).drop (i*k+c.length)=cs2:=by
  rw [←List.append_assoc,←h1,e2,←e1,←List.length_append,List.drop_left]
 rw [e3,e4,List.append_assoc];exact h3.app ⟨c,cs2,rfl,ha,h4⟩
theorem Ch.take (hk:∀a c,R a c→c.length=k):∀{l:List α} {cs:List Value} (n:Nat),Ch R l cs→Ch R (l.take n) (cs.take (n*k))
 | [],cs,n,h=>by
  have h:cs= []:=h;subst h;rw [List.take_nil,List.take_nil];rfl
 |a::l,cs,0,h=>by rw [Nat.zero_mul];rfl
 |a::l,_,n+1,⟨c,cs',rfl,h1,h2⟩=>by
  have:=hk a c h1;refine ⟨c,cs'.take (n*k),?_,h1,Ch.take hk n h2⟩;rw [List.take_append,List.take_of_length_le (by rw [Nat.add_mul];omega),Nat.add_mul];congr 2;omega
theorem Ch.drop (hk:∀a c,R a c→c.length=k):∀{l:List α} {cs:List Value} (n:Nat),Ch R l cs→Ch R (l.drop n) (cs.drop (n*k))
 | [],cs,n,h=>by
  have h:cs= []:=h;subst h;rw [List.drop_nil,List.drop_nil];rfl
 |a::l,cs,0,h=>by rw [Nat.zero_mul];exact h
 |a::l,_,n+1,⟨c,cs',rfl,h1,h2⟩=>by
  have:=hk a c h1;have e:(n+1)*k - c.length=n*k:=by rw [Nat.add_mul];omega
  have e2:c.drop ((n+1)*k)= []:=List.drop_of_length_le (by rw [Nat.add_mul];omega);rw [List.drop_succ_cons,List.drop_append,e2,List.nil_append,e];exact Ch.drop hk n h2
theorem Ch.ones (h1:∀a c,R a c→∀v∈c,v.oneCell'=true):∀{l:List α} {cs:List Value},Ch R l cs→∀v∈cs,v.oneCell'=true
 | [],cs,h=>by
  have h:cs= []:=h;subst h;simp
 |a::l,_,⟨c,cs',rfl,h2,h3⟩=>fun v hv=>by
  rcases List.mem_append.1 hv with hv|hv
  ·exact h1 a c h2 v hv
  ·exact Ch.ones h1 h3 v hv
end
section
variable {P:Program} {ops:Array Oper} {rest:List Oper} {Q:Exit→Act→World→Prop} {a:Act} {n:Nat} {L:List (Nat×Value)} {W:World} {d k:Nat} {T S E:TypeId} {p:String} {e:Array Edge} {x y:Operand} {v:Value} {xs:List Value} {i:Nat} {q:IntKind} {z:List Value} {α:Type} {R:α→List Value→Prop} {l:List α} {u:α}
theorem gT {agg:Bool} {sz:Nat} [sl:Sl P S E] [t:Ty P E agg z] (hs:Slots a n L) (r:Rd W sz v k xs) (hk:∀a c,R a c→c.length=sz) (ch:Ch R l xs) (ho:l[i]? =some u) (hlen:l.length=k) (hx:ev L x=some v:=by with_unfolding_all exact rfl) (hy:ev L y=some (.int q (i:Int)):=by with_unfolding_all exact rfl) (hd:Nat.blt d n=true:=by with_unfolding_all exact rfl) (hz:z.length=sz:=by with_unfolding_all exact rfl)
  (c:∀a' b o c,R u c→c.length=sz→(∀j u,c[j]? =some u→W.cell? ⟨b,o+j,none⟩=some u)→b<W.heap.size→Slots a' n ((d,.pointer (some ⟨b,o,none⟩))::L)→wpList P ops Q rest a' W):wpList P ops Q (⟨some d,.indexAddr S x y,T,p,e,none⟩::rest) a W:=by
 subst hz;have hi:=(List.getElem?_eq_some_iff.1 ho).1;obtain ⟨cc,h1,h2,h3⟩:=ch.get hk ho;refine uT hs hx hy r (by omega) (by omega) hd fun a' b o h4 h5 h6=>c a' b o cc h1 h2 ?_ h5 h6;rw [Int.toNat_natCast] at h4;rw [←h3];exact h4
end
section
variable {P:Program} {ops:Array Oper} {rest:List Oper} {Q:Exit→Act→World→Prop} {a:Act} {n G:Nat} {L:List (Nat×Value)} {w W:World} {R:List Res} {d b size bytes m:Nat} {T S S' E:TypeId} {p:String} {e:Array Edge} {x y:Operand} {v:Value} {xs c:List Value} {α:Type} {Rr:α→List Value→Prop} {l:List α} {u:α}
theorem i6 [sl:Sl P S E] [el:El P E size bytes] (hs:Slots a n L) (hw:Has G w W (Own E size v l.length xs::R)) (hi:In (aA b c E) R) (ch:Ch Rr l xs) (ha:Rr u c) (hl:Nat.beq c.length (1*size)=true) (h1:c.all (·.oneCell')=true) (hb:(l.length+1)*bytes≤140737488355328) (h63:l.length+1≤9223372036854775807) (hx:ev L x=some v:=by with_unfolding_all exact rfl) (hy:ev L y=some (.slice (some ⟨b,0,none⟩) 1 1):=by with_unfolding_all exact rfl) (hd:Nat.blt d n=true:=by with_unfolding_all exact rfl)
  (k:∀a' ad cap W',Slots a' n ((d,.slice ad (l ++ [u]).length cap)::L)→Has G w W' (Own E size (.slice ad (l ++ [u]).length cap) (l ++ [u]).length (xs ++ c)::R)→Ch Rr (l ++ [u]) (xs ++ c)→wpList P ops Q rest a' W'):wpList P ops Q (⟨some d,.call {callee:= .builtin .append,args:=#[x,y],argTypes:=#[S,S]},T,p,e,none⟩::rest) a W:=by
 refine rM (b:=b) (k:=l.length) (m:=1) (xs:=xs) (news:=c) (v:=v) (R':=fun v'=>Own E size v' (l.length+1) (xs ++ c)::R) hs hw hx hy (In.tl hi) (fun v'=>Upd.hd) hl h1 h63 hb hd ?_;intro a' ad cap W' hs' hw';have e:l.length+1=(l ++ [u]).length:=by simp
 rw [e] at hs' hw';exact k a' ad cap W' hs' hw' (ch.app (Ch.unit ha))
end
section
variable {G:Nat} {w W:World} {R:List Res} {H:Fh}
def FzF (H:Fh) (p:Prop):Res where
 ok F W:=p∧(Fz H).ok F W
 loc F W W' h k:=⟨k.1,(Fz H).loc F W W' h k.2⟩
theorem Has.fzf {q:Prop} (h:Has G w W (Fz H::R)) (hq:q):Has G w W (FzF H q::R):=by
 obtain ⟨F1,h1,h2,h3⟩:=h.has;exact ⟨h.ext,h.glob,F1,h1,⟨hq,h2⟩,h3⟩
theorem Has.unfzf {q:Prop} (h:Has G w W (FzF H q::R)):q∧Has G w W (Fz H::R):=by
 obtain ⟨F1,h1,⟨hq,h2⟩,h3⟩:=h.has;exact ⟨hq,h.ext,h.glob,F1,h1,h2,h3⟩
end
theorem aEH {α:Type} {l:List α} {j:Nat} {o:α} (h:l[j]? =some o):l.drop j=o::l.drop (j+1):=by
 have hj:=(List.getElem?_eq_some_iff.1 h).1;rw [List.drop_eq_getElem_cons hj];congr 1;rw [List.getElem?_eq_getElem hj] at h;exact Option.some.inj h
theorem fQ {α:Type} {l:List α} {j:Nat} {o:α} (h:l[j]? =some o):l.take (j+1)=l.take j ++ [o]:=by
 rw [List.take_add_one,h];rfl
section
variable {P:Program} {ops:Array Oper} {rest:List Oper} {Q:Exit→Act→World→Prop} {a:Act} {n G:Nat} {L:List (Nat×Value)} {w W W':World} {R:List Res} {d:Nat} {T S E:TypeId} {p:String} {e:Array Edge} {x y lo hi:Operand} {v:Value} {xs cs:List Value} {k sz:Nat} {i j:Int} {q q':IntKind} {z:List Value} {H:Fh}
theorem aAB {agg:Bool} [sl:Sl P S E] [t:Ty P E agg z] (r:RdH H sz v k xs) (hz:z.length=sz) (l h:Option Value) {i' j':Nat} (h0:i'≤j') (h1:j'≤k)
  (hl:l=none∧i'=0∨∃q,l=some (.int q i')) (hh:h=none∧j'=k∨∃q,h=some (.int q j')):
  ∃v',(Instr.sliceAt S v l h none).run P W= .ok v' W∧RdH H sz v' (j' - i') ((xs.drop (i'*sz)).take ((j' - i')*sz)):=by
 subst hz;obtain ⟨hx,ad,cap,rfl,h3,h4,h5⟩:=r;have hb:∀(u:Value) (m y:Nat) (c:BoundsCode) (q:IntKind),u= .int q m→m≤y→(Instr.sliceBound u y c).run P W= .ok m W:=by
  rintro u m y c q rfl hm;have:(0:Int)≤(m:Int)∧(m:Int)≤(y:Int):=⟨by omega,by omega⟩
  simp only [Instr.sliceBound,asIntOf,Sem.run_bind,Sem.run_pure,Result.andThen_ok];rw [if_pos this];simp
 have hbs:(Instr.sliceBounds true k cap l h none).run P W= .ok (i',j',cap) W:=by
  unfold Instr.sliceBounds;rcases hh with ⟨rfl,rfl⟩|⟨q2,rfl⟩ <;> rcases hl with ⟨rfl,rfl⟩|⟨q1,rfl⟩
  ·simp
  ·simp [hb _ i' j' .sliceB q1 rfl h0]
  ·simp [hb _ j' cap .sliceAcap q2 rfl (by omega)]
  ·simp [hb _ j' cap .sliceAcap q2 rfl (by omega),hb _ i' j' .sliceB q1 rfl h0]
 refine ⟨.slice (if cap=i' then ad else ad.map (·.add (i'*z.length))) (j' - i') (cap - i'),?_,?_,_,_,rfl,by omega,by omega,?_⟩
 ·simp only [Instr.sliceAt,Instr.slice,Sem.run_bind,run_underlying sl.out,Result.andThen_ok,hbs,t.sizeOf,Sem.run_pure]
 ·rw [List.length_take,List.length_drop,hx];have:(j' - i')*z.length≤k*z.length - i'*z.length:=by rw [←Nat.sub_mul];exact Nat.mul_le_mul_right _ (by omega)
  omega
 ·rcases h5 with rfl|⟨b,o,cs,T,zz,rfl,hlt,hc⟩
  ·exact .inl (by omega)
  ·by_cases hci:cap=i'
   ·exact .inl (by omega)
   ·refine .inr ⟨b,o+i'*z.length,cs,T,zz,by rw [if_neg hci];simp [eF],hlt,fun m u hu=>?_⟩;rw [List.getElem?_take] at hu;split at hu
    ·rw [List.getElem?_drop] at hu;rw [Nat.add_assoc];exact hc _ _ hu
    ·cases hu
theorem aAC {agg:Bool} [sl:Sl P S E] [t:Ty P E agg z] (hs:Slots a n L) (r:RdH H sz v k xs) (h0:0≤i) (h1:i≤k) (hx:ev L x=some v:=by with_unfolding_all exact rfl) (hl:ev L lo=some (.int q i):=by with_unfolding_all exact rfl) (hd:Nat.blt d n=true:=by with_unfolding_all exact rfl) (hz:z.length=sz:=by with_unfolding_all exact rfl)
  (c:∀a' v',RdH H sz v' (k - i.toNat) (xs.drop (i.toNat*sz))→Slots a' n ((d,v')::L)→wpList P ops Q rest a' W):wpList P ops Q (⟨some d,.slice S x (some lo) none none,T,p,e,none⟩::rest) a W:=by
 obtain ⟨m,rfl⟩:=Int.eq_ofNat_of_zero_le h0;obtain ⟨v',h2,h3⟩:=aAB (P:=P) (S:=S) (W:=W) r hz (some (.int q m)) none (i':=m) (j':=k) (by omega) (Nat.le_refl _) (.inr ⟨q,rfl⟩) (.inl ⟨rfl,rfl⟩);refine bP hs hd (v:=v') (W':=W) ?_ fun a' hs'=>c a' v' ?_ hs'
 ·simp only [execOp,Option.map_some,Option.map_none,hs.ev hx,hs.ev hl];simp only [Sem.run_bind,h2,Result.andThen_ok];rfl
 ·rw [List.take_of_length_le (by rw [List.length_drop,r.1,Nat.sub_mul];omega)] at h3;simpa using h3
theorem aEI {agg:Bool} [sl:Sl P S E] [t:Ty P E agg z] (hs:Slots a n L) (r:RdH H sz v k xs) (h0:0≤i) (h1:i≤k) (hx:ev L x=some v:=by with_unfolding_all exact rfl) (hh:ev L hi=some (.int q i):=by with_unfolding_all exact rfl) (hd:Nat.blt d n=true:=by with_unfolding_all exact rfl) (hz:z.length=sz:=by with_unfolding_all exact rfl)
  (c:∀a' v',RdH H sz v' i.toNat (xs.take (i.toNat*sz))→Slots a' n ((d,v')::L)→wpList P ops Q rest a' W):wpList P ops Q (⟨some d,.slice S x none (some hi) none,T,p,e,none⟩::rest) a W:=by
 obtain ⟨m,rfl⟩:=Int.eq_ofNat_of_zero_le h0;obtain ⟨v',h2,h3⟩:=aAB (P:=P) (S:=S) (W:=W) r hz none (some (.int q m)) (i':=0) (j':=m) (by omega) (by omega) (.inl ⟨rfl,rfl⟩) (.inr ⟨q,rfl⟩);refine bP hs hd (v:=v') (W':=W) ?_ fun a' hs'=>c a' v' ?_ hs'
 ·simp only [execOp,Option.map_some,Option.map_none,hs.ev hx,hs.ev hh];simp only [Sem.run_bind,h2,Result.andThen_ok];rfl
 ·simpa using h3
theorem o7 {ts:Array TypeId} (hs:Slots a n L) (hx:ev L x=some (.int q i):=by with_unfolding_all exact rfl) (hy:ev L y=some (.int q' j):=by with_unfolding_all exact rfl) (hd:Nat.blt d n=true:=by with_unfolding_all exact rfl)
  (k:∀a',Slots a' n ((d,.int q (if j<i then j else i))::L)→wpList P ops Q rest a' W):wpList P ops Q (⟨some d,.call {callee:= .builtin .min,args:=#[x,y],argTypes:=ts},T,p,e,none⟩::rest) a W:=
 bP hs hd (by simp only [execOp,resolve,invoke,builtin,List.map_toArray,List.map_cons,List.map_nil,hs.ev hx,hs.ev hy,Sem.run_bind,Sem.run_pure,Result.andThen_ok,run_min_int2]) k
theorem Has.freeze_lit {b m:Nat} (h:Has G w W (aA b cs E::Fz H::R)) (hl:cs.length=m*sz) (hm:m≤9223372036854775807):∃H',H.le H'∧Has G w W (Fz H'::R)∧RdH H' sz (.slice (some ⟨b,0,none⟩) m m) m cs:=by
 obtain ⟨H',h1,h2,F,⟨hF,hb⟩,h4⟩:=h.freeze (R':=[]);exact ⟨H',h1,h2,hl,some ⟨b,0,none⟩,m,rfl,Nat.le_refl _,hm,.inr ⟨b,0,⟨cs⟩,E,(0,0),rfl,h4 b _ hF hb,fun j x hx=>by simpa using hx⟩⟩
end
set_option maxRecDepth 10000
section
variable {P:Program} {ops:Array Oper} {rest:List Oper} {Q:Exit→Act→World→Prop} {a:Act} {n:Nat} {L:List (Nat×Value)} {W:World} {d:Nat} {T S S':TypeId} {p:String} {e:Array Edge} {x:Operand} {ad:Addr}
theorem jL (hs:Slots a n L) (hx:ev L x=some (.pointer (some ad)):=by with_unfolding_all exact rfl) (ht:P.underlying S=some (.pointer (P.pointee S)):=by kernel_rfl) (hd:Nat.blt d n=true:=by with_unfolding_all exact rfl)
  (k:∀a',Slots a' n ((d,.bool true)::L)→wpList P ops Q rest a' W):wpList P ops Q (⟨some d,.binOp .neq S x (.const (.pointer none)) S',T,p,e,none⟩::rest) a W:=by
 refine bP hs hd (W':=W) ?_ k;have h2:(binOp .neq S (.pointer (some ad)) (.pointer none)).run P W= .ok (.bool true) W:=by
  have:=run_neq_pointer_nil (P:=P) W S (some ad) ht;simpa using this
 have h3:a.eval (.const (.pointer none))= .pointer none:=rfl;simp only [execOp,hs.ev hx,h3,Sem.run_bind];simp [eqGuard,h2]
theorem jM (hs:Slots a n L) (hx:ev L x=some (.pointer none):=by with_unfolding_all exact rfl) (ht:P.underlying S=some (.pointer (P.pointee S)):=by kernel_rfl) (hd:Nat.blt d n=true:=by with_unfolding_all exact rfl)
  (k:∀a',Slots a' n ((d,.bool false)::L)→wpList P ops Q rest a' W):wpList P ops Q (⟨some d,.binOp .neq S x (.const (.pointer none)) S',T,p,e,none⟩::rest) a W:=by
 refine bP hs hd (W':=W) ?_ k;have h2:(binOp .neq S (.pointer none) (.pointer none)).run P W= .ok (.bool false) W:=by
  have:=run_neq_pointer_nil (P:=P) W S none ht;simpa using this
 have h3:a.eval (.const (.pointer none))= .pointer none:=rfl;simp only [execOp,hs.ev hx,h3,Sem.run_bind];simp [eqGuard,h2]
end
section
variable {A:Prop} {P:Program} {ops:Array Oper} {rest:List Oper} {Q:Exit→Act→World→Prop} {a:Act} {n G:Nat} {L L':List (Nat×Value)} {w W:World} {R R':List Res} {d:Nat} {T:TypeId} {p:String} {e:Array Edge}
class Get (P:Program) (f:FuncId) (vs:List Value) (L:List Res) (v:outParam Value) (L':outParam (List Res)):Prop where
 ok:∀{w W:World},Has 0 w W L→Calls P f ⟨vs⟩ W fun e W'=>e= .returned v∧Has 0 w W' L'
theorem kS {f:FuncId} {xs:List Operand} {ts:Array TypeId} {vs:List Value} {v:Value} (hs:Slots a n L) (hw:Has 0 w W R) (k:∀a' W',Slots a' n ((d,v)::L)→Has 0 w W' R'→wpList P ops Q rest a' W') (hx:evs L xs=some vs:=by with_unfolding_all exact rfl) (hd:Nat.blt d n=true:=by with_unfolding_all exact rfl) (g:Get P f vs R v R':=by infer_instance) (hf:callee P f=true:=by kernel_rfl):
  wpList P ops Q (⟨some d,.call {callee:= .value (.func f),args:=⟨xs⟩,argTypes:=ts},T,p,e,none⟩::rest) a W:=
 aH hs hx hf hd (g.ok hw) fun e' W' h=>⟨v,h.1,fun a' ha=>k a' W' ha h.2⟩
class New (P:Program) (f:FuncId) (vs:List Value) (L:List Res) (σ:outParam Type) (v:outParam (σ→Value)) (L':outParam (σ→List Res)):Prop where
 ok:∀{w W:World},Has 0 w W L→Calls P f ⟨vs⟩ W fun e W'=>∃s,e= .returned (v s)∧Has 0 w W' (L' s)
theorem sg {σ:Type} {f:FuncId} {xs:List Operand} {ts:Array TypeId} {vs:List Value} {v:σ→Value} {R':σ→List Res} (hs:Slots a n L) (hw:Has 0 w W R) (k:∀s a' W',Slots a' n ((d,v s)::L)→Has 0 w W' (R' s)→wpList P ops Q rest a' W') (hx:evs L xs=some vs:=by with_unfolding_all exact rfl) (hd:Nat.blt d n=true:=by with_unfolding_all exact rfl) (g:New P f vs R σ v R':=by infer_instance) (hf:callee P f=true:=by kernel_rfl):
  wpList P ops Q (⟨some d,.call {callee:= .value (.func f),args:=⟨xs⟩,argTypes:=ts},T,p,e,none⟩::rest) a W:=
 aH hs hx hf hd (g.ok hw) fun e' W' ⟨s,h1,h2⟩=>⟨v s,h1,fun a' ha=>k s a' W' ha h2⟩
class dH {σ:Type} (X:σ→Res) (L:List Res) (s:outParam σ) (L':outParam (List Res)):Prop where
 p:Pick (X s) L L'
instance {σ:Type} (X:σ→Res) (s:σ) (L:List Res):dH X (X s::L) s L:=⟨.hd⟩
instance (priority:=low) {σ:Type} (X:σ→Res) (r:Res) (s:σ) (L L':List Res) [c:dH X L s L']:dH X (r::L) s (r::L'):=⟨.tl c.p⟩
class o8 {σ τ:Type} (X:σ→τ→Res) (L:List Res) (s:outParam σ) (t:outParam τ) (L':outParam (List Res)):Prop where
 p:Pick (X s t) L L'
instance {σ τ:Type} (X:σ→τ→Res) (s:σ) (t:τ) (L:List Res):o8 X (X s t::L) s t L:=⟨.hd⟩
instance (priority:=low) {σ τ:Type} (X:σ→τ→Res) (r:Res) (s:σ) (t:τ) (L L':List Res) [c:o8 X L s t L']:o8 X (r::L) s t (r::L'):=⟨.tl c.p⟩
theorem sx {C:Act→World→Prop} (hs:Slots a n L) (hw:Has G w W R) (k:∀a' W',Slots a' n L'→Has G w W' R'→C a' W') (h:(∀a' W',Slots a' n L'→Has G w W' R'→C a' W')→A:=by
  intro k
  (first|(refine sxv hs hw ?_;intro a hs)|refine sxc hs ?_|(refine sxs hs hw ?_;intro W hs hw)|(refine kS hs hw ?_;intro a W hs hw)|((with_reducible first|refine gD hs (k:=?_)|refine gE hs (k:=?_)|refine jL hs (k:=?_)|refine jM hs (k:=?_));intro a hs))
  repeat (first|(refine sxv hs hw ?_;intro a hs)|refine sxc hs ?_|(refine sxs hs hw ?_;intro W hs hw)|(refine kS hs hw ?_;intro a W hs hw)|((with_reducible first|refine gD hs (k:=?_)|refine gE hs (k:=?_)|refine jL hs (k:=?_)|refine jM hs (k:=?_));intro a hs))
  exact k _ _ hs hw):A:=h k
theorem sc {B:Prop} (hs:Slots a n L) (k:B) (h:B→A:=by
  intro k;refine sxc hs ?_
  repeat (refine sxc hs ?_)
  exact k):A:=h k
theorem sv {C:Act→Prop} (hs:Slots a n L) (hw:Has G w W R) (k:∀a',Slots a' n L'→C a') (h:(∀a',Slots a' n L'→C a')→A:=by
  intro k
  (first|(refine sxv hs hw ?_;intro a hs)|refine sxc hs ?_|((with_reducible first|refine gD hs (k:=?_)|refine gE hs (k:=?_)|refine jL hs (k:=?_)|refine jM hs (k:=?_));intro a hs))
  repeat (first|(refine sxv hs hw ?_;intro a hs)|refine sxc hs ?_|((with_reducible first|refine gD hs (k:=?_)|refine gE hs (k:=?_)|refine jL hs (k:=?_)|refine jM hs (k:=?_));intro a hs))
  exact k _ hs):A:=h k
theorem cl {f:FuncId} {xs:List Operand} {ts:Array TypeId} {vs:List Value} {v:Value} (hs:Slots a n L) (hc:Calls P f ⟨vs⟩ W fun e' W'=>e'= .returned v∧Has G w W' R') (k:∀a' W',Slots a' n ((d,v)::L)→Has G w W' R'→wpList P ops Q rest a' W') (hx:evs L xs=some vs:=by with_unfolding_all exact rfl) (hf:callee P f=true:=by kernel_rfl) (hd:Nat.blt d n=true:=by with_unfolding_all exact rfl):
  wpList P ops Q (⟨some d,.call {callee:= .value (.func f),args:=⟨xs⟩,argTypes:=ts},T,p,e,none⟩::rest) a W:=
 aH hs hx hf hd hc fun e' W' h=>⟨v,h.1,fun a' ha=>k a' W' ha h.2⟩
theorem cle {σ:Type} {f:FuncId} {xs:List Operand} {ts:Array TypeId} {vs:List Value} {v:σ→Value} {R':σ→List Res} {F:σ→Prop} (hs:Slots a n L) (hc:Calls P f ⟨vs⟩ W fun e' W'=>∃s,e'= .returned (v s)∧F s∧Has G w W' (R' s)) (k:∀s a' W',F s→Slots a' n ((d,v s)::L)→Has G w W' (R' s)→wpList P ops Q rest a' W') (hx:evs L xs=some vs:=by with_unfolding_all exact rfl) (hf:callee P f=true:=by kernel_rfl) (hd:Nat.blt d n=true:=by with_unfolding_all exact rfl):
  wpList P ops Q (⟨some d,.call {callee:= .value (.func f),args:=⟨xs⟩,argTypes:=ts},T,p,e,none⟩::rest) a W:=
 aH hs hx hf hd hc fun e' W' ⟨s,h1,h2,h3⟩=>⟨v s,h1,fun a' ha=>k s a' W' h2 ha h3⟩
theorem cb {f:FuncId} {xs:List Operand} {ts:Array TypeId} {vs:List Value} {v:Value} (hs:Slots a n L) (hw:Has G w W R) (hc:Calls P f ⟨vs⟩ W fun e' W'=>e'= .returned v∧Below W.heap.size W W') (k:∀a' W',Slots a' n ((d,v)::L)→Has G w W' R→wpList P ops Q rest a' W') (hx:evs L xs=some vs:=by with_unfolding_all exact rfl) (hf:callee P f=true:=by kernel_rfl) (hd:Nat.blt d n=true:=by with_unfolding_all exact rfl):
  wpList P ops Q (⟨some d,.call {callee:= .value (.func f),args:=⟨xs⟩,argTypes:=ts},T,p,e,none⟩::rest) a W:=
 aH hs hx hf hd hc fun e' W' h=>⟨v,h.1,fun a' ha=>k a' W' ha (hw.below h.2)⟩
theorem sn {C:Act→Nat→World→Prop} {v:Nat→Value} {cs:List Value} {E:TypeId} (hs:Slots a n L) (hw:Has G w W R) (k:∀b a' W',Slots a' n ((d,v b)::L)→Has G w W' (aA b cs E::R)→C a' b W') (h:(∀a' b W',Has G w W' (aA b cs E::R)→Slots a' n ((d,v b)::L)→C a' b W')→A:=by intro k;(with_reducible first|refine yP hs hw (k:=?_)|refine yQ hs hw (k:=?_)|refine zK hs hw (k:=?_));exact k):A:=h fun a' b W' h1 h2=>k b a' W' h2 h1
end
theorem dr {A:Prop} (h:A:=by
  intro LD D a W hcl hi hp hs hw
  repeat (first|(refine sxv hs hw ?_;intro a hs)|refine sxc hs ?_|(refine sxs hs hw ?_;intro W hs hw)|(refine kS hs hw ?_;intro a W hs hw)|((with_reducible first|refine gD hs (k:=?_)|refine gE hs (k:=?_)|refine jL hs (k:=?_)|refine jM hs (k:=?_));intro a hs))
  (try rw [he] at hs)
  (try rw [he2] at hs)
  exact ⟨hs,hw⟩):A:=h
theorem dru {A:Prop} (h:A:=by
  intro u LD D a W hcl hi hp hs hw
  repeat (first|(refine sxv hs hw ?_;intro a hs)|refine sxc hs ?_|(refine sxs hs hw ?_;intro W hs hw)|(refine kS hs hw ?_;intro a W hs hw)|((with_reducible first|refine gD hs (k:=?_)|refine gE hs (k:=?_)|refine jL hs (k:=?_)|refine jM hs (k:=?_));intro a hs))
  (try rw [he] at hs)
  (try rw [he2] at hs)
  exact Or.inl ⟨hs,hw⟩):A:=h
theorem rgp {P:Program} {Q:Exit→Act→World→Prop} {a:Act} {n G:Nat} {L0:List (Nat×Value)} {w W:World} {l:List Oper} {id:Nat} {R:List Res} (V:List Value) (hs:Slots a n L0) (hw:Has G w W R) (k:∀a W,Slots a n (fJ l V ++ L0)→Has G w W R→Q .normal a W) (ho:oZ P l V L0 n G w (fun _=>R) 0 l:=by repeat (first|exact trivial|refine ⟨dr,?_⟩)) (hm:P.follows .mixedOrders=true:=by kernel_rfl) (hf:hJ l=true:=by kernel_rfl) (hV:V.length=l.length:=by rfl) (hn:l.all (fun o=>match o.dst with|some d=>Nat.blt d n|none=>true)=true:=by kernel_rfl):(Code.region id l.toArray true).wp P Q a W:=
 gS V (fun _=>R) hs hw hm hf hV hn ho k
theorem Has.unpick {G:Nat} {w W:World} {r:Res} {L L':List Res} (h:Has G w W (r::L')) (p:Pick r L L'):Has G w W L:=h.perm (nJ p (List.Perm.refl _)).symm
class aAD (H H':Fh) (r:Res) (r':outParam Res):Prop where
 le:∀{G:Nat} {w W:World} {R:List Res},H.le H'→Has G w W (r::R)→Has G w W (r'::R)
class vG (H H':Fh) (L:List Res) (L':outParam (List Res)):Prop where
 le:∀{G:Nat} {w W:World} {R:List Res},H.le H'→Has G w W (L ++ R)→Has G w W (L' ++ R)
instance (priority:=low) (H H':Fh) (r:Res):aAD H H' r r:=⟨fun _ h=>h⟩
instance (priority:=low) (H H':Fh) (L:List Res):vG H H' L L:=⟨fun _ h=>h⟩
instance (H H':Fh) (r r':Res) (L L':List Res) [x:aAD H H' r r'] [y:vG H H' L L']:vG H H' (r::L) (r'::L'):=⟨fun {G w W R} hl h=>by
 have h1:Has G w W (r'::(L ++ R)):=x.le hl h;have h2:Has G w W (L ++ (r'::R)):=h1.perm (List.perm_middle.symm)
 exact (y.le hl h2).perm List.perm_middle⟩
section
variable {P:Program} {ops:Array Oper} {rest:List Oper} {Q:Exit→Act→World→Prop} {a:Act} {n:Nat} {L:List (Nat×Value)} {W:World} {d:Nat} {T:TypeId} {p:String} {e:Array Edge}
theorem aEO {f:FuncId} {xs:List Operand} {vs:List Value} (hs:Slots a n L) (hx:evs L xs=some vs:=by with_unfolding_all exact rfl) (hd:Nat.blt d n=true:=by with_unfolding_all exact rfl)
  (k:∀a',Slots a' n ((d,.func (.func f) ⟨[]⟩ ⟨vs⟩)::L)→wpList P ops Q rest a' W):wpList P ops Q (⟨some d,.makeFunc (.func f) ⟨[]⟩ ⟨xs⟩,T,p,e,none⟩::rest) a W:=by
 refine bP hs hd (v:= .func (.func f) ⟨[]⟩ ⟨vs⟩) (W':=W) ?_ k;simp only [execOp,List.map_toArray,hs.evs hx,Instr.makeFunc,Sem.run_bind,Sem.run_pure,Result.andThen_ok,List.map_nil]
theorem aAF {f:FuncId} {x:Operand} {xs:List Operand} {ts:Array TypeId} {vs cs:List Value} {C:Ending→World→Prop} (hs:Slots a n L) (hfv:ev L x=some (.func (.func f) ⟨[]⟩ ⟨cs⟩):=by with_unfolding_all exact rfl) (hx:evs L xs=some vs:=by with_unfolding_all exact rfl) (hd:Nat.blt d n=true:=by with_unfolding_all exact rfl)
  (hf:callee P f=true) (hc:Calls P f ⟨vs ++ cs⟩ W C)
  (k:∀e' W',C e' W'→∃v,e'= .returned v∧∀a',Slots a' n ((d,v)::L)→wpList P ops Q rest a' W'):
  wpList P ops Q (⟨some d,.call {callee:= .value x,args:=⟨xs⟩,argTypes:=ts},T,p,e,none⟩::rest) a W:=by
 refine wpList_plain rfl fun K hK=>?_;have hr:(execOp a.eval ⟨some d,.call {callee:= .value x,args:=⟨xs⟩,argTypes:=ts},T,p,e,none⟩).run P W= .ok (.enter f ⟨vs ++ cs⟩) W:=by
  simp only [execOp,resolve,List.map_toArray,hs.evs hx,hs.ev hfv,Deferred.ofValue,Sem.run_bind,Sem.run_pure,Result.andThen_ok,invoke];have:((⟨[]⟩:Array Value) ++ ⟨vs⟩ ++ ⟨cs⟩)=⟨vs ++ cs⟩:=by simp
  simp only [this,uR hf]
 simp only [Oper.wp,hr,Oper.upon_enter];refine hc.mono fun e' W' h=>?_;obtain ⟨v,rfl,h2⟩:=k e' W' h;exact hK _ _ (h2 _ (hs.put hd v))
end
theorem Ch.mem {α:Type} {R:α→List Value→Prop} {k:Nat} (hk:∀a c,R a c→c.length=k) {l:List α} {cs:List Value} (h:Ch R l cs) {i:Nat} {a:α} (hi:l[i]? =some a):∃c,R a c∧cut cs (i*k) k=c:=by
 obtain ⟨c,h1,h2,h3⟩:=h.get hk hi;exact ⟨c,h1,h3⟩
theorem Ch.at_cur {α:Type} {R:α→List Value→Prop} {k i n j:Nat} {l:List α} {a:α} {cs cur c:List Value} {u:Value} (hcut:cut cs (i*k) k=c) (ht:cur.take n=cs) (hu:c[j]? =some u):cur[i*k+j]? =some u:=by
 have h1:=congrArg (fun t=>t[j]?) hcut;simp only [gB,List.getElem?_take,List.getElem?_drop,hu] at h1;split at h1
 ·rw [←ht,List.getElem?_take] at h1;split at h1
  ·exact h1
  ·cases h1
 ·cases h1
theorem vK {w W:World} {p:Fh→Prop} {b:Bool} (h:Has 0 w W ((if b=true then Ex (fun H=>Fz H::bQ ((fr w).le H∧p H):: []) else Fz (fr w)):: [])):Below w.heap.size w W:=by
 cases b with
 |false=>exact h.endF In.hd (Fh.le.refl _)
 |true=>
  have h:Has 0 w W (Ex (fun H=>Fz H::bQ ((fr w).le H∧p H):: []):: []):=h;obtain ⟨H,h⟩:=Has.open h;have h:Has 0 w W (Fz H::bQ ((fr w).le H∧p H):: []):=h;have h2:=h.told (In.tl In.hd);exact h.endF In.hd h2.1
inductive Sel:List Res→List Res→Prop
 |nil {L:List Res}:Sel [] L
 |refl (L:List Res):Sel L L
 |cons {r:Res} {K L L':List Res}:Pick r L L'→Sel K L'→Sel (r::K) L
 |skip {r:Res} {K L:List Res}:Sel K L→Sel K (r::L)
theorem Sel.perm {K L:List Res} (s:Sel K L):∃M,L.Perm (K ++ M):=by
 induction s with
 |nil=>exact ⟨_,List.Perm.refl _⟩
 |refl L=>exact ⟨[],by rw [List.append_nil]⟩
 |cons p _ ih=>
  obtain ⟨M,h⟩:=ih;exact ⟨M,nJ p h⟩
 | @skip r K L _ ih=>
  obtain ⟨M,h⟩:=ih;exact ⟨r::M,(h.cons r).trans List.perm_middle.symm⟩
theorem Has.sel {G:Nat} {w W:World} {K L:List Res} (h:Has G w W L) (s:Sel K L):Has G w W K:=by
 obtain ⟨M,hp⟩:=s.perm;exact (h.perm hp).sub (List.sublist_append_left K M)
theorem Has.sl {G:Nat} {w W:World} {K L:List Res} (h:Has G w W L) (s:Sel K L:=by repeat (first|exact Sel.nil|exact Sel.refl _|refine Sel.cons (by repeat (first|exact Pick.hd|apply Pick.tl)) ?_|refine Sel.skip ?_)):Has G w W K:=h.sel s
section
variable {P:Program}
def Calm (M:Act→World→Prop):Exit→Act→World→Prop:=fun ex a W=>match ex with| .normal=>M a W|_=>False
theorem Oper.wp_calmM {o:Oper} {a:Act} {W:World} {N M:Act→World→Prop} {Q:Exit→Act→World→Prop} (h:o.wp P a W N (Calm M)):o.wp P a W N Q:=by
 unfold Oper.wp at *;generalize (execOp a.eval o).run P W=r at *;cases r with
 |ok x w'=>
  cases x <;> simp only [Oper.upon] at h⊢<;> first
   |exact h
   |exact Calls.mono h (fun e w'' he=>by
     cases e with
     |returned v=>exact he
     |panicked c=>exact he.elim
     |outgrown=>obtain ⟨_,_,he⟩:=he;exact he.elim)
 |halt x w'=>cases x <;> simp only [Oper.upon] at h⊢<;> exact h.elim
theorem mergeL {ops:Array Oper} {Q:Exit→Act→World→Prop} {M:Act→World→Prop} (hm:∀a W,M a W→Q .normal a W):∀{l:List Oper} {a:Act} {W:World},wpList P ops (Calm M) l a W→wpList P ops Q l a W
 | [],a,W,h=>hm a W h
 |o::rest,a,W,h=>by
  unfold wpList at h⊢;split
  ·rename_i hw;rw [if_pos hw] at h;rcases h with h|⟨_,h⟩
   ·exact .inl (Oper.wp_calmM (Oper.wp_mono (fun a w h=>mergeL hm h) h))
   ·obtain ⟨_,_,h⟩:=h;exact h.elim
  ·rename_i hw;rw [if_neg hw] at h;exact mergeL hm h
end
end Go.Sx
namespace Ph
open Go Go.Lib
def bt (s:ByteArray) (k:Nat):Nat:=(s.data.toList.getD k 0).toNat
theorem d1 (n b0 b1 b2 b3:Nat) (h:b0<128):decodeN n b0 b1 b2 b3=(b0,1):=by unfold decodeN;rw [if_pos h]
theorem d0 (n b0 b1 b2 b3:Nat) (h:128≤b0∧b0<192∨248≤b0) (h':b0<256):decodeN n b0 b1 b2 b3=(65533,1):=decodeN_bad _ _ _ _ _ (by omega)
end Ph
set_option maxRecDepth 10000
namespace Go.Sx
open Go.RowKit
def eV (b:Nat) (cs:List Value) (T:TypeId):Res where
 ok F W:=F b∧W.heap[b]? =some (.cells ⟨cs⟩ T (cs.length,cs.length+1))
 loc F W W' h:=fun ⟨h1,h2⟩=>⟨h1,(h b h1).trans h2⟩
section
variable {P:Program} {ops:Array Oper} {rest:List Oper} {Q:Exit→Act→World→Prop} {a:Act} {n G:Nat} {L:List (Nat×Value)} {w W W':World} {R R':List Res} {d b:Nat} {T S S' E:TypeId} {p:String} {e:Array Edge} {x y:Operand} {v:Value} {cs cs':List Value} {s:ByteArray} {l:List UInt8}
theorem Has.blockM {R0:List Res} (h:Has G w W R0) (i:In (eV b cs E) R0):W.heap[b]? =some (.cells ⟨cs⟩ E (cs.length,cs.length+1))∧G≤b∧b<W.heap.size:=by
 obtain ⟨F,h1,h2⟩:=h.of_in i;exact ⟨h2.2,h1 b h2.1⟩
theorem aAr {fr:Nat×Nat} (h:W.heap[b]? =some (.cells ⟨cs⟩ E fr)) (j:Nat):W.cell? ⟨b,j,none⟩=cs[j]?:=by
 unfold World.cell?;rw [h];simp
theorem nS [t:StrTy P S] [sl:Sl P S' E] [u:IntTy P E .u8] (hs:Slots a n L) (hw:Has G w W R) (hl:s.size≤1000000000) (hx:ev L x=some (.string s):=by with_unfolding_all exact rfl) (hd:Nat.blt d n=true:=by with_unfolding_all exact rfl)
  (c:∀a' b cap ext W',Has G w W' (eV b (bys s.data.toList ++ ext) E::R)→RdB W' (.slice (some ⟨b,0,none⟩) s.data.toList.length cap) s.data.toList→Slots a' n ((d,.slice (some ⟨b,0,none⟩) s.data.toList.length cap)::L)→wpList P ops Q rest a' W'):wpList P ops Q (⟨some d,.convert S S' x,T,p,e,none⟩::rest) a W:=by
 have hr:=run_bytes_of_string W S S' E s t.out sl.out u.out;have hge:s.size≤grownCap W s.size 0 E:=grownCap_ge W s.size 0 E;have hcm:grownCap W s.size 0 E≤maxLen:=grownCap_le_maxLen W s.size 0 E (by unfold maxLen;omega);generalize grownCap W s.size 0 E=cap at *;have hsz:s.data.toList.length=s.size:=by rw [Array.length_toList];rfl
 have hrow:bytesRow s cap=⟨bys s.data.toList ++ List.replicate (cap - s.size) (Value.int .u8 0)⟩:=by
  unfold bytesRow bys;apply Array.toList_inj.1;simp
 rw [hrow] at hr;have hnew:=heap_alloc_new W.drew (.cells ⟨bys s.data.toList ++ List.replicate (cap - s.size) (Value.int .u8 0)⟩ E ((bys s.data.toList ++ List.replicate (cap - s.size) (Value.int .u8 0)).length,(bys s.data.toList ++ List.replicate (cap - s.size) (Value.int .u8 0)).length+1));refine bP hs hd (v:= .slice (some ⟨W.heap.size,0,none⟩) s.data.toList.length cap) (W':=W.drew.alloc (.cells ⟨bys s.data.toList ++ List.replicate (cap - s.size) (Value.int .u8 0)⟩ E ((bys s.data.toList ++ List.replicate (cap - s.size) (Value.int .u8 0)).length,(bys s.data.toList ++ List.replicate (cap - s.size) (Value.int .u8 0)).length+1))) ?_ fun a' hs'=>c a' W.heap.size cap (List.replicate (cap - s.size) (Value.int .u8 0)) _ ((hw.below (Below.refl _ _).drew).newObj ⟨rfl,hnew⟩) ?_ hs'
 ·simp only [execOp,hs.ev hx,Sem.run_bind,hr,Result.andThen_ok,hsz];rfl
 ·refine ⟨by simp,some ⟨W.heap.size,0,none⟩,cap,rfl,by omega,by unfold maxLen at hcm;omega,.inr ⟨W.heap.size,0,rfl,iX hnew,fun j u hj=>?_⟩⟩;have hnew':(W.drew.alloc (.cells ⟨bys s.data.toList ++ List.replicate (cap - s.size) (Value.int .u8 0)⟩ E ((bys s.data.toList ++ List.replicate (cap - s.size) (Value.int .u8 0)).length,(bys s.data.toList ++ List.replicate (cap - s.size) (Value.int .u8 0)).length+1))).heap[W.heap.size]? =_:=hnew;rw [aAr hnew',Nat.zero_add];have hj2:=(List.getElem?_eq_some_iff.1 hj).1;rw [List.getElem?_append_left hj2];exact hj
end
theorem Has.newOwn {G:Nat} {w W W':World} {R:List Res} {E:TypeId} {size n:Nat} {v:Value} {xs:List Value} (h:Has G w W R) (hb:Below W.heap.size W W') (ho:OwnAt (fun b=>W.heap.size≤b∧b<W'.heap.size) W' E size v n xs):Has G w W' (Own E size v n xs::R):=by
 have h1:=h.below hb;refine ⟨h1.ext,h1.glob,_,?_,ho,?_⟩
 ·rintro b ⟨hb1,hb2⟩;exact ⟨Nat.le_trans h.globW hb1,hb2⟩
 ·refine (h.has.loc fun b hb'=>hb.block b hb'.2).mono fun b hb'=>⟨⟨hb'.1,Nat.lt_of_lt_of_le hb'.2 hb.size⟩,by omega⟩
section
variable {P:Program} {W:World}
theorem aFx {t tx ty E T:TypeId} {i:TypeInfo} {z:Value} (ht:P.underlying t=some (.slice E)) (hi:P.info? E=some i) (hz:i.zero=some z) (hzs:z.cells.size=i.size)
  {g k:Nat} {cur xs:List Value} (hg:W.heap[g]? =some (.cells ⟨cur⟩ T (0,0))) (hk:k*i.size≤cur.length) (htk:cur.take (k*i.size)=xs) {x:Value} {m:Nat} {news:List Value} (hs:Src P i.size tx x m news W) (hm:0<m) (h63:k+m≤9223372036854775807) (hb:(k+m)*i.bytes≤140737488355328):
  ∃ad cap W',(Builtin.append_ #[t,tx] ty #[.slice (some ⟨g,0,none⟩) k k,x]).run P W= .ok (.slice ad (k+m) cap) W'∧OwnAt (fun b=>W.heap.size≤b∧b<W'.heap.size) W' E i.size (.slice ad (k+m) cap) (k+m) (xs ++ news)∧Below W.heap.size W W':=by
 have hnl:news.length=m*i.size:=hs.newsLen;have hxl:xs.length=k*i.size:=by rw [←htk,List.length_take];omega
 have hlen:(xs ++ news).length=(k+m)*i.size:=by rw [List.length_append,hxl,hnl,Nat.add_mul]
 have hold:(Builtin.firstCells i.size k (.slice (some ⟨g,0,none⟩) k k)).run P W.drew= .ok xs.toArray W.drew:=by
  have:=uP (P:=P) (W:=W.drew) (b:=g) (T:=T) (cs:=cur) hg 0 (k*i.size) (by omega);simp only [List.drop_zero,htk] at this;simpa [Builtin.firstCells] using this
 have hr:=run_append_grow_src (P:=P) W t tx ty E i z ht hi hz (some ⟨g,0,none⟩) k k xs hold x m news hs (by omega) (by omega) (growslice_fits (by omega) hb);have hge:=grownCap_ge W (k+m) k E;have hcm:grownCap W (k+m) k E≤maxLen:=grownCap_le_maxLen W (k+m) k E (by unfold maxLen;omega);refine ⟨_,_,_,hr,⟨hlen,.inr ⟨W.heap.size,_,((xs ++ news).toArray ++ Builtin.zeroCells z.cells (grownCap W (k+m) k E - (k+m))).toList,rfl,⟨Nat.le_refl _,iX (heap_alloc_new W.drew _)⟩,heap_alloc_new W.drew _,hge,hcm,?_,?_⟩⟩,rfl,rfl,rfl,by simp,fun b hb=>heap_alloc_old W.drew _ hb⟩
 ·simp only [Array.toList_append,List.length_append,Array.length_toList,size_zeroCells,hzs];rw [←List.length_append,hlen,←Nat.add_mul];congr 1;omega
 ·simp only [Array.toList_append];rw [←hlen];exact List.take_left
end
section
variable {P:Program} {ops:Array Oper} {rest:List Oper} {Q:Exit→Act→World→Prop} {a:Act} {n G:Nat} {L:List (Nat×Value)} {w W:World} {R:List Res} {d:Nat} {T S S' E E':TypeId} {p:String} {e:Array Edge} {x y hi mx:Operand} {v u:Value} {cur xs news:List Value} {g k m len cap size bytes:Nat} {q q':IntKind} {z:List Value}
theorem aFy {agg:Bool} [sl:Sl P S E] [t:Ty P E agg z] (hs:Slots a n L) (hk:k≤cap) (hx:ev L x=some (.slice (some ⟨g,0,none⟩) len cap):=by with_unfolding_all exact rfl) (hh:ev L hi=some (.int q (k:Int)):=by with_unfolding_all exact rfl) (hm:ev L mx=some (.int q' (k:Int)):=by with_unfolding_all exact rfl) (hd:Nat.blt d n=true:=by with_unfolding_all exact rfl)
  (c:∀a',Slots a' n ((d,.slice (some ⟨g,0,none⟩) k k)::L)→wpList P ops Q rest a' W):wpList P ops Q (⟨some d,.slice S x none (some hi) (some mx),T,p,e,none⟩::rest) a W:=by
 have hb:∀(y:Nat) (c:BoundsCode) (q:IntKind),k≤y→(Instr.sliceBound (.int q (k:Int)) y c).run P W= .ok k W:=by
  intro y c q hy;have:(0:Int)≤(k:Int)∧(k:Int)≤(y:Int):=⟨by omega,by omega⟩
  simp only [Instr.sliceBound,asIntOf,Sem.run_bind,Sem.run_pure,Result.andThen_ok];rw [if_pos this];simp
 have hbs:(Instr.sliceBounds true len cap none (some (.int q (k:Int))) (some (.int q' (k:Int)))).run P W= .ok (0,k,k) W:=by
  unfold Instr.sliceBounds;simp [hb cap .slice3Acap q' hk,hb k .slice3B q (Nat.le_refl _)]
 refine bP hs hd (v:= .slice (some ⟨g,0,none⟩) k k) (W':=W) ?_ c;simp only [execOp,Option.map_some,Option.map_none,hs.ev hx,hs.ev hh,hs.ev hm,Instr.sliceAt,Instr.slice,Sem.run_bind,run_underlying sl.out,Result.andThen_ok,hbs,t.sizeOf,Sem.run_pure]
 by_cases h0:k=0
 ·subst h0;simp
 ·rw [if_neg h0];simp [eF]
theorem aFz [sl:Sl P S E] [el:El P E size bytes] (hs:Slots a n L) (hw:Has G w W R) (hg:W.heap[g]? =some (.cells ⟨cur⟩ E' (0,0))) (hk:k*size≤cur.length) (htk:cur.take (k*size)=xs) (hsrc:Src P size S' u m news W) (hm:0<m) (h63:k+m≤9223372036854775807) (hb:(k+m)*bytes≤140737488355328) (hx:ev L x=some (.slice (some ⟨g,0,none⟩) k k):=by with_unfolding_all exact rfl) (hy:ev L y=some u:=by with_unfolding_all exact rfl) (hd:Nat.blt d n=true:=by with_unfolding_all exact rfl)
  (c:∀a' ad cap W',Slots a' n ((d,.slice ad (k+m) cap)::L)→Has G w W' (Own E size (.slice ad (k+m) cap) (k+m) (xs ++ news)::R)→wpList P ops Q rest a' W'):wpList P ops Q (⟨some d,.call {callee:= .builtin .append,args:=#[x,y],argTypes:=#[S,S']},T,p,e,none⟩::rest) a W:=by
 obtain ⟨i,z,h1,h2,h3,h4,h5⟩:=el.out;subst h4 h5;obtain ⟨ad,cap,W',hr,ho,hbl⟩:=aFx (P:=P) (ty:=T) sl.out h1 h2 h3 hg hk htk hsrc hm h63 hb;refine bP hs hd (v:= .slice ad (k+m) cap) (W':=W') ?_ fun a' hs'=>c a' ad cap W' hs' (hw.newOwn hbl ho);simp only [execOp,resolve,invoke,builtin,Sem.run_bind,Sem.run_pure,Result.andThen_ok,List.map_toArray,List.map_cons,List.map_nil,hs.ev hx,hs.ev hy,hr]
end
section
variable {P:Program} {ops:Array Oper} {rest:List Oper} {Q:Exit→Act→World→Prop} {a:Act} {n G:Nat} {L:List (Nat×Value)} {w W:World} {R:List Res} {d:Nat} {T S E:TypeId} {p:String} {e:Array Edge} {x lo:Operand} {g k m cap size:Nat} {q:IntKind} {z cur:List Value} {H:Fh}
def gH (g size k cap m:Nat):Value:= .slice (if cap=m then some ⟨g,0,none⟩ else some ⟨g,m*size,none⟩) (k - m) (cap - m)
theorem sG {agg:Bool} [sl:Sl P S E] [t:Ty P E agg z] (hs:Slots a n L) (h1:m≤k) (hc:k≤cap) (hx:ev L x=some (.slice (some ⟨g,0,none⟩) k cap):=by with_unfolding_all exact rfl) (hl:ev L lo=some (.int q (m:Int)):=by with_unfolding_all exact rfl) (hd:Nat.blt d n=true:=by with_unfolding_all exact rfl)
  (c:∀a',Slots a' n ((d,gH g z.length k cap m)::L)→wpList P ops Q rest a' W):wpList P ops Q (⟨some d,.slice S x (some lo) none none,T,p,e,none⟩::rest) a W:=by
 have hb:(Instr.sliceBound (.int q (m:Int)) k .sliceB).run P W= .ok m W:=by
  have:(0:Int)≤(m:Int)∧(m:Int)≤(k:Int):=⟨by omega,by omega⟩
  simp only [Instr.sliceBound,asIntOf,Sem.run_bind,Sem.run_pure,Result.andThen_ok];rw [if_pos this];simp
 have hbs:(Instr.sliceBounds true k cap (some (.int q (m:Int))) none none).run P W= .ok (m,k,cap) W:=by
  unfold Instr.sliceBounds;simp [hb]
 refine bP hs hd (v:=gH g z.length k cap m) (W':=W) ?_ c;simp only [execOp,Option.map_some,Option.map_none,hs.ev hx,hs.ev hl,Instr.sliceAt,Instr.slice,Sem.run_bind,run_underlying sl.out,Result.andThen_ok,hbs,t.sizeOf,Sem.run_pure];unfold gH
 by_cases h0:cap=m
 ·simp [h0]
 ·rw [if_neg h0,if_neg h0];simp [eF]
theorem sH (hg:W.heap[g]? =some (.cells ⟨cur⟩ E (0,0))) (hl:cur.length=cap*size) (hc:k≤cap) (h1:m≤k) (hm:cap≤maxLen):Rd W size (gH g size k cap m) (k - m) ((cur.take (k*size)).drop (m*size)):=by
 have e1:k*size≤cap*size:=Nat.mul_le_mul_right _ hc;have e2:m*size≤k*size:=Nat.mul_le_mul_right _ h1;unfold gH;refine ⟨by rw [List.length_drop,List.length_take,Nat.sub_mul];omega,_,_,rfl,by omega,by unfold maxLen at hm;omega,?_⟩
 by_cases h0:cap=m
 ·exact .inl (by omega)
 ·refine .inr ⟨g,m*size,by rw [if_neg h0],iX hg,fun j u hu=>?_⟩;rw [List.getElem?_drop,List.getElem?_take] at hu;split at hu
  ·rw [hC hg];exact hu
  ·cases hu
end
section
variable {P:Program} {ops:Array Oper} {rest:List Oper} {Q:Exit→Act→World→Prop} {a:Act} {n:Nat} {L:List (Nat×Value)} {W:World} {d:Nat} {T:TypeId} {p:String} {e:Array Edge}
theorem aCp {f:FuncId} {xs:List Operand} {vs:List Value} (hs:Slots a n L) (k:∀a',Slots a' n ((d,.func (.func f) ⟨vs⟩ ⟨[]⟩)::L)→wpList P ops Q rest a' W) (hx:evs L xs=some vs:=by with_unfolding_all exact rfl) (hd:Nat.blt d n=true:=by with_unfolding_all exact rfl):
  wpList P ops Q (⟨some d,.makeFunc (.func f) ⟨xs⟩ ⟨[]⟩,T,p,e,none⟩::rest) a W:=by
 refine bP hs hd (v:= .func (.func f) ⟨vs⟩ ⟨[]⟩) (W':=W) ?_ k;simp only [execOp,List.map_toArray,hs.evs hx,Instr.makeFunc,Sem.run_bind,Sem.run_pure,Result.andThen_ok,List.map_nil]
theorem aIz {f:FuncId} {x:Operand} {xs:List Operand} {ts:Array TypeId} {vs fs:List Value} {C:Ending→World→Prop} (hs:Slots a n L) (hf:callee P f=true) (hc:Calls P f ⟨fs ++ vs⟩ W C)
  (k:∀e' W',C e' W'→∃v,e'= .returned v∧∀a',Slots a' n ((d,v)::L)→wpList P ops Q rest a' W') (hfv:ev L x=some (.func (.func f) ⟨fs⟩ ⟨[]⟩):=by with_unfolding_all exact rfl) (hx:evs L xs=some vs:=by with_unfolding_all exact rfl) (hd:Nat.blt d n=true:=by with_unfolding_all exact rfl):
  wpList P ops Q (⟨some d,.call {callee:= .value x,args:=⟨xs⟩,argTypes:=ts},T,p,e,none⟩::rest) a W:=by
 refine wpList_plain rfl fun K hK=>?_;have hr:(execOp a.eval ⟨some d,.call {callee:= .value x,args:=⟨xs⟩,argTypes:=ts},T,p,e,none⟩).run P W= .ok (.enter f ⟨fs ++ vs⟩) W:=by
  simp only [execOp,resolve,List.map_toArray,hs.evs hx,hs.ev hfv,Deferred.ofValue,Sem.run_bind,Sem.run_pure,Result.andThen_ok,invoke];have:((⟨fs⟩:Array Value) ++ ⟨vs⟩ ++ ⟨[]⟩)=⟨fs ++ vs⟩:=by simp
  simp only [this,uR hf]
 simp only [Oper.wp,hr,Oper.upon_enter];refine hc.mono fun e' W' h=>?_;obtain ⟨v,rfl,h2⟩:=k e' W' h;exact hK _ _ (h2 _ (hs.put hd v))
end
end Go.Sx
