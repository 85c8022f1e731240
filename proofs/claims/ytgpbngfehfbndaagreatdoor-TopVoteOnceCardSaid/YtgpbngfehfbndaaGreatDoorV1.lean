import Derived.Below
import Derived.Tactics
import Derived.WalkKit
import Derived.RegionTactic
import Derived.Deep.AppendSrc
import Derived.Laws.AppendOwn
import Derived.Laws.BytesString
import Derived.Laws.Tables
import Derived.Laws.IdiomStrings
set_option maxHeartbeats 16000000
set_option linter.all false
namespace Go.Sx
open Go.RowKit
def lk:List (Nat×Value)→Nat→Option Value
 | [],_=>none
 |(t,v)::L,u=>match Nat.beq t u with|true=>some v|false=>lk L u
structure Slots (a:Act) (n:Nat) (L:List (Nat×Value)):Prop where
 defers:a.defers= []
 size:a.tmps.size=n
 at_:∀t v,lk L t=some v→a.tmps[t]? =some v
theorem Slots.put {a:Act} {n:Nat} {L:List (Nat×Value)} (h:Slots a n L) {d:Nat} (hd:Nat.blt d n=true) (v:Value):Slots (a.put (some d) v) n ((d,v)::L):=by
 have hd':d<n:=by simpa [Nat.blt_eq] using hd
 refine ⟨h.defers,by simp [Act.put,h.size],fun t u hu=>?_⟩;simp only [Act.put];rw [Array.getElem?_setIfInBounds];simp only [lk] at hu
 by_cases e:d=t
 ·subst e;simp at hu;simp [h.size,hd',hu]
 ·have:Nat.beq d t=false:=by
   cases hb:Nat.beq d t
   ·rfl
   ·exact absurd (Nat.eq_of_beq_eq_true hb) e
  rw [this] at hu;rw [if_neg e];exact h.at_ _ _ hu
theorem Slots.sub {a:Act} {n:Nat} {L L':List (Nat×Value)} (h:Slots a n L) (hs:∀t v,lk L' t=some v→lk L t=some v):Slots a n L':=
 ⟨h.defers,h.size,fun t v hv=>h.at_ t v (hs t v hv)⟩
def ev (L:List (Nat×Value)):Operand→Option Value
 | .tmp t=>lk L t
 | .const v=>some v
 | .global g=>some (.pointer (some ⟨g,0,none⟩))
 | .func f=>some (.func (.func f) #[] #[])
theorem Slots.ev {a:Act} {n:Nat} {L:List (Nat×Value)} (h:Slots a n L) {x:Operand} {v:Value} (hx:ev L x=some v):a.eval x=v:=by
 cases x with
 |tmp t=>have:=h.at_ t v hx;simp [Act.eval,this]
 |const c=>exact Option.some.inj hx
 |global g=>exact Option.some.inj hx
 |func f=>exact Option.some.inj hx
def evs (L:List (Nat×Value)):List Operand→Option (List Value)
 | []=>some []
 |x::xs=>match ev L x,evs L xs with|some v,some vs=>some (v::vs)|_,_=>none
theorem Slots.evs {a:Act} {n:Nat} {L:List (Nat×Value)} (h:Slots a n L):∀{xs:List Operand} {vs:List Value},Sx.evs L xs=some vs→xs.map a.eval=vs
 | [],vs,hx=>by simp [Sx.evs] at hx;simp [hx]
 |x::xs,vs,hx=>by
  simp only [Sx.evs] at hx;split at hx
  ·rename_i v vs' h1 h2;have:=Option.some.inj hx;subst this;simp [h.ev h1,h.evs h2]
  ·cases hx
section
variable {P:Program} {ops:Array Oper} {rest:List Oper} {Q:Exit→Act→World→Prop} {a:Act} {n:Nat} {L:List (Nat×Value)} {W W':World}
theorem bP {d:Nat} {op:Op} {T:TypeId} {p:String} {e:Array Edge} {v:Value} (hs:Slots a n L) (hd:Nat.blt d n=true)
  (he:(execOp a.eval ⟨some d,op,T,p,e,none⟩).run P W= .ok (.value v) W')
  (k:∀a',Slots a' n ((d,v)::L)→wpList P ops Q rest a' W'):wpList P ops Q (⟨some d,op,T,p,e,none⟩::rest) a W:=by
 refine wpList_plain rfl fun K hK=>?_;simp only [Oper.wp,he,Oper.upon_value];exact hK _ _ (k _ (hs.put hd v))
theorem uO {op:Op} {T:TypeId} {p:String} {e:Array Edge} (hs:Slots a n L)
  (he:(execOp a.eval ⟨none,op,T,p,e,none⟩).run P W= .ok .skip W')
  (k:Slots a n L→wpList P ops Q rest a W'):wpList P ops Q (⟨none,op,T,p,e,none⟩::rest) a W:=by
 refine wpList_plain rfl fun K hK=>?_;simp only [Oper.wp,he,Oper.upon_skip];exact hK _ _ (k hs)
theorem aDM {d:Nat} {x:Operand} {T:TypeId} {p:String} {e:Array Edge} {v:Value} (hs:Slots a n L) (hx:ev L x=some v:=by with_unfolding_all exact rfl) (hd:Nat.blt d n=true:=by with_unfolding_all exact rfl)
  (k:∀a',Slots a' n ((d,v)::L)→wpList P ops Q rest a' W):wpList P ops Q (⟨some d,.move x,T,p,e,none⟩::rest) a W:=
 bP hs hd (by simp [execOp,hs.ev hx,pure]) k
theorem aDN {d:Nat} {x:Operand} {T:TypeId} {p:String} {e:Array Edge} {v:Value} (hs:Slots a n L) (hx:ev L x=some v:=by with_unfolding_all exact rfl) (hd:Nat.blt d n=true:=by with_unfolding_all exact rfl)
  (k:∀a',Slots a' n ((d,v)::L)→wpList P ops Q rest a' W):wpList P ops Q (⟨some d,.assign x,T,p,e,none⟩::rest) a W:=
 bP hs hd (by simp [execOp,hs.ev hx,pure]) k
theorem aDO {d:Nat} {x:Operand} {i:Nat} {T:TypeId} {p:String} {e:Array Edge} {vs:List Value} {v:Value} (hs:Slots a n L) (hx:ev L x=some (.tuple ⟨vs⟩):=by with_unfolding_all exact rfl) (hi:vs[i]? =some v:=by with_unfolding_all exact rfl) (hd:Nat.blt d n=true:=by with_unfolding_all exact rfl)
  (k:∀a',Slots a' n ((d,v)::L)→wpList P ops Q rest a' W):wpList P ops Q (⟨some d,.extract x i,T,p,e,none⟩::rest) a W:=
 bP hs hd (by simp only [execOp,hs.ev hx];simp [go_sem,hi]) k
def yO:BinOp→IntKind→Int→Int→Option Value
 | .add,k,x,y=>some (.int k (k.wrap (x+y)))
 | .sub,k,x,y=>some (.int k (k.wrap (x - y)))
 | .mul,k,x,y=>some (.int k (k.wrap (x*y)))
 | .eql,_,x,y=>some (.bool (x == y))
 | .neq,_,x,y=>some (.bool (x !=y))
 | .lss,_,x,y=>some (.bool (decide (x<y)))
 | .leq,_,x,y=>some (.bool (decide (x≤y)))
 | .gtr,_,x,y=>some (.bool (decide (x > y)))
 | .geq,_,x,y=>some (.bool (decide (x≥y)))
 | .and,k,x,y=>some (.int k (bits .and k x y))
 | .or,k,x,y=>some (.int k (bits .or k x y))
 | .xor,k,x,y=>some (.int k (bits .xor k x y))
 |_,_,_,_=>none
theorem aDP {d:Nat} {op:BinOp} {x y:Operand} {S S' T:TypeId} {p:String} {e:Array Edge} {q:IntKind} {i j:Int} {v:Value} (hs:Slots a n L) (hx:ev L x=some (.int q i):=by with_unfolding_all exact rfl) (hy:ev L y=some (.int q j):=by with_unfolding_all exact rfl) (hv:yO op q i j=some v:=by with_unfolding_all exact rfl) (hd:Nat.blt d n=true:=by with_unfolding_all exact rfl)
  (k:∀a',Slots a' n ((d,v)::L)→wpList P ops Q rest a' W):wpList P ops Q (⟨some d,.binOp op S x y S',T,p,e,none⟩::rest) a W:=
 bP hs hd (by cases op <;> simp [yO] at hv <;> (simp only [execOp,hs.ev hx,hs.ev hy];simp [go_sem,eqGuard,←hv])) k
end
structure Res where
 ok:(Nat→Prop)→World→Prop
 loc:∀(F:Nat→Prop) (W W':World),(∀b,F b→W'.heap[b]? =W.heap[b]?)→ok F W→ok F W'
def HasIn (W:World):List Res→(Nat→Prop)→Prop
 | [],_=>True
 |r::L,F=>∃F1:Nat→Prop,(∀b,F1 b→F b)∧r.ok F1 W∧HasIn W L (fun b=>F b∧¬F1 b)
theorem HasIn.mono {W:World}:∀{L:List Res} {F F':Nat→Prop},HasIn W L F→(∀b,F b→F' b)→HasIn W L F'
 | [],_,_,_,_=>trivial
 |_::_,_,_,⟨F1,h1,h2,h3⟩,h=>⟨F1,fun b hb=>h b (h1 b hb),h2,h3.mono fun b hb=>⟨h b hb.1,hb.2⟩⟩
theorem HasIn.loc {W W':World}:∀{L:List Res} {F:Nat→Prop},HasIn W L F→(∀b,F b→W'.heap[b]? =W.heap[b]?)→HasIn W' L F
 | [],_,_,_=>trivial
 |r::_,_,⟨F1,h1,h2,h3⟩,h=>⟨F1,h1,r.loc _ _ _ (fun b hb=>h b (h1 b hb)) h2,h3.loc fun b hb=>h b hb.1⟩
inductive Upd:Res→List Res→Res→List Res→Prop
 |hd {r r':Res} {L:List Res}:Upd r (r::L) r' (r'::L)
 |tl {r r' q:Res} {L L':List Res}:Upd r L r' L'→Upd r (q::L) r' (q::L')
theorem HasIn.upd {W:World} {r r':Res} {L L':List Res} (u:Upd r L r' L'):∀{F:Nat→Prop},HasIn W L F→
  ∃F1:Nat→Prop,(∀b,F1 b→F b)∧r.ok F1 W∧∀(W':World) (F' F1':Nat→Prop),(∀b,F b→F' b)→(∀b,F1' b→F' b∧(F b→F1 b))→(∀b,F b→¬F1 b→W'.heap[b]? =W.heap[b]?)→r'.ok F1' W'→HasIn W' L' F':=by
 induction u with
 |hd=>
  rintro F ⟨F1,h1,h2,h3⟩;refine ⟨F1,h1,h2,fun W' F' F1' hF hF1 hW hr=>⟨F1',fun b hb=>(hF1 b hb).1,hr,?_⟩⟩;exact (h3.loc fun b hb=>hW b hb.1 hb.2).mono fun b hb=>⟨hF b hb.1,fun h=>hb.2 ((hF1 b h).2 hb.1)⟩
 |tl u ih=>
  rintro F ⟨G,h1,h2,h3⟩;obtain ⟨F1,a1,a2,a3⟩:=ih h3;refine ⟨F1,fun b hb=>(a1 b hb).1,a2,fun W' F' F1' hF hF1 hW hr=>⟨G,fun b hb=>hF b (h1 b hb),?_,?_⟩⟩
  ·exact Res.loc _ _ _ _ (fun b hb=>hW b (h1 b hb) fun h=>(a1 b h).2 hb) h2
  ·refine a3 W' _ F1' (fun b hb=>⟨hF b hb.1,hb.2⟩) (fun b hb=>⟨⟨(hF1 b hb).1,fun hG=>?_⟩,fun h=>(hF1 b hb).2 h.1⟩) (fun b hb hn=>hW b hb.1 hn) hr;exact (a1 b ((hF1 b hb).2 (h1 b hG))).2 hG
structure Ext (G:Nat) (w W:World):Prop where
 os:W.os=w.os
 tape:W.tape=w.tape
 output:W.output=w.output
 size:w.heap.size≤W.heap.size
 glob:∀b,b<G→W.heap[b]? =w.heap[b]?
theorem Ext.refl (G:Nat) (w:World):Ext G w w:=⟨rfl,rfl,rfl,Nat.le_refl _,fun _ _=>rfl⟩
theorem Ext.trans {G:Nat} {a b c:World} (h:Ext G a b) (k:Ext G b c):Ext G a c:=
 ⟨k.os.trans h.os,k.tape.trans h.tape,k.output.trans h.output,Nat.le_trans h.size k.size,fun i hi=>(k.glob i hi).trans (h.glob i hi)⟩
theorem Ext.below {G:Nat} {a b:World} (hG:G≤a.heap.size) (h:Below a.heap.size a b):Ext G a b:=⟨h.os,h.tape,h.output,h.size,fun i hi=>h.block i (by omega)⟩
structure Has (G:Nat) (w W:World) (L:List Res):Prop where
 ext:Ext G w W
 glob:G≤w.heap.size
 has:HasIn W L (fun b=>G≤b∧b<W.heap.size)
section
variable {G:Nat} {w W W':World} {L L':List Res}
theorem Has.globW (h:Has G w W L):G≤W.heap.size:=Nat.le_trans h.glob h.ext.size
theorem Has.below (h:Has G w W L) (hb:Below W.heap.size W W'):Has G w W' L:=
 ⟨h.ext.trans (Ext.below h.globW hb),h.glob,(h.has.loc fun b hb'=>hb.block b hb'.2).mono fun b hb'=>⟨hb'.1,Nat.lt_of_lt_of_le hb'.2 hb.size⟩⟩
theorem Has.rebase (h:Has G w W L):Has G W W L:=⟨Ext.refl _ _,h.globW,h.has⟩
theorem Has.trans (h:Has G w W L) (k:Has G W W' L'):Has G w W' L':=⟨h.ext.trans k.ext,h.glob,k.has⟩
def aA (b:Nat) (cs:List Value) (T:TypeId):Res where
 ok F W:=F b∧W.heap[b]? =some (.cells ⟨cs⟩ T (0,0))
 loc F W W' h:=fun ⟨h1,h2⟩=>⟨h1,(h b h1).trans h2⟩
def Old (w:World) (G:Nat):Res where
 ok F W:=∀b,G≤b→b<w.heap.size→F b∧W.heap[b]? =w.heap[b]?
 loc F W W' h k:=fun b hG hb=>⟨(k b hG hb).1,(h b (k b hG hb).1).trans (k b hG hb).2⟩
def In (r:Res) (L:List Res):Prop:=Upd r L r L
theorem In.hd {r:Res} {L:List Res}:In r (r::L):=Upd.hd
theorem In.tl {r q:Res} {L:List Res} (h:In r L):In r (q::L):=Upd.tl h
theorem Has.of_in {r:Res} (h:Has G w W L) (i:In r L):∃F,(∀b,F b→G≤b∧b<W.heap.size)∧r.ok F W:=by
 obtain ⟨F1,h1,h2,_⟩:=h.has.upd i;exact ⟨F1,h1,h2⟩
theorem Has.start (h:G≤w.heap.size):Has G w w [Old w G]:=⟨Ext.refl _ _,h,fun b=>G≤b∧b<w.heap.size,fun _ h=>h,fun _ h1 h2=>⟨⟨h1,h2⟩,rfl⟩,trivial⟩
theorem Has.end (h:Has G w W L) (i:In (Old w G) L):Below w.heap.size w W:=by
 obtain ⟨F,_,h2⟩:=h.of_in i;refine ⟨h.ext.os,h.ext.tape,h.ext.output,h.ext.size,fun b hb=>?_⟩
 by_cases hG:b<G
 ·exact h.ext.glob b hG
 ·exact (h2 b (by omega) hb).2
theorem Has.new (h:Has G w W L) (cs:List Value) (T:TypeId):Has G w (W.alloc (.cells ⟨cs⟩ T)) (aA W.heap.size cs T::L):=by
 have hb:Below W.heap.size W (W.alloc (.cells ⟨cs⟩ T)):=(Below.refl _ _).alloc (Nat.le_refl _) _;have h1:=h.below hb;refine ⟨h1.ext,h1.glob,fun b=>b=W.heap.size,?_,⟨rfl,?_⟩,?_⟩
 ·rintro b rfl;exact ⟨h.globW,by simp⟩
 ·show (W.heap.push _)[W.heap.size]? =_;simp
 ·refine (h.has.loc fun b hb'=>hb.block b hb'.2).mono fun b hb'=>⟨⟨hb'.1,Nat.lt_of_lt_of_le hb'.2 hb.size⟩,by omega⟩
theorem Has.block {b:Nat} {cs:List Value} {T:TypeId} (h:Has G w W L) (i:In (aA b cs T) L):W.heap[b]? =some (.cells ⟨cs⟩ T (0,0))∧G≤b∧b<W.heap.size:=by
 obtain ⟨F,h1,h2⟩:=h.of_in i;exact ⟨h2.2,h1 _ h2.1⟩
theorem Has.set {b:Nat} {cs cs':List Value} {T:TypeId} (h:Has G w W L) (u:Upd (aA b cs T) L (aA b cs' T) L') (hx:W'.heap.size=W.heap.size) (hos:W'.os=W.os) (ht:W'.tape=W.tape) (ho:W'.output=W.output)
  (hother:∀c,c≠b→W'.heap[c]? =W.heap[c]?) (hb:W'.heap[b]? =some (.cells ⟨cs'⟩ T (0,0))):Has G w W' L':=by
 obtain ⟨F1,h1,h2,h3⟩:=h.has.upd u;have hbG:=(h1 b h2.1).1;refine ⟨h.ext.trans ⟨hos,ht,ho,by omega,fun c hc=>hother c (by omega)⟩,h.glob,h3 W' _ (fun c=>c=b) (fun c hc=>⟨hc.1,by omega⟩) ?_ ?_ ⟨rfl,hb⟩⟩
 ·rintro c rfl;exact ⟨⟨hbG,by have:=(h1 c h2.1).2;omega⟩,fun _=>h2.1⟩
 ·intro c hc hn;refine hother c fun e=>hn ?_;rw [e];exact h2.1
end
class Ty (P:Program) (T:TypeId) (agg:outParam Bool) (z:outParam (List Value)):Prop where
 agg_:(match P.underlying T with|some (.struct _)|some (.array _ _)=>true|_=>false)=agg∧(P.underlying T).isSome=true
 info:∃i v,P.info? T=some i∧i.zero=some v∧v.cells=⟨z⟩∧i.size=z.length
theorem Ty.mk' {P:Program} {T:TypeId} {agg:Bool} {z:List Value} {v:Value} {k:Nat} (h1:((P.underlying T).map fun d=>match d with| .struct _| .array _ _=>true|_=>false)=some agg) (h2:(P.info? T).map (fun i=>(i.zero,i.size))=some (some v,k)) (h3:v.cells=⟨z⟩) (h4:z.length=k):Ty P T agg z:=by
 cases hu:P.underlying T with
 |none=>simp [hu] at h1
 |some d=>
  cases hi:P.info? T with
  |none=>simp [hi] at h2
  |some i=>
   simp only [hi,Option.map_some,Option.some.injEq,Prod.mk.injEq] at h2;refine ⟨⟨?_,by simp [hu]⟩,i,v,hi,h2.1,h3,by omega⟩;rw [hu] at h1⊢;cases d <;> simpa using h1
theorem Ty.s {P:Program} {T:TypeId} {z:List Value} (h1:((P.underlying T).map fun d=>match d with| .struct _| .array _ _=>true|_=>false)=some true:=by kernel_rfl) (h2:(P.info? T).map (fun i=>(i.zero,i.size))=some (some (.agg ⟨z⟩),z.length):=by kernel_rfl):Ty P T true z:= .mk' h1 h2 rfl rfl
theorem Ty.o {P:Program} {T:TypeId} {v:Value} (h1:((P.underlying T).map fun d=>match d with| .struct _| .array _ _=>true|_=>false)=some false:=by kernel_rfl) (h2:(P.info? T).map (fun i=>(i.zero,i.size))=some (some v,1):=by kernel_rfl) (h3:v.cells=⟨[v]⟩:=by rfl):Ty P T false [v]:= .mk' h1 h2 h3 rfl
theorem Ty.isAgg {P:Program} {T:TypeId} {agg:Bool} {z:List Value} (h:Ty P T agg z) (W:World):(isAgg T).run P W= .ok agg W:=by
 obtain ⟨h1,h2⟩:=h.agg_;cases hu:P.underlying T with
 |none=>rw [hu] at h2;cases h2
 |some d=>
  rw [hu] at h1;unfold Go.isAgg;rw [Sem.run_bind,run_underlying hu W];cases d <;> simp at h1⊢<;> simp [h1]
theorem Ty.sizeOf {P:Program} {T:TypeId} {agg:Bool} {z:List Value} (h:Ty P T agg z) (W:World):(sizeOf T).run P W= .ok z.length W:=by
 obtain ⟨i,v,h1,h2,h3,h4⟩:=h.info;simp [Go.sizeOf,typeInfo,Sem.run_bind,h1,h4]
theorem Ty.zero {P:Program} {T:TypeId} {agg:Bool} {z:List Value} (h:Ty P T agg z) (W:World):∃v,(zeroValue T).run P W= .ok v W∧v.cells=⟨z⟩:=by
 obtain ⟨i,v,h1,h2,h3,h4⟩:=h.info;exact ⟨v,by simp [Go.zeroValue,typeInfo,Sem.run_bind,h1,h2],h3⟩
def ov:List Value→Nat→List Value→List Value
 | [],_,_=>[]
 |c::cs,0,[]=>c::cs
 |_::cs,0,v::vs=>v::ov cs 0 vs
 |c::cs,o+1,vs=>c::ov cs o vs
theorem rH:∀(cs:List Value) (o:Nat),ov cs o []=cs
 | [],_=>by simp [ov]
 |c::cs,0=>by simp [ov]
 |c::cs,o+1=>by simp [ov,rH cs o]
theorem rI:∀(cs:List Value) (o:Nat) (v:Value) (vs:List Value),ov cs o (v::vs)=ov (cs.set o v) (o+1) vs
 | [],_,_,_=>by simp [ov]
 |c::cs,0,v,vs=>by simp [ov]
 |c::cs,o+1,v,vs=>by simp [ov,rI cs o v vs]
theorem kP:∀(cs:List Value) (o:Nat) (vs:List Value),(ov cs o vs).length=cs.length
 | [],_,_=>by simp [ov]
 |c::cs,0,[]=>by simp [ov]
 |c::cs,0,v::vs=>by simp [ov,kP cs 0 vs]
 |c::cs,o+1,vs=>by simp [ov,kP cs o vs]
def put (W:World) (b:Nat) (o:Obj):World:={W with heap:=W.heap.setIfInBounds b o}
theorem oS {W:World} {b:Nat} {o:Obj} (h:b<W.heap.size):(put W b o).heap[b]? =some o:=by simp [put,h]
theorem rJ {W:World} {b c:Nat} {o:Obj} (h:c≠b):(put W b o).heap[c]? =W.heap[c]?:=by
 simp only [put];rw [Array.getElem?_setIfInBounds_ne (by omega)]
theorem aDQ {W:World} {b:Nat} {o o':Obj}:put (put W b o) b o'=put W b o':=by simp [put]
theorem iX {W:World} {b:Nat} {o:Obj} (h:W.heap[b]? =some o):b<W.heap.size:=(Array.getElem?_eq_some_iff.1 h).1
theorem aDR {W:World} {b:Nat} {cs:List Value} {T:TypeId} (h:W.heap[b]? =some (.cells ⟨cs⟩ T (0,0))) (o:Nat) (v:Value):
  W.setCell ⟨b,o,none⟩ v=put W b (.cells ⟨cs.set o v⟩ T (0,0)):=by
 obtain ⟨hb,hx⟩:=Array.getElem?_eq_some_iff.1 h;unfold World.setCell put;congr 1;apply Array.ext_getElem?;intro i;rw [Array.getElem?_modify,Array.getElem?_setIfInBounds]
 by_cases e:b=i
 ·subst e;simp [hb,hx]
 ·simp [e]
theorem hC {W:World} {b:Nat} {cs:List Value} {T:TypeId} (h:W.heap[b]? =some (.cells ⟨cs⟩ T (0,0))) (o:Nat):W.cell? ⟨b,o,none⟩=cs[o]?:=by
 simp [World.cell?,h]
theorem aDS {W:World} {b:Nat} {cs:List Value} {T:TypeId} (h:W.heap[b]? =some (.cells ⟨cs⟩ T (0,0))) (o:Nat):W.frozen? ⟨b,o,none⟩=false:=by
 simp [World.frozen?,h]
theorem eF (b o j:Nat):(⟨b,o,none⟩:Addr).add j=⟨b,o+j,none⟩:=by unfold Addr.add;split <;> simp_all
theorem oT {P:Program} {b:Nat} {T:TypeId} (o:Nat):∀(vs:List Value) (i:Nat) (cs:List Value) (W:World),W.heap[b]? =some (.cells ⟨cs⟩ T (0,0))→o+i+vs.length≤cs.length→(∀v∈vs,v.oneCell'=true)→
  (storeCells ⟨b,o,none⟩ vs i).run P W= .ok () (put W b (.cells ⟨ov cs (o+i) vs⟩ T (0,0)))
 | [],i,cs,W,h,hl,h1=>by
  simp only [storeCells,Sem.run_pure,rH];congr 1;unfold put;have:W.heap.setIfInBounds b (.cells ⟨cs⟩ T (0,0))=W.heap:=by
   apply Array.ext_getElem?;intro i;rw [Array.getElem?_setIfInBounds]
   by_cases e:b=i
   ·subst e;obtain ⟨hb,hx⟩:=Array.getElem?_eq_some_iff.1 h;simp [hb,hx]
   ·simp [e]
  rw [this]
 |v::vs,i,cs,W,h,hl,h1=>by
  have hl':o+i+(vs.length+1)≤cs.length:=by simpa using hl
  have hc:W.cell? ⟨b,o+i,none⟩=some cs[o+i]:=by rw [hC h];exact List.getElem?_eq_getElem (by omega)
  simp only [storeCells,Sem.run_bind,eF];rw [run_store P W _ v .plain (h1 v (by simp)),hc];simp only [aDS h,Bool.false_eq_true,if_false,Result.andThen,aDR h];have ih:=oT (P:=P) (b:=b) (T:=T) o vs (i+1) (cs.set (o+i) v) (put W b (.cells ⟨cs.set (o+i) v⟩ T (0,0))) (oS (iX h)) (by simp;omega) (fun u hu=>h1 u (by simp [hu]));rw [ih,aDQ,rI,Nat.add_assoc]
theorem uP {P:Program} {b:Nat} {T:TypeId} {cs:List Value} {W:World} (h:W.heap[b]? =some (.cells ⟨cs⟩ T (0,0))) (o n:Nat) (hl:o+n≤cs.length):
  (loadCells ⟨b,o,none⟩ n).run P W= .ok ⟨(cs.drop o).take n⟩ W:=by
 have hn:((cs.drop o).take n).length=n:=by simp;omega
 have:=run_loadCells_list (P:=P) W ⟨b,o,none⟩ ((cs.drop o).take n) (fun j v hv=>by
  rw [eF,hC h];rw [List.getElem?_take] at hv;split at hv
  ·rw [List.getElem?_drop] at hv;exact hv
  ·cases hv)
 rw [hn] at this;exact this
section
variable {P:Program} {W:World} {b o:Nat} {cs:List Value} {T E:TypeId} {z:List Value}
def cut:List Value→Nat→Nat→List Value
 | [],_,_=>[]
 |_::_,0,0=>[]
 |c::cs,0,n+1=>c::cut cs 0 n
 |_::cs,o+1,n=>cut cs o n
theorem gB:∀(cs:List Value) (o n:Nat),cut cs o n=(cs.drop o).take n
 | [],_,_=>by simp [cut]
 |c::cs,0,0=>by simp [cut]
 |c::cs,0,n+1=>by simp [cut,gB cs 0 n]
 |c::cs,o+1,n=>by simp [cut,gB cs o n]
theorem oU (t:Ty P T true z) (h:W.heap[b]? =some (.cells ⟨cs⟩ E (0,0))) (hl:o+z.length≤cs.length):
  (Instr.loadAt T (.pointer (some ⟨b,o,none⟩))).run P W= .ok (.agg ⟨cut cs o z.length⟩) W:=by
 simp only [Instr.loadAt,Instr.sureAddr,Sem.run_bind,Sem.run_pure,Result.andThen_ok,loadVar,t.isAgg,if_true,t.sizeOf,uP h o z.length hl,gB]
theorem aDT (t:Ty P T false z) (h:W.heap[b]? =some (.cells ⟨cs⟩ E (0,0))) {v:Value} (hv:cs[o]? =some v):
  (Instr.loadAt T (.pointer (some ⟨b,o,none⟩))).run P W= .ok v W:=by
 simp only [Instr.loadAt,Instr.sureAddr,Sem.run_bind,Sem.run_pure,Result.andThen_ok,loadVar,t.isAgg,Bool.false_eq_true,if_false,run_load,hC h,hv]
theorem aDU (agg:Bool) (t:Ty P T agg z) (h:W.heap[b]? =some (.cells ⟨cs⟩ E (0,0))) {v:Value} {vs:List Value} (hv:v.cells=⟨vs⟩) (hz:vs.length=z.length) (h1:vs.all (·.oneCell')=true) (hl:o+vs.length≤cs.length):
  (Instr.storeAt T (.pointer (some ⟨b,o,none⟩)) v).run P W= .ok () (put W b (.cells ⟨ov cs o vs⟩ E (0,0))):=by
 have:=oT (P:=P) o vs 0 cs W h (by simpa using hl) (by simpa using h1);simp only [Instr.storeAt,Instr.sureAddr,Sem.run_bind,Sem.run_pure,Result.andThen_ok,storeVar,t.sizeOf,hv];simp only [List.size_toArray,hz,ne_eq,not_true_eq_false,if_false];simpa using this
end
class Fld (P:Program) (S:TypeId) (f:Nat) (off:outParam Nat) (T:outParam TypeId):Prop where
 out:∃fs fd,P.underlying S=some (.struct fs)∧fs[f]? =some fd∧fd.offset=off∧fd.type=T∧(P.info? T).any (fun i=>i.size≠0)=true
theorem Fld.mk' {P:Program} {S:TypeId} {f off:Nat} {T:TypeId} (h1:(match P.underlying S with|some (.struct fs)=>(fs[f]?).map fun fd=>(fd.offset,fd.type)|_=>none)=some (off,T)) (h2:(P.info? T).any (fun i=>i.size≠0)=true):Fld P S f off T:=by
 cases hu:P.underlying S with
 |none=>simp [hu] at h1
 |some d=>
  rw [hu] at h1;cases d with
  |struct fs=>
   simp only [] at h1;cases hf:fs[f]? with
   |none=>simp [hf] at h1
   |some fd=>
    simp only [hf,Option.map_some,Option.some.injEq,Prod.mk.injEq] at h1;exact ⟨fs,fd,hu,hf,h1.1,h1.2,h2⟩
  |_=>simp at h1
theorem Fld.o {P:Program} {S:TypeId} {f off:Nat} {T:TypeId} (h1:(match P.underlying S with|some (.struct fs)=>(fs[f]?).map fun fd=>(fd.offset,fd.type)|_=>none)=some (off,T):=by kernel_rfl) (h2:(P.info? T).any (fun i=>i.size≠0)=true:=by kernel_rfl):Fld P S f off T:= .mk' h1 h2
class IntTy (P:Program) (T:TypeId) (k:outParam IntKind):Prop where
 out:P.underlying T=some (.int k)
class StrTy (P:Program) (T:TypeId):Prop where
 out:P.underlying T=some .string
class St (P:Program) (T:TypeId) (fs:outParam (List (Nat×Nat))):Prop where
 out:(match P.underlying T with|some (.struct fields)=>fields.toList.mapM (fun f=>(P.info? f.type).map fun i=>(f.offset,i.size))|_=>none)=some fs
class Sl (P:Program) (S:TypeId) (T:outParam TypeId):Prop where
 out:P.underlying S=some (.slice T)
section
variable {P:Program} {ops:Array Oper} {rest:List Oper} {Q:Exit→Act→World→Prop} {a:Act} {n G:Nat} {L:List (Nat×Value)} {w W W':World} {R R':List Res} {d:Nat} {T S E:TypeId} {p:String} {e:Array Edge} {x y:Operand} {v:Value} {z cs:List Value} {b o:Nat}
theorem yP {agg:Bool} [t:Ty P E agg z] (hs:Slots a n L) (hw:Has G w W R) (hd:Nat.blt d n=true:=by with_unfolding_all exact rfl)
  (k:∀a' b W',Has G w W' (aA b z E::R)→Slots a' n ((d,.pointer (some ⟨b,0,none⟩))::L)→wpList P ops Q rest a' W'):wpList P ops Q (⟨some d,.alloc E,T,p,e,none⟩::rest) a W:=by
 obtain ⟨v,h1,h2⟩:=t.zero W;refine bP hs hd (W':=W.alloc (.cells ⟨z⟩ E)) (v:= .pointer (some ⟨W.heap.size,0,none⟩)) ?_ fun a' hs'=>k a' W.heap.size _ (hw.new z E) hs';simp only [execOp,Instr.alloc,Sem.run_bind,h1,Result.andThen_ok,newVar,newRow,h2];rfl
theorem yQ {vs:List Value} (hs:Slots a n L) (hw:Has G w W R) (hx:ev L x=some v:=by with_unfolding_all exact rfl) (hv:v.cells=⟨vs⟩:=by with_unfolding_all exact rfl) (hd:Nat.blt d n=true:=by with_unfolding_all exact rfl)
  (k:∀a' b W',Has G w W' (aA b vs E::R)→Slots a' n ((d,.pointer (some ⟨b,0,none⟩))::L)→wpList P ops Q rest a' W'):wpList P ops Q (⟨some d,.box E x,T,p,e,none⟩::rest) a W:=by
 refine bP hs hd (W':=W.alloc (.cells ⟨vs⟩ E)) (v:= .pointer (some ⟨W.heap.size,0,none⟩)) ?_ fun a' hs'=>k a' W.heap.size _ (hw.new vs E) hs';simp only [execOp,hs.ev hx,Instr.box,Sem.run_bind,newVar,newRow,hv];rfl
theorem uQ [t:Ty P S true z] (hs:Slots a n L) (hx:ev L x=some (.pointer (some ⟨b,o,none⟩)):=by with_unfolding_all exact rfl) (hw:Has G w W R) (hi:In (aA b cs E) R:=by repeat (first|exact In.hd|apply In.tl)) (hl:Nat.ble (o+z.length) cs.length=true:=by with_unfolding_all exact rfl) (hd:Nat.blt d n=true:=by with_unfolding_all exact rfl)
  (k:∀a',Slots a' n ((d,.agg ⟨cut cs o z.length⟩)::L)→wpList P ops Q rest a' W):wpList P ops Q (⟨some d,.load S x,T,p,e,none⟩::rest) a W:=
 bP hs hd (by simp only [execOp,hs.ev hx,Sem.run_bind,oU t (hw.block hi).1 (Nat.le_of_ble_eq_true hl),Result.andThen_ok];rfl) k
theorem gC [t:Ty P S false z] (hs:Slots a n L) (hx:ev L x=some (.pointer (some ⟨b,o,none⟩)):=by with_unfolding_all exact rfl) (hw:Has G w W R) (hi:In (aA b cs E) R:=by repeat (first|exact In.hd|apply In.tl)) (hv:cs[o]? =some v:=by with_unfolding_all exact rfl) (hd:Nat.blt d n=true:=by with_unfolding_all exact rfl)
  (k:∀a',Slots a' n ((d,v)::L)→wpList P ops Q rest a' W):wpList P ops Q (⟨some d,.load S x,T,p,e,none⟩::rest) a W:=
 bP hs hd (by simp only [execOp,hs.ev hx,Sem.run_bind,aDT t (hw.block hi).1 hv,Result.andThen_ok];rfl) k
theorem d7 {agg:Bool} [t:Ty P S agg z] {vs:List Value} (hs:Slots a n L) (hx:ev L x=some (.pointer (some ⟨b,o,none⟩)):=by with_unfolding_all exact rfl) (hy:ev L y=some v:=by with_unfolding_all exact rfl) (hv:v.cells=⟨vs⟩:=by with_unfolding_all exact rfl) (hw:Has G w W R)
  (hu:Upd (aA b cs E) R (aA b (ov cs o vs) E) R':=by repeat (first|exact Upd.hd|apply Upd.tl)) (hz:Nat.beq vs.length z.length=true:=by with_unfolding_all exact rfl) (h1:vs.all (·.oneCell')=true:=by with_unfolding_all exact rfl) (hl:Nat.ble (o+vs.length) cs.length=true:=by with_unfolding_all exact rfl)
  (k:∀W',Slots a n L→Has G w W' R'→wpList P ops Q rest a W'):wpList P ops Q (⟨none,.store S x y,T,p,e,none⟩::rest) a W:=by
 have hb:=hw.has.upd hu;obtain ⟨F,h2,h3,_⟩:=hb;have hb:=h3.2;have hlt:=iX hb;refine uO hs (W':=put W b (.cells ⟨ov cs o vs⟩ E (0,0))) ?_ fun hs'=>k _ hs' (hw.set hu (by simp [put]) rfl rfl rfl (fun c hc=>rJ hc) (oS hlt));simp only [execOp,hs.ev hx,hs.ev hy,Sem.run_bind,aDU agg t hb hv (Nat.eq_of_beq_eq_true hz) h1 (Nat.le_of_ble_eq_true hl),Result.andThen_ok];rfl
theorem aDV {f off:Nat} {F:TypeId} [t:Fld P S f off F] (hs:Slots a n L) (hx:ev L x=some (.pointer (some ⟨b,o,none⟩)):=by with_unfolding_all exact rfl) (hd:Nat.blt d n=true:=by with_unfolding_all exact rfl)
  (k:∀a',Slots a' n ((d,.pointer (some ⟨b,o+off,none⟩))::L)→wpList P ops Q rest a' W):wpList P ops Q (⟨some d,.fieldAddr S x f,T,p,e,none⟩::rest) a W:=by
 obtain ⟨fs,fd,h1,h2,h3,h4,h5⟩:=t.out;refine bP hs hd ?_ k;cases hi:P.info? F with
 |none=>rw [hi] at h5;cases h5
 |some i=>
  rw [hi] at h5;have h6:i.size≠0:=by simpa using h5
  simp only [execOp,hs.ev hx,Instr.fieldAt,Sem.run_bind,run_underlying h1,Result.andThen_ok,h2,Instr.sureAddr,Sem.run_pure,fieldPlace,Go.sizeOf,typeInfo,run_program,h4,hi,if_neg h6,eF,h3]
theorem aDW {f off:Nat} {F:TypeId} [t:Fld P S f off F] [u:Ty P F true z] (hs:Slots a n L) (hx:ev L x=some (.agg ⟨cs⟩):=by with_unfolding_all exact rfl) (hd:Nat.blt d n=true:=by with_unfolding_all exact rfl)
  (k:∀a',Slots a' n ((d,.agg ⟨cut cs off z.length⟩)::L)→wpList P ops Q rest a' W):wpList P ops Q (⟨some d,.field S x f,T,p,e,none⟩::rest) a W:=by
 obtain ⟨fs,fd,h1,h2,h3,h4,h5⟩:=t.out;refine bP hs hd ?_ k;simp only [execOp,hs.ev hx,Instr.field,Sem.run_bind,run_underlying h1,Result.andThen_ok,h2,asAgg,Sem.run_pure,part,h4,u.isAgg,if_true,u.sizeOf,h3];simp [gB,List.extract_eq_take_drop]
theorem aDX {f off:Nat} {F:TypeId} [t:Fld P S f off F] [u:Ty P F false z] (hs:Slots a n L) (hx:ev L x=some (.agg ⟨cs⟩):=by with_unfolding_all exact rfl) (hv:cs[off]? =some v:=by with_unfolding_all exact rfl) (hd:Nat.blt d n=true:=by with_unfolding_all exact rfl)
  (k:∀a',Slots a' n ((d,v)::L)→wpList P ops Q rest a' W):wpList P ops Q (⟨some d,.field S x f,T,p,e,none⟩::rest) a W:=by
 obtain ⟨fs,fd,h1,h2,h3,h4,h5⟩:=t.out;refine bP hs hd ?_ k;simp only [execOp,hs.ev hx,Instr.field,Sem.run_bind,run_underlying h1,Result.andThen_ok,h2,asAgg,Sem.run_pure,part,h4,u.isAgg,Bool.false_eq_true,if_false,h3];simp [hv]
theorem aDY {S:TypeId} {c:Bool} (hs:Slots a n L) (hx:ev L x=some (.bool c):=by with_unfolding_all exact rfl) (hd:Nat.blt d n=true:=by with_unfolding_all exact rfl)
  (k:∀a',Slots a' n ((d,.bool (!c))::L)→wpList P ops Q rest a' W):wpList P ops Q (⟨some d,.unOp .not S x,T,p,e,none⟩::rest) a W:=
 bP hs hd (by simp only [execOp,hs.ev hx];simp [Op.unary]) k
theorem aDZ {S:TypeId} {q:IntKind} {i:Int} (hs:Slots a n L) (hx:ev L x=some (.int q i):=by with_unfolding_all exact rfl) (hd:Nat.blt d n=true:=by with_unfolding_all exact rfl)
  (k:∀a',Slots a' n ((d,.int q (q.wrap (0 - i)))::L)→wpList P ops Q rest a' W):wpList P ops Q (⟨some d,.unOp .neg S x,T,p,e,none⟩::rest) a W:=
 bP hs hd (by simp only [execOp,hs.ev hx];simp [Op.unary,Op.intArith]) k
theorem aD0 {c:Operand} {t:Bool} {u:Value} (hs:Slots a n L) (hc:ev L c=some (.bool t):=by with_unfolding_all exact rfl) (hx:ev L x=some v:=by with_unfolding_all exact rfl) (hy:ev L y=some u:=by with_unfolding_all exact rfl) (hd:Nat.blt d n=true:=by with_unfolding_all exact rfl)
  (k:∀a',Slots a' n ((d,if t then v else u)::L)→wpList P ops Q rest a' W):wpList P ops Q (⟨some d,.pick c x y,T,p,e,none⟩::rest) a W:=
 bP hs hd (by simp only [execOp,hs.ev hc,hs.ev hx,hs.ev hy];cases t <;> simp [asBool]) k
def yR:BinOp→ByteArray→ByteArray→Option Value
 | .eql,x,y=>some (.bool (x.toList == y.toList))
 | .neq,x,y=>some (.bool (!(x.toList == y.toList)))
 | .lss,x,y=>some (.bool (Op.bytesLess x.toList y.toList))
 |_,_,_=>none
theorem aD1 {op:BinOp} {S':TypeId} {r s:ByteArray} (hs:Slots a n L) (hx:ev L x=some (.string r):=by with_unfolding_all exact rfl) (hy:ev L y=some (.string s):=by with_unfolding_all exact rfl) (hv:yR op r s=some v:=by with_unfolding_all exact rfl) (hd:Nat.blt d n=true:=by with_unfolding_all exact rfl)
  (k:∀a',Slots a' n ((d,v)::L)→wpList P ops Q rest a' W):wpList P ops Q (⟨some d,.binOp op S x y S',T,p,e,none⟩::rest) a W:=
 bP hs hd (by cases op <;> simp [yR] at hv <;> (simp only [execOp,hs.ev hx,hs.ev hy];simp [eqGuard,binOp,Op.stringOp,←hv])) k
theorem aD2 {q q' q'':IntKind} {i:Int} [t:IntTy P S q''] [u:IntTy P E q'] (hs:Slots a n L) (hx:ev L x=some (.int q i):=by with_unfolding_all exact rfl) (hd:Nat.blt d n=true:=by with_unfolding_all exact rfl)
  (k:∀a',Slots a' n ((d,.int q' (q'.wrap i))::L)→wpList P ops Q rest a' W):wpList P ops Q (⟨some d,.convert S E x,T,p,e,none⟩::rest) a W:=
 bP hs hd (by simp only [execOp,hs.ev hx,convert,Sem.run_bind,run_underlying t.out,run_underlying u.out,Result.andThen_ok,Conv.intToInt,Sem.run_pure]) k
theorem aD3 {s:ByteArray} [t:StrTy P S] [u:StrTy P E] (hs:Slots a n L) (hx:ev L x=some (.string s):=by with_unfolding_all exact rfl) (hd:Nat.blt d n=true:=by with_unfolding_all exact rfl)
  (k:∀a',Slots a' n ((d,.string s)::L)→wpList P ops Q rest a' W):wpList P ops Q (⟨some d,.convert S E x,T,p,e,none⟩::rest) a W:=
 bP hs hd (by simp only [execOp,hs.ev hx,convert,Sem.run_bind,run_underlying t.out,run_underlying u.out,Result.andThen_ok,Sem.run_pure]) k
theorem aD4 {s:ByteArray} {S:TypeId} [t:StrTy P S] (hs:Slots a n L) (hx:ev L x=some (.string s):=by with_unfolding_all exact rfl) (hd:Nat.blt d n=true:=by with_unfolding_all exact rfl)
  (k:∀a',Slots a' n ((d,.int .i64 s.size)::L)→wpList P ops Q rest a' W):wpList P ops Q (⟨some d,.call {callee:= .builtin .len,args:=#[x],argTypes:=#[S]},T,p,e,none⟩::rest) a W:=
 bP hs hd (by simp only [execOp,resolve,invoke,builtin,Builtin.len_,List.map_toArray,List.map_cons,List.map_nil,hs.ev hx,Sem.run_bind,Sem.run_pure,Result.andThen_ok];simp [Sem.run_bind,run_underlying t.out,goInt]) k
theorem rK {ad:Option Addr} {l c:Nat} {S F:TypeId} [t:Sl P S F] (hs:Slots a n L) (hx:ev L x=some (.slice ad l c):=by with_unfolding_all exact rfl) (hd:Nat.blt d n=true:=by with_unfolding_all exact rfl)
  (k:∀a',Slots a' n ((d,.int .i64 l)::L)→wpList P ops Q rest a' W):wpList P ops Q (⟨some d,.call {callee:= .builtin .len,args:=#[x],argTypes:=#[S]},T,p,e,none⟩::rest) a W:=
 bP hs hd (by simp only [execOp,resolve,invoke,builtin,Builtin.len_,List.map_toArray,List.map_cons,List.map_nil,hs.ev hx,Sem.run_bind,Sem.run_pure,Result.andThen_ok];simp [Sem.run_bind,run_underlying t.out,goInt]) k
def callee (P:Program) (f:FuncId):Bool:=match P.funcs[f]? with|some fn=>!(fn.name == "runtime.NumGoroutine") && fn.body.isSome|none=>false
theorem uR {f:FuncId} {vs:Array Value} (h:callee P f=true) (W:World):(callFunc f vs).run P W= .ok (.enter f vs) W:=by
 unfold callee at h;split at h
 ·rename_i fn hf;simp only [Bool.and_eq_true,Bool.not_eq_true'] at h;have h2:fn.body.isNone=false:=by cases hb:fn.body <;> simp [hb] at h⊢
  simp only [callFunc,Sem.run_bind,run_program,Result.andThen_ok,hf,h.1,Bool.false_eq_true,if_false,h2,Sem.run_pure]
 ·cases h
theorem aH {f:FuncId} {xs:List Operand} {ts:Array TypeId} {vs:List Value} {C:Ending→World→Prop} (hs:Slots a n L) (hx:evs L xs=some vs:=by with_unfolding_all exact rfl) (hf:callee P f=true:=by kernel_rfl) (hd:Nat.blt d n=true:=by with_unfolding_all exact rfl)
  (hc:Calls P f ⟨vs⟩ W C)
  (k:∀e' W',C e' W'→∃v,e'= .returned v∧∀a',Slots a' n ((d,v)::L)→wpList P ops Q rest a' W'):
  wpList P ops Q (⟨some d,.call {callee:= .value (.func f),args:=⟨xs⟩,argTypes:=ts},T,p,e,none⟩::rest) a W:=by
 refine wpList_plain rfl fun K hK=>?_;have hr:(execOp a.eval ⟨some d,.call {callee:= .value (.func f),args:=⟨xs⟩,argTypes:=ts},T,p,e,none⟩).run P W= .ok (.enter f ⟨vs⟩) W:=by
  simp only [execOp,resolve,List.map_toArray,hs.evs hx,Act.eval,Deferred.ofValue,Sem.run_bind,Sem.run_pure,Result.andThen_ok,invoke];simp [uR hf]
 simp only [Oper.wp,hr,Oper.upon_enter];refine hc.mono fun e' W' h=>?_;obtain ⟨v,rfl,h2⟩:=k e' W' h;exact hK _ _ (h2 _ (hs.put hd v))
end
section
variable {P:Program} {ops:Array Oper} {Q:Exit→Act→World→Prop} {N:Act→World→Prop} {a:Act} {n G:Nat} {L:List (Nat×Value)} {w W W':World} {R:List Res} {c:Operand} {x y:Code} {id id':Nat} {l:List Oper}
theorem yS (h:wpList P l.toArray (Exit.then (y.wp P Q) Q) l a W):(Code.seq (.region id l.toArray false) y).wp P Q a W:=wp_seq (wp_region_lit h)
theorem sq (h:x.wp P (Exit.then (y.wp P Q) Q) a W):(Code.seq x y).wp P Q a W:=wp_seq h
theorem yT (h:Q .normal a W):wpList P ops Q [] a W:=h
theorem yU (h:N a W):Exit.then N Q .normal a W:=h
theorem yV (h:Q (.exit id) a W):Exit.then N Q (.exit id) a W:=h
theorem yW (h:Q .ret a W):Exit.then N Q .ret a W:=h
theorem yX (h:Q .normal a W):Exit.inBlock id Q .normal a W:=h
theorem yY (h:Q .ret a W):Exit.inBlock id Q .ret a W:=h
theorem yZ (h:Q .normal a W):Exit.inBlock id Q (.exit id) a W:=by simpa [Exit.inBlock] using h
theorem y0 (hne:Nat.beq id' id=false:=by with_unfolding_all exact rfl) (h:Q (.exit id') a W):Exit.inBlock id Q (.exit id') a W:=by
 have:id'≠id:=fun e=>by subst e;simp at hne
 simpa [Exit.inBlock,this] using h
theorem y4 {t:Bool} (hs:Slots a n L) (hc:ev L c=some (.bool t):=by with_unfolding_all exact rfl) (ht:t=true:=by decide) (k:x.wp P Q a W):(Code.cond c x y).wp P Q a W:=wp_cond_true (hs.ev (ht▸hc)) k
theorem uS {t:Bool} (hs:Slots a n L) (hc:ev L c=some (.bool t):=by with_unfolding_all exact rfl) (ht:t=false:=by decide) (k:y.wp P Q a W):(Code.cond c x y).wp P Q a W:=wp_cond_false (hs.ev (ht▸hc)) k
theorem cI {t:Bool} (hs:Slots a n L) (hc:ev L c=some (.bool t):=by with_unfolding_all exact rfl) (kt:t=true→x.wp P Q a W) (kf:t=false→y.wp P Q a W):(Code.cond c x y).wp P Q a W:=wp_cond_split (hs.ev hc) kt kf
def oV:List (Nat×Value)→List (Nat×Value)→Prop
 | [],_=>True
 |(t,v)::L',L=>lk L t=some v∧oV L' L
theorem y5:∀{L' L:List (Nat×Value)},oV L' L→∀t v,lk L' t=some v→lk L t=some v
 | [],_,_,t,v,h=>by cases h
 |(u,x)::L',L,hs,t,v,h=>by
  simp only [lk] at h;split at h
  ·rename_i hb;rw [←Nat.eq_of_beq_eq_true hb,←h];exact hs.1
  ·exact y5 hs.2 t v h
theorem Slots.of {L':List (Nat×Value)} (hs:Slots a n L) (h:oV L' L):Slots a n L':=hs.sub (y5 h)
theorem bX {σ:Type} (Ls:σ→List (Nat×Value)) (Rs:σ→List Res) (inv:σ→Prop) (μ:σ→Nat) (s0:σ) (h0:inv s0) (hs:Slots a n L) (hL:oV (Ls s0) L) (hw:Has G w W (Rs s0))
  (round:∀s a W,inv s→Slots a n (Ls s)→Has G w W (Rs s)→x.wp P (Exit.then (fun a' W'=>∃s',inv s'∧μ s'<μ s∧Slots a' n (Ls s')∧Has G w W' (Rs s')) Q) a W):(Code.loop x).wp P Q a W:=by
 intro b k cs;have key:∀m s a W,μ s=m→inv s→Slots a n (Ls s)→Has G w W (Rs s)→
   ∃e a' w',Q e a' w'∧Arrives P (lone (b.at a (.code x:: .inLoop x::k)) cs W) b k cs e a' w':=by
  intro m
  induction m using Nat.strongRecOn with
  |_ m ih=>
   intro s a W hm hI hsl hh;obtain ⟨e,a₁,w₁,hq,harr⟩:=round s a W hI hsl hh b (.inLoop x::k) cs;cases e with
   |normal=>
    obtain ⟨s',hI₁,hlt,hs1,hh1⟩:=hq;obtain ⟨e₂,a₂,w₂,hq₂,harr₂⟩:=ih (μ s') (hm▸hlt) s' a₁ w₁ rfl hI₁ hs1 hh1;exact ⟨e₂,a₂,w₂,hq₂,.of_steps (Steps.trans harr (.one step_inLoop)) harr₂⟩
   |exit id=>exact ⟨_,a₁,w₁,hq,.pass (x:= .inLoop x) rfl (fun _ _=> .inl (by simp)) harr⟩
   |goto l=>exact ⟨_,a₁,w₁,hq,.pass (x:= .inLoop x) rfl (fun _ _=> .inl (by simp)) harr⟩
   |ret=>exact ⟨_,a₁,w₁,hq,.pass (x:= .inLoop x) rfl (fun _ _=> .inl (by simp)) harr⟩
   |panic ch=>exact ⟨_,a₁,w₁,hq,.pass (x:= .inLoop x) rfl (fun _ _=> .inl (by simp)) harr⟩
   |outgrown=>exact ⟨_,a₁,w₁,hq,.pass (x:= .inLoop x) rfl (fun _ _=> .inl (by simp)) harr⟩
 obtain ⟨e,a',w',hq,harr⟩:=key _ s0 a W rfl h0 (hs.of hL) hw;exact ⟨e,a',w',hq,.of_steps (.one step_loop) harr⟩
theorem bS {σ:Type} {Ls:σ→List (Nat×Value)} {Rs:σ→List Res} {inv:σ→Prop} {μ:σ→Nat} {s:σ} (s':σ) (hs:Slots a n L) (hw:Has G w W (Rs s')) (hi:inv s') (hm:μ s'<μ s) (hL:oV (Ls s') L):
  ∃s',inv s'∧μ s'<μ s∧Slots a n (Ls s')∧Has G w W (Rs s'):=⟨s',hi,hm,hs.of hL,hw⟩
def rL:Nat→List Value→List (Nat×Value)
 |_,[]=>[]
 |i,v::vs=>(i,v)::rL (i+1) vs
theorem y6:∀(l:List Value) (i t:Nat) (v:Value),lk (rL i l) t=some v→i≤t∧l[t - i]? =some v
 | [],_,_,_,h=>by cases h
 |u::l,i,t,v,h=>by
  simp only [rL,lk] at h;split at h
  ·rename_i hb;have:=Nat.eq_of_beq_eq_true hb;subst this;simpa using h
  ·have:=y6 l (i+1) t v h;refine ⟨by omega,?_⟩;rw [show t - i=(t - (i+1))+1 by omega];simpa using this.2
theorem enter {f m:Nat} {fn:Func} {cd:Code} {args:List Value} {C:Ending→World→Prop} (hf:P.funcs[f]? =some fn) (hm:fn.ntmps=m) (hb:fn.body=some cd) (hl:Nat.ble args.length m=true)
  (k:∀a,Slots a m (rL 0 args)→cd.wp P (bodyPost P fn C) a W):Calls P f ⟨args⟩ W C:=by
 have hl':=Nat.le_of_ble_eq_true hl;refine calls_of_wp hf hb (k _ ⟨rfl,by simp;omega,fun t v h=>?_⟩);have:=y6 args 0 t v h;have hlt:t<args.length:=by
  have h2:=this.2;simp at h2;exact (List.getElem?_eq_some_iff.1 h2).1
 simp only [Nat.sub_zero] at this;rw [Array.getElem?_append_left (by simpa using hlt)];simpa using this.2
theorem fI {t:Nat} {v:Value} (hs:Slots a n L) (hv:lk L t=some v):a.tmps.getD t undef=v:=by
 have:=hs.at_ t v hv;simp [this]
section
variable {fn:Func} {C:Ending→World→Prop}
theorem rt {v:Value} (hs:Slots a n L) (hr:(results fn a.tmps).run P W= .ok v W) (h:C (.returned v) W):bodyPost P fn C .ret a W:=bodyPost_ret hr hs.defers h
theorem rt1 {t:Tmp} {v:Value} (hs:Slots a n L) (hr:fn.results= #[.tmp t]) (hv:lk L t=some v:=by with_unfolding_all exact rfl) (h:C (.returned v) W):bodyPost P fn C .ret a W:=
 rt hs (by rw [results_tmp hr,fI hs hv]) h
theorem rt2 {t u:Tmp} {v v':Value} (hs:Slots a n L) (hr:fn.results= #[.tmp t,.tmp u]) (hv:lk L t=some v:=by with_unfolding_all exact rfl) (hv':lk L u=some v') (h:C (.returned (.tuple #[v,v'])) W):bodyPost P fn C .ret a W:=
 rt hs (by rw [results_tmp2 hr,fI hs hv,fI hs hv']) h
theorem rt3 {t u r:Tmp} {v v' v'':Value} (hs:Slots a n L) (hr:fn.results= #[.tmp t,.tmp u,.tmp r]) (hv:lk L t=some v:=by with_unfolding_all exact rfl) (hv':lk L u=some v') (hv'':lk L r=some v'') (h:C (.returned (.tuple #[v,v',v''])) W):bodyPost P fn C .ret a W:=
 rt hs (by simp only [←fI hs hv,←fI hs hv',←fI hs hv''];simp [results,hr]) h
theorem rt0 (hs:Slots a n L) (hr:fn.results= #[]) (h:C (.returned (.tuple #[])) W):bodyPost P fn C .ret a W:=rt hs (by rw [results_none hr]) h
theorem cO (hs:Slots a n L) (hr:fn.results= #[]) (h:C (.returned (.tuple #[])) W):bodyPost P fn C .normal a W:=bodyPost_end (by rw [results_none hr]) hs.defers h
variable {t:Tmp} {T E:TypeId} {b o:Nat} {z cs:List Value}
theorem rc1 [u:Ty P T true z] (hs:Slots a n L) (hr:fn.results= #[.cell t T]) (hv:lk L t=some (.pointer (some ⟨b,o,none⟩)):=by with_unfolding_all exact rfl) (hw:Has G w W R) (hi:In (aA b cs E) R:=by repeat (first|exact In.hd|apply In.tl)) (hl:Nat.ble (o+z.length) cs.length=true:=by with_unfolding_all exact rfl) (h:C (.returned (.agg ⟨cut cs o z.length⟩)) W):bodyPost P fn C .ret a W:=by
 have h1:=oU u (hw.block hi).1 (Nat.le_of_ble_eq_true hl);refine rt hs ?_ h;have h2:=fI hs hv;simp only [Instr.loadAt,Instr.sureAddr,Sem.run_bind,Sem.run_pure,Result.andThen_ok] at h1;simp only [results,hr,List.mapM_toArray,List.mapM_cons,List.mapM_nil];simp [h2,asAddr,h1]
theorem rc2 [u:Ty P T true z] {r:Tmp} {v:Value} (hs:Slots a n L) (hr:fn.results= #[.cell t T,.tmp r]) (hv:lk L t=some (.pointer (some ⟨b,o,none⟩)):=by with_unfolding_all exact rfl) (hw:Has G w W R) (hi:In (aA b cs E) R:=by repeat (first|exact In.hd|apply In.tl)) (hl:Nat.ble (o+z.length) cs.length=true:=by with_unfolding_all exact rfl) (hv2:lk L r=some v) (h:C (.returned (.tuple #[.agg ⟨cut cs o z.length⟩,v])) W):bodyPost P fn C .ret a W:=by
 have h1:=oU u (hw.block hi).1 (Nat.le_of_ble_eq_true hl);refine rt hs ?_ h;have h2:=fI hs hv;have h3:=fI hs hv2;simp only [Instr.loadAt,Instr.sureAddr,Sem.run_bind,Sem.run_pure,Result.andThen_ok] at h1;simp only [results,hr,List.mapM_toArray,List.mapM_cons,List.mapM_nil];simp [h2,h3,asAddr,h1]
theorem rc3 [u:Ty P T true z] {r r':Tmp} {v v':Value} (hs:Slots a n L) (hr:fn.results= #[.cell t T,.tmp r,.tmp r']) (hv:lk L t=some (.pointer (some ⟨b,o,none⟩)):=by with_unfolding_all exact rfl) (hw:Has G w W R) (hi:In (aA b cs E) R:=by repeat (first|exact In.hd|apply In.tl)) (hl:Nat.ble (o+z.length) cs.length=true:=by with_unfolding_all exact rfl) (hv2:lk L r=some v) (hv3:lk L r'=some v') (h:C (.returned (.tuple #[.agg ⟨cut cs o z.length⟩,v,v'])) W):bodyPost P fn C .ret a W:=by
 have h1:=oU u (hw.block hi).1 (Nat.le_of_ble_eq_true hl);refine rt hs ?_ h;have h2:=fI hs hv;have h3:=fI hs hv2;have h4:=fI hs hv3;simp only [Instr.loadAt,Instr.sureAddr,Sem.run_bind,Sem.run_pure,Result.andThen_ok] at h1;simp only [results,hr,List.mapM_toArray,List.mapM_cons,List.mapM_nil];simp [h2,h3,h4,asAddr,h1]
end
end
theorem jK:∀(cs:List Value) (o:Nat) (vs:List Value),o+vs.length≤cs.length→ov cs o vs=cs.take o ++ vs ++ cs.drop (o+vs.length)
 | [],o,vs,h=>by
  have:vs= []:=List.eq_nil_of_length_eq_zero (by have:o+vs.length≤0:=h;omega);subst this;simp [ov]
 |c::cs,0,[],_=>by simp [ov]
 |c::cs,0,v::vs,h=>by
  have:=jK cs 0 vs (by simp at h;omega);simp [ov,this]
 |c::cs,o+1,vs,h=>by
  have:=jK cs o vs (by simp at h;omega);rw [show o+1+vs.length=(o+vs.length)+1 by omega];simp [ov,this]
def OwnAt (F:Nat→Prop) (W:World) (E:TypeId) (size:Nat) (v:Value) (n:Nat) (xs:List Value):Prop:=
 xs.length=n*size∧((v= .slice none 0 0∧n=0)∨
  ∃g cap cur,v= .slice (some ⟨g,0,none⟩) n cap∧F g∧W.heap[g]? =some (.cells ⟨cur⟩ E (0,0))∧n≤cap∧cap≤maxLen∧cur.length=cap*size∧cur.take (n*size)=xs)
def Own (E:TypeId) (size:Nat) (v:Value) (n:Nat) (xs:List Value):Res where
 ok F W:=OwnAt F W E size v n xs
 loc F W W' h k:=⟨k.1,k.2.imp id fun ⟨g,cap,cur,h1,h2,h3,r⟩=>⟨g,cap,cur,h1,h2,(h g h2).trans h3,r⟩⟩
section
variable {P:Program} {W:World} {F:Nat→Prop}
theorem y7 {t tx ty E:TypeId} {i:TypeInfo} {z:Value} (ht:P.underlying t=some (.slice E)) (hi:P.info? E=some i) (hz:i.zero=some z) (hzs:z.cells.size=i.size)
  {v:Value} {n:Nat} {xs:List Value} (ho:OwnAt F W E i.size v n xs) {x:Value} {m:Nat} {news:List Value} (hs:Src P i.size tx x m news W) (h63:n+m≤9223372036854775807) (hb:(n+m)*i.bytes≤140737488355328):
  ∃v' W',(Builtin.append_ #[t,tx] ty #[v,x]).run P W= .ok v' W'∧OwnAt (fun b=>F b∨(W.heap.size≤b∧b<W'.heap.size)) W' E i.size v' (n+m) (xs ++ news)∧(∀b,b<W.heap.size→¬F b→W'.heap[b]? =W.heap[b]?)∧W'.os=W.os∧W'.tape=W.tape∧W'.output=W.output∧W.heap.size≤W'.heap.size:=by
 have hnl:news.length=m*i.size:=hs.newsLen;have hlen:(xs ++ news).length=(n+m)*i.size:=by rw [List.length_append,ho.1,hnl,Nat.add_mul]
 have grown:∀(old:Nat),old<n+m→
   let W':=W.drew.alloc (.cells ((xs ++ news).toArray ++ Builtin.zeroCells z.cells (grownCap W (n+m) old E - (n+m))) E)
   OwnAt (fun b=>F b∨(W.heap.size≤b∧b<W'.heap.size)) W' E i.size (.slice (some ⟨W.heap.size,0,none⟩) (n+m) (grownCap W (n+m) old E)) (n+m) (xs ++ news)∧(∀b,b<W.heap.size→¬F b→W'.heap[b]? =W.heap[b]?)∧W'.os=W.os∧W'.tape=W.tape∧W'.output=W.output∧W.heap.size≤W'.heap.size:=by
  intro old hold W';have hge:=grownCap_ge W (n+m) old E;have hcm:grownCap W (n+m) old E≤maxLen:=grownCap_le_maxLen W (n+m) old E (by unfold maxLen;omega);have hnew:W'.heap[W.heap.size]? =some (.cells ((xs ++ news).toArray ++ Builtin.zeroCells z.cells (grownCap W (n+m) old E - (n+m))) E):=heap_alloc_new W.drew _;refine ⟨⟨hlen,.inr ⟨W.heap.size,_,((xs ++ news).toArray ++ Builtin.zeroCells z.cells (grownCap W (n+m) old E - (n+m))).toList,rfl,.inr ⟨Nat.le_refl _,iX hnew⟩,hnew,hge,hcm,?_,?_⟩⟩,fun b hb _=>heap_alloc_old W.drew _ hb,rfl,rfl,rfl,by simp [W']⟩
  ·simp only [Array.toList_append,List.length_append,Array.length_toList,size_zeroCells,hzs];rw [←List.length_append,hlen,←Nat.add_mul];congr 1;omega
  ·simp only [Array.toList_append];rw [←hlen];exact List.take_left
 rcases ho.2 with ⟨rfl,rfl⟩|⟨g,cap,cur,rfl,hF,hg,hnc,hcm,hcs,htake⟩
 ·have hx:xs= []:=List.eq_nil_of_length_eq_zero (by simpa using ho.1);subst hx
  by_cases hm:m=0
  ·subst hm;have hn:news= []:=List.eq_nil_of_length_eq_zero (by simpa using hnl);subst hn;refine ⟨.slice none 0 0,W,?_,⟨by simp,.inl ⟨rfl,rfl⟩⟩,fun _ _ _=>rfl,rfl,rfl,rfl,Nat.le_refl _⟩;rcases hs.kind with ⟨e',hk⟩|hk <;> simp [Builtin.append_,run_underlying ht,run_underlying hk,sizeOf,typeInfo,hi,hs.len,hs.cells]
  ·have hr:=run_append_grow_src (P:=P) W t tx ty E i z ht hi hz none 0 0 [] (by simp [Builtin.firstCells]) x m news hs (by omega) (by omega) (growslice_fits (by omega) hb);have hgr:=grown 0 (by omega);exact ⟨_,_,hr,hgr⟩
 ·by_cases hroom:n+m≤cap
  ·have hfit:n*i.size+news.length≤cur.length:=by rw [hnl,hcs,←Nat.add_mul];exact Nat.mul_le_mul_right _ hroom
   have hst:=oT (P:=P) (b:=g) (T:=E) (n*i.size) news 0 cur W hg (by simpa using hfit) hs.one;have hr:(Builtin.append_ #[t,tx] ty #[.slice (some ⟨g,0,none⟩) n cap,x]).run P W= .ok (.slice (some ⟨g,0,none⟩) (n+m) cap) (put W g (.cells ⟨ov cur (n*i.size) news⟩ E (0,0))):=by
    simp only [Nat.add_zero] at hst;rcases hs.kind with ⟨e',hk⟩|hk <;> simp [Builtin.append_,run_underlying ht,run_underlying hk,sizeOf,typeInfo,hi,hs.len,hroom,hs.cells,eF,hst]
   refine ⟨_,_,hr,⟨hlen,.inr ⟨g,cap,_,rfl,.inl hF,oS (iX hg),hroom,hcm,by rw [kP];exact hcs,?_⟩⟩,fun b _ hn=>rJ (fun e=>hn (e▸hF)),rfl,rfl,rfl,by simp [put]⟩;rw [jK _ _ _ hfit,htake,←hlen];exact List.take_left
  ·have hold:(Builtin.firstCells i.size n (.slice (some ⟨g,0,none⟩) n cap)).run P W.drew= .ok xs.toArray W.drew:=by
    have h0:n*i.size≤cur.length:=by rw [hcs];exact Nat.mul_le_mul_right _ hnc
    have:=uP (P:=P) (W:=W.drew) (b:=g) (T:=E) (cs:=cur) hg 0 (n*i.size) (by omega);simp only [List.drop_zero,htake] at this;simpa [Builtin.firstCells] using this
   have hr:=run_append_grow_src (P:=P) W t tx ty E i z ht hi hz (some ⟨g,0,none⟩) n cap xs hold x m news hs (by omega) (by omega) (growslice_fits (by omega) hb);exact ⟨_,_,hr,grown cap (by omega)⟩
end
class El (P:Program) (E:TypeId) (size bytes:outParam Nat):Prop where
 out:∃i z,P.info? E=some i∧i.zero=some z∧z.cells.size=i.size∧i.size=size∧i.bytes=bytes
theorem El.o {P:Program} {E:TypeId} {size bytes:Nat} (h:(P.info? E).map (fun i=>(i.zero.map fun z=>z.cells.size,i.size,i.bytes))=some (some size,size,bytes):=by kernel_rfl):El P E size bytes:=by
 cases hi:P.info? E with
 |none=>simp [hi] at h
 |some i=>
  simp only [hi,Option.map_some,Option.some.injEq,Prod.mk.injEq] at h;obtain ⟨h1,h2,h3⟩:=h;cases hz:i.zero with
  |none=>rw [hz] at h1;cases h1
  |some z=>
   rw [hz] at h1;injection h1 with h1;exact ⟨i,z,hi,hz,by rw [h2];exact h1,h2,h3⟩
section
variable {P:Program} {ops:Array Oper} {rest:List Oper} {Q:Exit→Act→World→Prop} {a:Act} {n G:Nat} {L:List (Nat×Value)} {w W W':World} {R:List Res} {R':Value→List Res} {d:Nat} {T S S' E:TypeId} {p:String} {e:Array Edge} {x y:Operand} {v u:Value} {xs news:List Value} {k m size bytes:Nat}
theorem lL [sl:Sl P S E] [el:El P E size bytes] (hs:Slots a n L) (hx:ev L x=some v:=by with_unfolding_all exact rfl) (hy:ev L y=some u:=by with_unfolding_all exact rfl) (hw:Has G w W R) (hu:∀v',Upd (Own E size v k xs) R (Own E size v' (k+m) (xs ++ news)) (R' v'):=by intro v';repeat (first|exact Upd.hd|apply Upd.tl)) (hsrc:Src P size S' u m news W) (h63:k+m≤9223372036854775807) (hb:(k+m)*bytes≤140737488355328) (hd:Nat.blt d n=true:=by with_unfolding_all exact rfl)
  (c:∀a' ad cap W',Slots a' n ((d,.slice ad (k+m) cap)::L)→Has G w W' (R' (.slice ad (k+m) cap))→wpList P ops Q rest a' W'):wpList P ops Q (⟨some d,.call {callee:= .builtin .append,args:=#[x,y],argTypes:=#[S,S']},T,p,e,none⟩::rest) a W:=by
 obtain ⟨i,z,h1,h2,h3,h4,h5⟩:=el.out;subst h4 h5;obtain ⟨F1,g1,g2,_⟩:=hw.has.upd (hu v);obtain ⟨v',W1,hr,ho,hf,e1,e2,e3,e4⟩:=y7 (P:=P) (ty:=T) sl.out h1 h2 h3 g2 hsrc h63 hb;obtain ⟨ad,cap,rfl⟩:∃ad cap,v'= .slice ad (k+m) cap:=by
  rcases ho.2 with ⟨rfl,h0⟩|⟨g,cap,cur,e,_⟩
  ·exact ⟨none,0,by rw [h0]⟩
  ·exact ⟨_,_,e⟩
 refine bP hs hd (v:= .slice ad (k+m) cap) (W':=W1) ?_ fun a' hs'=>c a' ad cap W1 hs' ?_
 ·simp only [execOp,resolve,invoke,builtin,Sem.run_bind,Sem.run_pure,Result.andThen_ok,List.map_toArray,List.map_cons,List.map_nil,hs.ev hx,hs.ev hy,hr]
 ·obtain ⟨F2,k1,k2,k3⟩:=hw.has.upd (hu (.slice ad (k+m) cap));have hgl:=hw.globW;obtain ⟨v2,W2,hr2,ho2,hf2,_,_,_,_⟩:=y7 (P:=P) (ty:=T) sl.out h1 h2 h3 k2 hsrc h63 hb;have hvv:=hr.symm.trans hr2;obtain ⟨rfl,rfl⟩:=Result.ok.inj hvv;refine ⟨hw.ext.trans ⟨e1,e2,e3,e4,fun b hb'=>hf2 b (by omega) fun h=>by have:=(k1 b h).1;omega⟩,hw.glob,?_⟩;refine k3 W1 _ _ (fun b hb'=>⟨hb'.1,by omega⟩) ?_ (fun b hb' hn=>hf2 b hb'.2 hn) ho2;rintro b (hb'|hb')
  ·exact ⟨⟨(k1 b hb').1,by have:=(k1 b hb').2;omega⟩,fun _=>hb'⟩
  ·exact ⟨⟨by omega,hb'.2⟩,fun h=>by omega⟩
variable {dst:Option Tmp} {op:Op} {j t:Nat} {want got:Bool}
theorem y8 (hs:Slots a n L) (ho:(ops[j]?).bind (·.dst)=some t) (hv:lk L t=some (.bool got)):yielded ops a.tmps j=some got:=by
 have:=hs.at_ t _ hv;unfold yielded;rw [ho];simp [this]
theorem oW (hs:Slots a n L) (ho:(ops[j]?).bind (·.dst)=some t:=by with_unfolding_all exact rfl) (hv:lk L t=some (.bool got):=by with_unfolding_all exact rfl) (hg:got=want:=by decide) (c:wpList P ops Q (⟨dst,op,T,p,e,none⟩::rest) a W):wpList P ops Q (⟨dst,op,T,p,e,some (j,want)⟩::rest) a W:=by
 subst hg;unfold wpList at c⊢;have h:=y8 hs ho hv;simp only [Region.wanted,h,beq_self_eq_true,if_true] at c⊢;exact c
theorem aD5 {d:Nat} (hs:Slots a n L) (ho:(ops[j]?).bind (·.dst)=some t:=by with_unfolding_all exact rfl) (hv:lk L t=some (.bool got):=by with_unfolding_all exact rfl) (hg:got=(!want):=by decide) (hd:Nat.blt d n=true:=by with_unfolding_all exact rfl) (c:∀a',Slots a' n ((d,undef)::L)→wpList P ops Q rest a' W):wpList P ops Q (⟨some d,op,T,p,e,some (j,want)⟩::rest) a W:=by
 subst hg;unfold wpList;have h:=y8 hs ho hv;have h2:(some (!want) == some want)=false:=by cases want <;> rfl
 simp only [Region.wanted,h,h2,Bool.false_eq_true,if_false];exact c _ (hs.put hd undef)
theorem aD6 {d:Nat} (hs:Slots a n L) (ho:(ops[j]?).bind (·.dst)=some t:=by with_unfolding_all exact rfl) (hv:lk L t=some (.tuple #[]):=by with_unfolding_all exact rfl) (hd:Nat.blt d n=true:=by with_unfolding_all exact rfl) (c:∀a',Slots a' n ((d,undef)::L)→wpList P ops Q rest a' W):wpList P ops Q (⟨some d,op,T,p,e,some (j,want)⟩::rest) a W:=by
 unfold wpList;have h:yielded ops a.tmps j=none:=by
  have:=hs.at_ t _ hv;unfold yielded;rw [ho];simp [this]
 simp only [Region.wanted,h];exact c _ (hs.put hd undef)
theorem aD7 {d:Nat} {ad:Addr} (hs:Slots a n L) (hx:ev L x=some (.pointer (some ad)):=by with_unfolding_all exact rfl) (hd:Nat.blt d n=true:=by with_unfolding_all exact rfl)
  (c:∀a',Slots a' n ((d,.pointer (some ad))::L)→wpList P ops Q rest a' W):wpList P ops Q (⟨some d,.nilCheck x,T,p,e,none⟩::rest) a W:=
 bP hs hd (by simp only [execOp,hs.ev hx,Sem.run_pure]) c
end
def Rd (W:World) (size:Nat) (v:Value) (n:Nat) (xs:List Value):Prop:=
 xs.length=n*size∧∃ad cap,v= .slice ad n cap∧n≤cap∧cap≤9223372036854775807∧(n=0∨∃b o,ad=some ⟨b,o,none⟩∧b<W.heap.size∧∀j x,xs[j]? =some x→W.cell? ⟨b,o+j,none⟩=some x)
theorem Rd.len {W:World} {size n:Nat} {v:Value} {xs:List Value} (h:Rd W size v n xs):n≤9223372036854775807:=by
 obtain ⟨_,_,cap,_,h3,h4,_⟩:=h;omega
theorem Has.rd {G:Nat} {w W w0:World} {R:List Res} {size n:Nat} {v:Value} {xs:List Value} (h:Has G w0 W R) (i:In (Old w 0) R) (hs:w.heap.size≤W.heap.size) (r:Rd w size v n xs):Rd W size v n xs:=by
 obtain ⟨F,_,h2⟩:=h.of_in i;obtain ⟨h1,ad,cap,e2,h3,h4,h5⟩:=r;refine ⟨h1,ad,cap,e2,h3,h4,h5.imp id ?_⟩;rintro ⟨b,o,e,hlt,hc⟩;exact ⟨b,o,e,by omega,fun j x hx=>(World.cell?_of_block (w:=w) (h2 b (Nat.zero_le _) hlt).2).trans (hc j x hx)⟩
theorem OwnAt.rd {F:Nat→Prop} {W:World} {E:TypeId} {size n:Nat} {v:Value} {xs:List Value} (h:OwnAt F W E size v n xs):Rd W size v n xs:=by
 obtain ⟨h1,⟨rfl,rfl⟩|⟨g,cap,cur,rfl,hF,hg,hnc,hcm,hcs,htake⟩⟩:=h
 ·exact ⟨h1,none,0,rfl,by omega,by omega,.inl rfl⟩
 ·refine ⟨h1,some ⟨g,0,none⟩,cap,rfl,hnc,by unfold maxLen at hcm;omega,.inr ⟨g,0,rfl,iX hg,fun j x hx=>?_⟩⟩;rw [hC hg,←htake] at *;rw [List.getElem?_take] at hx;split at hx
  ·simpa using hx
  ·cases hx
theorem Has.rd_own {G:Nat} {w W:World} {R:List Res} {E:TypeId} {size n:Nat} {v:Value} {xs:List Value} (h:Has G w W R) (i:In (Own E size v n xs) R):Rd W size v n xs:=by
 obtain ⟨F,_,h2⟩:=h.of_in i;exact OwnAt.rd h2
abbrev bys (l:List UInt8):List Value:=l.map fun c=>Value.int .u8 (c.toNat:Int)
abbrev RdB (W:World) (v:Value) (l:List UInt8):Prop:=Rd W 1 v l.length (bys l)
abbrev OwnB (T:TypeId) (v:Value) (l:List UInt8):Res:=Own T 1 v l.length (bys l)
section
variable {P:Program} {ops:Array Oper} {rest:List Oper} {Q:Exit→Act→World→Prop} {a:Act} {n G:Nat} {L:List (Nat×Value)} {w W W':World} {R:List Res} {d:Nat} {T S E:TypeId} {p:String} {e:Array Edge} {x y lo hi:Operand} {v:Value} {xs cs:List Value} {k size:Nat} {i j:Int} {q q':IntKind} {z:List Value}
theorem y9 {agg:Bool} [sl:Sl P S E] [t:Ty P E agg z] {w1:World} (r:Rd w1 z.length v k xs) (l h:Option Value) {i' j':Nat} (h0:i'≤j') (h1:j'≤k)
  (hl:l=none∧i'=0∨∃q,l=some (.int q i')) (hh:h=none∧j'=k∨∃q,h=some (.int q j')):
  ∃v',(Instr.sliceAt S v l h none).run P W= .ok v' W∧Rd w1 z.length v' (j' - i') ((xs.drop (i'*z.length)).take ((j' - i')*z.length)):=by
 obtain ⟨hx,ad,cap,rfl,h3,h4,h5⟩:=r;have hb:∀(u:Value) (m y:Nat) (c:BoundsCode) (q:IntKind),u= .int q m→m≤y→(Instr.sliceBound u y c).run P W= .ok m W:=by
  rintro u m y c q rfl hm;have:(0:Int)≤(m:Int)∧(m:Int)≤(y:Int):=⟨by omega,by omega⟩
  simp only [Instr.sliceBound,asIntOf,Sem.run_bind,Sem.run_pure,Result.andThen_ok];rw [if_pos this];simp
 have hbs:(Instr.sliceBounds true k cap l h none).run P W= .ok (i',j',cap) W:=by
  unfold Instr.sliceBounds;rcases hh with ⟨rfl,rfl⟩|⟨q2,rfl⟩ <;> rcases hl with ⟨rfl,rfl⟩|⟨q1,rfl⟩
  ·simp
  ·simp [hb _ i' j' .sliceB q1 rfl h0]
  ·simp [hb _ j' cap .sliceAcap q2 rfl (by omega)]
  ·simp [hb _ j' cap .sliceAcap q2 rfl (by omega),hb _ i' j' .sliceB q1 rfl h0]
 refine ⟨.slice (if cap=i' then ad else ad.map (·.add (i'*z.length))) (j' - i') (cap - i'),?_,?_,_,_,rfl,by omega,by omega,?_⟩
 ·simp only [Instr.sliceAt,Instr.slice,Sem.run_bind,run_underlying sl.out,Result.andThen_ok,hbs,t.sizeOf,Sem.run_pure]
 ·rw [List.length_take,List.length_drop,hx];have:(j' - i')*z.length≤k*z.length - i'*z.length:=by rw [←Nat.sub_mul];exact Nat.mul_le_mul_right _ (by omega)
  omega
 ·rcases h5 with rfl|⟨b,o,rfl,hlt,hc⟩
  ·exact .inl (by omega)
  ·by_cases hci:cap=i'
   ·refine .inr ⟨b,o,by rw [if_pos hci],hlt,fun m u hu=>?_⟩;have:j' - i'=0:=by omega
    rw [this] at hu;simp at hu
   ·refine .inr ⟨b,o+i'*z.length,by rw [if_neg hci];simp [eF],hlt,fun m u hu=>?_⟩;rw [List.getElem?_take] at hu;split at hu
    ·rw [List.getElem?_drop] at hu;rw [Nat.add_assoc];exact hc _ _ hu
    ·cases hu
theorem aD8 {agg:Bool} [sl:Sl P S E] [t:Ty P E agg z] (hs:Slots a n L) (hx:ev L x=some v:=by with_unfolding_all exact rfl) (hl:ev L lo=some (.int q i):=by with_unfolding_all exact rfl) {w1:World} (r:Rd w1 z.length v k xs) (h0:0≤i) (h1:i≤k) (hd:Nat.blt d n=true:=by with_unfolding_all exact rfl)
  (c:∀a' ad cap,Rd w1 z.length (.slice ad (k - i.toNat) cap) (k - i.toNat) (xs.drop (i.toNat*z.length))→Slots a' n ((d,.slice ad (k - i.toNat) cap)::L)→wpList P ops Q rest a' W):wpList P ops Q (⟨some d,.slice S x (some lo) none none,T,p,e,none⟩::rest) a W:=by
 obtain ⟨m,rfl⟩:=Int.eq_ofNat_of_zero_le h0;obtain ⟨v',h2,h3⟩:=y9 (P:=P) (S:=S) (W:=W) r (some (.int q m)) none (i':=m) (j':=k) (by omega) (Nat.le_refl _) (.inr ⟨q,rfl⟩) (.inl ⟨rfl,rfl⟩);obtain ⟨ad,cap,rfl⟩:∃ad cap,v'= .slice ad (k - m) cap:=by
  obtain ⟨_,ad,cap,e,_⟩:=h3;exact ⟨ad,cap,e⟩
 refine bP hs hd (v:= .slice ad (k - m) cap) (W':=W) ?_ fun a' hs'=>c a' ad cap ?_ hs'
 ·simp only [execOp,Option.map_some,Option.map_none,hs.ev hx,hs.ev hl];simp only [Sem.run_bind,h2,Result.andThen_ok];rfl
 ·rw [List.take_of_length_le (by rw [List.length_drop,r.1,Nat.sub_mul];omega)] at h3;simpa using h3
theorem aD9 {agg:Bool} [sl:Sl P S E] [t:Ty P E agg z] (hs:Slots a n L) (hx:ev L x=some v:=by with_unfolding_all exact rfl) (hl:ev L lo=some (.int q i):=by with_unfolding_all exact rfl) (hh:ev L hi=some (.int q' j):=by with_unfolding_all exact rfl) {w1:World} (r:Rd w1 z.length v k xs) (h0:0≤i) (h1:i≤j) (h2:j≤k) (hd:Nat.blt d n=true:=by with_unfolding_all exact rfl)
  (c:∀a' ad cap,Rd w1 z.length (.slice ad (j.toNat - i.toNat) cap) (j.toNat - i.toNat) ((xs.drop (i.toNat*z.length)).take ((j.toNat - i.toNat)*z.length))→Slots a' n ((d,.slice ad (j.toNat - i.toNat) cap)::L)→wpList P ops Q rest a' W):wpList P ops Q (⟨some d,.slice S x (some lo) (some hi) none,T,p,e,none⟩::rest) a W:=by
 obtain ⟨m,rfl⟩:=Int.eq_ofNat_of_zero_le h0;obtain ⟨m',rfl⟩:=Int.eq_ofNat_of_zero_le (show 0≤j by omega);obtain ⟨v',h4,h3⟩:=y9 (P:=P) (S:=S) (W:=W) r (some (.int q m)) (some (.int q' m')) (i':=m) (j':=m') (by omega) (by omega) (.inr ⟨q,rfl⟩) (.inr ⟨q',rfl⟩);obtain ⟨ad,cap,rfl⟩:∃ad cap,v'= .slice ad (m' - m) cap:=by
  obtain ⟨_,ad,cap,e,_⟩:=h3;exact ⟨ad,cap,e⟩
 refine bP hs hd (v:= .slice ad (m' - m) cap) (W':=W) ?_ fun a' hs'=>c a' ad cap ?_ hs'
 ·simp only [execOp,Option.map_some,Option.map_none,hs.ev hx,hs.ev hl,hs.ev hh];simp only [Sem.run_bind,h4,Result.andThen_ok];rfl
 ·simpa using h3
theorem uT {agg:Bool} [sl:Sl P S E] [t:Ty P E agg z] (hs:Slots a n L) (hx:ev L x=some v:=by with_unfolding_all exact rfl) (hy:ev L y=some (.int q i):=by with_unfolding_all exact rfl) (r:Rd W z.length v k xs) (h0:0≤i) (h1:i<k) (hd:Nat.blt d n=true:=by with_unfolding_all exact rfl)
  (c:∀a' b o,(∀j u,(cut xs (i.toNat*z.length) z.length)[j]? =some u→W.cell? ⟨b,o+j,none⟩=some u)→b<W.heap.size→Slots a' n ((d,.pointer (some ⟨b,o,none⟩))::L)→wpList P ops Q rest a' W):wpList P ops Q (⟨some d,.indexAddr S x y,T,p,e,none⟩::rest) a W:=by
 obtain ⟨hl,ad,cap,rfl,h3,h4,h5⟩:=r;rcases h5 with rfl|⟨b,o,rfl,hlt,hc⟩
 ·omega
 ·refine bP hs hd (v:= .pointer (some ⟨b,o+i.toNat*z.length,none⟩)) (W':=W) ?_ fun a' hs'=>c a' b _ ?_ hlt hs'
  ·simp only [execOp,hs.ev hx,hs.ev hy,Instr.indexAt,asIntOf,Sem.run_bind,Sem.run_pure,Result.andThen_ok,run_underlying sl.out];rw [if_pos ⟨h0,h1⟩];simp only [Sem.run_bind,t.sizeOf,Result.andThen_ok,Sem.run_pure,eF]
  ·intro m u hu;rw [gB,List.getElem?_take] at hu;split at hu
   ·rw [List.getElem?_drop] at hu;rw [Nat.add_assoc];exact hc _ _ hu
   ·cases hu
theorem eQ {ad:Addr} [t:Ty P S false z] (hs:Slots a n L) (hx:ev L x=some (.pointer (some ad)):=by with_unfolding_all exact rfl) (hc:W.cell? ad=some v) (hd:Nat.blt d n=true:=by with_unfolding_all exact rfl)
  (c:∀a',Slots a' n ((d,v)::L)→wpList P ops Q rest a' W):wpList P ops Q (⟨some d,.load S x,T,p,e,none⟩::rest) a W:=
 bP hs hd (by simp only [execOp,hs.ev hx,Instr.loadAt,Instr.sureAddr,Sem.run_bind,Sem.run_pure,Result.andThen_ok,loadVar,t.isAgg,Bool.false_eq_true,if_false,run_load,hc]) c
theorem eC {b o:Nat} [t:Ty P S true z] (hs:Slots a n L) (hx:ev L x=some (.pointer (some ⟨b,o,none⟩)):=by with_unfolding_all exact rfl) (hc:∀j u,cs[j]? =some u→W.cell? ⟨b,o+j,none⟩=some u) (hl:cs.length=z.length) (hd:Nat.blt d n=true:=by with_unfolding_all exact rfl)
  (c:∀a',Slots a' n ((d,.agg ⟨cs⟩)::L)→wpList P ops Q rest a' W):wpList P ops Q (⟨some d,.load S x,T,p,e,none⟩::rest) a W:=by
 have:=run_loadCells_list (P:=P) W ⟨b,o,none⟩ cs (fun j v hv=>by rw [eF];exact hc j v hv);rw [hl] at this;exact bP hs hd (by simp only [execOp,hs.ev hx,Instr.loadAt,Instr.sureAddr,Sem.run_bind,Sem.run_pure,Result.andThen_ok,loadVar,t.isAgg,if_true,t.sizeOf,this]) c
end
def oX:Value→List Value
 | .agg cs=>cs.toList
 |v=>[v]
theorem aDa (v:Value):v.cells=⟨oX v⟩:=by cases v <;> rfl
def evParts (L:List (Nat×Value)):List (Nat×Operand)→Option (List (Nat×Value))
 | []=>some []
 |(i,x)::xs=>match ev L x,evParts L xs with|some v,some vs=>some ((i,v)::vs)|_,_=>none
theorem Slots.evParts {a:Act} {n:Nat} {L:List (Nat×Value)} (h:Slots a n L):∀{xs:List (Nat×Operand)} {vs:List (Nat×Value)},Sx.evParts L xs=some vs→xs.map (fun (i,x)=>(i,a.eval x))=vs
 | [],vs,hx=>by simp [Sx.evParts] at hx;simp [hx]
 |(i,x)::xs,vs,hx=>by
  simp only [Sx.evParts] at hx;split at hx
  ·rename_i v vs' h1 h2;have:=Option.some.inj hx;subst this;simp [h.ev h1,h.evParts h2]
  ·cases hx
def nH (place:Nat→Option (Nat×Nat)):List Value→List (Nat×Value)→Option (List Value)
 |cs,[]=>some cs
 |cs,(i,v)::rest=>match place i with
  |none=>none
  |some (off,size)=>match Nat.beq (oX v).length size,Nat.ble (off+(oX v).length) cs.length with
   |true,true=>nH place (ov cs off (oX v)) rest
   |_,_=>none
theorem zF:∀(vs:List Value) (j:Nat) (off:Nat) (cs:List Value),off+j+vs.length≤cs.length→(vs.zipIdx j).foldl (fun (c:Array Value) (p:Value×Nat)=>c.setIfInBounds (off+p.2) p.1) (⟨cs⟩:Array Value)=⟨ov cs (off+j) vs⟩
 | [],_,_,cs,_=>by simp [rH]
 |v::vs,j,off,cs,h=>by
  simp only [List.zipIdx_cons,List.foldl_cons];have hl:off+j+(vs.length+1)≤cs.length:=by simpa using h
  have e:(⟨cs⟩:Array Value).setIfInBounds (off+j) v=⟨cs.set (off+j) v⟩:=by simp
  rw [e,zF vs (j+1) off (cs.set (off+j) v) (by simp;omega),rI,Nat.add_assoc]
theorem uU (place:Nat→Option (Nat×Nat)):∀(parts:List (Nat×Value)) (cs cs':List Value),nH place cs parts=some cs'→Instr.fill place ⟨cs⟩ parts=some ⟨cs'⟩
 | [],cs,cs',h=>by simp [nH] at h;simp [Instr.fill,h]
 |(i,v)::rest,cs,cs',h=>by
  simp only [nH] at h;cases hp:place i with
  |none=>simp [hp] at h
  |some q=>
   obtain ⟨off,size⟩:=q;rw [hp] at h;simp only [] at h;split at h
   ·rename_i h1 h2;have h1':=Nat.eq_of_beq_eq_true h1;have h2':=Nat.le_of_ble_eq_true h2;have ih:=uU place rest _ _ h;simp only [Instr.fill,hp,aDa,List.size_toArray];rw [if_neg (by rw [h1'] at h2'⊢;simp;omega)];have:=zF (oX v) 0 off cs (by omega);simp only [Nat.add_zero] at this;rw [←ih];congr 1;rw [←this];simp
   ·cases h
def rep:Nat→List Value→List Value
 |0,_=>[]
 |k+1,z=>z ++ rep k z
section
variable {P:Program} {ops:Array Oper} {rest:List Oper} {Q:Exit→Act→World→Prop} {a:Act} {n G:Nat} {L:List (Nat×Value)} {w W W':World} {R:List Res} {d:Nat} {T S E:TypeId} {p:String} {e:Array Edge} {x y lo hi:Operand} {v:Value} {z cs:List Value} {k size:Nat} {i j:Int} {q q':IntKind} {ps:List (Nat×Operand)} {vs:List (Nat×Value)}
theorem aDb {agg:Bool} {fs:List (Nat×Nat)} [t:Ty P S agg z] [u:St P S fs] (hs:Slots a n L) (hx:evParts L ps=some vs:=by with_unfolding_all exact rfl) (hv:nH (fun i=>fs[i]?) z vs=some cs:=by with_unfolding_all exact rfl) (hd:Nat.blt d n=true:=by with_unfolding_all exact rfl)
  (c:∀a',Slots a' n ((d,.agg ⟨cs⟩)::L)→wpList P ops Q rest a' W):wpList P ops Q (⟨some d,.build S ⟨ps⟩,T,p,e,none⟩::rest) a W:=by
 refine bP hs hd ?_ c;obtain ⟨i,zv,h1,h2,h3,h4⟩:=t.info;have hu:=u.out;have hb:P.built S ((List.map (fun (i,x)=>(i,a.eval x)) ps))=some ⟨cs⟩:=by
  rw [hs.evParts hx];cases hd:P.underlying S with
  |none=>rw [hd] at hu;cases hu
  |some dd=>
   rw [hd] at hu;cases dd with
   |struct fields=>
    simp only [] at hu;have:=uU (fun i=>fs[i]?) vs z cs hv;unfold Program.built;simp only [h1,hd,h2,hu,h3];rw [←this];congr 1;funext i;simp
   |_=>cases hu
 have:=run_build (P:=P) W S ((ps.toArray).map (fun (i,x)=>(i,a.eval x))) ⟨cs⟩ (by simpa using hb);simp only [execOp,Sem.run_bind,this,Result.andThen_ok];rfl
theorem aDc {S:TypeId} (hs:Slots a n L) (hx:ev L x=some v:=by with_unfolding_all exact rfl) (h1:P.concrete S=true:=by kernel_rfl) (hd:Nat.blt d n=true:=by with_unfolding_all exact rfl)
  (c:∀a',Slots a' n ((d,.iface S v)::L)→wpList P ops Q rest a' W):wpList P ops Q (⟨some d,.makeInterface S x,T,p,e,none⟩::rest) a W:=
 bP hs hd (by simp only [execOp,hs.ev hx,Sem.run_bind,run_makeInterface W S v h1,Result.andThen_ok];rfl) c
def zI:BinOp→Bool→Bool→Option Value
 | .eql,b,c=>some (.bool (b == c))
 | .neq,b,c=>some (.bool (!(b == c)))
 |_,_,_=>none
theorem aDd {op:BinOp} {S':TypeId} {b c:Bool} (hs:Slots a n L) (hx:ev L x=some (.bool b):=by with_unfolding_all exact rfl) (hy:ev L y=some (.bool c):=by with_unfolding_all exact rfl) (hv:zI op b c=some v:=by with_unfolding_all exact rfl) (hu:P.underlying S=some .bool:=by kernel_rfl) (hd:Nat.blt d n=true:=by with_unfolding_all exact rfl)
  (k:∀a',Slots a' n ((d,v)::L)→wpList P ops Q rest a' W):wpList P ops Q (⟨some d,.binOp op S x y S',T,p,e,none⟩::rest) a W:=
 bP hs hd (by
  have he:(Op.equal S (.bool b) (.bool c)).run P W= .ok (b == c) W:=by
   have h0:∀dd:Nat,(Op.equalIn (dd+1) S (.bool b) (.bool c)).run P W= .ok (b == c) W:=fun dd=>by
    simp only [Op.equalIn,Sem.run_bind,run_underlying hu,Result.andThen_ok,Sem.run_pure]
   exact h0 9999
  cases op <;> simp [zI] at hv <;> (simp only [execOp,hs.ev hx,hs.ev hy];simp [eqGuard,binOp,he,←hv])) k
end
theorem Has.sub {G:Nat} {w W:World} {L L':List Res} (h:Has G w W L) (s:List.Sublist L' L):Has G w W L':=by
 refine ⟨h.ext,h.glob,?_⟩;have key:∀{L L':List Res},List.Sublist L' L→∀F:Nat→Prop,HasIn W L F→HasIn W L' F:=by
  intro L L' s
  induction s with
  |slnil=>intro F _;trivial
  |cons a s ih=>
   rintro F ⟨F1,h1,h2,h3⟩;exact ih _ (h3.mono fun b hb=>hb.1)
  |cons_cons a s ih=>
   rintro F ⟨F1,h1,h2,h3⟩;exact ⟨F1,h1,h2,ih _ h3⟩
 exact key s _ h.has
theorem uV (z:List Value) (hz:0<z.length):∀k:Nat,(List.range (k*z.length)).map (fun i=>(⟨z⟩:Array Value)[i % z.length]!)=rep k z
 |0=>by simp [rep]
 |k+1=>by
  have ih:=uV z hz k;rw [Nat.add_mul,Nat.one_mul,Nat.add_comm (k*z.length),List.range_add,List.map_append,List.map_map];show _=z ++ rep k z;congr 1
  ·apply List.ext_getElem
   ·simp
   ·intro i h1 h2;have h3:i<z.length:=by simpa using h2
    simp [Nat.mod_eq_of_lt h3,h3]
  ·rw [←ih];apply List.map_congr_left;intro i _;simp [Nat.add_mod_left]
section
variable {P:Program} {ops:Array Oper} {rest:List Oper} {Q:Exit→Act→World→Prop} {a:Act} {n G:Nat} {L:List (Nat×Value)} {w W W':World} {R:List Res} {R':Value→List Res} {d:Nat} {T S S' E:TypeId} {p:String} {e:Array Edge} {x y lo hi:Operand} {v:Value} {z cs xs news:List Value} {b k m size bytes:Nat} {i j:Int} {q q':IntKind} {ps:List (Nat×Operand)} {vs:List (Nat×Value)}
def zJ:BinOp→IntKind→Int→Nat→Option Value
 | .shl,k,x,m=>some (.int k (k.wrap (x*2 ^ (min m k.bits))))
 | .shr,k,x,m=>some (.int k (x.fdiv (2 ^ (min m k.bits))))
 |_,_,_,_=>none
theorem aDe {op:BinOp} {S':TypeId} (hs:Slots a n L) (hx:ev L x=some (.int q i):=by with_unfolding_all exact rfl) (hy:ev L y=some (.int q' (Int.ofNat m)):=by with_unfolding_all exact rfl) (hv:zJ op q i m=some v:=by with_unfolding_all exact rfl) (hd:Nat.blt d n=true:=by with_unfolding_all exact rfl)
  (k:∀a',Slots a' n ((d,v)::L)→wpList P ops Q rest a' W):wpList P ops Q (⟨some d,.binOp op S x y S',T,p,e,none⟩::rest) a W:=
 bP hs hd (by
  have h0:¬(Int.ofNat m<0):=by simp
  cases op <;> simp only [zJ,reduceCtorEq,Option.some.injEq] at hv <;> (simp only [execOp,hs.ev hx,hs.ev hy];simp [eqGuard,binOp,Op.shift,←hv];exact fun h=>absurd h (by omega))) k
theorem aDf {S:TypeId} (hs:Slots a n L) (hx:ev L x=some (.int q i):=by with_unfolding_all exact rfl) (hd:Nat.blt d n=true:=by with_unfolding_all exact rfl)
  (k:∀a',Slots a' n ((d,.int q (bits .xor q (if q.signed then -1 else q.max) i))::L)→wpList P ops Q rest a' W):wpList P ops Q (⟨some d,.unOp .xor S x,T,p,e,none⟩::rest) a W:=
 bP hs hd (by simp only [execOp,hs.ev hx];simp [Op.unary,go_sem]) k
theorem zK {agg:Bool} [sl:Sl P S E] [t:Ty P E agg z] (hs:Slots a n L) (hw:Has G w W R) (hx:evParts L ps=some vs:=by with_unfolding_all exact rfl) (hv:nH (fun i=>some (i*z.length,z.length)) (rep m z) vs=some cs:=by with_unfolding_all exact rfl) (hz:Nat.blt 0 (m*z.length)=true:=by with_unfolding_all exact rfl) (hl:Nat.ble (m*z.length) 16777216=true:=by with_unfolding_all exact rfl) (hd:Nat.blt d n=true:=by with_unfolding_all exact rfl)
  (k:∀a' b W',Has G w W' (aA b cs E::R)→Slots a' n ((d,.slice (some ⟨b,0,none⟩) m m)::L)→wpList P ops Q rest a' W'):wpList P ops Q (⟨some d,.buildSlice S m ⟨ps⟩,T,p,e,none⟩::rest) a W:=by
 obtain ⟨i,zv,h1,h2,h3,h4⟩:=t.info;have hz':0<m*z.length:=by simpa [Nat.blt_eq] using hz
 have hl':=Nat.le_of_ble_eq_true hl;have hzl:0<z.length:=Nat.pos_of_mul_pos_left hz';have hf:=uU (fun i=>some (i*z.length,z.length)) vs (rep m z) cs hv;have hr:(Instr.buildSlice S m (ps.map (fun (i,x)=>(i,a.eval x))).toArray).run P W= .ok (.slice (some ⟨W.heap.size,0,none⟩) m m) (W.alloc (.cells ⟨cs⟩ E)):=by
  have e1:¬(m*z.length > 2 ^ 24):=by omega
  have e2:¬(m*z.length=0):=by omega
  have e3:((Array.range (m*z.length)).map fun x=>zv.cells[x % zv.cells.size]!)=⟨rep m z⟩:=by
   rw [←uV z hzl m,h3];apply Array.ext';simp
  simp only [Instr.buildSlice,Sem.run_bind,run_underlying sl.out,Result.andThen_ok,sizeOf,typeInfo,run_program,h1,Sem.run_pure,h4,if_neg e1,if_neg e2,zeroValue,h2,e3,hs.evParts hx,hf,newRow,run_newObj];rfl
 refine bP hs hd (W':=W.alloc (.cells ⟨cs⟩ E)) ?_ fun a' hs'=>k a' W.heap.size _ (hw.new cs E) hs';have e4:(Array.map (fun (x:Nat×Operand)=>(x.1,a.eval x.2)) ⟨ps⟩)=(ps.map (fun (i,x)=>(i,a.eval x))).toArray:=by simp
 simp only [execOp,Sem.run_bind,e4,hr,Result.andThen_ok];rfl
theorem uW [sl:Sl P S E] (hw:Has G w W R) (hi:In (aA b cs E) R) (hl:Nat.beq cs.length (m*size)=true) (h1:cs.all (·.oneCell')=true) (cap:Nat):Src P size S (.slice (some ⟨b,0,none⟩) m cap) m cs W:=by
 have hb:=(hw.block hi).1;refine Src.ofSlice W sl.out ⟨b,0,none⟩ m cap cs (Nat.eq_of_beq_eq_true hl) (fun j u hu=>?_) (by simpa using h1);rw [eF,hC hb];simpa using hu
theorem eZ [sl:Sl P S E] (r:Rd W size v m cs) (h1:∀u∈cs,u.oneCell'=true):Src P size S v m cs W:=by
 obtain ⟨hl,ad,cap,rfl,h3,h4,rfl|⟨b,o,rfl,hlt,hc⟩⟩:=r
 ·have:cs= []:=List.eq_nil_of_length_eq_zero (by simpa using hl);subst this;cases ad with
  |none=>exact Src.ofNil W sl.out cap
  |some a=>exact Src.ofSlice W sl.out a 0 cap [] (by simp) (fun j u hu=>by simp at hu) h1
 ·exact Src.ofSlice W sl.out ⟨b,o,none⟩ m cap cs hl (fun j u hu=>by rw [eF];exact hc j u hu) h1
theorem aDg [t:StrTy P S] (s:ByteArray):Src P 1 S (.string s) s.size (Go.byteCells s) W:=Src.ofString W t.out s
theorem rM [sl:Sl P S E] [el:El P E size bytes] (hs:Slots a n L) (hw:Has G w W R) (hx:ev L x=some v:=by with_unfolding_all exact rfl) (hy:ev L y=some (.slice (some ⟨b,0,none⟩) m m):=by with_unfolding_all exact rfl) (hi:In (aA b news E) R:=by repeat (first|exact In.hd|apply In.tl)) (hu:∀v',Upd (Own E size v k xs) R (Own E size v' (k+m) (xs ++ news)) (R' v'):=by intro v';repeat (first|exact Upd.hd|apply Upd.tl)) (hl:Nat.beq news.length (m*size)=true:=by with_unfolding_all exact rfl) (h1:news.all (·.oneCell')=true:=by with_unfolding_all exact rfl) (h63:k+m≤9223372036854775807) (hb:(k+m)*bytes≤140737488355328) (hd:Nat.blt d n=true:=by with_unfolding_all exact rfl)
  (c:∀a' ad cap W',Slots a' n ((d,.slice ad (k+m) cap)::L)→Has G w W' (R' (.slice ad (k+m) cap))→wpList P ops Q rest a' W'):wpList P ops Q (⟨some d,.call {callee:= .builtin .append,args:=#[x,y],argTypes:=#[S,S]},T,p,e,none⟩::rest) a W:=
 lL hs hx hy hw hu (uW hw hi hl h1 m) h63 hb hd c
end
theorem fD {P:Program} {Q:Exit→Act→World→Prop} {K M:Act→World→Prop} {a:Act} {W:World} {x:Code} (hx:x.wp P (Exit.then M Q) a W) (hm:∀a W,M a W→K a W):x.wp P (Exit.then K Q) a W:=
 Code.wp_mono (fun e a w q=>by cases e <;> first|exact hm _ _ q|exact q) hx
theorem bU {k:IntKind} {x y:Int} (h:x=y):some (Value.int k x)=some (Value.int k y):=by rw [h]
theorem zL {x y:Bool} (h:x=y):some (Value.bool x)=some (Value.bool y):=by rw [h]
inductive Pick:Res→List Res→List Res→Prop
 |hd {r:Res} {L:List Res}:Pick r (r::L) L
 |tl {r q:Res} {L L':List Res}:Pick r L L'→Pick r (q::L) (q::L')
theorem HasIn.swap {W:World} {r q:Res} {L:List Res} {F:Nat→Prop}:HasIn W (q::r::L) F→HasIn W (r::q::L) F:=by
 rintro ⟨F1,h1,h2,F2,k1,k2,k3⟩;exact ⟨F2,fun b hb=>(k1 b hb).1,k2,F1,fun b hb=>⟨h1 b hb,fun h=>(k1 b h).2 hb⟩,h2,k3.mono fun b hb=>⟨⟨hb.1.1,hb.2⟩,hb.1.2⟩⟩
theorem HasIn.pick {W:World} {r:Res} {L L':List Res} (p:Pick r L L'):∀{F:Nat→Prop},HasIn W L F→HasIn W (r::L') F:=by
 induction p with
 |hd=>exact fun h=>h
 |tl p ih=>
  rintro F ⟨F1,h1,h2,h3⟩;exact HasIn.swap ⟨F1,h1,h2,ih h3⟩
theorem Has.pick {G:Nat} {w W:World} {r:Res} {L L':List Res} (h:Has G w W L) (p:Pick r L L'):Has G w W (r::L'):=⟨h.ext,h.glob,h.has.pick p⟩
theorem uX (a b:List UInt8):bys (a ++ b)=bys a ++ bys b:=by simp
theorem iY (l:List UInt8):∀u∈bys l,u.oneCell'=true:=by
 intro u hu;obtain ⟨c,_,rfl⟩:=List.mem_map.1 hu;rfl
theorem uY {E:TypeId} {v:Value} {l m:List UInt8} {n:Nat} {xs:List Value} (hn:n=(l ++ m).length) (hx:xs=bys (l ++ m)):Own E 1 v n xs=OwnB E v (l ++ m):=by subst hn hx;rfl
theorem Has.nilB {G:Nat} {w W:World} {R:List Res} (h:Has G w W R) (E:TypeId):Has G w W (OwnB E (.slice none 0 0) []::R):=
 ⟨h.ext,h.glob,fun _=>False,fun _ h=>h.elim,⟨by simp,.inl ⟨rfl,rfl⟩⟩,h.has.mono fun b hb=>⟨hb,fun h=>h⟩⟩
theorem Has.nilOwn {G:Nat} {w W:World} {R:List Res} (h:Has G w W R) (E:TypeId) (k:Nat):Has G w W (Own E k (.slice none 0 0) 0 []::R):=
 ⟨h.ext,h.glob,fun _=>False,fun _ h=>h.elim,⟨by simp,.inl ⟨rfl,rfl⟩⟩,h.has.mono fun b hb=>⟨hb,fun h=>h⟩⟩
section
variable {P:Program} {ops:Array Oper} {rest:List Oper} {Q:Exit→Act→World→Prop} {a:Act} {n G:Nat} {L:List (Nat×Value)} {w W W':World} {R:List Res} {R':Value→List Res} {d:Nat} {T S S' E:TypeId} {p:String} {e:Array Edge} {x y:Operand} {v u:Value} {l m:List UInt8} {i j:Int} {q q':IntKind}
theorem gQ [sl:Sl P S E] [el:El P E 1 1] (hs:Slots a n L) (hw:Has G w W R) (hx:ev L x=some v:=by with_unfolding_all exact rfl) (hy:ev L y=some u:=by with_unfolding_all exact rfl) (hu:∀v',Upd (OwnB E v l) R (OwnB E v' (l ++ m)) (R' v'):=by intro v';repeat (first|exact Upd.hd|apply Upd.tl)) (hr:Src P 1 S' u m.length (bys m) W) (hb:l.length+m.length≤140737488355328) (hd:Nat.blt d n=true:=by with_unfolding_all exact rfl)
  (c:∀a' ad cap W',Slots a' n ((d,.slice ad (l ++ m).length cap)::L)→Has G w W' (R' (.slice ad (l ++ m).length cap))→wpList P ops Q rest a' W'):wpList P ops Q (⟨some d,.call {callee:= .builtin .append,args:=#[x,y],argTypes:=#[S,S']},T,p,e,none⟩::rest) a W:=by
 have hu':∀v',Upd (Own E 1 v l.length (bys l)) R (Own E 1 v' (l.length+m.length) (bys l ++ bys m)) (R' v'):=fun v'=>by
  have:=hu v';rw [uY (l:=l) (m:=m) (n:=l.length+m.length) (by simp) (by rw [uX])];exact this
 refine lL hs hx hy hw hu' hr (by omega) (by omega) hd ?_;intro a' ad cap W' hs hw;have e:l.length+m.length=(l ++ m).length:=by simp
 rw [e] at hs hw;exact c a' ad cap W' hs hw
def zM:BinOp→IntKind→Int→Int→Option Value
 | .quo,k,x,y=>some (.int k (k.wrap (x.tdiv y)))
 | .rem,k,x,y=>some (.int k (x.tmod y))
 |_,_,_,_=>none
theorem zN {op:BinOp} {S':TypeId} (hs:Slots a n L) (hx:ev L x=some (.int q i):=by with_unfolding_all exact rfl) (hy:ev L y=some (.int q j):=by with_unfolding_all exact rfl) (hv:zM op q i j=some v:=by with_unfolding_all exact rfl) (hne:(j == 0)=false:=by with_unfolding_all exact rfl) (hd:Nat.blt d n=true:=by with_unfolding_all exact rfl)
  (k:∀a',Slots a' n ((d,v)::L)→wpList P ops Q rest a' W):wpList P ops Q (⟨some d,.binOp op S x y S',T,p,e,none⟩::rest) a W:=
 bP hs hd (by
  have h0:j≠0:=by simpa using hne
  cases op <;> simp only [zM,reduceCtorEq,Option.some.injEq] at hv <;> (simp only [execOp,hs.ev hx,hs.ev hy];simp [eqGuard,binOp,Op.intDiv,h0,←hv])) k
end
theorem RdB.cells {W:World} {v:Value} {l:List UInt8} (r:RdB W v l):∃ad cap,v= .slice ad l.length cap∧l.length≤cap∧cap≤9223372036854775807∧(l= []∨∃b o,ad=some ⟨b,o,none⟩∧∀j (h:j<l.length),W.cell? ⟨b,o+j,none⟩=some (.int .u8 (l[j].toNat:Int))):=by
 obtain ⟨h1,ad,cap,h2,h3,h4,h5⟩:=r;refine ⟨ad,cap,h2,h3,h4,h5.imp (fun b=>List.eq_nil_of_length_eq_zero b) ?_⟩;rintro ⟨b,o,e,hlt,hc⟩;exact ⟨b,o,e,fun j h=>hc j _ (by simp [h])⟩
section
variable {P:Program} {ops:Array Oper} {rest:List Oper} {Q:Exit→Act→World→Prop} {a:Act} {n G:Nat} {L:List (Nat×Value)} {w W W':World} {R:List Res} {d:Nat} {T S S' E:TypeId} {p:String} {e:Array Edge} {x y:Operand} {v u:Value} {l m:List UInt8}
theorem iF [sl:Sl P S E] [t:IntTy P E .u8] [u:StrTy P S'] (hs:Slots a n L) (hx:ev L x=some v:=by with_unfolding_all exact rfl) (r:RdB W v l) (hd:Nat.blt d n=true:=by with_unfolding_all exact rfl)
  (k:∀a',Slots a' n ((d,.string ⟨l.toArray⟩)::L)→wpList P ops Q rest a' W):wpList P ops Q (⟨some d,.convert S S' x,T,p,e,none⟩::rest) a W:=by
 refine bP hs hd ?_ k;obtain ⟨ad,cap,rfl,h3,h4,rfl|⟨b,o,rfl,hc⟩⟩:=r.cells
 ·simp only [execOp,hs.ev hx,Sem.run_bind];cases ad with
  |none=>
   rw [run_convert_bytes_string W S S' E none [].length cap sl.out t.out u.out];simp [Conv.bytesToString];rfl
  |some a=>
   rw [run_convert_bytes_back W S S' E a cap [] sl.out t.out u.out (fun j hj=>by simp at hj)];rfl
 ·simp only [execOp,hs.ev hx,Sem.run_bind];rw [run_convert_bytes_back W S S' E ⟨b,o,none⟩ cap l sl.out t.out u.out (fun j hj=>by rw [eF];exact hc j hj)];rfl
end
def iG (l:List Oper) (t:Nat):Option Nat:=l.findIdx? fun o=>o.dst == some t
def entry (o:Oper) (v:Option Value):List (Nat×Value):=match o.dst,v with|some d,some v=>[(d,v)]|_,_=>[]
def dK (l:List Oper) (V:List Value):List Edge→List (Nat×Value)
 | []=>[]
 |e::es=>match Region.binds .any e,l[e.on]? with
  |true,some o=>entry o V[e.on]? ++ dK l V es
  |_,_=>dK l V es
def dC (l:List Oper) (i:Nat):List (Nat×Value)→List (Nat×Value)
 | []=>[]
 |(t,v)::L=>match iG l t with
  |none=>(t,v)::dC l i L
  |some k=>match Nat.beq k i || (match l[k]? with|some o=>o.after.toList.any (fun e=>Region.binds .any e && Nat.beq e.on i)|none=>false) with
   |true=>(t,v)::dC l i L
   |false=>dC l i L
def fJ:List Oper→List Value→List (Nat×Value)
 |o::l,v::V=>entry o (some v) ++ fJ l V
 |_,_=>[]
def hJ (l:List Oper):Bool:=
 l.zipIdx.all fun (o,i)=>(match o.dst with|some d=>iG l d == some i|none=>true) && o.after.toList.all fun e=>!Region.binds .any e || decide (e.on<i)
def eR (l:List Oper) (V:List Value) (L0:List (Nat×Value)) (D:Nat→Bool) (t:Nat):Option Value:=
 match iG l t with
 |some j=>if D j then V[j]? else lk L0 t
 |none=>lk L0 t
def iZ (n:Nat) (M:Nat→Option Value):List (Nat×Value):=(List.range n).filterMap fun t=>(M t).map fun v=>(t,v)
theorem mD (A B:List (Nat×Value)) (t:Nat):lk (A ++ B) t=(lk A t).or (lk B t):=by
 induction A with
 |nil=>simp [lk]
 |cons p A ih=>
  obtain ⟨u,v⟩:=p;simp only [List.cons_append,lk];split
  ·simp
  ·exact ih
theorem uZ {L:List (Nat×Value)} {t:Nat} {v:Value}:lk ((t,v)::L) t=some v:=by simp [lk]
theorem u1 {L:List (Nat×Value)} {t u:Nat} {v:Value} (h:u≠t):lk ((u,v)::L) t=lk L t:=by
 have:Nat.beq u t=false:=by
  cases hq:Nat.beq u t
  ·rfl
  ·exact absurd (Nat.eq_of_beq_eq_true hq) h
 simp [lk,this]
theorem oY {L:List (Nat×Value)} {t:Nat} {v:Value} (h:lk L t=some v):(t,v)∈L:=by
 induction L with
 |nil=>cases h
 |cons p L ih=>
  obtain ⟨u,x⟩:=p;simp only [lk] at h;split at h
  ·rename_i hb;rw [Nat.eq_of_beq_eq_true hb,Option.some.inj h];exact List.mem_cons_self ..
  ·exact List.mem_cons_of_mem _ (ih h)
theorem u4 (n:Nat) (M:Nat→Option Value) (t:Nat) (ht:t<n):lk (iZ n M) t=M t:=by
 have key:∀(l:List Nat),l.Nodup→lk (l.filterMap fun t=>(M t).map fun v=>(t,v)) t=if t∈l then M t else none:=by
  intro l
  induction l with
  |nil=>intro _;simp [lk]
  |cons u l ih=>
   intro hn;have hn':=List.nodup_cons.1 hn;have ih:=ih hn'.2;simp only [List.filterMap_cons];cases hm:M u with
   |none=>
    simp only [Option.map_none,ih]
    by_cases e:t=u
    ·subst e;simp [hm]
    ·simp [e]
   |some v=>
    simp only [Option.map_some,lk];split
    ·rename_i hb;have:=Nat.eq_of_beq_eq_true hb;subst this;simp [hm]
    ·rename_i hb;have:t≠u:=fun e=>by subst e;simp at hb
     simp [ih,this]
 rw [iZ,key _ List.nodup_range];simp [ht]
section
variable {P:Program} {Q:Exit→Act→World→Prop} {K:Act→World→Prop} {n G:Nat} {w:World} {l:List Oper} {V:List Value} {L0:List (Nat×Value)} {Rs:(Nat→Bool)→List Res}
def d8 {σ:Type} (u:Nat→σ) (i:Nat) (x:σ):Nat→σ:=fun j=>if j=i then x else u j
theorem u5 {σ:Type} (u:Nat→σ) (i:Nat):d8 u i (u i)=u:=by
 funext j;unfold d8;split
 ·rename_i h;rw [h]
 ·rfl
def u6 {σ:Type} (P:Program) (l:List Oper) (V:(Nat→σ)→List Value) (L0:List (Nat×Value)) (n G:Nat) (w:World) (Rs:(Nat→σ)→(Nat→Bool)→List Res) (i:Nat) (o:Oper):Prop:=
 ∀(u:Nat→σ) (LD:List (Nat×Value)) (D:Nat→Bool) (a:Act) (W:World),(∀k o',l[k]? =some o'→D k=true→∀e∈o'.after.toList,Region.binds .any e=true→D e.on=true)→D i=false→
  (∀e∈o.after.toList,Region.binds .any e=true→D e.on=true)→Slots a n (dK l (V u) o.after.toList ++ (dC l i L0 ++ LD))→Has G w W (Rs u D)→
  wpList P l.toArray (fun ex a' W'=>match ex with| .normal=>∃x,Slots a' n (entry o (V (d8 u i x))[i]? ++ (dK l (V u) o.after.toList ++ (dC l i L0 ++ LD)))∧Has G w W' (Rs (d8 u i x) fun j=>Nat.beq j i || D j)|_=>False) [o] a W
def AllOwed {σ:Type} (P:Program) (l:List Oper) (V:(Nat→σ)→List Value) (L0:List (Nat×Value)) (n G:Nat) (w:World) (Rs:(Nat→σ)→(Nat→Bool)→List Res):Nat→List Oper→Prop
 |_,[]=>True
 |i,o::os=>u6 P l V L0 n G w Rs i o∧AllOwed P l V L0 n G w Rs (i+1) os
theorem AllOwed.at {σ:Type} {V:(Nat→σ)→List Value} {Rs:(Nat→σ)→(Nat→Bool)→List Res}:∀{os:List Oper} {i:Nat},AllOwed P l V L0 n G w Rs i os→∀j o,os[j]? =some o→u6 P l V L0 n G w Rs (i+j) o
 | [],_,_,j,o,h=>by simp at h
 |x::os,i,⟨h1,h2⟩,0,o,h=>by simp at h;subst h;exact h1
 |x::os,i,⟨h1,h2⟩,j+1,o,h=>by
  have:=h2.at j o (by simpa using h);rwa [Nat.add_assoc,Nat.add_comm 1 j] at this
theorem Oper.wp_calm {o:Oper} {a:Act} {W:World} {N:Act→World→Prop} (h:o.wp P a W N (fun ex a' W'=>match ex with| .normal=>N a' W'|_=>False)):o.wp P a W N Q:=by
 unfold Oper.wp at *;generalize (execOp a.eval o).run P W=r at *;cases r with
 |ok x w'=>
  cases x <;> simp only [Oper.upon] at h⊢<;> first
   |exact h
   |exact Calls.mono h (fun e w'' he=>by
     cases e with
     |returned v=>exact he
     |panicked c=>exact he.elim
     |outgrown=>obtain ⟨_,_,he⟩:=he;exact he.elim)
 |halt x w'=>cases x <;> simp only [Oper.upon] at h⊢<;> exact h.elim
theorem aDh {ops:Array Oper} {i:Nat} {o:Oper} (ho:ops[i]? =some o) {a:Act} {W:World} {N:Act→World→Prop} (h:wpList P ops (fun ex a' W'=>match ex with| .normal=>N a' W'|_=>False) [o] a W):wpOp P ops Q i N a W:=by
 unfold wpOp;rw [ho];unfold wpList at h;simp only [];split
 ·rename_i hw;rw [if_pos hw] at h;rcases h with h|⟨_,a',w',h⟩
  ·left;exact Oper.wp_calm h
  ·exact h.elim
 ·rename_i hw;rw [if_neg hw] at h;exact h
theorem mE (hf:hJ l=true) {i:Nat} {o:Oper} (ho:l[i]? =some o):(∀d,o.dst=some d→iG l d=some i)∧∀e∈o.after.toList,Region.binds .any e=true→e.on<i:=by
 unfold hJ at hf;rw [List.all_eq_true] at hf;have:=hf (o,i) (by rw [List.mem_zipIdx_iff_getElem?];exact ho);simp only [Bool.and_eq_true,List.all_eq_true,Bool.or_eq_true,Bool.not_eq_true',decide_eq_true_eq] at this;refine ⟨fun d hd=>?_,fun e he hb=>?_⟩
 ·have h1:=this.1;rw [hd] at h1;simpa using h1
 ·rcases this.2 e he with h|h
  ·rw [hb] at h;cases h
  ·exact h
theorem u7 {t j:Nat} (h:iG l t=some j):∃o,l[j]? =some o∧o.dst=some t:=by
 unfold iG at h;rw [List.findIdx?_eq_some_iff_getElem] at h;obtain ⟨hj,h1,_⟩:=h;exact ⟨l[j],by simp [hj],by simpa using h1⟩
theorem zO (hf:hJ l=true) {D:Nat→Bool}:∀(es:List Edge),(∀e∈es,Region.binds .any e=true→D e.on=true)→∀t v,(t,v)∈dK l V es→eR l V L0 D t=some v
 | [],_,t,v,h=>by cases h
 |e::es,hD,t,v,h=>by
  have ih:=zO hf es (fun e' he'=>hD e' (List.mem_cons_of_mem _ he')) t v;simp only [dK] at h;split at h
  ·rename_i o hb ho;rcases List.mem_append.1 h with h|h
   ·unfold entry at h;split at h
    ·rename_i d u hd hu;have:=List.mem_singleton.1 h;obtain ⟨rfl,rfl⟩:=Prod.mk.inj this;unfold eR;rw [(mE hf ho).1 _ hd];simp [hD e (List.mem_cons_self ..) hb,hu]
    ·cases h
   ·exact ih h
  ·exact ih h
theorem zP (hf:hJ l=true) {D:Nat→Bool} {i:Nat} (hcl:∀k o',l[k]? =some o'→D k=true→∀e∈o'.after.toList,Region.binds .any e=true→D e.on=true) (hi:D i=false) (t:Nat):∀(L:List (Nat×Value)) v,lk (dC l i L) t=some v→lk L t=some v∧(∀k,iG l t=some k→D k=false)
 | [],v,h=>by cases h
 |(u,x)::L,v,h=>by
  have ih:=zP hf hcl hi t L v;have skip:lk (dC l i L) t=some v→(∀k,iG l u=some k→¬(∀k,iG l t=some k→D k=false)∨t≠u)→True:=fun _ _=>trivial;have dn:∀k,(Nat.beq k i || (match l[k]? with|some o=>o.after.toList.any (fun e=>Region.binds .any e && Nat.beq e.on i)|none=>false))=true→D k=false:=by
   intro k hk;cases hDk:D k with
   |false=>rfl
   |true=>
    exfalso;rcases Bool.or_eq_true _ _ |>.mp hk with hk|hk
    ·have:=Nat.eq_of_beq_eq_true hk;subst this;rw [hi] at hDk;cases hDk
    ·split at hk
     ·rename_i o ho;obtain ⟨e,he,hb⟩:=List.any_eq_true.1 hk;obtain ⟨h1,h2⟩:=Bool.and_eq_true _ _ |>.mp hb;have:=hcl k o ho hDk e he h1;rw [Nat.eq_of_beq_eq_true h2,hi] at this;cases this
     ·cases hk
  have out:∀k,iG l u=some k→(Nat.beq k i || (match l[k]? with|some o=>o.after.toList.any (fun e=>Region.binds .any e && Nat.beq e.on i)|none=>false))=false→∀L',t=u→lk (dC l i L') t=none:=by
   intro k hk hb L' e;subst e
   induction L' with
   |nil=>rfl
   |cons p L' ih'=>
    obtain ⟨u',x'⟩:=p;simp only [dC]
    by_cases e2:u'=t
    ·subst e2;rw [hk];simp only [hb];exact ih'
    ·have hne:Nat.beq u' t=false:=by
      cases hq:Nat.beq u' t
      ·rfl
      ·exact absurd (Nat.eq_of_beq_eq_true hq) e2
     split
     ·simp only [lk,hne];exact ih'
     ·split
      ·simp only [lk,hne];exact ih'
      ·exact ih'
  by_cases e:u=t
  ·subst e;simp only [dC] at h;rw [uZ];split at h
   ·rename_i hw;rw [uZ] at h;exact ⟨h,fun k hk=>by rw [hw] at hk;cases hk⟩
   ·rename_i k hw;split at h
    ·rename_i hq;rw [uZ] at h;refine ⟨h,fun k' hk'=>?_⟩;rw [hw] at hk';cases hk'
     exact dn k hq
    ·rename_i hq;rw [out k hw hq L rfl] at h;cases h
  ·rw [u1 e];simp only [dC] at h;split at h
   ·rw [u1 e] at h;exact ih h
   ·split at h
    ·rw [u1 e] at h;exact ih h
    ·exact ih h
theorem zQ {σ:Type} {V:(Nat→σ)→List Value} {Rs:(Nat→σ)→(Nat→Bool)→List Res} (id:Nat) (u0:Nat→σ) (hm:P.follows .mixedOrders=true) (hf:hJ l=true) (hV:∀u,(V u).length=l.length) (hVu:∀(u:Nat→σ) (D:Nat→Bool) (i:Nat) (x:σ) (j:Nat),(∀k o',l[k]? =some o'→D k=true→∀e∈o'.after.toList,Region.binds .any e=true→D e.on=true)→D i=false→D j=true→(V (d8 u i x))[j]? =(V u)[j]?) {a:Act} {W:World} (hs:Slots a n L0) (hn:l.all (fun o=>match o.dst with|some d=>Nat.blt d n|none=>true)=true) (hw:Has G w W (Rs u0 fun _=>false))
  (ho:AllOwed P l V L0 n G w Rs 0 l) (k:∀u a W,Slots a n (fJ l (V u) ++ L0)→Has G w W (Rs u fun j=>Nat.blt j l.length)→Q .normal a W):(Code.region id l.toArray true).wp P Q a W:=by
 refine wp_region_any hm ?_;have hws:∀t j,iG l t=some j→t<n:=fun t j h=>by
  obtain ⟨o,h1,h2⟩:=u7 h;have:=List.all_eq_true.1 hn o (List.mem_of_getElem? h1);rw [h2] at this;simpa [Nat.blt_eq] using this
 have hL0:∀t v,lk L0 t=some v→t<n:=fun t v h=>by
  have:=hs.at_ t v h;have:=(Array.getElem?_eq_some_iff.1 this).1;rwa [hs.size] at this
 have hkn:∀u D t v,eR l (V u) L0 D t=some v→t<n:=by
  intro u D t v h;unfold eR at h;split at h
  ·rename_i j hj;exact hws t j hj
  ·exact hL0 t v h
 have toL:∀(o:Oper) (D:Nat→Bool),(∀e∈o.after,Region.binds .any e=true→D e.on=true)→∀e∈o.after.toList,Region.binds .any e=true→D e.on=true:=fun o D h e he=>h e (by simpa using he);have main:∀(fuel:Nat) (u:Nat→σ) (listed:Array Bool) (a:Act) (W:World),listed.size=l.length→listed.toList.count false≤fuel→
   (∀k o',l[k]? =some o'→listed.getD k false=true→∀e∈o'.after.toList,Region.binds .any e=true→listed.getD e.on false=true)→
   Slots a n (iZ n (eR l (V u) L0 fun j=>listed.getD j false))→Has G w W (Rs u fun j=>listed.getD j false)→wpAny P .any l.toArray Q fuel listed a W:=by
  intro fuel;have fin:∀(u:Nat→σ) (listed:Array Bool) (a:Act) (W:World),listed.size=l.length→Slots a n (iZ n (eR l (V u) L0 fun j=>listed.getD j false))→Has G w W (Rs u fun j=>listed.getD j false)→Region.ready .any l.toArray listed= []→Q .normal a W:=by
   intro u listed a W hsz hs hw hr;have all:∀i,i<l.length→listed.getD i false=true:=by
    intro i
    induction i using Nat.strongRecOn with
    |_ i ih=>
     intro hi;cases hd:listed.getD i false with
     |true=>rfl
     |false=>
      exfalso;have:i∈Region.ready .any l.toArray listed:=by
       rw [mem_ready];refine ⟨?_,l[i],by simp [hi],fun e he hb=>?_⟩
       ·have h2:i<listed.size:=by omega
        simp only [Array.getD,h2,dite_true] at hd⊢;exact hd
       ·have:=(mE hf (i:=i) (o:=l[i]) (by simp [hi])).2 e (by simpa using he) hb;exact ih e.on this (by omega)
      rw [hr] at this;cases this
   have hD:(fun j=>listed.getD j false)=fun j=>Nat.blt j l.length:=by
    funext j
    by_cases hj:j<l.length
    ·rw [all j hj];symm;simpa [Nat.blt_eq] using hj
    ·have h1:¬j<listed.size:=by omega
     have:Nat.blt j l.length=false:=by
      cases hq:Nat.blt j l.length
      ·rfl
      ·exact absurd (by simpa [Nat.blt_eq] using hq) hj
     rw [this];simp [Array.getD,h1]
   rw [hD] at hs hw;refine k u a W (hs.sub fun t v h=>?_) hw;have hfin:∀(l':List Oper) (V':List Value),V'.length=l'.length→(∀t v,(t,v)∈fJ l' V'→∃(j:Nat) (o:Oper),l'[j]? =some o∧o.dst=some t∧V'[j]? =some v)∧(∀(j:Nat) (o:Oper) t,l'[j]? =some o→o.dst=some t→lk (fJ l' V') t≠none):=by
    intro l'
    induction l' with
    |nil=>intro V' _;exact ⟨fun t v h=>by simp [fJ] at h,fun j o t h=>by simp at h⟩
    |cons o' l' ih=>
     intro V' hl;cases V' with
     |nil=>simp at hl
     |cons v' V'=>
      obtain ⟨i1,i2⟩:=ih V' (by simpa using hl);refine ⟨fun t v h=>?_,fun j o t h1 h2=>?_⟩
      ·simp only [fJ,List.mem_append] at h;rcases h with h|h
       ·unfold entry at h;split at h
        ·rename_i d u hd hu;have:=List.mem_singleton.1 h;obtain ⟨rfl,rfl⟩:=Prod.mk.inj this;exact ⟨0,o',rfl,hd,hu⟩
        ·cases h
       ·obtain ⟨j,o,a1,a2,a3⟩:=i1 t v h;exact ⟨j+1,o,by simpa using a1,a2,by simpa using a3⟩
      ·simp only [fJ,mD];cases j with
       |zero=>
        simp at h1;subst h1;simp [entry,h2,lk]
       |succ j=>
        have:=i2 j o t (by simpa using h1) h2;cases hq:lk (entry o' (some v')) t with
        |none=>simpa using this
        |some _=>simp
   obtain ⟨f1,f2⟩:=hfin l (V u) (hV u);have ht:eR l (V u) L0 (fun j=>Nat.blt j l.length) t=some v:=by
    rw [mD] at h;unfold eR;cases hq:lk (fJ l (V u)) t with
    |some y=>
     rw [hq] at h;simp only [Option.some_or,Option.some.injEq] at h;subst h;obtain ⟨j,o,a1,a2,a3⟩:=f1 t y (oY hq);rw [(mE hf a1).1 t a2];have:j<l.length:=(List.getElem?_eq_some_iff.1 a1).1;have hb:Nat.blt j l.length=true:=by simpa [Nat.blt_eq] using this
     simp only [hb,if_true];exact a3
    |none=>
     rw [hq] at h;simp only [Option.none_or] at h;cases hwr:iG l t with
     |none=>exact h
     |some j=>
      obtain ⟨o,a1,a2⟩:=u7 hwr;exact absurd hq (f2 j o t a1 a2)
   rw [u4 n _ t (hkn _ _ _ _ ht)];exact ht
  induction fuel with
  |zero=>
   intro u listed a W hsz hc hcl hs hw;have hr:Region.ready .any l.toArray listed= []:=by
    apply List.eq_nil_iff_forall_not_mem.2;intro i hi;obtain ⟨h1,o,h2,_⟩:=mem_ready.1 hi;have hlt:i<listed.size:=by
     rw [hsz];have:=(Array.getElem?_eq_some_iff.1 h2).1;simpa using this
    simp only [Array.getD,hlt,dite_true] at h1;have:false∈listed.toList:=by
     have h3:listed[i]∈listed.toList:=by simp
     have h4:listed[i]=false:=h1;rwa [h4] at h3
    have:=List.count_pos_iff.2 this;omega
   exact ⟨hr,fin u listed a W hsz hs hw hr⟩
  |succ fuel ih=>
   intro u listed a W hsz hc hcl hs hw;refine ⟨fin u listed a W hsz hs hw,fun i hi=>?_⟩;obtain ⟨h1,o,h2,h3⟩:=mem_ready.1 hi;have hlt:i<listed.size:=by
    rw [hsz];have:=(Array.getElem?_eq_some_iff.1 h2).1;simpa using this
   have ho1:l[i]? =some o:=by simpa using h2
   have hDi:listed.getD i false=false:=by
    simp only [Array.getD,hlt,dite_true] at h1⊢;exact h1
   have hO:=ho.at i o ho1;rw [Nat.zero_add] at hO;have cons:∀t y,lk (dK l (V u) o.after.toList ++ (dC l i L0 ++ iZ n (eR l (V u) L0 fun j=>listed.getD j false))) t=some y→eR l (V u) L0 (fun j=>listed.getD j false) t=some y:=by
    intro t y h;rw [mD,mD] at h;cases hq:lk (dK l (V u) o.after.toList) t with
    |some x=>
     rw [hq] at h;simp only [Option.some_or,Option.some.injEq] at h;subst h;exact zO hf _ (toL o _ h3) t x (oY hq)
    |none=>
     rw [hq,Option.none_or] at h;cases hq2:lk (dC l i L0) t with
     |some x=>
      rw [hq2] at h;simp only [Option.some_or,Option.some.injEq] at h;subst h;obtain ⟨g1,g2⟩:=zP hf hcl hDi t L0 x hq2;unfold eR;split
      ·rename_i j hj;have:=g2 j hj;simp only [this,Bool.false_eq_true,if_false];exact g1
      ·exact g1
     |none=>
      rw [hq2,Option.none_or] at h;have hm:=oY h;unfold iZ at hm;obtain ⟨t',ht',hx⟩:=List.mem_filterMap.1 hm;cases hk:eR l (V u) L0 (fun j=>listed.getD j false) t' with
      |none=>rw [hk] at hx;cases hx
      |some x=>
       rw [hk] at hx;simp only [Option.map_some,Option.some.injEq,Prod.mk.injEq] at hx;rw [←hx.1,hk,hx.2]
   have hO:=hO u (iZ n (eR l (V u) L0 fun j=>listed.getD j false)) (fun j=>listed.getD j false) a W hcl hDi (toL o (fun j=>listed.getD j false) h3) (hs.sub fun t v h=>by
    have:=cons t v h;rw [u4 n _ t (hkn _ _ _ _ this)]
    exact this) hw
   have h4:=aDh (Q:=Q) (N:=fun a' W'=>∃x,Slots a' n (entry o (V (d8 u i x))[i]? ++ (dK l (V u) o.after.toList ++ (dC l i L0 ++ iZ n (eR l (V u) L0 fun j=>listed.getD j false))))∧Has G w W' (Rs (d8 u i x) fun j=>Nat.beq j i || listed.getD j false)) h2 hO;refine wpOp_mono (fun a' W' h5=>?_) h4;obtain ⟨x0,hs',hw'⟩:=h5;have hD':(fun j=>(listed.setIfInBounds i true).getD j false)=fun j=>Nat.beq j i || listed.getD j false:=by
    funext j
    by_cases e:j=i
    ·subst e;simp [Array.getD,hlt]
    ·have hne:Nat.beq j i=false:=by
      cases hq:Nat.beq j i
      ·rfl
      ·exact absurd (Nat.eq_of_beq_eq_true hq) e
     rw [hne,Bool.false_or,getD_set_ne false (fun h=>e h.symm)]
   refine ih (d8 u i x0) (listed.setIfInBounds i true) a' W' (by simpa using hsz) ?_ ?_ ?_ ?_
   ·have hli:listed.toList[i]'(by simpa using hlt)=false:=by
     simp only [Array.getD,hlt,dite_true] at hDi;simpa using hDi
    have:(listed.setIfInBounds i true).toList.count false=listed.toList.count false - 1:=by
     rw [Array.toList_setIfInBounds,List.count_set (by simpa using hlt)];simp [hli]
    omega
   ·intro k' o' hk' hDk e he hb;rw [show (listed.setIfInBounds i true).getD k' false=_ from congrFun hD' k'] at hDk;rw [show (listed.setIfInBounds i true).getD e.on false=_ from congrFun hD' e.on];rcases Bool.or_eq_true _ _ |>.mp hDk with h|h
    ·have:=Nat.eq_of_beq_eq_true h;subst this;rw [ho1] at hk';cases hk'
     rw [toL o (fun j=>listed.getD j false) h3 e he hb,Bool.or_true]
    ·rw [hcl k' o' hk' h e he hb,Bool.or_true]
   ·rw [hD'];refine hs'.sub fun t v h=>?_;have hm:=oY h;unfold iZ at hm;obtain ⟨t',ht',hx⟩:=List.mem_filterMap.1 hm;cases hk:eR l (V (d8 u i x0)) L0 (fun j=>Nat.beq j i || listed.getD j false) t' with
    |none=>rw [hk] at hx;cases hx
    |some x=>
     rw [hk] at hx;simp only [Option.map_some,Option.some.injEq,Prod.mk.injEq] at hx;obtain ⟨rfl,rfl⟩:=hx;rw [mD]
     by_cases hwr:iG l t'=some i
     ·obtain ⟨o2,b1,b2⟩:=u7 hwr;rw [ho1] at b1;cases b1
      unfold eR at hk;rw [hwr] at hk;simp only [Nat.beq_refl,Bool.true_or,if_true] at hk;simp [entry,b2,hk,lk]
     ·have hk2:eR l (V u) L0 (fun j=>listed.getD j false) t'=some x:=by
       unfold eR at hk⊢;split at hk
       ·rename_i j hj;have hne:j≠i:=fun e=>hwr (e▸hj);have:Nat.beq j i=false:=by
         cases hq:Nat.beq j i
         ·rfl
         ·exact absurd (Nat.eq_of_beq_eq_true hq) hne
        simp only [this,Bool.false_or] at hk;have hk':(if listed.getD j false=true then (V (d8 u i x0))[j]? else lk L0 t')=some x:=hk;show (if listed.getD j false=true then (V u)[j]? else lk L0 t')=some x
        by_cases hDj:listed.getD j false=true
        ·rw [if_pos hDj] at hk'⊢;rw [←hVu u (fun j=>listed.getD j false) i x0 j hcl hDi hDj];exact hk'
        ·rw [if_neg hDj] at hk'⊢;exact hk'
       ·exact hk
      have he:lk (entry o (V (d8 u i x0))[i]?) t'=none:=by
       unfold entry;split
       ·rename_i d y hd hu;have hdt:d≠t':=fun e=>hwr (e▸(mE hf ho1).1 d hd);have:Nat.beq d t'=false:=by
         cases hq:Nat.beq d t'
         ·rfl
         ·exact absurd (Nat.eq_of_beq_eq_true hq) hdt
        simp [lk,this]
       ·rfl
      rw [he,Option.none_or];have hl:lk (iZ n (eR l (V u) L0 fun j=>listed.getD j false)) t'=some x:=by
       rw [u4 n _ t' (hkn _ _ _ _ hk2)];exact hk2
      have hsome:(lk (dK l (V u) o.after.toList ++ (dC l i L0 ++ iZ n (eR l (V u) L0 fun j=>listed.getD j false))) t').isSome=true:=by
       rw [mD,mD,hl];cases lk (dK l (V u) o.after.toList) t' <;> cases lk (dC l i L0) t' <;> simp
      obtain ⟨y,hu⟩:=Option.isSome_iff_exists.1 hsome;have:=cons t' y hu;rw [hk2] at this;rw [hu,←this]
   ·rw [hD'];exact hw'
 have hD0:(fun j=>(Array.replicate l.toArray.size false).getD j false)=fun _=>false:=by
  funext j
  by_cases hj:j<l.length <;> simp [Array.getD,hj]
 refine main l.toArray.size u0 (Array.replicate l.toArray.size false) a {W with drawn:=W.drawn+1} (by simp) ?_ ?_ ?_ ?_
 ·simp
 ·intro k' o' _ h;rw [show (Array.replicate l.toArray.size false).getD k' false=false from congrFun hD0 k'] at h;cases h
 ·rw [hD0];refine hs.sub fun t v h=>?_;have hm:=oY h;unfold iZ at hm;obtain ⟨t',ht',hx⟩:=List.mem_filterMap.1 hm;cases hk:eR l (V u0) L0 (fun _=>false) t' with
  |none=>rw [hk] at hx;cases hx
  |some x=>
   rw [hk] at hx;simp only [Option.map_some,Option.some.injEq,Prod.mk.injEq] at hx;obtain ⟨rfl,rfl⟩:=hx;unfold eR at hk;split at hk
   ·simpa using hk
   ·exact hk
 ·rw [hD0];exact hw.below ((Below.refl _ _).drew)
theorem zR {σ:Type} {V:(Nat→σ)→List Value} {Rs:(Nat→σ)→(Nat→Bool)→List Res} (id:Nat) (u0:Nat→σ) (hm:P.follows .mixedOrders=true) (hf:hJ l=true) (hV:∀u,(V u).length=l.length) (hVu:∀u u' j,u j=u' j→(V u)[j]? =(V u')[j]?) {a:Act} {W:World} (hs:Slots a n L0) (hn:l.all (fun o=>match o.dst with|some d=>Nat.blt d n|none=>true)=true) (hw:Has G w W (Rs u0 fun _=>false))
  (ho:AllOwed P l V L0 n G w Rs 0 l) (k:∀u a W,Slots a n (fJ l (V u) ++ L0)→Has G w W (Rs u fun j=>Nat.blt j l.length)→Q .normal a W):(Code.region id l.toArray true).wp P Q a W:=
 zQ id u0 hm hf hV (fun u D i x j _ hi hj=>hVu _ _ j (by
  have:j≠i:=by rintro rfl;rw [hi] at hj;cases hj
  simp [d8,this])) hs hn hw ho k
end
theorem aDi {P:Program} {l:List Oper} {V:List Value} {L0:List (Nat×Value)} {n G:Nat} {w:World} {Rs:(Nat→Bool)→List Res} {i:Nat} {o:Oper}
  (h:∀(LD:List (Nat×Value)) (D:Nat→Bool) (a:Act) (W:World),(∀k o',l[k]? =some o'→D k=true→∀e∈o'.after.toList,Region.binds .any e=true→D e.on=true)→D i=false→
   (∀e∈o.after.toList,Region.binds .any e=true→D e.on=true)→Slots a n (dK l V o.after.toList ++ (dC l i L0 ++ LD))→Has G w W (Rs D)→
   wpList P l.toArray (fun ex a' W'=>match ex with| .normal=>Slots a' n (entry o V[i]? ++ (dK l V o.after.toList ++ (dC l i L0 ++ LD)))∧Has G w W' (Rs fun j=>Nat.beq j i || D j)|_=>False) [o] a W):
  u6 (σ:=Unit) P l (fun _=>V) L0 n G w (fun _=>Rs) i o:=by
 intro u LD D a W h1 h2 h3 h4 h5;have:=h LD D a W h1 h2 h3 h4 h5;have e:(fun ex a' W'=>match ex with| .normal=>∃_:Unit,Slots a' n (entry o V[i]? ++ (dK l V o.after.toList ++ (dC l i L0 ++ LD)))∧Has G w W' (Rs fun j=>Nat.beq j i || D j)|_=>False)=(fun (ex:Exit) (a':Act) (W':World)=>match ex with| .normal=>Slots a' n (entry o V[i]? ++ (dK l V o.after.toList ++ (dC l i L0 ++ LD)))∧Has G w W' (Rs fun j=>Nat.beq j i || D j)|_=>False):=by
  funext ex a' W';cases ex <;> simp
 rw [e];exact this
def oZ (P:Program) (l:List Oper) (V:List Value) (L0:List (Nat×Value)) (n G:Nat) (w:World) (Rs:(Nat→Bool)→List Res):Nat→List Oper→Prop
 |_,[]=>True
 |i,o::os=>(∀(LD:List (Nat×Value)) (D:Nat→Bool) (a:Act) (W:World),(∀k o',l[k]? =some o'→D k=true→∀e∈o'.after.toList,Region.binds .any e=true→D e.on=true)→D i=false→
   (∀e∈o.after.toList,Region.binds .any e=true→D e.on=true)→Slots a n (dK l V o.after.toList ++ (dC l i L0 ++ LD))→Has G w W (Rs D)→
   wpList P l.toArray (fun ex a' W'=>match ex with| .normal=>Slots a' n (entry o V[i]? ++ (dK l V o.after.toList ++ (dC l i L0 ++ LD)))∧Has G w W' (Rs fun j=>Nat.beq j i || D j)|_=>False) [o] a W)∧oZ P l V L0 n G w Rs (i+1) os
theorem zS {P:Program} {l:List Oper} {V:List Value} {L0:List (Nat×Value)} {n G:Nat} {w:World} {Rs:(Nat→Bool)→List Res}:∀(os:List Oper) (i:Nat),oZ P l V L0 n G w Rs i os→AllOwed (σ:=Unit) P l (fun _=>V) L0 n G w (fun _=>Rs) i os
 | [],_,_=>trivial
 |_::os,i,⟨h1,h2⟩=>⟨aDi h1,zS os (i+1) h2⟩
theorem gS {P:Program} {Q:Exit→Act→World→Prop} {a:Act} {n G:Nat} {L0:List (Nat×Value)} {w W:World} {l:List Oper} {id:Nat} (V:List Value) (Rs:(Nat→Bool)→List Res) (hs:Slots a n L0) (hw:Has G w W (Rs fun _=>false)) (hm:P.follows .mixedOrders=true:=by kernel_rfl) (hf:hJ l=true:=by kernel_rfl) (hV:V.length=l.length:=by rfl) (hn:l.all (fun o=>match o.dst with|some d=>Nat.blt d n|none=>true)=true:=by kernel_rfl)
  (ho:oZ P l V L0 n G w Rs 0 l) (k:∀a W,Slots a n (fJ l V ++ L0)→Has G w W (Rs fun j=>Nat.blt j l.length)→Q .normal a W):(Code.region id l.toArray true).wp P Q a W:=
 zR (σ:=Unit) (V:=fun _=>V) (Rs:=fun _=>Rs) id (fun _=>()) hm hf (fun _=>hV) (fun _ _ _ _=>rfl) hs hn hw (zS l 0 ho) fun _ a W h1 h2=>k a W h1 h2
def u9 {σ:Type} (P:Program) (l:List Oper) (V:(Nat→σ)→List Value) (L0:List (Nat×Value)) (n G:Nat) (w:World) (Rs:(Nat→σ)→(Nat→Bool)→List Res):Nat→List Oper→Prop
 |_,[]=>True
 |i,o::os=>(∀(u:Nat→σ) (LD:List (Nat×Value)) (D:Nat→Bool) (a:Act) (W:World),(∀k o',l[k]? =some o'→D k=true→∀e∈o'.after.toList,Region.binds .any e=true→D e.on=true)→D i=false→
   (∀e∈o.after.toList,Region.binds .any e=true→D e.on=true)→Slots a n (dK l (V u) o.after.toList ++ (dC l i L0 ++ LD))→Has G w W (Rs u D)→
   wpList P l.toArray (fun ex a' W'=>match ex with| .normal=>(Slots a' n (entry o (V u)[i]? ++ (dK l (V u) o.after.toList ++ (dC l i L0 ++ LD)))∧Has G w W' (Rs u fun j=>Nat.beq j i || D j))∨∃x,Slots a' n (entry o (V (d8 u i x))[i]? ++ (dK l (V u) o.after.toList ++ (dC l i L0 ++ LD)))∧Has G w W' (Rs (d8 u i x) fun j=>Nat.beq j i || D j)|_=>False) [o] a W)∧u9 P l V L0 n G w Rs (i+1) os
theorem zT {σ:Type} {P:Program} {l:List Oper} {V:(Nat→σ)→List Value} {L0:List (Nat×Value)} {n G:Nat} {w:World} {Rs:(Nat→σ)→(Nat→Bool)→List Res}:∀(os:List Oper) (i:Nat),u9 P l V L0 n G w Rs i os→AllOwed P l V L0 n G w Rs i os
 | [],_,_=>trivial
 |o::os,i,⟨h1,h2⟩=>⟨fun u LD D a W g1 g2 g3 g4 g5=>by
   have:=h1 u LD D a W g1 g2 g3 g4 g5;have e:(fun (ex:Exit) (a':Act) (W':World)=>match ex with| .normal=>(Slots a' n (entry o (V u)[i]? ++ (dK l (V u) o.after.toList ++ (dC l i L0 ++ LD)))∧Has G w W' (Rs u fun j=>Nat.beq j i || D j))∨∃x,Slots a' n (entry o (V (d8 u i x))[i]? ++ (dK l (V u) o.after.toList ++ (dC l i L0 ++ LD)))∧Has G w W' (Rs (d8 u i x) fun j=>Nat.beq j i || D j)|_=>False)=(fun ex a' W'=>match ex with| .normal=>∃x,Slots a' n (entry o (V (d8 u i x))[i]? ++ (dK l (V u) o.after.toList ++ (dC l i L0 ++ LD)))∧Has G w W' (Rs (d8 u i x) fun j=>Nat.beq j i || D j)|_=>False):=by
    funext ex a' W';cases ex
    case normal=>
     apply propext;constructor
     ·rintro (h|h)
      ·exact ⟨u i,by rw [u5];exact h⟩
      ·exact h
     ·exact .inr
    all_goals rfl
   rw [e] at this
   exact this,zT os (i+1) h2⟩
theorem fV {σ:Type} {P:Program} {Q:Exit→Act→World→Prop} {a:Act} {n G:Nat} {L0:List (Nat×Value)} {w W:World} {l:List Oper} {id:Nat} (V:(Nat→σ)→List Value) (Rs:(Nat→σ)→(Nat→Bool)→List Res) (u0:Nat→σ) (hs:Slots a n L0) (hw:Has G w W (Rs u0 fun _=>false)) (hm:P.follows .mixedOrders=true:=by kernel_rfl) (hf:hJ l=true:=by kernel_rfl) (hV:∀u,(V u).length=l.length:=by intro u;rfl) (hVu:∀u u' j,u j=u' j→(V u)[j]? =(V u')[j]?) (hn:l.all (fun o=>match o.dst with|some d=>Nat.blt d n|none=>true)=true:=by kernel_rfl)
  (ho:u9 P l V L0 n G w Rs 0 l) (k:∀u a W,Slots a n (fJ l (V u) ++ L0)→Has G w W (Rs u fun j=>Nat.blt j l.length)→Q .normal a W):(Code.region id l.toArray true).wp P Q a W:=
 zR id u0 hm hf hV hVu hs hn hw (zT l 0 ho) k
theorem not_done {l:List Oper} {D:Nat→Bool} {i:Nat} (hcl:∀k o',l[k]? =some o'→D k=true→∀e∈o'.after.toList,Region.binds .any e=true→D e.on=true) (hi:D i=false) (k:Nat) (hk:(match l[k]? with|some o=>o.after.toList.any (fun e=>Region.binds .any e && Nat.beq e.on i)|none=>false)=true):D k=false:=by
 cases h:D k with
 |false=>rfl
 |true=>
  split at hk
  ·rename_i o ho;obtain ⟨e,he,hb⟩:=List.any_eq_true.1 hk;obtain ⟨h1,h2⟩:=Bool.and_eq_true _ _ |>.mp hb;have:=hcl k o ho h e he h1;rw [Nat.eq_of_beq_eq_true h2,hi] at this;cases this
  ·cases hk
theorem done {es:List Edge} {D:Nat→Bool} (hp:∀e∈es,Region.binds .any e=true→D e.on=true) (j:Nat) (hj:(es.any fun e=>Region.binds .any e && Nat.beq e.on j)=true):D j=true:=by
 obtain ⟨e,he,hb⟩:=List.any_eq_true.1 hj;obtain ⟨h1,h2⟩:=Bool.and_eq_true _ _ |>.mp hb;have:=hp e he h1;rwa [Nat.eq_of_beq_eq_true h2] at this
section
variable {P:Program} {ops:Array Oper} {rest:List Oper} {Q:Exit→Act→World→Prop} {a:Act} {n G:Nat} {L:List (Nat×Value)} {w W W':World} {R:List Res} {d:Nat} {T S S' E:TypeId} {p:String} {e:Array Edge} {x y:Operand} {v u:Value} {z:List Value} {i j size bytes:Nat} {q q':IntKind}
end
section
variable {P:Program} {ops:Array Oper} {rest:List Oper} {Q:Exit→Act→World→Prop} {a:Act} {n G:Nat} {L:List (Nat×Value)} {w W W':World} {R:List Res} {d:Nat} {T S S' E:TypeId} {p:String} {e:Array Edge} {x y:Operand} {v u:Value} {l m:List UInt8} {i j:Int} {q q':IntKind}
theorem zU {z:List Value} {agg:Bool} [sl:Sl P S E] [t:Ty P E agg z] (hz:z.length=1:=by rfl) (hs:Slots a n L) (hx:ev L x=some v:=by with_unfolding_all exact rfl) (hy:ev L y=some (.int q i):=by with_unfolding_all exact rfl) (r:RdB W v l) (h0:0≤i) (c:UInt8) (hc:l[i.toNat]? =some c) (hd:Nat.blt d n=true:=by with_unfolding_all exact rfl)
  (k:∀a' ad,W.cell? ad=some (.int .u8 (c.toNat:Int))→Slots a' n ((d,.pointer (some ad))::L)→wpList P ops Q rest a' W):wpList P ops Q (⟨some d,.indexAddr S x y,T,p,e,none⟩::rest) a W:=by
 have hlt:=(List.getElem?_eq_some_iff.1 hc).1;have r':Rd W z.length v l.length (bys l):=by rw [hz];exact r
 refine uT hs hx hy r' h0 (by omega) hd fun a' b o h1 h2 h3=>k a' _ ?_ h3
 have:=h1 0 (.int .u8 (c.toNat:Int)) (by
  rw [gB,hz,List.getElem?_take,if_pos (by omega),List.getElem?_drop]
  simp [hc])
 simpa using this
end
theorem zV {W:World} {v:Value} {n:Nat} {xs:List Value} {l:List UInt8} (r:Rd W 1 v n xs) (hx:xs=bys l):RdB W v l:=by
 subst hx;have:n=l.length:=by have:=r.1;simpa using this.symm
 subst this;exact r
section
variable {P:Program} {ops:Array Oper} {rest:List Oper} {Q:Exit→Act→World→Prop} {a:Act} {n G:Nat} {L:List (Nat×Value)} {w W W' w1:World} {R:List Res} {d:Nat} {T S S' E:TypeId} {p:String} {e:Array Edge} {x y lo hi:Operand} {v u:Value} {l m:List UInt8} {i j:Int} {q q':IntKind}
theorem o3 {z:List Value} {agg:Bool} [sl:Sl P S E] [t:Ty P E agg z] (hz:z.length=1:=by rfl) (hs:Slots a n L) (r:RdB w1 v l) (hx:ev L x=some v:=by with_unfolding_all exact rfl) (hl:ev L lo=some (.int q i):=by with_unfolding_all exact rfl) (h0:0≤i) (h1:i≤l.length) (hd:Nat.blt d n=true:=by with_unfolding_all exact rfl)
  (c:∀a' ad cap,RdB w1 (.slice ad (l.drop i.toNat).length cap) (l.drop i.toNat)→Slots a' n ((d,.slice ad (l.drop i.toNat).length cap)::L)→wpList P ops Q rest a' W):wpList P ops Q (⟨some d,.slice S x (some lo) none none,T,p,e,none⟩::rest) a W:=by
 refine aD8 hs (r:=(hz▸r:Rd w1 z.length v l.length (bys l))) (hx:=hx) (hl:=hl) (h0:=h0) (h1:=h1) (hd:=hd) (c:=?_);intro a' ad cap hr hs';have e:l.length - i.toNat=(l.drop i.toNat).length:=by simp
 rw [e] at hr hs';rw [hz] at hr;exact c a' ad cap (zV hr (by simp)) hs'
theorem aDj {z:List Value} {agg:Bool} [sl:Sl P S E] [t:Ty P E agg z] (hz:z.length=1:=by rfl) (hs:Slots a n L) (r:RdB w1 v l) (hx:ev L x=some v:=by with_unfolding_all exact rfl) (hl:ev L lo=some (.int q i):=by with_unfolding_all exact rfl) (hh:ev L hi=some (.int q' j):=by with_unfolding_all exact rfl) (h0:0≤i) (h1:i≤j) (h2:j≤l.length) (m:List UInt8) (hm:(l.drop i.toNat).take (j.toNat - i.toNat)=m) (hd:Nat.blt d n=true:=by with_unfolding_all exact rfl)
  (c:∀a' ad cap,RdB w1 (.slice ad m.length cap) m→Slots a' n ((d,.slice ad m.length cap)::L)→wpList P ops Q rest a' W):wpList P ops Q (⟨some d,.slice S x (some lo) (some hi) none,T,p,e,none⟩::rest) a W:=by
 subst hm;refine aD9 hs (r:=(hz▸r:Rd w1 z.length v l.length (bys l))) (hx:=hx) (hl:=hl) (hh:=hh) (h0:=h0) (h1:=h1) (h2:=h2) (hd:=hd) (c:=?_);intro a' ad cap hr hs';have e:j.toNat - i.toNat=((l.drop i.toNat).take (j.toNat - i.toNat)).length:=by simp;omega
 have hr2:Rd w1 z.length (.slice ad ((l.drop i.toNat).take (j.toNat - i.toNat)).length cap) ((l.drop i.toNat).take (j.toNat - i.toNat)).length (((bys l).drop (i.toNat*z.length)).take ((j.toNat - i.toNat)*z.length)):=by rw [←e];exact hr
 have hs2:Slots a' n ((d,.slice ad ((l.drop i.toNat).take (j.toNat - i.toNat)).length cap)::L):=by rw [←e];exact hs'
 rw [hz] at hr2;exact c a' ad cap (zV hr2 (by simp)) hs2
end
theorem Has.open_own {G:Nat} {w W:World} {R:List Res} {E:TypeId} {size k cap:Nat} {ad:Option Addr} {xs:List Value} (h:Has G w W (Own E size (.slice ad k cap) k xs::R)) (hk:0<k):
  ∃g cur,ad=some ⟨g,0,none⟩∧cur.take (k*size)=xs∧cur.length=cap*size∧k≤cap∧cap≤maxLen∧Has G w W (aA g cur E::R):=by
 obtain ⟨F1,h1,h2,h3⟩:=h.has;obtain ⟨hl,⟨_,h0⟩|⟨g,cap',cur,e,hF,hg,hnc,hcm,hcs,ht⟩⟩:=h2
 ·omega
 ·injection e with e1 e2 e3;subst e1 e3;exact ⟨g,cur,rfl,ht,hcs,hnc,hcm,h.ext,h.glob,F1,h1,⟨hF,hg⟩,h3⟩
theorem Has.shut_own {G:Nat} {w W:World} {R:List Res} {E:TypeId} {size k cap g:Nat} {cur xs:List Value} (h:Has G w W (aA g cur E::R)) (ht:cur.take (k*size)=xs) (hl:cur.length=cap*size) (hc:k≤cap) (hm:cap≤maxLen):
  Has G w W (Own E size (.slice (some ⟨g,0,none⟩) k cap) k xs::R):=by
 obtain ⟨F1,h1,⟨h2,h3⟩,h4⟩:=h.has;refine ⟨h.ext,h.glob,F1,h1,⟨?_,.inr ⟨g,cap,cur,rfl,h2,h3,hc,hm,hl,ht⟩⟩,h4⟩;rw [←ht,List.length_take,hl];have:=Nat.mul_le_mul_right size hc;omega
section
variable {P:Program} {ops:Array Oper} {rest:List Oper} {Q:Exit→Act→World→Prop} {a:Act} {n G:Nat} {L:List (Nat×Value)} {w W W' w1:World} {R:List Res} {d:Nat} {T S S' E:TypeId} {p:String} {e:Array Edge} {x y lo hi:Operand} {v u:Value} {l m:List UInt8} {i j:Int} {q q':IntKind}
theorem eL {z:List Value} {agg:Bool} {g o k cap:Nat} [sl:Sl P S E] [t:Ty P E agg z] (hs:Slots a n L) (hx:ev L x=some (.slice (some ⟨g,o,none⟩) k cap):=by with_unfolding_all exact rfl) (hy:ev L y=some (.int q i):=by with_unfolding_all exact rfl) (h0:0≤i) (h1:i<k) (hd:Nat.blt d n=true:=by with_unfolding_all exact rfl)
  (c:∀a',Slots a' n ((d,.pointer (some ⟨g,o+i.toNat*z.length,none⟩))::L)→wpList P ops Q rest a' W):wpList P ops Q (⟨some d,.indexAddr S x y,T,p,e,none⟩::rest) a W:=by
 refine bP hs hd (W':=W) ?_ c;simp only [execOp,hs.ev hx,hs.ev hy,Instr.indexAt,asIntOf,Sem.run_bind,Sem.run_pure,Result.andThen_ok,run_underlying sl.out];rw [if_pos ⟨h0,h1⟩];simp only [Sem.run_bind,t.sizeOf,Result.andThen_ok,Sem.run_pure,eF]
end
theorem aDk (cs:List Value) (o:Nat) (v:Value):ov cs o [v]=cs.set o v:=by rw [rI,rH]
theorem nm1 {G:Nat} {w W:World} {b:Nat} {cs:List Value} {T:TypeId} {R:List Res} (_h:Has G w W (aA b cs T::R)):∃x,x=b:=⟨b,rfl⟩
theorem nm2 {G:Nat} {w W:World} {b:Nat} {cs:List Value} {T:TypeId} {q:Res} {R:List Res} (_h:Has G w W (q::aA b cs T::R)):∃x,x=b:=⟨b,rfl⟩
section
variable {A:Prop} {P:Program} {a:Act} {n G:Nat} {L L':List (Nat×Value)} {w W:World} {R R':List Res}
theorem sxv {B:Act→Prop} {d:Nat} {v:Value} (hs:Slots a n L) (hw:Has G w W R) (k:∀a',Slots a' n ((d,v)::L)→B a') (h:(∀a',Slots a' n ((d,v)::L)→B a')→A:=by intro k;(with_reducible first|refine aDM hs (k:=?_)|refine aDN hs (k:=?_)|refine aDO hs (k:=?_)|refine aDV hs (k:=?_)|refine aD7 hs (c:=?_)|refine aDP hs (k:=?_)|refine aD1 hs (k:=?_)|refine aDY hs (k:=?_)|refine aD0 hs (k:=?_)|refine aDb hs (c:=?_)|refine aD2 hs (k:=?_)|refine aD3 hs (k:=?_)|refine aDW hs (k:=?_)|refine aDX hs (k:=?_)|refine aD4 hs (k:=?_)|refine rK hs (k:=?_)|refine aDZ hs (k:=?_)|refine aDc hs (c:=?_)|refine aDd hs (k:=?_)|refine aDe hs (k:=?_)|refine aDf hs (k:=?_)|refine zN hs (k:=?_)|refine uQ hs (hw:=hw) (k:=?_)|refine gC hs (hw:=hw) (k:=?_)|refine aD6 hs (c:=?_)|refine aD5 hs (c:=?_));exact k):A:=h k
theorem sxc {B:Prop} (hs:Slots a n L) (k:B) (h:B→A:=by intro k;(with_reducible first|refine yT ?_|refine yS ?_|refine sq ?_|refine wp_region_lit ?_|refine wp_block ?_|refine wp_skip ?_|refine wp_ret ?_|refine wp_exit ?_|refine yU ?_|refine yV ?_|refine yW ?_|refine yX ?_|refine yY ?_|refine yZ ?_|refine y0 (h:=?_)|refine oW hs (c:=?_)|refine y4 hs (k:=?_)|refine uS hs (k:=?_));exact k):A:=h k
theorem sxn {B:Prop} (hs:Slots a n L) (k:B) (h:B→A:=by intro k;(with_reducible first|refine yT ?_|refine yS ?_|refine wp_region_lit ?_|refine wp_block ?_|refine wp_skip ?_|refine wp_ret ?_|refine wp_exit ?_|refine yU ?_|refine yV ?_|refine yW ?_|refine yX ?_|refine yY ?_|refine yZ ?_|refine y0 (h:=?_)|refine oW hs (c:=?_)|refine y4 hs (k:=?_)|refine uS hs (k:=?_));exact k):A:=h k
theorem sxa {B:Act→Nat→World→Prop} {d:Nat} {v:Nat→Value} {cs:List Value} {E:TypeId} (hs:Slots a n L) (hw:Has G w W R) (k:∀a' b W',Has G w W' (aA b cs E::R)→Slots a' n ((d,v b)::L)→B a' b W') (h:(∀a' b W',Has G w W' (aA b cs E::R)→Slots a' n ((d,v b)::L)→B a' b W')→A:=by intro k;(with_reducible first|refine yP hs hw (k:=?_)|refine yQ hs hw (k:=?_)|refine zK hs hw (k:=?_));exact k):A:=h k
theorem sxs {B:World→Prop} (hs:Slots a n L) (hw:Has G w W R) (k:∀W',Slots a n L→Has G w W' R'→B W') (h:(∀W',Slots a n L→Has G w W' R'→B W')→A:=by intro k;(with_reducible refine d7 hs (hw:=hw) (k:=?_));exact k):A:=h k
theorem zA {C:Act→Prop} (hs:Slots a n L) (hw:Has G w W R) (k:∀a',Slots a' n L'→C a') (h:(∀a',Slots a' n L'→C a')→A:=by
  intro k
  repeat (first|(refine sxv hs hw ?_;intro a hs)|refine sxc hs ?_)
  exact k _ hs):A:=h k
theorem zB {C:Act→World→Prop} (hs:Slots a n L) (hw:Has G w W R) (k:∀a' W',Slots a' n L'→Has G w W' R'→C a' W') (h:(∀a' W',Slots a' n L'→Has G w W' R'→C a' W')→A:=by
  intro k
  repeat (first|(refine sxv hs hw ?_;intro a hs)|refine sxc hs ?_|(refine sxs hs hw ?_;intro W hs hw))
  exact k _ _ hs hw):A:=h k
theorem zC {C:Act→Prop} (hs:Slots a n L) (hw:Has G w W R) (k:∀a',Slots a' n L'→C a') (h:(∀a',Slots a' n L'→C a')→A:=by
  intro k
  repeat (first|(refine sxv hs hw ?_;intro a hs)|refine sxc hs ?_|((with_reducible first|refine gD hs (k:=?_)|refine gE hs (k:=?_));intro a hs))
  exact k _ hs):A:=h k
theorem zD {C:Act→World→Prop} (hs:Slots a n L) (hw:Has G w W R) (k:∀a' W',Slots a' n L'→Has G w W' R'→C a' W') (h:(∀a' W',Slots a' n L'→Has G w W' R'→C a' W')→A:=by
  intro k
  repeat (first|(refine sxv hs hw ?_;intro a hs)|refine sxc hs ?_|(refine sxs hs hw ?_;intro W hs hw)|((with_reducible first|refine gD hs (k:=?_)|refine gE hs (k:=?_));intro a hs))
  exact k _ _ hs hw):A:=h k
theorem zE {C:Act→Prop} (hs:Slots a n L) (hw:Has G w W R) (k:∀a',Slots a' n L'→C a') (h:(∀a',Slots a' n L'→C a')→A:=by
  intro k
  repeat (first|(refine sxv hs hw ?_;intro a hs)|refine sxn hs ?_)
  exact k _ hs):A:=h k
theorem zG {B:Prop} (hs:Slots a n L) (k:B) (h:B→A:=by
  intro k
  repeat (refine sxc hs ?_)
  exact k):A:=h k
theorem zH {B:Prop} (hs:Slots a n L) (k:B) (h:B→A:=by
  intro k
  repeat (refine sxn hs ?_)
  exact k):A:=h k
end
theorem Has.d1 {G:Nat} {w W:World} {r:Res} {L:List Res} (h:Has G w W (r::L)):Has G w W L:=h.sub (List.Sublist.cons _ (List.Sublist.refl _))
theorem Has.d2 {G:Nat} {w W:World} {r s:Res} {L:List Res} (h:Has G w W (r::s::L)):Has G w W L:=h.d1.d1
theorem inn {r:Res} {L:List Res} (h:In r L:=by repeat (first|exact In.hd|apply In.tl)):In r L:=h
theorem Slots.ot {a:Act} {n:Nat} {L L':List (Nat×Value)} (hs:Slots a n L) (h:oV L' L:=by repeat (first|exact trivial|refine ⟨rfl,?_⟩)):Slots a n L':=hs.of h
theorem en {P:Program} {W:World} {f m:Nat} {fn:Func} {cd:Code} {args:List Value} {C:Ending→World→Prop} (hf:P.funcs[f]? =some fn) (hm:fn.ntmps=m) (k:∀a,Slots a m (rL 0 args)→cd.wp P (bodyPost P fn C) a W) (hb:fn.body=some cd:=by rfl) (hl:Nat.ble args.length m=true:=by rfl):Calls P f ⟨args⟩ W C:=enter hf hm hb hl k
end Go.Sx
