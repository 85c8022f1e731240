import Derived.Test.YtgpbngfehfbndaaGreatDoorV1
import Derived.Maps.RangeRun
import Derived.Maps.Own
import Derived.Maps.Views
import Derived.Sort.KeysCollected
set_option maxHeartbeats 16000000
set_option linter.all false
namespace Go.Sx
open Go.RowKit
abbrev KV:=List (ByteArray×Value)
def ks (a b:ByteArray):Bool:=a == b
theorem j2 {a b:ByteArray}:ks a b=true↔a=b:=by
 unfold ks;constructor
 ·intro h;obtain ⟨a⟩:=a;obtain ⟨b⟩:=b;have:(a == b)=true:=h;rw [beq_iff_eq] at this;rw [this]
 ·rintro rfl;obtain ⟨a⟩:=a;show (a == a)=true;exact beq_self_eq_true a
theorem rN (a:ByteArray):ks a a=true:=j2.2 rfl
def i0:KV→ByteArray→Option Value
 | [],_=>none
 |p::d,k=>match ks k p.1 with|true=>some p.2|false=>i0 d k
def fW:KV→ByteArray→Value→KV
 | [],k,v=>[(k,v)]
 |p::d,k,v=>match ks k p.1 with|true=>(k,v)::d|false=>p::fW d k v
def j3:KV→ByteArray→KV
 | [],_=>[]
 |p::d,k=>match ks k p.1 with|true=>d|false=>p::j3 d k
structure Ent where
 k:ByteArray
 v:Value
 t:Nat
def Ent.raw (e:Ent):MapEntry:=⟨.string e.k,e.v,e.t⟩
def Ent.kv (e:Ent):ByteArray×Value:=(e.k,e.v)
structure MapAt (W:World) (b:Nat) (es:List Ent) (c:Nat):Prop where
 at_:W.heap[b]? =some (.map ⟨es.map Ent.raw⟩ c)
 nodup:(es.map (·.t)).Nodup
 lt:∀e∈es,e.t<c
def bN (b:Nat) (d:KV):Res where
 ok F W:=F b∧∃es c,MapAt W b es c∧es.map Ent.kv=d
 loc F W W' h:=fun ⟨h1,es,c,h2,h3⟩=>⟨h1,es,c,⟨(h b h1).trans h2.at_,h2.nodup,h2.lt⟩,h3⟩
def i3:List Ent→ByteArray→Nat→Option (Nat×Value)
 | [],_,_=>none
 |e::es,k,i=>match ks k e.k with|true=>some (i,e.v)|false=>i3 es k (i+1)
theorem z2 (k:ByteArray):∀(es:List Ent) (i:Nat),Instr.findNow .string (.string k) (es.map Ent.raw) i=some (i3 es k i)
 | [],_=>rfl
 |e::es,i=>by
  simp only [List.map_cons,Instr.findNow,Ent.raw,Instr.sameNow,i3];rw [show (k == e.k)=ks k e.k from rfl];cases ks k e.k with
  |true=>rfl
  |false=>exact z2 k es (i+1)
theorem rO {k:ByteArray}:∀{es:List Ent} {i:Nat},i3 es k i=none→i0 (es.map Ent.kv) k=none∧(∀v,fW (es.map Ent.kv) k v=es.map Ent.kv ++ [(k,v)])∧j3 (es.map Ent.kv) k=es.map Ent.kv
 | [],_,_=>⟨rfl,fun _=>rfl,rfl⟩
 |e::es,i,h=>by
  simp only [i3] at h;cases hk:ks k e.k with
  |true=>rw [hk] at h;cases h
  |false=>
   rw [hk] at h;obtain ⟨h1,h2,h3⟩:=rO (es:=es) (i:=i+1) h;simp only [List.map_cons,i0,fW,j3,Ent.kv,hk];exact ⟨h1,fun v=>by rw [h2 v];rfl,by rw [h3]⟩
theorem rP {k:ByteArray}:∀{es:List Ent} {i j:Nat} {v0:Value},i3 es k i=some (j,v0)→i0 (es.map Ent.kv) k=some v0∧∃m e,j=i+m∧es[m]? =some e∧e.k=k∧
  (∀v,fW (es.map Ent.kv) k v=(es.modify m fun e=>⟨k,v,e.t⟩).map Ent.kv)∧j3 (es.map Ent.kv) k=(es.eraseIdx m).map Ent.kv
 | [],_,_,_,h=>by simp [i3] at h
 |e::es,i,j,v0,h=>by
  simp only [i3] at h;cases hk:ks k e.k with
  |true=>
   rw [hk] at h;injection h with h;injection h with h1 h2;subst h1 h2;simp only [List.map_cons,i0,fW,j3,Ent.kv,hk];exact ⟨trivial,0,e,rfl,rfl,(j2.1 hk).symm,fun v=>by simp [Ent.kv],by simp⟩
  |false=>
   rw [hk] at h;obtain ⟨h1,m,e',h2,h3,h4,h5,h6⟩:=rP (es:=es) (i:=i+1) h;simp only [List.map_cons,i0,fW,j3,Ent.kv,hk];refine ⟨h1,m+1,e',by omega,h3,h4,fun v=>?_,?_⟩
   ·rw [h5 v];simp [Ent.kv]
   ·rw [h6];simp [Ent.kv]
section
variable {P:Program} {W:World} {T K E:TypeId}
class Mp (P:Program) (T:TypeId) (K E:outParam TypeId):Prop where
 out:P.underlying T=some (.map K E)
 key:P.underlying K=some .string
theorem vD (hK:P.underlying K=some .string) (em:Bool) (k:ByteArray) (W:World):(Instr.checkKey em 10000 K (.string k)).run P W= .ok () W:=by
 show (Instr.checkKey em (9999+1) K (.string k)).run P W= .ok () W;unfold Instr.checkKey;simp [run_underlying hK]
theorem vE (hK:P.underlying K=some .string) (k:ByteArray) (es:List Ent) (W:World):(Instr.findKey K (.string k) (es.map Ent.raw)).run P W= .ok (i3 es k 0) W:=by
 unfold Instr.findKey;simp only [Sem.run_bind,run_underlying hK,Result.andThen_ok,z2];rfl
theorem MapAt.get {b:Nat} {es:List Ent} {c:Nat} (h:MapAt W b es c):(getObj b).run P W= .ok (.map ⟨es.map Ent.raw⟩ c) W:=MapKept.run_getObj_map h.at_
theorem aDv [m:Mp P T K E] {b:Nat} {es:List Ent} {c:Nat} {k:ByteArray} {zv:Value} (h:MapAt W b es c) (hz:(zeroValue E).run P W= .ok zv W):
  (Instr.lookup T (.map (some b)) (.string k) false).run P W= .ok ((i0 (es.map Ent.kv) k).getD zv) W:=by
 unfold Instr.lookup;simp only [Sem.run_bind,run_underlying m.out,Result.andThen_ok,h.get,vD m.key,vE m.key,Sem.run_pure];cases hf:i3 es k 0 with
 |none=>
  simp only [(rO hf).1,Sem.run_bind,hz,Result.andThen_ok,Sem.run_pure];rfl
 |some p=>
  obtain ⟨j,v⟩:=p;simp only [(rP hf).1,Sem.run_bind,Result.andThen_ok,Sem.run_pure];rfl
theorem rQ {b:Nat} {es:List Ent} {c:Nat} (h:MapAt W b es c) (o':Obj):(setObj b o').run P W= .ok () (ChangeMaps.setBlock W b o'):=by
 simp [setObj,Sem.run,h.at_,ChangeMaps.setBlock]
theorem kQ {b:Nat} {o:Obj} (h:b<W.heap.size):(ChangeMaps.setBlock W b o).heap[b]? =some o:=by
 simp [ChangeMaps.setBlock,h]
theorem o5 {b r:Nat} {o:Obj} (h:r≠b):(ChangeMaps.setBlock W b o).heap[r]? =W.heap[r]?:=by
 simp only [ChangeMaps.setBlock,Array.getElem?_setIfInBounds];rw [if_neg (Ne.symm h)]
theorem MapAt.size {b:Nat} {es:List Ent} {c:Nat} (h:MapAt W b es c):b<W.heap.size:=by
 have:=h.at_;exact (Array.getElem?_eq_some_iff.1 this).1
theorem aDw (es:List Ent) (m:Nat) (k:ByteArray) (v:Value):(es.map Ent.raw).modify m (fun e=>{e with key:= .string k,val:=v})=(es.modify m fun e=>⟨k,v,e.t⟩).map Ent.raw:=by
 induction es generalizing m with
 |nil=>simp
 |cons e es ih=>
  cases m with
  |zero=>simp [Ent.raw]
  |succ m=>simp [ih]
theorem z6 (es:List Ent) (m:Nat) (k:ByteArray) (v:Value):(es.modify m fun e=>⟨k,v,e.t⟩).map (·.t)=es.map (·.t):=by
 induction es generalizing m with
 |nil=>simp
 |cons e es ih=>
  cases m with
  |zero=>simp
  |succ m=>simp [ih]
theorem aDx (es:List Ent) (m:Nat):(es.map Ent.raw).eraseIdx m=(es.eraseIdx m).map Ent.raw:=by
 induction es generalizing m with
 |nil=>simp
 |cons e es ih=>
  cases m with
  |zero=>simp
  |succ m=>simp [ih]
theorem aDy [m:Mp P T K E] {b:Nat} {es:List Ent} {c:Nat} {k:ByteArray} {v:Value} (h:MapAt W b es c):
  ∃W' es' c',(Instr.mapUpdate T (.map (some b)) (.string k) v).run P W= .ok () W'∧MapAt W' b es' c'∧es'.map Ent.kv=fW (es.map Ent.kv) k v∧∃o,W'=ChangeMaps.setBlock W b o:=by
 unfold Instr.mapUpdate;simp only [Sem.run_bind,run_underlying m.out,Result.andThen_ok,h.get,vD m.key,vE m.key];cases hf:i3 es k 0 with
 |none=>
  obtain ⟨h1,h2,h3⟩:=rO hf;refine ⟨_,es ++ [⟨k,v,c⟩],c+1,rQ h _,⟨?_,?_,?_⟩,?_,_,rfl⟩
  ·rw [kQ h.size];simp [Ent.raw]
  ·rw [List.map_append,List.nodup_append];refine ⟨h.nodup,by simp,fun a ha b hb=>?_⟩;obtain ⟨e,he,rfl⟩:=List.mem_map.1 ha;simp only [List.map_cons,List.map_nil,List.mem_singleton] at hb;have:=h.lt e he;omega
  ·intro e he;rcases List.mem_append.1 he with he|he
   ·have:=h.lt e he;omega
   ·rw [List.mem_singleton] at he;subst he;exact Nat.lt_succ_self c
  ·rw [h2 v];simp [Ent.kv]
 |some p=>
  obtain ⟨j,v0⟩:=p;obtain ⟨h1,i,e,h2,h3,h4,h5,h6⟩:=rP hf;rw [Nat.zero_add] at h2;subst h2;have hkey:(((⟨es.map Ent.raw⟩:Array MapEntry)[j]?).map (·.key)).getD (.string k)= .string k:=by
   simp [h3,Ent.raw,h4]
  have hstay:(Instr.keyThatStays (.string k) (.string k)).run P W= .ok (.string k) W:=by
   unfold Instr.keyThatStays;have:Instr.sameBits 10000 (.string k) (.string k)=true:=by
    show Instr.sameBits (9999+1) (.string k) (.string k)=true;unfold Instr.sameBits;exact rN k
   simp [this]
  refine ⟨ChangeMaps.setBlock W b (.map (Array.modify ⟨es.map Ent.raw⟩ j fun e=>{e with key:= .string k,val:=v}) c),es.modify j fun e=>⟨k,v,e.t⟩,c,?_,⟨?_,?_,?_⟩,(h5 v).symm,_,rfl⟩
  ·simp only [Sem.run_bind,hkey,hstay,Result.andThen_ok];exact rQ h _
  ·rw [kQ h.size];congr 2;apply Array.ext';rw [Array.toList_modify];exact aDw es j k v
  ·rw [z6];exact h.nodup
  ·intro e' he';have:e'.t∈(es.modify j fun e=>⟨k,v,e.t⟩).map (·.t):=List.mem_map_of_mem he';rw [z6] at this;obtain ⟨e2,he2,h7⟩:=List.mem_map.1 this;rw [←h7];exact h.lt e2 he2
theorem aDz [m:Mp P T K E] {b:Nat} {es:List Ent} {c:Nat} {k:ByteArray} {ty:TypeId} (h:MapAt W b es c):
  ∃W' es' c',(Builtin.delete_ #[T,K] ty #[.map (some b),.string k]).run P W= .ok (.tuple #[]) W'∧MapAt W' b es' c'∧es'.map Ent.kv=j3 (es.map Ent.kv) k∧∃o,W'=ChangeMaps.setBlock W b o:=by
 unfold Builtin.delete_;simp only [List.getElem?_toArray,List.getElem?_cons_zero,List.getElem?_cons_succ,Sem.run_bind,run_underlying m.out,Result.andThen_ok,h.get,vD m.key,vE m.key];cases hf:i3 es k 0 with
 |none=>
  obtain ⟨h1,h2,h3⟩:=rO hf;refine ⟨_,es,c,?_,⟨kQ h.size,h.nodup,h.lt⟩,h3.symm,_,rfl⟩;simp only [Sem.run_bind,rQ h,Result.andThen_ok];rfl
 |some p=>
  obtain ⟨j,v0⟩:=p;obtain ⟨h1,i,e,h2,h3,h4,h5,h6⟩:=rP hf;rw [Nat.zero_add] at h2;subst h2;refine ⟨ChangeMaps.setBlock W b (.map (Array.eraseIdxIfInBounds ⟨es.map Ent.raw⟩ j) c),es.eraseIdx j,c,?_,⟨?_,?_,?_⟩,h6.symm,_,rfl⟩
  ·simp only [Sem.run_bind,rQ h,Result.andThen_ok];rfl
  ·rw [kQ h.size];congr 2;apply Array.ext';rw [Array.toList_eraseIdxIfInBounds];exact aDx es j
  ·exact h.nodup.sublist ((List.eraseIdx_sublist _ _).map _)
  ·exact fun e he=>h.lt e (List.mem_of_mem_eraseIdx he)
end
section
variable {G:Nat} {w W W':World} {L L' R R':List Res} {b:Nat} {d d':KV}
theorem Has.setMap (h:Has G w W L) (u:Upd (bN b d) L (bN b d') L') {o:Obj} (hW:W'=ChangeMaps.setBlock W b o) (hd:∃es c,MapAt W' b es c∧es.map Ent.kv=d'):Has G w W' L':=by
 obtain ⟨F1,h1,h2,h3⟩:=h.has.upd u;have hbG:=(h1 b h2.1).1;have hbl:=(h1 b h2.1).2;subst hW;have hx:(ChangeMaps.setBlock W b o).heap.size=W.heap.size:=by simp [ChangeMaps.setBlock]
 refine ⟨h.ext.trans ⟨rfl,rfl,rfl,by omega,fun c hc=>o5 (by omega)⟩,h.glob,h3 _ _ (fun c=>c=b) (fun c hc=>⟨hc.1,by omega⟩) ?_ ?_ ⟨rfl,hd⟩⟩
 ·rintro c rfl;exact ⟨⟨hbG,by omega⟩,fun _=>h2.1⟩
 ·intro c hc hn;refine o5 fun e=>hn ?_;rw [e];exact h2.1
theorem Has.map_at (h:Has G w W L) (i:In (bN b d) L):∃es c,MapAt W b es c∧es.map Ent.kv=d:=by
 obtain ⟨F,_,h2⟩:=h.of_in i;exact h2.2
theorem Has.newObj (h:Has G w W L) {o:Obj} {r:Res} (hr:r.ok (fun b=>b=W.heap.size) (W.alloc o)):Has G w (W.alloc o) (r::L):=by
 have hb:Below W.heap.size W (W.alloc o):=(Below.refl _ _).alloc (Nat.le_refl _) _;have h1:=h.below hb;refine ⟨h1.ext,h1.glob,fun b=>b=W.heap.size,?_,hr,?_⟩
 ·rintro b rfl;exact ⟨h.globW,by simp⟩
 ·refine (h.has.loc fun b hb'=>hb.block b hb'.2).mono fun b hb'=>⟨⟨hb'.1,Nat.lt_of_lt_of_le hb'.2 hb.size⟩,by omega⟩
theorem Has.newMap (h:Has G w W L):Has G w (W.alloc (.map #[] 0)) (bN W.heap.size []::L):=
 h.newObj ⟨rfl,[],0,⟨heap_alloc_new _ _,by simp,by simp⟩,rfl⟩
end
section
variable {P:Program} {ops:Array Oper} {rest:List Oper} {Q:Exit→Act→World→Prop} {a:Act} {n G:Nat} {L:List (Nat×Value)} {w W:World} {R R':List Res} {dst b:Nat} {T K E ty:TypeId} {p:String} {e:Array Edge} {x y z:Operand} {k:ByteArray} {v zv:Value} {d:KV}
theorem z7 (hs:Slots a n L) (hw:Has G w W R) (hd:Nat.blt dst n=true:=by with_unfolding_all exact rfl)
  (c:∀a' b W',Has G w W' (bN b []::R)→Slots a' n ((dst,.map (some b))::L)→wpList P ops Q rest a' W'):wpList P ops Q (⟨some dst,.makeMap T none,ty,p,e,none⟩::rest) a W:=by
 refine bP hs hd (v:= .map (some W.heap.size)) (W':=W.alloc (.map #[] 0)) ?_ fun a' hs'=>c a' W.heap.size _ hw.newMap hs';simp only [execOp,Option.map_none,Sem.run_bind,run_makeMap,Result.andThen_ok];rfl
theorem i5 [m:Mp P T K E] (hs:Slots a n L) (hx:ev L x=some (.map (some b)):=by with_unfolding_all exact rfl) (hy:ev L y=some (.string k):=by with_unfolding_all exact rfl) (hw:Has G w W R) (hi:In (bN b d) R:=by repeat (first|exact In.hd|apply In.tl)) (hz:∀W,(zeroValue E).run P W= .ok zv W) (hd:Nat.blt dst n=true:=by with_unfolding_all exact rfl)
  (c:∀a',Slots a' n ((dst,(i0 d k).getD zv)::L)→wpList P ops Q rest a' W):wpList P ops Q (⟨some dst,.lookup T x y false,ty,p,e,none⟩::rest) a W:=by
 obtain ⟨es,ck,h1,rfl⟩:=hw.map_at hi;refine bP hs hd (W':=W) ?_ c;simp only [execOp,hs.ev hx,hs.ev hy,Sem.run_bind,aDv h1 (hz W),Result.andThen_ok];rfl
theorem nI [m:Mp P T K E] (hs:Slots a n L) (hx:ev L x=some (.map (some b)):=by with_unfolding_all exact rfl) (hy:ev L y=some (.string k):=by with_unfolding_all exact rfl) (hz:ev L z=some v:=by with_unfolding_all exact rfl) (hw:Has G w W R) (hu:Upd (bN b d) R (bN b (fW d k v)) R':=by repeat (first|exact Upd.hd|apply Upd.tl))
  (c:∀W',Slots a n L→Has G w W' R'→wpList P ops Q rest a W'):wpList P ops Q (⟨none,.mapUpdate T x y z,ty,p,e,none⟩::rest) a W:=by
 obtain ⟨F1, -,h2, -⟩:=hw.has.upd hu;obtain ⟨-,es,ck,h1,rfl⟩:=h2;obtain ⟨W',es',c',g1,g2,g3,o,g4⟩:=aDy (P:=P) (T:=T) (k:=k) (v:=v) h1;refine uO hs (W':=W') ?_ fun hs'=>c W' hs' (hw.setMap hu g4 ⟨es',c',g2,g3⟩);simp only [execOp,hs.ev hx,hs.ev hy,hs.ev hz,Sem.run_bind,g1,Result.andThen_ok];rfl
theorem vF {op:Op} {W':World} (hs:Slots a n L) (he:(execOp a.eval ⟨none,op,ty,p,e,none⟩).run P W= .ok (.value v) W')
  (c:Slots a n L→wpList P ops Q rest a W'):wpList P ops Q (⟨none,op,ty,p,e,none⟩::rest) a W:=by
 refine wpList_plain rfl fun K hK=>?_;simp only [Oper.wp,he,Oper.upon_value];exact hK _ _ (c hs)
theorem aEA [m:Mp P T K E] (hs:Slots a n L) (hx:ev L x=some (.map (some b)):=by with_unfolding_all exact rfl) (hy:ev L y=some (.string k):=by with_unfolding_all exact rfl) (hw:Has G w W R) (hu:Upd (bN b d) R (bN b (j3 d k)) R':=by repeat (first|exact Upd.hd|apply Upd.tl))
  (c:∀W',Slots a n L→Has G w W' R'→wpList P ops Q rest a W'):wpList P ops Q (⟨none,.call {callee:= .builtin .delete,args:=#[x,y],argTypes:=#[T,K]},ty,p,e,none⟩::rest) a W:=by
 obtain ⟨F1, -,h2, -⟩:=hw.has.upd hu;obtain ⟨-,es,ck,h1,rfl⟩:=h2;obtain ⟨W',es',c',g1,g2,g3,o,g4⟩:=aDz (P:=P) (T:=T) (k:=k) (ty:=ty) h1;refine vF hs (v:= .tuple #[]) (W':=W') ?_ fun hs'=>c W' hs' (hw.setMap hu g4 ⟨es',c',g2,g3⟩);simp only [execOp,resolve,invoke,builtin,Sem.run_bind,Sem.run_pure,Result.andThen_ok,List.map_toArray,List.map_cons,List.map_nil,hs.ev hx,hs.ev hy,g1]
theorem aEB [m:Mp P T K E] (hs:Slots a n L) (hx:ev L x=some (.map (some b)):=by with_unfolding_all exact rfl) (hw:Has G w W R) (hi:In (bN b d) R:=by repeat (first|exact In.hd|apply In.tl)) (hd:Nat.blt dst n=true:=by with_unfolding_all exact rfl)
  (c:∀a',Slots a' n ((dst,.int .i64 (d.length:Int))::L)→wpList P ops Q rest a' W):wpList P ops Q (⟨some dst,.call {callee:= .builtin .len,args:=#[x],argTypes:=#[T]},ty,p,e,none⟩::rest) a W:=by
 obtain ⟨es,ck,h1,rfl⟩:=hw.map_at hi;refine bP hs hd (W':=W) ?_ c;simp only [execOp,resolve,invoke,builtin,Builtin.len_,List.map_toArray,List.map_cons,List.map_nil,hs.ev hx,Sem.run_bind,Sem.run_pure,Result.andThen_ok];simp [Sem.run_bind,run_underlying m.out,goInt,h1.get]
end
def mF (b it:Nat) (d left:KV) (cur:Option (ByteArray×Value)):Res where
 ok F W:=F b∧F it∧b≠it∧∃(es:List Ent) (c since:Nat) (seen:List Nat) (c0:Nat),MapAt W b es c∧es.map Ent.kv=d∧W.heap[it]? =some (.mapIter (some b) since ⟨seen⟩ c0)∧(∀e∈es,e.t<since)∧since≤c0∧since≤c∧(es.filter fun e=>!seen.contains e.t).map Ent.kv=left∧∀p,cur=some p→c0=c∧∃(s:List Nat) (e:Ent),seen=s ++ [e.t]∧e∈es∧e.kv=p
 loc F W W' h:=fun ⟨h1,h2,hn,es,c,since,seen,c0,h3,h4,h5,h6⟩=>⟨h1,h2,hn,es,c,since,seen,c0,⟨(h b h1).trans h3.at_,h3.nodup,h3.lt⟩,h4,(h it h2).trans h5,h6⟩
section
variable {G:Nat} {w W W':World} {L L' R R':List Res} {b it:Nat} {d left:KV} {cur:Option (ByteArray×Value)}
theorem Has.ranged (h:Has G w W (bN b d::L)):∃c,(∃es,MapAt W b es c)∧Has G w (W.alloc (.mapIter (some b) c #[] c)) (mF b W.heap.size d d none::L):=by
 obtain ⟨F1,h1,⟨h2,es,c,h3,rfl⟩,h4⟩:=h.has;have hb:Below W.heap.size W (W.alloc (.mapIter (some b) c #[] c)):=(Below.refl _ _).alloc (Nat.le_refl _) _;have he:=h.below hb;refine ⟨c,⟨es,h3⟩,he.ext,he.glob,fun x=>F1 x∨x=W.heap.size,?_,⟨.inl h2,.inr rfl,?_,es,c,c,[],c,⟨?_,h3.nodup,h3.lt⟩,rfl,heap_alloc_new _ _,h3.lt,Nat.le_refl _,Nat.le_refl _,congrArg (List.map Ent.kv) (List.filter_eq_self.2 fun e _=>by simp),fun p h=>by cases h⟩,?_⟩
 ·rintro x (hx|rfl)
  ·exact ⟨(h1 x hx).1,Nat.lt_of_lt_of_le (h1 x hx).2 hb.size⟩
  ·exact ⟨h.globW,by simp⟩
 ·have:=h3.size;omega
 ·exact (heap_alloc_old W _ h3.size).trans h3.at_
 ·refine (h4.loc fun x hx=>hb.block x hx.1.2).mono fun x hx=>⟨⟨hx.1.1,Nat.lt_of_lt_of_le hx.1.2 hb.size⟩,?_⟩
  rintro (h|h)
  ·exact hx.2 h
  ·have:=hx.1.2;omega
theorem Has.unranged (h:Has G w W (mF b it d left cur::L)):Has G w W (bN b d::L):=by
 obtain ⟨F1,h1,⟨h2,h3,hn,es,c,since,seen,c0,h4,h5,h6⟩,h7⟩:=h.has;exact ⟨h.ext,h.glob,F1,h1,⟨h2,es,c,h4,h5⟩,h7⟩
theorem z8 (es:List Ent) (seen:List Nat):(leftOf ⟨es.map Ent.raw⟩ ⟨seen⟩).toList=(es.filter fun e=>!seen.contains e.t).map Ent.raw:=by
 unfold leftOf;simp only [Array.toList_filter,List.filter_map];congr 1;apply List.filter_congr;intro e _;simp [Ent.raw];exact decide_eq_decide.2 Iff.rfl
theorem aEC {es:List Ent} {seen:List Nat} {e:Ent} (hd:(es.map (·.t)).Nodup) (he:e∈es.filter fun e=>!seen.contains e.t):
  (es.filter fun e=>!seen.contains e.t).Perm (e::es.filter fun x=>!(seen ++ [e.t]).contains x.t):=by
 have e1:(es.filter fun x=>!(seen ++ [e.t]).contains x.t)=(es.filter fun e=>!seen.contains e.t).filter fun x=>!(x.t == e.t):=by
  rw [List.filter_filter];apply List.filter_congr;intro x _;simp only [List.contains_eq_mem,List.mem_append,List.mem_singleton]
  by_cases h1:x.t∈seen <;> by_cases h2:x.t=e.t <;> simp [h1,h2]
 rw [e1];have hd':((es.filter fun e=>!seen.contains e.t).map (·.t)).Nodup:=hd.sublist (List.filter_sublist.map _);generalize (es.filter fun e=>!seen.contains e.t)=l at *;clear e1 hd
 induction l with
 |nil=>simp at he
 |cons x l ih=>
  rw [List.map_cons,List.nodup_cons] at hd';rcases List.mem_cons.1 he with rfl|he
  ·rw [List.filter_cons];simp only [beq_self_eq_true,Bool.not_true,Bool.false_eq_true,if_false];have:l.filter (fun x=>!(x.t == e.t))=l:=by
    rw [List.filter_eq_self];intro y hy;have:y.t≠e.t:=fun h=>hd'.1 (by rw [←h];exact List.mem_map_of_mem hy);simpa using this
   rw [this]
  ·have hne:x.t≠e.t:=fun h=>hd'.1 (by rw [h];exact List.mem_map_of_mem he);rw [List.filter_cons];have:(x.t == e.t)=false:=by simpa using hne
   simp only [this,Bool.not_false,if_true];exact ((ih he hd'.2).cons x).trans (List.Perm.swap _ _ _)
end
section
variable {P:Program} {ops:Array Oper} {rest:List Oper} {Q:Exit→Act→World→Prop} {a:Act} {n G:Nat} {L:List (Nat×Value)} {w W:World} {R R':List Res} {dst b it:Nat} {T K E ty:TypeId} {p:String} {e:Array Edge} {x:Operand} {d left:KV} {cur:Option (ByteArray×Value)}
theorem aED [m:Mp P T K E] (hs:Slots a n L) (hx:ev L x=some (.map (some b)):=by with_unfolding_all exact rfl) (hw:Has G w W (bN b d::R)) (hd:Nat.blt dst n=true:=by with_unfolding_all exact rfl)
  (c:∀a' it W',Has G w W' (mF b it d d none::R)→Slots a' n ((dst,.pointer (some ⟨it,0,none⟩))::L)→wpList P ops Q rest a' W'):wpList P ops Q (⟨some dst,.range T x,ty,p,e,none⟩::rest) a W:=by
 obtain ⟨ck,⟨es,h1⟩,hw'⟩:=hw.ranged;refine bP hs hd (v:= .pointer (some ⟨W.heap.size,0,none⟩)) (W':=W.alloc (.mapIter (some b) ck #[] ck)) ?_ fun a' hs'=>c a' W.heap.size _ hw' hs';simp only [execOp,hs.ev hx,Sem.run_bind,run_range_map W T K E b _ _ m.out h1.at_,Result.andThen_ok];rfl
theorem aEE (hs:Slots a n L) (hx:ev L x=some (.pointer (some ⟨it,0,none⟩)):=by with_unfolding_all exact rfl) (hw:Has G w W (mF b it d left cur::R)) (hd:Nat.blt dst n=true:=by with_unfolding_all exact rfl)
  (c1:∀a',left= []→Slots a' n ((dst,.tuple #[.bool false])::L)→wpList P ops Q rest a' W)
  (c2:∀a' W' kv left',left.Perm (kv::left')→Has G w W' (mF b it d left' (some kv)::R)→Slots a' n ((dst,.tuple #[.bool true,.string kv.1,kv.2])::L)→wpList P ops Q rest a' W'):wpList P ops Q (⟨some dst,.next x false,ty,p,e,none⟩::rest) a W:=by
 have hW:=hw;obtain ⟨F1,h1,⟨h2,h3,hn,es,ck,since,seen,c0,h4,h5,h6,h7,h8,h9,h10, -⟩,h11⟩:=hw.has;have hold:∀x∈(⟨es.map Ent.raw⟩:Array MapEntry).toList,x.born<since:=by
  intro x hx;obtain ⟨e,he,rfl⟩:=List.mem_map.1 hx;exact h7 e he
 rcases run_next_at (P:=P) W ty it b since c0 ⟨seen⟩ ⟨es.map Ent.raw⟩ ck h6 h4.at_ hold h8 with ⟨g1,g2⟩|⟨en,g1,w1,g2,g3⟩
 ·refine bP hs hd (W':=W) ?_ fun a' hs'=>c1 a' ?_ hs'
  ·simp only [execOp,hs.ev hx,Sem.run_bind,g2,Result.andThen_ok];rfl
  ·have:(leftOf ⟨es.map Ent.raw⟩ ⟨seen⟩).toList.length=0:=by rw [Array.length_toList];exact g1
   rw [z8] at this;rw [←h10];simpa using this
 ·rw [z8] at g1;obtain ⟨e',he',rfl⟩:=List.mem_map.1 g1;have hp:=aEC h4.nodup he';refine bP hs hd (W':=ChangeMaps.setBlock w1 it (.mapIter (some b) since ((⟨seen⟩:Array Nat).push e'.t) ck)) ?_ fun a' hs'=>c2 a' _ e'.kv _ (by rw [←h10];exact hp.map Ent.kv) ?_ hs'
  ·simp only [execOp,hs.ev hx,Sem.run_bind,Ent.raw,g3,Result.andThen_ok];rfl
  ·have hbl:=(h1 it h3)
   have hw1:w1.heap=W.heap∧w1.os=W.os∧w1.tape=W.tape∧w1.output=W.output:=by rcases g2 with rfl|rfl <;> exact ⟨rfl,rfl,rfl,rfl⟩
   have hsz:w1.heap.size=W.heap.size:=by rw [hw1.1]
   have hoth:∀r,r≠it→(ChangeMaps.setBlock w1 it (.mapIter (some b) since ((⟨seen⟩:Array Nat).push e'.t) ck)).heap[r]? =W.heap[r]?:=fun r hr=>by
    rw [o5 hr,hw1.1]
   have hx2:(ChangeMaps.setBlock w1 it (.mapIter (some b) since ((⟨seen⟩:Array Nat).push e'.t) ck)).heap.size=W.heap.size:=by simp [ChangeMaps.setBlock,hsz]
   refine ⟨hW.ext.trans ⟨hw1.2.1,hw1.2.2.1,hw1.2.2.2,by omega,fun r hr=>hoth r (by omega)⟩,hW.glob,F1,?_,⟨h2,h3,hn,es,ck,since,seen ++ [e'.t],ck,⟨(hoth b hn).trans h4.at_,h4.nodup,h4.lt⟩,h5,?_,h7,h9,h9,rfl,fun p hp=>⟨rfl,seen,e',rfl,(List.mem_filter.1 he').1,Option.some.inj hp⟩⟩,?_⟩
   ·intro r hr;rw [hx2];exact h1 r hr
   ·rw [kQ (by omega)];simp
   ·refine (h11.loc fun r hr=>hoth r fun h=>hr.2 (h▸h3)).mono fun r hr=>?_;rw [hx2];exact hr
theorem aEF {kv:ByteArray×Value} (hs:Slots a n L) (hx:ev L x=some (.pointer (some ⟨it,0,none⟩)):=by with_unfolding_all exact rfl) (hw:Has G w W R) (hi:In (mF b it d left (some kv)) R:=by repeat (first|exact In.hd|apply In.tl)) (hd:Nat.blt dst n=true:=by with_unfolding_all exact rfl)
  (c:∀a',Slots a' n ((dst,.tuple #[.string kv.1,kv.2])::L)→wpList P ops Q rest a' W):wpList P ops Q (⟨some dst,.entry x,ty,p,e,none⟩::rest) a W:=by
 obtain ⟨F, -,h2,h3,hn,es,ck,since,seen,c0,h4,h5,h6,h7,h8,h9,h10,h11⟩:=hw.of_in hi;obtain ⟨rfl,s,e',rfl,he,rfl⟩:=h11 kv rfl;refine bP hs hd (W':=W) ?_ c;have hr:W.heap[it]? =some (.mapIter (some b) since ((⟨s⟩:Array Nat).push e'.raw.born) c0):=by rw [h6];simp [Ent.raw]
 have:=run_entry_at (P:=P) W it b since ⟨s⟩ ⟨es.map Ent.raw⟩ c0 e'.raw hr h4.at_ (List.mem_map_of_mem he) (by simpa [Ent.raw,Function.comp_def] using h4.nodup);simp only [execOp,hs.ev hx,Sem.run_bind,this,Result.andThen_ok];rfl
end
theorem aAA:∀{d:KV} {k:ByteArray} (v:Value),k∉d.map (·.1)→fW d k v=d ++ [(k,v)]
 | [],_,_,_=>rfl
 |p::d,k,v,h=>by
  rw [List.map_cons,List.mem_cons,not_or] at h;have:ks k p.1=false:=by
   cases hk:ks k p.1 with
   |false=>rfl
   |true=>exact absurd (j2.1 hk) h.1
  simp only [fW,this];rw [aAA v h.2];rfl
end Go.Sx
namespace Go.Sx
theorem HasIn.under {W:World} {r:Res} {A B:List Res} (f:∀F,HasIn W A F→HasIn W B F) {F:Nat→Prop}:HasIn W (r::A) F→HasIn W (r::B) F:=
 fun ⟨F1,h1,h2,h3⟩=>⟨F1,h1,h2,f _ h3⟩
theorem HasIn.perm {W:World} {A B:List Res} (p:A.Perm B):∀{F:Nat→Prop},HasIn W A F→HasIn W B F:=by
 induction p with
 |nil=>exact fun h=>h
 |cons x _ ih=>exact fun h=>HasIn.under (fun F=>ih) h
 |swap x y l=>exact fun h=>HasIn.swap h
 |trans _ _ ih1 ih2=>exact fun h=>ih2 (ih1 h)
theorem Has.perm {G:Nat} {w W:World} {A B:List Res} (h:Has G w W A) (p:A.Perm B):Has G w W B:=⟨h.ext,h.glob,h.has.perm p⟩
def bT:Res where
 ok _ _:=True
 loc _ _ _ _ h:=h
theorem Has.free {G:Nat} {w W:World} {A:List Res} (h:Has G w W A):Has G w W (bT::A):=
 ⟨h.ext,h.glob,fun _=>False,fun _ h=>h.elim,trivial,h.has.mono fun b hb=>⟨hb,fun h=>h⟩⟩
theorem HasIn.fill {W:World} {r q:Res} {L L':List Res} (u:Upd q L r L'):∀{F:Nat→Prop},HasIn W (r::L) F→HasIn W L' F:=by
 induction u with
 |hd=>
  rintro F ⟨F1,h1,h2,F2,h3,h4,h5⟩;exact ⟨F1,h1,h2,h5.mono fun b hb=>hb.1⟩
 |tl u ih=>exact fun h=>HasIn.under (fun F=>ih) (HasIn.swap h)
theorem Has.fill {G:Nat} {w W:World} {r q:Res} {L L':List Res} (h:Has G w W (r::L)) (u:Upd q L r L'):Has G w W L':=⟨h.ext,h.glob,h.has.fill u⟩
def bQ (p:Prop):Res where
 ok _ _:=p
 loc _ _ _ _ h:=h
theorem Has.fact {G:Nat} {w W:World} {A:List Res} {p:Prop} (h:Has G w W A) (hp:p):Has G w W (bQ p::A):=
 ⟨h.ext,h.glob,fun _=>False,fun _ h=>h.elim,hp,h.has.mono fun b hb=>⟨hb,fun h=>h⟩⟩
theorem Has.told {G:Nat} {w W:World} {A:List Res} {p:Prop} (h:Has G w W A) (i:In (bQ p) A):p:=by
 obtain ⟨F,_,h2⟩:=h.of_in i;exact h2
section
variable {P:Program} {ops:Array Oper} {rest:List Oper} {Q:Exit→Act→World→Prop} {a:Act} {n G:Nat} {L:List (Nat×Value)} {w W W':World} {R:List Res} {d k cap:Nat} {T S S' E:TypeId} {p:String} {e:Array Edge} {x y:Operand} {ad:Option Addr}
theorem kR [sl:Sl P S E] (hs:Slots a n L) (hx:ev L x=some (.slice ad k cap):=by with_unfolding_all exact rfl) (hd:Nat.blt d n=true:=by with_unfolding_all exact rfl)
  (c:∀a',Slots a' n ((d,.bool ad.isNone)::L)→wpList P ops Q rest a' W):wpList P ops Q (⟨some d,.binOp .eql S x (.const (.slice none 0 0)) S',T,p,e,none⟩::rest) a W:=by
 refine bP hs hd (W':=W) ?_ c;have h1:∀d,(Op.equalIn (d+1) S (.slice ad k cap) (.slice none 0 0)).run P W= .ok ad.isNone W:=fun d=>by
  cases ad <;> simp [Op.equalIn,run_underlying sl.out]
 have h2:(binOp .eql S (.slice ad k cap) (.slice none 0 0)).run P W= .ok (.bool ad.isNone) W:=by
  simp only [binOp,Op.equal,Sem.run_bind];rw [show Op.maxDepth=9999+1 from rfl,h1 9999];rfl
 have h3:a.eval (.const (.slice none 0 0))= .slice none 0 0:=rfl;simp only [execOp,hs.ev hx,h3,Sem.run_bind];simp [eqGuard,h2]
theorem aEG {s:ByteArray} {q:IntKind} {i:Int} {hi:Operand} [t:StrTy P S] (hs:Slots a n L) (hx:ev L x=some (.string s):=by with_unfolding_all exact rfl) (hh:ev L hi=some (.int q i):=by with_unfolding_all exact rfl) (h0:0≤i) (h1:i≤s.size) (hd:Nat.blt d n=true:=by with_unfolding_all exact rfl)
  (c:∀a',Slots a' n ((d,.string (s.extract 0 i.toNat))::L)→wpList P ops Q rest a' W):wpList P ops Q (⟨some d,.slice S x none (some hi) none,T,p,e,none⟩::rest) a W:=by
 refine bP hs hd (W':=W) ?_ c;simp only [execOp,Option.map_some,Option.map_none,hs.ev hx,hs.ev hh];simp only [Sem.run_bind,run_sliceAt_string (h:=t.out),run_slice_string_h (ht:=t.out) (h0:=h0) (h2:=h1),Result.andThen_ok];rfl
end
open Go.RowKit
theorem nJ {r:Res} {L L' K:List Res} (p:Pick r L L') (h:L'.Perm K):L.Perm (r::K):=by
 induction p generalizing K with
 |hd=>exact h.cons r
 |tl p ih=>exact ((ih (List.Perm.refl _)).cons _).trans ((List.Perm.swap _ _ _).trans (h.cons r))
theorem Has.pm {G:Nat} {w W:World} {A B:List Res} (h:Has G w W A) (p:A.Perm B:=by repeat (first|exact List.Perm.refl _|refine nJ (by repeat (first|exact Pick.hd|apply Pick.tl)) ?_)):Has G w W B:=h.perm p
abbrev Fh:=Nat→Option Obj
def Fz (H:Fh):Res where
 ok F W:=∀b o,H b=some o→F b∧W.heap[b]? =some o
 loc F W W' h k:=fun b o hb=>⟨(k b o hb).1,(h b (k b o hb).1).trans (k b o hb).2⟩
def Fh.le (H H':Fh):Prop:=∀b o,H b=some o→H' b=some o
theorem Fh.le.refl (H:Fh):H.le H:=fun _ _ h=>h
theorem Fh.le.trans {H H' H'':Fh} (h:H.le H') (k:H'.le H''):H.le H'':=fun b o e=>k b o (h b o e)
def fr (w:World):Fh:=fun b=>w.heap[b]?
section
variable {G:Nat} {w W W':World} {L L' R:List Res} {H H':Fh}
theorem Has.startF (w:World):Has 0 w w [Fz (fr w)]:=
 ⟨Ext.refl _ _,Nat.zero_le _,fun b=>0≤b∧b<w.heap.size,fun _ h=>h,fun b o hb=>⟨⟨Nat.zero_le _,(Array.getElem?_eq_some_iff.1 hb).1⟩,hb⟩,trivial⟩
theorem Has.endF (h:Has 0 w W L) (i:In (Fz H) L) (hH:(fr w).le H):Below w.heap.size w W:=by
 obtain ⟨F,_,h2⟩:=h.of_in i;refine ⟨h.ext.os,h.ext.tape,h.ext.output,h.ext.size,fun b hb=>?_⟩;obtain ⟨o,ho⟩:∃o,w.heap[b]? =some o:=⟨w.heap[b],Array.getElem?_eq_getElem hb⟩
 rw [ho];exact (h2 b o (hH b o ho)).2
def RdH (H:Fh) (size:Nat) (v:Value) (n:Nat) (xs:List Value):Prop:=
 xs.length=n*size∧∃ad cap,v= .slice ad n cap∧n≤cap∧cap≤9223372036854775807∧(n=0∨∃b o cs T z,ad=some ⟨b,o,none⟩∧H b=some (.cells cs T z)∧∀j x,xs[j]? =some x→cs[o+j]? =some x)
theorem RdH.le {size n:Nat} {v:Value} {xs:List Value} (r:RdH H size v n xs) (h:H.le H'):RdH H' size v n xs:=by
 obtain ⟨h1,ad,cap,h2,h3,h4,h5⟩:=r;refine ⟨h1,ad,cap,h2,h3,h4,h5.imp id ?_⟩;rintro ⟨b,o,cs,T,z,e,hb,hc⟩;exact ⟨b,o,cs,T,z,e,h _ _ hb,hc⟩
theorem RdH.len {size n:Nat} {v:Value} {xs:List Value} (r:RdH H size v n xs):n≤9223372036854775807:=by
 obtain ⟨_,_,cap,_,h3,h4,_⟩:=r;omega
theorem RdH.slice {size n:Nat} {v:Value} {xs:List Value} (r:RdH H size v n xs):∃ad cap,v= .slice ad n cap:=by
 obtain ⟨_,ad,cap,e,_⟩:=r;exact ⟨ad,cap,e⟩
theorem RdH.nil (H:Fh) (size c:Nat) (hc:c≤9223372036854775807):RdH H size (.slice none 0 c) 0 []:=⟨by simp,none,c,rfl,by omega,hc,.inl rfl⟩
theorem Has.rdH {w0:World} {size n:Nat} {v:Value} {xs:List Value} (h:Has G w0 W L) (i:In (Fz H) L) (r:RdH H size v n xs):Rd W size v n xs:=by
 obtain ⟨F,hF,h2⟩:=h.of_in i;obtain ⟨h1,ad,cap,e2,h3,h4,h5⟩:=r;refine ⟨h1,ad,cap,e2,h3,h4,h5.imp id ?_⟩;rintro ⟨b,o,cs,T,z,e,hb,hc⟩;have hw:=h2 b _ hb;refine ⟨b,o,e,(hF b hw.1).2,fun j x hx=>?_⟩;unfold World.cell?;rw [hw.2];simpa using hc j x hx
theorem Has.freeze {r:Res} {R':List Res} (h:Has G w W (r::Fz H::R)):∃H',H.le H'∧Has G w W (Fz H'::R)∧∃F,r.ok F W∧∀b o,F b→W.heap[b]? =some o→H' b=some o:=by
 classical
 obtain ⟨F1,h1,h2,F2,h3,h4,h5⟩:=h.has;refine ⟨fun b=>if F1 b then W.heap[b]? else H b,fun b o hb=>?_,⟨h.ext,h.glob,fun b=>F1 b∨F2 b,?_,fun b o hb=>?_,?_⟩,F1,h2,fun b o hb ho=>?_⟩
 ·have:=(h3 b (h4 b o hb).1).2;simp only [if_neg this];exact hb
 ·rintro b (hb|hb)
  ·exact h1 b hb
  ·exact (h3 b hb).1
 ·by_cases hf:F1 b
  ·simp only [if_pos hf] at hb;exact ⟨.inl hf,hb⟩
  ·simp only [if_neg hf] at hb;exact ⟨.inr (h4 b o hb).1,(h4 b o hb).2⟩
 ·refine h5.mono fun b hb=>⟨hb.1.1,?_⟩
  rintro (h|h)
  ·exact hb.1.2 h
  ·exact hb.2 h
 ·simp only [if_pos hb];exact ho
theorem Has.freeze_own {E:TypeId} {size n:Nat} {v:Value} {xs:List Value} (h:Has G w W (Own E size v n xs::Fz H::R)):∃H',H.le H'∧Has G w W (Fz H'::R)∧RdH H' size v n xs:=by
 obtain ⟨H',h1,h2,F,h3,h4⟩:=h.freeze (R':=[]);refine ⟨H',h1,h2,?_⟩;obtain ⟨hl,⟨rfl,rfl⟩|⟨g,cap,cur,rfl,hF,hg,hnc,hcm,hcs,ht⟩⟩:=h3
 ·exact ⟨hl,none,0,rfl,by omega,by omega,.inl rfl⟩
 ·refine ⟨hl,some ⟨g,0,none⟩,cap,rfl,hnc,by unfold maxLen at hcm;omega,.inr ⟨g,0,⟨cur⟩,E,(0,0),rfl,h4 g _ hF hg,fun j x hx=>?_⟩⟩;rw [←ht,List.getElem?_take] at hx;split at hx
  ·simpa using hx
  ·cases hx
end
def Ex {α:Type} (Ls:α→List Res):Res where
 ok F W:=∃x,HasIn W (Ls x) F
 loc F W W' h:=fun ⟨x,k⟩=>⟨x,k.loc h⟩
theorem HasIn.append {W:World}:∀{A B:List Res} {F F1:Nat→Prop},HasIn W A F1→(∀b,F1 b→F b)→HasIn W B (fun b=>F b∧¬F1 b)→HasIn W (A ++ B) F
 | [],B,F,F1,_,_,h=>h.mono fun b hb=>hb.1
 |r::A,B,F,F1,⟨F2,h1,h2,h3⟩,hF,h=>by
  refine ⟨F2,fun b hb=>hF b (h1 b hb),h2,HasIn.append (F1:=fun b=>F1 b∧¬F2 b) h3 (fun b hb=>⟨hF b hb.1,hb.2⟩) ?_⟩;exact h.mono fun b hb=>⟨⟨hb.1,fun h2=>hb.2 (h1 b h2)⟩,fun h2=>hb.2 h2.1⟩
theorem HasIn.unappend {W:World}:∀{A B:List Res} {F:Nat→Prop},HasIn W (A ++ B) F→∃F1,(∀b,F1 b→F b)∧HasIn W A F1∧HasIn W B (fun b=>F b∧¬F1 b)
 | [],B,F,h=>⟨fun _=>False,fun _ h=>h.elim,trivial,h.mono fun b hb=>⟨hb,fun h=>h⟩⟩
 |r::A,B,F,⟨F2,h1,h2,h3⟩=>by
  obtain ⟨F1,g1,g2,g3⟩:=HasIn.unappend h3;refine ⟨fun b=>F2 b∨F1 b,?_,⟨F2,fun b hb=> .inl hb,h2,g2.mono fun b hb=>⟨.inr hb,(g1 b hb).2⟩⟩,g3.mono fun b hb=>⟨hb.1.1,?_⟩⟩
  ·rintro b (hb|hb)
   ·exact h1 b hb
   ·exact (g1 b hb).1
  ·rintro (h|h)
   ·exact hb.1.2 h
   ·exact hb.2 h
section
variable {α:Type} {Ls:α→List Res} {G:Nat} {w W:World} {R:List Res}
theorem Has.shut (x:α) (h:Has G w W (Ls x ++ R)):Has G w W (Ex Ls::R):=by
 obtain ⟨F1,h1,h2,h3⟩:=HasIn.unappend h.has;exact ⟨h.ext,h.glob,F1,h1,⟨x,h2⟩,h3⟩
theorem Has.open (h:Has G w W (Ex Ls::R)):∃x,Has G w W (Ls x ++ R):=by
 obtain ⟨F1,h1,⟨x,h2⟩,h3⟩:=h.has;exact ⟨x,h.ext,h.glob,HasIn.append h2 h1 h3⟩
end
section
variable {P:Program} {ops:Array Oper} {rest:List Oper} {Q:Exit→Act→World→Prop} {a:Act} {n G:Nat} {L:List (Nat×Value)} {w W W':World} {R:List Res} {d:Nat} {T S S' E:TypeId} {p:String} {e:Array Edge} {x:Operand} {ad:Addr}
theorem gD (hs:Slots a n L) (hx:ev L x=some (.pointer (some ad)):=by with_unfolding_all exact rfl) (ht:P.underlying S=some (.pointer (P.pointee S)):=by kernel_rfl) (hd:Nat.blt d n=true:=by with_unfolding_all exact rfl)
  (k:∀a',Slots a' n ((d,.bool false)::L)→wpList P ops Q rest a' W):wpList P ops Q (⟨some d,.binOp .eql S x (.const (.pointer none)) S',T,p,e,none⟩::rest) a W:=by
 refine bP hs hd (W':=W) ?_ k;have h2:(binOp .eql S (.pointer (some ad)) (.pointer none)).run P W= .ok (.bool false) W:=by
  have:=run_eql_pointer_nil (P:=P) W S (some ad) ht;simpa using this
 have h3:a.eval (.const (.pointer none))= .pointer none:=rfl;simp only [execOp,hs.ev hx,h3,Sem.run_bind];simp [eqGuard,h2]
theorem gE (hs:Slots a n L) (hx:ev L x=some (.pointer none):=by with_unfolding_all exact rfl) (ht:P.underlying S=some (.pointer (P.pointee S)):=by kernel_rfl) (hd:Nat.blt d n=true:=by with_unfolding_all exact rfl)
  (k:∀a',Slots a' n ((d,.bool true)::L)→wpList P ops Q rest a' W):wpList P ops Q (⟨some d,.binOp .eql S x (.const (.pointer none)) S',T,p,e,none⟩::rest) a W:=by
 refine bP hs hd (W':=W) ?_ k;have h2:(binOp .eql S (.pointer none) (.pointer none)).run P W= .ok (.bool true) W:=by
  have:=run_eql_pointer_nil (P:=P) W S none ht;simpa using this
 have h3:a.eval (.const (.pointer none))= .pointer none:=rfl;simp only [execOp,hs.ev hx,h3,Sem.run_bind];simp [eqGuard,h2]
end
class Ar (P:Program) (S:TypeId) (len:outParam Nat) (E:outParam TypeId):Prop where
 out:P.underlying S=some (.array len E)
section
variable {P:Program} {ops:Array Oper} {rest:List Oper} {Q:Exit→Act→World→Prop} {a:Act} {n G:Nat} {L:List (Nat×Value)} {w W W':World} {R:List Res} {d k b o len:Nat} {T S S' E:TypeId} {p:String} {e:Array Edge} {x y:Operand} {z:List Value} {q:IntKind} {j:Int}
theorem o6 {agg:Bool} [sl:Sl P S E] [t:Ty P E agg z] (hs:Slots a n L) (hw:Has G w W R) (hd:Nat.blt d n=true:=by with_unfolding_all exact rfl)
  (c:∀a' ad W',Has G w W' (Own E z.length (.slice ad 0 0) 0 []::R)→Slots a' n ((d,.slice ad 0 0)::L)→wpList P ops Q rest a' W'):wpList P ops Q (⟨some d,.buildSlice S 0 #[],T,p,e,none⟩::rest) a W:=by
 have hr:(Instr.buildSlice S 0 #[]).run P W= .ok (.slice (some ⟨W.heap.size,0,none⟩) 0 0) (W.alloc (.cells ⟨[]⟩ E)):=by
  have hf:∀(f:Nat→Option (Nat×Nat)) (cs:Array Value),Instr.fill f cs []=some cs:=fun f cs=>rfl;have h0:∀g:Nat→Value,(Array.range 0).map g=⟨[]⟩:=fun g=>by simp
  simp only [Instr.buildSlice,Sem.run_bind,run_underlying sl.out,Result.andThen_ok,t.sizeOf,Nat.zero_mul,if_true,hf,h0,newRow];rfl
 refine bP hs hd (v:= .slice (some ⟨W.heap.size,0,none⟩) 0 0) (W':=W.alloc (.cells ⟨[]⟩ E)) ?_ fun a' hs'=>c a' _ _ ?_ hs'
 ·simp only [execOp,Sem.run_bind,List.map_toArray,List.map_nil];rw [hr];rfl
 ·obtain ⟨F1,h1,⟨h2,h3⟩,h4⟩:=(hw.new [] E).has;exact ⟨(hw.new [] E).ext,hw.glob,F1,h1,⟨by simp,.inr ⟨W.heap.size,0,[],rfl,h2,h3,Nat.le_refl _,Nat.zero_le _,by simp,by simp⟩⟩,h4⟩
theorem lM {agg:Bool} [ar:Ar P S len E] [t:Ty P E agg z] (hs:Slots a n L) (hx:ev L x=some (.pointer (some ⟨b,o,none⟩)):=by with_unfolding_all exact rfl) (hy:ev L y=some (.int q j):=by with_unfolding_all exact rfl) (h0:0≤j) (h1:j<len) (hd:Nat.blt d n=true:=by with_unfolding_all exact rfl)
  (c:∀a',Slots a' n ((d,.pointer (some ⟨b,o+j.toNat*z.length,none⟩))::L)→wpList P ops Q rest a' W):wpList P ops Q (⟨some d,.indexAddr S x y,T,p,e,none⟩::rest) a W:=by
 refine bP hs hd (W':=W) ?_ c;simp only [execOp,hs.ev hx,hs.ev hy,Instr.indexAt,asIntOf,Sem.run_bind,Sem.run_pure,Result.andThen_ok,run_underlying ar.out,Instr.sureAddr];rw [if_pos ⟨h0,h1⟩];simp only [Sem.run_bind,t.sizeOf,Result.andThen_ok,Sem.run_pure,eF]
end
end Go.Sx
namespace Go.Sx
open Go.RowKit Go.Maps
open Go.WideElems (Fit rd rg rd_mk rg_of)
theorem aG8 {P:Program} {K:TypeId} (hK:P.underlying K=some .string) {s:ByteArray} (hs:s.size≤maxLen):keyOf P K (.string s)=some (.string s.data.toList):=by
 unfold keyOf;rw [hK];simp [mapKey,hK,hs]
theorem aG9 {P:Program} {K:TypeId} (hK:P.underlying K=some .string) {W:World} {b c:Nat} {es:List Ent} (h:MapAt W b es c) (hn:(es.map (·.k)).Nodup) (hs:∀e∈es,e.k.size≤maxLen) (hl:es.length≤maxLen):
  ∃D0:DataW Unit,W.ownsMap P K (fun _=>some (.nil,[])) b es.length D0∧(strKeys D0).Perm (es.map fun e=>e.k.data.toList)∧Maps.size D0=es.length:=by
 have hrd:∀e∈es,rd (H:=Unit) P K (fun _=>some (.nil,[])) e.raw=some (.string e.k.data.toList,.nil):=fun e he=>rd_mk (yv:=(.nil,[])) (aG8 hK (hs e he)) rfl;refine ⟨_,⟨⟨es.map Ent.raw⟩,c,h.at_,⟨by simpa using hl,⟨?_,?_,?_⟩,?_⟩,by simp,rfl⟩,?_,?_⟩
 ·intro x hx;obtain ⟨e,he,rfl⟩:=List.mem_map.1 hx;exact h.lt e he
 ·show ((es.map Ent.raw).map (·.born)).Nodup;rw [List.map_map];exact h.nodup
 ·show ((es.map Ent.raw).map (·.key)).Nodup;rw [List.map_map];have:es.map ((·.key)∘Ent.raw)=(es.map (·.k)).map Value.string:=by rw [List.map_map];rfl
  rw [this];exact List.Pairwise.map (R:=(·≠·)) (S:=(·≠·)) Value.string (fun a b hab e=>hab (by injection e)) hn
 ·intro x hx;obtain ⟨e,he,rfl⟩:=List.mem_map.1 hx;exact ⟨_,hrd e he⟩
 ·show (List.map (fun p:Lit×DataW Unit=>strOf p.1) _).Perm _;refine ((WideShapes.sorted_perm _).map _).trans ?_;show (List.map _ (List.map _ (es.map Ent.raw))).Perm _;rw [List.map_map,List.map_map];refine List.Perm.of_eq (List.map_congr_left fun e he=>?_);show strOf (rg P K _ e.raw).1=_;rw [rg_of (hrd e he)];rfl
 ·show List.length _=_;rw [(WideShapes.sorted_perm _).length_eq];simp
end Go.Sx
namespace Go.Sx
open Go.RowKit
abbrev KVI:=List (Int×Value)
def ksI (a b:Int):Bool:=a == b
theorem jY {a b:Int}:ksI a b=true↔a=b:=by unfold ksI;exact beq_iff_eq
theorem aIG (a:Int):ksI a a=true:=jY.2 rfl
def jZ:KVI→Int→Option Value
 | [],_=>none
 |p::d,k=>match ksI k p.1 with|true=>some p.2|false=>jZ d k
def gN:KVI→Int→Value→KVI
 | [],k,v=>[(k,v)]
 |p::d,k,v=>match ksI k p.1 with|true=>(k,v)::d|false=>p::gN d k v
def kL:KVI→Int→KVI
 | [],_=>[]
 |p::d,k=>match ksI k p.1 with|true=>d|false=>p::kL d k
structure EntI where
 k:Int
 v:Value
 t:Nat
def EntI.raw (e:EntI):MapEntry:=⟨.int .i64 e.k,e.v,e.t⟩
def EntI.kv (e:EntI):Int×Value:=(e.k,e.v)
structure MapAtI (W:World) (b:Nat) (es:List EntI) (c:Nat):Prop where
 at_:W.heap[b]? =some (.map ⟨es.map EntI.raw⟩ c)
 nodup:(es.map (·.t)).Nodup
 lt:∀e∈es,e.t<c
def aO (b:Nat) (d:KVI):Res where
 ok F W:=F b∧∃es c,MapAtI W b es c∧es.map EntI.kv=d
 loc F W W' h:=fun ⟨h1,es,c,h2,h3⟩=>⟨h1,es,c,⟨(h b h1).trans h2.at_,h2.nodup,h2.lt⟩,h3⟩
def jG:List EntI→Int→Nat→Option (Nat×Value)
 | [],_,_=>none
 |e::es,k,i=>match ksI k e.k with|true=>some (i,e.v)|false=>jG es k (i+1)
theorem aCQ (k:Int):∀(es:List EntI) (i:Nat),Instr.findNow (.int .i64) (.int .i64 k) (es.map EntI.raw) i=some (jG es k i)
 | [],_=>rfl
 |e::es,i=>by
  simp only [List.map_cons,Instr.findNow,EntI.raw,Instr.sameNow,jG,if_true];rw [show (k == e.k)=ksI k e.k from rfl];cases ksI k e.k with
  |true=>rfl
  |false=>exact aCQ k es (i+1)
theorem tS {k:Int}:∀{es:List EntI} {i:Nat},jG es k i=none→jZ (es.map EntI.kv) k=none∧(∀v,gN (es.map EntI.kv) k v=es.map EntI.kv ++ [(k,v)])∧kL (es.map EntI.kv) k=es.map EntI.kv
 | [],_,_=>⟨rfl,fun _=>rfl,rfl⟩
 |e::es,i,h=>by
  simp only [jG] at h;cases hk:ksI k e.k with
  |true=>rw [hk] at h;cases h
  |false=>
   rw [hk] at h;obtain ⟨h1,h2,h3⟩:=tS (es:=es) (i:=i+1) h;simp only [List.map_cons,jZ,gN,kL,EntI.kv,hk];exact ⟨h1,fun v=>by rw [h2 v];rfl,by rw [h3]⟩
theorem tT {k:Int}:∀{es:List EntI} {i j:Nat} {v0:Value},jG es k i=some (j,v0)→jZ (es.map EntI.kv) k=some v0∧∃m e,j=i+m∧es[m]? =some e∧e.k=k∧
  (∀v,gN (es.map EntI.kv) k v=(es.modify m fun e=>⟨k,v,e.t⟩).map EntI.kv)∧kL (es.map EntI.kv) k=(es.eraseIdx m).map EntI.kv
 | [],_,_,_,h=>by simp [jG] at h
 |e::es,i,j,v0,h=>by
  simp only [jG] at h;cases hk:ksI k e.k with
  |true=>
   rw [hk] at h;injection h with h;injection h with h1 h2;subst h1 h2;simp only [List.map_cons,jZ,gN,kL,EntI.kv,hk];exact ⟨trivial,0,e,rfl,rfl,(jY.1 hk).symm,fun v=>by simp [EntI.kv],by simp⟩
  |false=>
   rw [hk] at h;obtain ⟨h1,m,e',h2,h3,h4,h5,h6⟩:=tT (es:=es) (i:=i+1) h;simp only [List.map_cons,jZ,gN,kL,EntI.kv,hk];refine ⟨h1,m+1,e',by omega,h3,h4,fun v=>?_,?_⟩
   ·rw [h5 v];simp [EntI.kv]
   ·rw [h6];simp [EntI.kv]
section
variable {P:Program} {W:World} {T K E:TypeId}
class MpI (P:Program) (T:TypeId) (K E:outParam TypeId):Prop where
 out:P.underlying T=some (.map K E)
 key:P.underlying K=some (.int .i64)
theorem xW (hK:P.underlying K=some (.int .i64)) (em:Bool) (k:Int) (W:World):(Instr.checkKey em 10000 K (.int .i64 k)).run P W= .ok () W:=by
 show (Instr.checkKey em (9999+1) K (.int .i64 k)).run P W= .ok () W;unfold Instr.checkKey;simp [run_underlying hK]
theorem xX (hK:P.underlying K=some (.int .i64)) (k:Int) (es:List EntI) (W:World):(Instr.findKey K (.int .i64 k) (es.map EntI.raw)).run P W= .ok (jG es k 0) W:=by
 unfold Instr.findKey;simp only [Sem.run_bind,run_underlying hK,Result.andThen_ok,aCQ];rfl
theorem MapAtI.get {b:Nat} {es:List EntI} {c:Nat} (h:MapAtI W b es c):(getObj b).run P W= .ok (.map ⟨es.map EntI.raw⟩ c) W:=MapKept.run_getObj_map h.at_
theorem aIH [m:MpI P T K E] {b:Nat} {es:List EntI} {c:Nat} {k:Int} {zv:Value} (h:MapAtI W b es c) (hz:(zeroValue E).run P W= .ok zv W):
  (Instr.lookup T (.map (some b)) (.int .i64 k) false).run P W= .ok ((jZ (es.map EntI.kv) k).getD zv) W:=by
 unfold Instr.lookup;simp only [Sem.run_bind,run_underlying m.out,Result.andThen_ok,h.get,xW m.key,xX m.key,Sem.run_pure];cases hf:jG es k 0 with
 |none=>
  simp only [(tS hf).1,Sem.run_bind,hz,Result.andThen_ok,Sem.run_pure];rfl
 |some p=>
  obtain ⟨j,v⟩:=p;simp only [(tT hf).1,Sem.run_bind,Result.andThen_ok,Sem.run_pure];rfl
theorem tU {b:Nat} {es:List EntI} {c:Nat} (h:MapAtI W b es c) (o':Obj):(setObj b o').run P W= .ok () (ChangeMaps.setBlock W b o'):=by
 simp [setObj,Sem.run,h.at_,ChangeMaps.setBlock]
theorem MapAtI.size {b:Nat} {es:List EntI} {c:Nat} (h:MapAtI W b es c):b<W.heap.size:=by
 have:=h.at_;exact (Array.getElem?_eq_some_iff.1 this).1
theorem aII (es:List EntI) (m:Nat) (k:Int) (v:Value):(es.map EntI.raw).modify m (fun e=>{e with key:= .int .i64 k,val:=v})=(es.modify m fun e=>⟨k,v,e.t⟩).map EntI.raw:=by
 induction es generalizing m with
 |nil=>simp
 |cons e es ih=>
  cases m with
  |zero=>simp [EntI.raw]
  |succ m=>simp [ih]
theorem aCR (es:List EntI) (m:Nat) (k:Int) (v:Value):(es.modify m fun e=>⟨k,v,e.t⟩).map (·.t)=es.map (·.t):=by
 induction es generalizing m with
 |nil=>simp
 |cons e es ih=>
  cases m with
  |zero=>simp
  |succ m=>simp [ih]
theorem aIJ (es:List EntI) (m:Nat):(es.map EntI.raw).eraseIdx m=(es.eraseIdx m).map EntI.raw:=by
 induction es generalizing m with
 |nil=>simp
 |cons e es ih=>
  cases m with
  |zero=>simp
  |succ m=>simp [ih]
theorem aIK [m:MpI P T K E] {b:Nat} {es:List EntI} {c:Nat} {k:Int} {v:Value} (h:MapAtI W b es c):
  ∃W' es' c',(Instr.mapUpdate T (.map (some b)) (.int .i64 k) v).run P W= .ok () W'∧MapAtI W' b es' c'∧es'.map EntI.kv=gN (es.map EntI.kv) k v∧∃o,W'=ChangeMaps.setBlock W b o:=by
 unfold Instr.mapUpdate;simp only [Sem.run_bind,run_underlying m.out,Result.andThen_ok,h.get,xW m.key,xX m.key];cases hf:jG es k 0 with
 |none=>
  obtain ⟨h1,h2,h3⟩:=tS hf;refine ⟨_,es ++ [⟨k,v,c⟩],c+1,tU h _,⟨?_,?_,?_⟩,?_,_,rfl⟩
  ·rw [kQ h.size];simp [EntI.raw]
  ·rw [List.map_append,List.nodup_append];refine ⟨h.nodup,by simp,fun a ha b hb=>?_⟩;obtain ⟨e,he,rfl⟩:=List.mem_map.1 ha;simp only [List.map_cons,List.map_nil,List.mem_singleton] at hb;have:=h.lt e he;omega
  ·intro e he;rcases List.mem_append.1 he with he|he
   ·have:=h.lt e he;omega
   ·rw [List.mem_singleton] at he;subst he;exact Nat.lt_succ_self c
  ·rw [h2 v];simp [EntI.kv]
 |some p=>
  obtain ⟨j,v0⟩:=p;obtain ⟨h1,i,e,h2,h3,h4,h5,h6⟩:=tT hf;rw [Nat.zero_add] at h2;subst h2;have hkey:(((⟨es.map EntI.raw⟩:Array MapEntry)[j]?).map (·.key)).getD (.int .i64 k)= .int .i64 k:=by
   simp [h3,EntI.raw,h4]
  have hstay:(Instr.keyThatStays (.int .i64 k) (.int .i64 k)).run P W= .ok (.int .i64 k) W:=by
   unfold Instr.keyThatStays;have:Instr.sameBits 10000 (.int .i64 k) (.int .i64 k)=true:=by
    show Instr.sameBits (9999+1) (.int .i64 k) (.int .i64 k)=true;unfold Instr.sameBits;exact aIG k
   simp [this]
  refine ⟨ChangeMaps.setBlock W b (.map (Array.modify ⟨es.map EntI.raw⟩ j fun e=>{e with key:= .int .i64 k,val:=v}) c),es.modify j fun e=>⟨k,v,e.t⟩,c,?_,⟨?_,?_,?_⟩,(h5 v).symm,_,rfl⟩
  ·simp only [Sem.run_bind,hkey,hstay,Result.andThen_ok];exact tU h _
  ·rw [kQ h.size];congr 2;apply Array.ext';rw [Array.toList_modify];exact aII es j k v
  ·rw [aCR];exact h.nodup
  ·intro e' he';have:e'.t∈(es.modify j fun e=>⟨k,v,e.t⟩).map (·.t):=List.mem_map_of_mem he';rw [aCR] at this;obtain ⟨e2,he2,h7⟩:=List.mem_map.1 this;rw [←h7];exact h.lt e2 he2
theorem aIL [m:MpI P T K E] {b:Nat} {es:List EntI} {c:Nat} {k:Int} {ty:TypeId} (h:MapAtI W b es c):
  ∃W' es' c',(Builtin.delete_ #[T,K] ty #[.map (some b),.int .i64 k]).run P W= .ok (.tuple #[]) W'∧MapAtI W' b es' c'∧es'.map EntI.kv=kL (es.map EntI.kv) k∧∃o,W'=ChangeMaps.setBlock W b o:=by
 unfold Builtin.delete_;simp only [List.getElem?_toArray,List.getElem?_cons_zero,List.getElem?_cons_succ,Sem.run_bind,run_underlying m.out,Result.andThen_ok,h.get,xW m.key,xX m.key];cases hf:jG es k 0 with
 |none=>
  obtain ⟨h1,h2,h3⟩:=tS hf;refine ⟨_,es,c,?_,⟨kQ h.size,h.nodup,h.lt⟩,h3.symm,_,rfl⟩;simp only [Sem.run_bind,tU h,Result.andThen_ok];rfl
 |some p=>
  obtain ⟨j,v0⟩:=p;obtain ⟨h1,i,e,h2,h3,h4,h5,h6⟩:=tT hf;rw [Nat.zero_add] at h2;subst h2;refine ⟨ChangeMaps.setBlock W b (.map (Array.eraseIdxIfInBounds ⟨es.map EntI.raw⟩ j) c),es.eraseIdx j,c,?_,⟨?_,?_,?_⟩,h6.symm,_,rfl⟩
  ·simp only [Sem.run_bind,tU h,Result.andThen_ok];rfl
  ·rw [kQ h.size];congr 2;apply Array.ext';rw [Array.toList_eraseIdxIfInBounds];exact aIJ es j
  ·exact h.nodup.sublist ((List.eraseIdx_sublist _ _).map _)
  ·exact fun e he=>h.lt e (List.mem_of_mem_eraseIdx he)
end
section
variable {G:Nat} {w W W':World} {L L' R R':List Res} {b:Nat} {d d':KVI}
theorem Has.setMapI (h:Has G w W L) (u:Upd (aO b d) L (aO b d') L') {o:Obj} (hW:W'=ChangeMaps.setBlock W b o) (hd:∃es c,MapAtI W' b es c∧es.map EntI.kv=d'):Has G w W' L':=by
 obtain ⟨F1,h1,h2,h3⟩:=h.has.upd u;have hbG:=(h1 b h2.1).1;have hbl:=(h1 b h2.1).2;subst hW;have hx:(ChangeMaps.setBlock W b o).heap.size=W.heap.size:=by simp [ChangeMaps.setBlock]
 refine ⟨h.ext.trans ⟨rfl,rfl,rfl,by omega,fun c hc=>o5 (by omega)⟩,h.glob,h3 _ _ (fun c=>c=b) (fun c hc=>⟨hc.1,by omega⟩) ?_ ?_ ⟨rfl,hd⟩⟩
 ·rintro c rfl;exact ⟨⟨hbG,by omega⟩,fun _=>h2.1⟩
 ·intro c hc hn;refine o5 fun e=>hn ?_;rw [e];exact h2.1
theorem Has.map_atI (h:Has G w W L) (i:In (aO b d) L):∃es c,MapAtI W b es c∧es.map EntI.kv=d:=by
 obtain ⟨F,_,h2⟩:=h.of_in i;exact h2.2
theorem Has.newMapI (h:Has G w W L):Has G w (W.alloc (.map #[] 0)) (aO W.heap.size []::L):=
 h.newObj ⟨rfl,[],0,⟨heap_alloc_new _ _,by simp,by simp⟩,rfl⟩
end
section
variable {P:Program} {ops:Array Oper} {rest:List Oper} {Q:Exit→Act→World→Prop} {a:Act} {n G:Nat} {L:List (Nat×Value)} {w W:World} {R R':List Res} {dst b:Nat} {T K E ty:TypeId} {p:String} {e:Array Edge} {x y z:Operand} {k:Int} {v zv:Value} {d:KVI}
theorem tV (hs:Slots a n L) (hw:Has G w W R) (hd:Nat.blt dst n=true:=by with_unfolding_all exact rfl)
  (c:∀a' b W',Has G w W' (aO b []::R)→Slots a' n ((dst,.map (some b))::L)→wpList P ops Q rest a' W'):wpList P ops Q (⟨some dst,.makeMap T none,ty,p,e,none⟩::rest) a W:=by
 refine bP hs hd (v:= .map (some W.heap.size)) (W':=W.alloc (.map #[] 0)) ?_ fun a' hs'=>c a' W.heap.size _ hw.newMapI hs';simp only [execOp,Option.map_none,Sem.run_bind,run_makeMap,Result.andThen_ok];rfl
theorem lH [m:MpI P T K E] (hs:Slots a n L) (hx:ev L x=some (.map (some b)):=by with_unfolding_all exact rfl) (hy:ev L y=some (.int .i64 k):=by with_unfolding_all exact rfl) (hw:Has G w W R) (hi:In (aO b d) R:=by repeat (first|exact In.hd|apply In.tl)) (hz:∀W,(zeroValue E).run P W= .ok zv W) (hd:Nat.blt dst n=true:=by with_unfolding_all exact rfl)
  (c:∀a',Slots a' n ((dst,(jZ d k).getD zv)::L)→wpList P ops Q rest a' W):wpList P ops Q (⟨some dst,.lookup T x y false,ty,p,e,none⟩::rest) a W:=by
 obtain ⟨es,ck,h1,rfl⟩:=hw.map_atI hi;refine bP hs hd (W':=W) ?_ c;simp only [execOp,hs.ev hx,hs.ev hy,Sem.run_bind,aIH h1 (hz W),Result.andThen_ok];rfl
theorem oG [m:MpI P T K E] (hs:Slots a n L) (hx:ev L x=some (.map (some b)):=by with_unfolding_all exact rfl) (hy:ev L y=some (.int .i64 k):=by with_unfolding_all exact rfl) (hz:ev L z=some v:=by with_unfolding_all exact rfl) (hw:Has G w W R) (hu:Upd (aO b d) R (aO b (gN d k v)) R':=by repeat (first|exact Upd.hd|apply Upd.tl))
  (c:∀W',Slots a n L→Has G w W' R'→wpList P ops Q rest a W'):wpList P ops Q (⟨none,.mapUpdate T x y z,ty,p,e,none⟩::rest) a W:=by
 obtain ⟨F1, -,h2, -⟩:=hw.has.upd hu;obtain ⟨-,es,ck,h1,rfl⟩:=h2;obtain ⟨W',es',c',g1,g2,g3,o,g4⟩:=aIK (P:=P) (T:=T) (k:=k) (v:=v) h1;refine uO hs (W':=W') ?_ fun hs'=>c W' hs' (hw.setMapI hu g4 ⟨es',c',g2,g3⟩);simp only [execOp,hs.ev hx,hs.ev hy,hs.ev hz,Sem.run_bind,g1,Result.andThen_ok];rfl
theorem aIM [m:MpI P T K E] (hs:Slots a n L) (hx:ev L x=some (.map (some b)):=by with_unfolding_all exact rfl) (hy:ev L y=some (.int .i64 k):=by with_unfolding_all exact rfl) (hw:Has G w W R) (hu:Upd (aO b d) R (aO b (kL d k)) R':=by repeat (first|exact Upd.hd|apply Upd.tl))
  (c:∀W',Slots a n L→Has G w W' R'→wpList P ops Q rest a W'):wpList P ops Q (⟨none,.call {callee:= .builtin .delete,args:=#[x,y],argTypes:=#[T,K]},ty,p,e,none⟩::rest) a W:=by
 obtain ⟨F1, -,h2, -⟩:=hw.has.upd hu;obtain ⟨-,es,ck,h1,rfl⟩:=h2;obtain ⟨W',es',c',g1,g2,g3,o,g4⟩:=aIL (P:=P) (T:=T) (k:=k) (ty:=ty) h1;refine vF hs (v:= .tuple #[]) (W':=W') ?_ fun hs'=>c W' hs' (hw.setMapI hu g4 ⟨es',c',g2,g3⟩);simp only [execOp,resolve,invoke,builtin,Sem.run_bind,Sem.run_pure,Result.andThen_ok,List.map_toArray,List.map_cons,List.map_nil,hs.ev hx,hs.ev hy,g1]
end
end Go.Sx
