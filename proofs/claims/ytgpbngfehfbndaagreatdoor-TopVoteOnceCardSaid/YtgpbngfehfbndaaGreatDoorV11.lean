import Derived.Test.YtgpbngfehfbndaaGreatDoorV7
import Derived.Test.YtgpbngfehfbndaaGreatDoorV8
import Derived.Laws.StructEq
import Derived.Deep.RegionHeld3
set_option maxHeartbeats 16000000
set_option linter.all false
set_option maxRecDepth 10000
namespace Go.Sx
open Go.RowKit
def II (x:Int) (c:List Value):Prop:=c= [.int .i64 x]
theorem II.len:∀(x:Int) (c:List Value),II x c→c.length=1:=by rintro x c rfl;rfl
theorem rU:∀l:List Int,Ch II l (l.map fun x=>Value.int .i64 x)
 | []=>rfl
 |x::l=>⟨[.int .i64 x],l.map fun x=>Value.int .i64 x,rfl,rfl,rU l⟩
section
variable {P:Program} {ops:Array Oper} {rest:List Oper} {Q:Exit→Act→World→Prop} {a:Act} {n:Nat} {L:List (Nat×Value)} {W:World} {d d2:Nat} {T T2 S E:TypeId} {p p2:String} {e e2:Array Edge} {x y:Operand} {i k:Nat} {q:IntKind} {z:List Value} {v:Value} {l:List Int} {u:Int}
theorem iI [sl:Sl P S E] [t:Ty P E false z] (hs:Slots a n L) (r:Rd W 1 v k (l.map fun x=>Value.int .i64 x)) (hi:l[i]? =some u) (hlen:l.length=k) (c:∀a' b o,Slots a' n ((d2,.int .i64 u)::(d,.pointer (some ⟨b,o,none⟩))::L)→wpList P ops Q rest a' W) (hx:ev L x=some v:=by with_unfolding_all exact rfl) (hy:ev L y=some (.int q (i:Int)):=by with_unfolding_all exact rfl) (hd:Nat.blt d n=true:=by with_unfolding_all exact rfl) (hd2:Nat.blt d2 n=true:=by with_unfolding_all exact rfl) (hz:z.length=1:=by with_unfolding_all exact rfl):
  wpList P ops Q (⟨some d,.indexAddr S x y,T,p,e,none⟩::⟨some d2,.load E (.tmp d),T2,p2,e2,none⟩::rest) a W:=by
 refine gT hs r II.len (rU l) hi hlen hx hy hd hz (fun a' b o c hc hcl hpc hlt hs=>?_);obtain rfl:c= [.int .i64 u]:=hc;have hev:ev ((d,Value.pointer (some ⟨b,o,none⟩))::L) (.tmp d)=some (.pointer (some ⟨b,o,none⟩)):=by simp [ev,lk]
 exact eQ hs (hx:=hev) (hc:=hpc 0 _ rfl) (hd:=hd2) (c:=fun a' hs=>c a' b o hs)
theorem mG {b bytes:Nat} {w:World} {R R1:List Res} [sl:Sl P S E] [el:El P E 1 bytes] (hs:Slots a n L) (hw:Has 0 w W (aA b [.int .i64 u] E::R)) (hp:Pick (Own E 1 v l.length (l.map fun x=>Value.int .i64 x)) R R1) (hb:(l.length+1)*bytes≤140737488355328)
  (k:∀a' ad cap W',Slots a' n ((d,.slice ad (l ++ [u]).length cap)::L)→Has 0 w W' (Own E 1 (.slice ad (l ++ [u]).length cap) (l ++ [u]).length ((l ++ [u]).map fun x=>Value.int .i64 x)::R1)→wpList P ops Q rest a' W') (h63:l.length+1≤9223372036854775807:=by omega) (hx:ev L x=some v:=by with_unfolding_all exact rfl) (hy:ev L y=some (.slice (some ⟨b,0,none⟩) 1 1):=by with_unfolding_all exact rfl) (hd:Nat.blt d n=true:=by with_unfolding_all exact rfl):
  wpList P ops Q (⟨some d,.call {callee:= .builtin .append,args:=#[x,y],argTypes:=#[S,S]},T,p,e,none⟩::rest) a W:=by
 have hw2:Has 0 w W (Own E 1 v l.length (l.map fun x=>Value.int .i64 x)::aA b [.int .i64 u] E::R1):=(hw.pick (Pick.tl hp))
 refine i6 hs hw2 In.hd (rU l) (show II u [.int .i64 u] from rfl) rfl rfl hb h63 hx hy hd fun a' ad cap W' hs hw _=>?_;rw [show (l.map fun x=>Value.int .i64 x) ++ [Value.int .i64 u]=(l ++ [u]).map fun x=>Value.int .i64 x by simp] at hw;exact k a' ad cap W' hs (hw.sub (List.Sublist.cons_cons _ (List.Sublist.cons _ (List.Sublist.refl _))))
end
end Go.Sx
namespace Go.Proofs.YtgpbngfehfbndaaGreatDoor.Sw
open Go.RowKit Go.Sx
open Go.Proofs.Tryz (prog)
theorem i1 {i:Nat} (h:i<9223372036854775807):IntKind.i64.wrap ((i:Int)+1)=((i+1:Nat):Int):=by rw [IntWalk.i64_in _ (by omega)];omega
theorem dP {α:Type} {l:List α} {i:Nat} (h:i<l.length):∃o,l[i]? =some o∧l.drop i=o::l.drop (i+1):=⟨l[i],List.getElem?_eq_getElem h,List.drop_eq_getElem_cons h⟩
abbrev bG (v:Value) (l:List UInt8):Res:=Sx.OwnB 5 v l
theorem vL (s:Nat) (l:List UInt8) (v:Value) (w:World) (h:s<4294967296) (r:RdB w v l):
  Calls prog 241 ⟨[.int .u32 (s:Int),v]⟩ w fun e w'=>e= .returned (.int .u32 (fK s l:Int))∧Below w.heap.size w w':=by
 have hw:=Has.start (G:=0) (w:=w) (Nat.zero_le _);have hlen:=r.len;obtain ⟨ad,cap,rfl⟩:∃ad cap,v= .slice ad l.length cap:=by obtain ⟨_,ad,cap,e,_⟩:=r;exact ⟨ad,cap,e⟩
 refine en Tryz.func241 Tryz.ntmps241 fun a hs=>?_;refine sv hs hw fun a hs=>?_;rw [show bits .xor .u32 (if IntKind.u32.signed then -1 else IntKind.u32.max) (s:Int)=((s ^^^ 4294967295:Nat):Int) from aAE h] at hs;have h0:s ^^^ 4294967295<4294967296:=o9 h (by decide);refine bX (σ:=Nat) (fun i=>[(10,.slice ad l.length cap),(11,.int .i64 (l.length:Int)),(12,.int .i64 (i:Int)),(5,.int .u32 ((l.take i).foldl j4 (s ^^^ 4294967295):Nat))]) (fun _=>Old w 0:: []) (fun i=>i≤l.length) (fun i=>l.length - i) 0 (Nat.zero_le _) hs ⟨rfl,rfl,rfl,rfl,trivial⟩ hw ?_;clear hs hw;intro i a W hi hs hw;have hi:i≤l.length:=hi;have hx:=vJ (l.take i) h0;refine sv hs hw fun a hs=>?_;refine cI hs (kt:=fun hc=>?_) (kf:=fun hc=>?_)
 ·have hi':i<l.length:=by simpa using hc
  obtain ⟨c,hc1,_⟩:=dP hi';have hn:(l.take (i+1)).foldl j4 (s ^^^ 4294967295)=j4 ((l.take i).foldl j4 (s ^^^ 4294967295)) c:=by rw [fQ hc1,List.foldl_append];rfl
  generalize (l.take i).foldl j4 (s ^^^ 4294967295)=x at *;refine sc hs ?_;refine zU (hs:=hs) (r:=hw.rd inn hw.ext.size r) (h0:=by omega) (c:=c) (hc:=by rw [Int.toNat_natCast];exact hc1) (k:=fun a ad1 hc2 hs=>?_);refine eQ hs (hc:=hc2) (c:=fun a hs=>?_);refine sv hs hw fun a hs=>?_
  rw [show bits .xor .u32 (x:Int) (IntKind.u32.wrap (c.toNat:Int))=((x ^^^ c.toNat:Nat):Int) by
   have hc:=c.toNat_lt;rw [show IntKind.u32.wrap (c.toNat:Int)=(c.toNat:Int) by rw [vH];omega]
   exact rS _ _ hx (by omega)] at hs
  have h1:x ^^^ c.toNat<4294967296:=o9 hx (by have:=c.toNat_lt;omega);refine bX (σ:=Nat) (fun j=>[(10,.slice ad l.length cap),(11,.int .i64 (l.length:Int)),(12,.int .i64 (i:Int)),(20,.int .i64 (j:Int)),(5,.int .u32 (itN j (x ^^^ c.toNat):Nat))]) (fun _=>Old w 0:: []) (fun j=>j≤8) (fun j=>8 - j) 0 (Nat.zero_le _) hs ⟨rfl,rfl,rfl,rfl,rfl,trivial⟩ hw ?_;clear hs hw;intro j a W hj hs hw;have hj:j≤8:=hj;have h2:=vI h1 j;refine sv hs hw fun a hs=>?_;refine cI hs (kt:=fun hc=>?_) (kf:=fun hc=>?_)
  ·have hj':j<8:=by simp at hc;omega
   refine sv hs hw fun a hs=>?_;have hb:=aEL h2;exact bS (j+1) hs hw hj' (by omega) ⟨rfl,rfl,rfl,bU (i1 (by omega)),bU hb,trivial⟩
  ·have:j=8:=by simp at hc;omega
   subst this;refine sv hs hw fun a hs=>?_;refine bS (i+1) hs hw hi' (by omega) ⟨rfl,rfl,bU (i1 (by omega)),bU ?_,trivial⟩;rw [hn];rfl
 ·have:l.take i=l:=List.take_of_length_le (by simp at hc;omega);rw [this] at hs hx;refine sv hs hw fun a hs=>?_;rw [show bits .xor .u32 (if IntKind.u32.signed then -1 else IntKind.u32.max) ((l.foldl j4 (s ^^^ 4294967295):Nat):Int)=((l.foldl j4 (s ^^^ 4294967295) ^^^ 4294967295:Nat):Int) from aAE hx] at hs;exact rt1 hs rfl rfl ⟨rfl,hw.end inn⟩
theorem aAG (l:List UInt8) (v:Value) (w:World) (r:RdB w v l):
  Calls prog 242 ⟨[v]⟩ w fun e w'=>e= .returned (.int .u32 (fK 0 l:Int))∧Below w.heap.size w w':=by
 have hw:=Has.start (G:=0) (w:=w) (Nat.zero_le _);refine en Tryz.func242 Tryz.ntmps242 fun a hs=>?_;refine sv hs hw fun a hs=>?_;refine cb hs hw (vL 0 l v _ (by decide) r) fun a W hs hw=>?_;refine sv hs hw fun a hs=>?_;exact rt1 hs rfl rfl ⟨rfl,hw.end inn⟩
theorem aAH {n:Nat} (hn:n<4294967296) {L:List Res}:New prog 243 [.int .u32 (n:Int)] L Nat (fun b=> .slice (some ⟨b,0,none⟩) 4 4) (fun b=>aA b (bys (fX n)) 5::L):=⟨fun {w W} hw=>by
 have h:=aEN hn;refine en Tryz.func243 Tryz.ntmps243 fun a hs=>?_;refine sv hs hw fun a hs=>?_;refine sn hs hw fun b a W hs hw=>?_;refine sv hs hw fun a hs=>?_;refine rt1 hs rfl rfl ⟨b,rfl,?_⟩;have h0:IntKind.u8.wrap (n:Int)=((UInt8.ofNat n).toNat:Int):=by simp [IntKind.wrap,IntKind.bits,IntKind.signed]
 have e:bys (fX n)= [.int .u8 (IntKind.u8.wrap ((n:Int).fdiv (2 ^ 24))),.int .u8 (IntKind.u8.wrap ((n:Int).fdiv (2 ^ 16))),.int .u8 (IntKind.u8.wrap ((n:Int).fdiv (2 ^ 8))),.int .u8 (IntKind.u8.wrap (n:Int))]:=by
  rw [h 24 (by decide),h 16 (by decide),h 8 (by decide),h0];rfl
 rw [e]
 exact hw⟩
theorem nK (w0 W:World) (kind:Nat) (l:List UInt8) (v:Value) (R:List Res) (h1:1≤kind) (h2:kind≤255) (hl:l.length≤4000) (hr:∀{W},Has 0 w0 W R→RdB W v l) (hw:Has 0 w0 W R):
  Calls prog 167 ⟨[.int .i64 (kind:Int),v]⟩ W fun e W'=>∃s:Option Addr×Nat,e= .returned (.slice s.1 (frB kind l).length s.2)∧True∧Has 0 w0 W' (bG (.slice s.1 (frB kind l).length s.2) (frB kind l)::R):=by
 obtain ⟨ad,cap,rfl⟩:∃ad cap,v= .slice ad l.length cap:=by obtain ⟨_,ad,cap,e,_⟩:=hr hw;exact ⟨ad,cap,e⟩
 refine en Tryz.func167 Tryz.ntmps167 fun a hs=>?_;have e1:decide ((kind:Int)<1)=false:=decide_eq_false (by omega);have e2:decide ((kind:Int) > 255)=false:=decide_eq_false (by omega);have e3:decide ((l.length:Int) > 4000)=false:=decide_eq_false (by omega);refine sv hs hw fun a hs=>?_;rw [e1] at hs;refine sv hs hw fun a hs=>?_;rw [e2] at hs;refine sv hs hw fun a hs=>?_;rw [e3] at hs;refine sv hs hw fun a hs=>?_;rw [show IntKind.u8.wrap (kind:Int)=((UInt8.ofNat kind).toNat:Int) by simp [IntKind.wrap,IntKind.bits,IntKind.signed]] at hs;refine sn hs hw fun b a W hs hw=>?_;replace hw:Has 0 w0 W (bG (.slice (some ⟨b,0,none⟩) [UInt8.ofNat kind].length 1) [UInt8.ofNat kind]::R):=hw.shut_own (k:=1) (size:=1) (cap:=1) rfl rfl (by decide) (by decide);refine sv hs hw fun a hs=>?_;refine aH hs (hc:=eS w0 _ _ [UInt8.ofNat kind] (l.length:Int) R (by omega) (by omega) (by simp) hw) (k:=?_);rintro e0 W1 ⟨ad,cap,rfl,hw1⟩;refine ⟨_,rfl,?_⟩;clear hs hw;intro a hs;have hw:=hw1;clear hw1;have hp:=Ph.putI_length_le (l.length:Int);have hxl:([UInt8.ofNat kind] ++ Ph.putI (l.length:Int)).length≤11:=by simp;omega
 have hfr:frB kind l= [UInt8.ofNat kind] ++ Ph.putI (l.length:Int) ++ fX (fK (fK 0 ([UInt8.ofNat kind] ++ Ph.putI (l.length:Int))) l) ++ l:=rfl;rw [hfr];generalize [UInt8.ofNat kind] ++ Ph.putI (l.length:Int)=x at *;refine sv hs hw fun a hs=>?_;refine cb hs hw (aAG x _ _ (hw.rd_own In.hd)) fun a W hs hw=>?_;refine sv hs hw fun a hs=>?_;have h3:=rT (s:=0) (by decide) x;refine cb hs hw (vL (fK 0 x) l _ _ h3 (hr (hw.d1))) fun a W hs hw=>?_;have h4:=rT h3 l;generalize fK (fK 0 x) l=s at *;refine sv hs hw fun a hs=>?_;refine sg hs hw (fun c a W hs hw=>?_) (g:=aAH h4);have e4:(fX s).length=4:=rfl;have hf:Src prog 1 146 (.slice (some ⟨c,0,none⟩) 4 4) (fX s).length (bys (fX s)) W:=uW (m:=4) (size:=1) hw In.hd (by rw [List.length_map,e4];rfl) rfl 4;refine gQ hs hw (l:=x) (m:=fX s) (hr:=hf) (hb:=by omega) (c:=fun a ad2 cap2 W hs hw=>?_);refine sv hs hw fun a hs=>?_;refine gQ hs hw (l:=x ++ fX s) (m:=l) (hr:=eZ (hr (hw.d2)) (iY l)) (hb:=by rw [List.length_append];omega) (c:=fun a ad3 cap3 W hs hw=>?_);refine sv hs hw fun a hs=>?_;exact rt1 hs rfl rfl ⟨(ad3,cap3),rfl,trivial,hw.sl⟩
end Go.Proofs.YtgpbngfehfbndaaGreatDoor.Sw
namespace Go.Sx
open Go.RowKit
inductive FV where
 |i (n:Int)
 |s (b:ByteArray)
def FV.val:FV→Value
 | .i n=> .int .i64 n
 | .s b=> .string b
def FV.eqv:FV→FV→Bool
 | .i a,.i b=>a == b
 | .s a,.s b=>a.toList == b.toList
 |_,_=>false
def FV.ok (P:Program) (T:TypeId):FV→FV→Prop
 | .i _,.i _=>(∃z,Ty P T false z)∧IntTy P T .i64
 | .s _,.s _=>(∃z,Ty P T false z)∧StrTy P T
 |_,_=>False
theorem rW {P:Program} {T:TypeId} {z:List Value} [u:Ty P T false z] [t:IntTy P T .i64] (a b:Int):FV.ok P T (.i a) (.i b):=⟨⟨z,u⟩,t⟩
theorem aAL {P:Program} {T:TypeId} {z:List Value} [u:Ty P T false z] [t:StrTy P T] (a b:ByteArray):FV.ok P T (.s a) (.s b):=⟨⟨z,u⟩,t⟩
theorem aEV {P:Program} {d:Nat} {xs ys:List Value} {f:Field} {fs:List Field} {W:World} {x y:Value} {b:Bool} {z:List Value} (u:Ty P f.type false z) (hn:(f.name != "_")=true) (hx:xs[f.offset]? =some x) (hy:ys[f.offset]? =some y) (he:(Op.equalIn d f.type x y).run P W= .ok b W):
  (Op.eqFields d ⟨xs⟩ ⟨ys⟩ (f::fs)).run P W=if b then (Op.eqFields d ⟨xs⟩ ⟨ys⟩ fs).run P W else .ok false W:=by
 have hn':f.name≠ "_" :=by simpa using hn
 simp only [Op.eqFields,if_pos hn',Sem.run_bind,part,u.isAgg,Result.andThen_ok,Bool.false_eq_true,if_false];simp only [List.getElem?_toArray,hx,hy,Sem.run_pure,Result.andThen_ok,he];cases b <;> simp
theorem aAM {P:Program} {d:Nat} {W:World} {xs ys:List Value}:∀(vs:List (TypeId×FV×FV)) (fs:List Field) (k:Nat),fs.map (fun f=>(f.name != "_",f.offset,f.type))=(vs.zipIdx k).map (fun v=>(true,v.2,v.1.1))→(∀v∈vs,FV.ok P v.1 v.2.1 v.2.2)→(∀j v,vs[j]? =some v→xs[k+j]? =some v.2.1.val∧ys[k+j]? =some v.2.2.val)→
  (Op.eqFields (d+1) ⟨xs⟩ ⟨ys⟩ fs).run P W= .ok (vs.all fun v=>v.2.1.eqv v.2.2) W
 | [],fs,k,h,_,_=>by
  cases fs with
  |cons f fs=>simp at h
  |nil=>
  simp only [Op.eqFields,Sem.run_pure];rfl
 |(T,x,y)::vs,fs,k,h,hok,hv=>by
  rw [List.zipIdx_cons,List.map_cons] at h;obtain ⟨f,r,e,m,hr⟩:=List.map_eq_cons_iff.1 h;subst e;simp only [Prod.mk.injEq] at m;obtain ⟨h1,h2,h3⟩:=m;have h0:=hv 0 _ rfl;have ok:=hok _ (List.mem_cons_self ..)
  have ih:=aAM (d:=d) (W:=W) (xs:=xs) (ys:=ys) vs r (k+1) hr (fun v hv'=>hok v (List.mem_cons_of_mem _ hv')) (fun j v hj=>by
   have:=hv (j+1) v (by simpa using hj)
   rwa [show k+(j+1)=k+1+j by omega] at this)
  obtain ⟨z,u⟩:∃z,Ty P T false z:=by cases x <;> cases y <;> first|exact ok.1|exact ok.elim
  have he:(Op.equalIn (d+1) f.type x.val y.val).run P W= .ok (x.eqv y) W:=by
   rw [h3];cases x <;> cases y <;> first
    |exact ok.elim
    |exact run_equalIn_int W d T .i64 .i64 _ _ (ok.2.out)
    |exact run_equalIn_string W d T _ _ (ok.2.out)
  rw [aEV (x:=x.val) (y:=y.val) (b:=x.eqv y) (z:=z) (by rw [h3];exact u) h1 (by rw [h2];exact h0.1) (by rw [h2];exact h0.2) he,ih];simp only [List.all_cons];cases x.eqv y <;> rfl
section
variable {P:Program} {ops:Array Oper} {rest:List Oper} {Q:Exit→Act→World→Prop} {a:Act} {n:Nat} {L:List (Nat×Value)} {W:World} {d:Nat} {T S S':TypeId} {p:String} {e:Array Edge} {x y:Operand} {xs ys:List Value}
theorem aAN (vs:List (TypeId×FV×FV)) (ht:P.underlying S=some (.struct (P.fieldsOf S))) (hp:P.stoodInHeld S=false) (hF:(P.fieldsOf S).toList.map (fun f=>(f.name != "_",f.offset,f.type))=(vs.zipIdx 0).map (fun v=>(true,v.2,v.1.1))) (ho:∀v∈vs,FV.ok P v.1 v.2.1 v.2.2) (hx:vs.map (fun v=>v.2.1.val)=xs) (hy:vs.map (fun v=>v.2.2.val)=ys):
  (Op.equalIn 10000 S (.agg ⟨xs⟩) (.agg ⟨ys⟩)).run P W= .ok (vs.all fun v=>v.2.1.eqv v.2.2) W:=by
 rw [show (10000:Nat)=9999+1 from rfl,run_equalIn_agg W 9999 S _ _ ht hp];refine aAM vs _ 0 hF ho fun j v hj=>?_;rw [Nat.zero_add,←hx,←hy,List.getElem?_map,List.getElem?_map,hj];exact ⟨rfl,rfl⟩
theorem vS (vs:List (TypeId×FV×FV)) (b:Bool) (hb:(vs.all fun v=>v.2.1.eqv v.2.2)=b) (hs:Slots a n L) (ho:∀v∈vs,FV.ok P v.1 v.2.1 v.2.2) (k:∀a',Slots a' n ((d,.bool b)::L)→wpList P ops Q rest a' W) (hx:ev L x=some (.agg ⟨xs⟩):=by with_unfolding_all exact rfl) (hy:ev L y=some (.agg ⟨ys⟩):=by with_unfolding_all exact rfl) (hxs:vs.map (fun v=>v.2.1.val)=xs:=by with_unfolding_all exact rfl) (hys:vs.map (fun v=>v.2.2.val)=ys:=by with_unfolding_all exact rfl) (ht:P.underlying S=some (.struct (P.fieldsOf S)):=by kernel_rfl) (hp:P.stoodInHeld S=false:=by kernel_rfl) (hg:P.eqGuardType P.depth S=false:=by kernel_rfl) (hF:(P.fieldsOf S).toList.map (fun f=>(f.name != "_",f.offset,f.type))=(vs.zipIdx 0).map (fun v=>(true,v.2,v.1.1)):=by with_unfolding_all exact rfl) (hd:Nat.blt d n=true:=by with_unfolding_all exact rfl):
  wpList P ops Q (⟨some d,.binOp .eql S x y S',T,p,e,none⟩::rest) a W:=by
 subst hb;refine bP hs hd (W':=W) ?_ k;simp only [execOp,hs.ev hx,hs.ev hy,Sem.run_bind];rw [run_eqGuard_agg W .eql S x y _ _ hg];simp only [Result.andThen_ok];rw [run_eql_struct,aAN (P:=P) (W:=W) vs ht hp hF ho hxs hys];rfl
theorem aEW (vs:List (TypeId×FV×FV)) (b:Bool) (hb:(vs.all fun v=>v.2.1.eqv v.2.2)=b) (hs:Slots a n L) (ho:∀v∈vs,FV.ok P v.1 v.2.1 v.2.2) (k:∀a',Slots a' n ((d,.bool (!b))::L)→wpList P ops Q rest a' W) (hx:ev L x=some (.agg ⟨xs⟩):=by with_unfolding_all exact rfl) (hy:ev L y=some (.agg ⟨ys⟩):=by with_unfolding_all exact rfl) (hxs:vs.map (fun v=>v.2.1.val)=xs:=by with_unfolding_all exact rfl) (hys:vs.map (fun v=>v.2.2.val)=ys:=by with_unfolding_all exact rfl) (ht:P.underlying S=some (.struct (P.fieldsOf S)):=by kernel_rfl) (hp:P.stoodInHeld S=false:=by kernel_rfl) (hg:P.eqGuardType P.depth S=false:=by kernel_rfl) (hF:(P.fieldsOf S).toList.map (fun f=>(f.name != "_",f.offset,f.type))=(vs.zipIdx 0).map (fun v=>(true,v.2,v.1.1)):=by with_unfolding_all exact rfl) (hd:Nat.blt d n=true:=by with_unfolding_all exact rfl):
  wpList P ops Q (⟨some d,.binOp .neq S x y S',T,p,e,none⟩::rest) a W:=by
 subst hb;refine bP hs hd (W':=W) ?_ k;simp only [execOp,hs.ev hx,hs.ev hy,Sem.run_bind];rw [run_eqGuard_agg W .neq S x y _ _ hg];simp only [Result.andThen_ok];rw [run_neq_struct,aAN (P:=P) (W:=W) vs ht hp hF ho hxs hys];rfl
end
end Go.Sx
namespace Go.Proofs.YtgpbngfehfbndaaGreatDoor
open Go.RowKit
open Go.Proofs.Tryz (prog)
def gU:Option (Int ⊕ ByteArray)→Int
 |none=>0
 |some (.inl _)=>1
 |some (.inr _)=>2
def fR:Option (Int ⊕ ByteArray)→Int
 |some (.inl n)=>n
 |_=>0
def mI:Option (Int ⊕ ByteArray)→Bool
 |some (.inl _)=>true
 |_=>false
def nO:Option (Int ⊕ ByteArray)→ByteArray
 |some (.inr s)=>s
 |_=>⟨#[]⟩
theorem ta1 (w:World):(Instr.typeAssert .nilIface 172 261 true).run prog w= .ok (.tuple #[.int .i64 0,.bool false]) w:=by kernel_rfl
theorem ta2 (n:Int) (w:World):(Instr.typeAssert (.iface 261 (.int .i64 n)) 172 261 true).run prog w= .ok (.tuple #[.int .i64 n,.bool true]) w:=by kernel_rfl
theorem ta3 (s:ByteArray) (w:World):(Instr.typeAssert (.iface 262 (.string s)) 172 261 true).run prog w= .ok (.tuple #[.int .i64 0,.bool false]) w:=by kernel_rfl
theorem tb1 (w:World):(Instr.typeAssert .nilIface 172 262 true).run prog w= .ok (.tuple #[.string ⟨#[]⟩,.bool false]) w:=by kernel_rfl
theorem tb2 (n:Int) (w:World):(Instr.typeAssert (.iface 261 (.int .i64 n)) 172 262 true).run prog w= .ok (.tuple #[.string ⟨#[]⟩,.bool false]) w:=by kernel_rfl
theorem tb3 (s:ByteArray) (w:World):(Instr.typeAssert (.iface 262 (.string s)) 172 262 true).run prog w= .ok (.tuple #[.string s,.bool true]) w:=by kernel_rfl
theorem me1 (n:Int) (w:World):(method 517 261 (.int .i64 n) "packhorse/value.kind").run prog w= .ok (354,.int .i64 n) w:=by kernel_rfl
theorem me2 (s:ByteArray) (w:World):(method 517 262 (.string s) "packhorse/value.kind").run prog w= .ok (355,.string s) w:=by kernel_rfl
theorem aE8 (n:Int) (w:World):Calls prog 354 #[.int .i64 n] w fun e w'=>e= .returned (.int .i64 1)∧w=w':=by
 go_enter Tryz.func354,Tryz.ntmps354
 go_wp2
 go_ret
 exact ⟨rfl,rfl⟩
theorem aE9 (s:ByteArray) (w:World):Calls prog 355 #[.string s] w fun e w'=>e= .returned (.int .i64 2)∧w=w':=by
 go_enter Tryz.func355,Tryz.ntmps355
 go_wp2
 go_ret
 exact ⟨rfl,rfl⟩
theorem aEa (w:World):
  Calls prog 175 #[.agg #[.nilIface]] w fun e w'=>e= .returned (.int .i64 0)∧Below w.heap.size w w':=by
 have t1:=ta1;have t2:=tb1
 go_enter Tryz.func175,Tryz.ntmps175
 go_wp2_with fail
 go_ret
 exact ⟨rfl,(Below.refl _ _).alloc (Nat.le_refl _) _⟩
theorem aEb (w:World):
  Calls prog 276 #[.agg #[.nilIface]] w fun e w'=>e= .returned (.tuple #[.int .i64 0,.bool false])∧Below w.heap.size w w':=by
 have t1:=ta1;have t2:=tb1
 go_enter Tryz.func276,Tryz.ntmps276
 go_wp2
 go_ret2
 exact ⟨rfl,(Below.refl _ _).alloc (Nat.le_refl _) _⟩
theorem aEc (w:World):
  Calls prog 100 #[.agg #[.nilIface]] w fun e w'=>e= .returned (.agg #[.int .i64 0,.int .i64 0,.string ⟨#[]⟩])∧Below w.heap.size w w':=by
 have t1:=ta1;have t2:=tb1
 go_enter Tryz.func100,Tryz.ntmps100
 go_wp2
 refine bodyPost_ret (v:= .agg #[.int .i64 0,.int .i64 0,.string ⟨#[]⟩]) (by simp [results,Tryz.results100,go_sem]) rfl ⟨rfl,?_⟩;exact ((Below.refl _ _).alloc (Nat.le_refl _) _).alloc (by simp) _
theorem aEd (n:Int) (w:World):
  Calls prog 175 #[.agg #[.iface 261 (.int .i64 n)]] w fun e w'=>e= .returned (.int .i64 1)∧Below w.heap.size w w':=by
 have t1:=ta2 n;have t2:=tb2 n;have t3:=me1 n
 go_enter Tryz.func175,Tryz.ntmps175
 go_wp2_with (go_at_call 354;refine (aE8 _ _).mono ?_;rintro e w' ⟨rfl,rfl⟩)
 go_ret
 exact ⟨rfl,(Below.refl _ _).alloc (Nat.le_refl _) _⟩
theorem aEe (n:Int) (w:World):
  Calls prog 276 #[.agg #[.iface 261 (.int .i64 n)]] w fun e w'=>e= .returned (.tuple #[.int .i64 n,.bool true])∧Below w.heap.size w w':=by
 have t1:=ta2 n;have t2:=tb2 n;have t3:=me1 n
 go_enter Tryz.func276,Tryz.ntmps276
 go_wp2
 go_ret2
 exact ⟨rfl,(Below.refl _ _).alloc (Nat.le_refl _) _⟩
theorem aEf (n:Int) (w:World):
  Calls prog 100 #[.agg #[.iface 261 (.int .i64 n)]] w fun e w'=>e= .returned (.agg #[.int .i64 1,.int .i64 n,.string ⟨#[]⟩])∧Below w.heap.size w w':=by
 have t1:=ta2 n;have t2:=tb2 n;have t3:=me1 n
 go_enter Tryz.func100,Tryz.ntmps100
 go_wp2
 refine bodyPost_ret (v:= .agg #[.int .i64 1,.int .i64 n,.string ⟨#[]⟩]) (by simp [results,Tryz.results100,go_sem]) rfl ⟨rfl,?_⟩;exact ((Below.refl _ _).alloc (Nat.le_refl _) _).alloc (by simp) _
theorem aEg (s:ByteArray) (w:World):
  Calls prog 175 #[.agg #[.iface 262 (.string s)]] w fun e w'=>e= .returned (.int .i64 2)∧Below w.heap.size w w':=by
 have t1:=ta3 s;have t2:=tb3 s;have t3:=me2 s
 go_enter Tryz.func175,Tryz.ntmps175
 go_wp2_with (go_at_call 355;refine (aE9 _ _).mono ?_;rintro e w' ⟨rfl,rfl⟩)
 go_ret
 exact ⟨rfl,(Below.refl _ _).alloc (Nat.le_refl _) _⟩
theorem aEh (s:ByteArray) (w:World):
  Calls prog 276 #[.agg #[.iface 262 (.string s)]] w fun e w'=>e= .returned (.tuple #[.int .i64 0,.bool false])∧Below w.heap.size w w':=by
 have t1:=ta3 s;have t2:=tb3 s;have t3:=me2 s
 go_enter Tryz.func276,Tryz.ntmps276
 go_wp2
 go_ret2
 exact ⟨rfl,(Below.refl _ _).alloc (Nat.le_refl _) _⟩
theorem aEi (s:ByteArray) (w:World):
  Calls prog 100 #[.agg #[.iface 262 (.string s)]] w fun e w'=>e= .returned (.agg #[.int .i64 2,.int .i64 0,.string s])∧Below w.heap.size w w':=by
 have t1:=ta3 s;have t2:=tb3 s;have t3:=me2 s
 go_enter Tryz.func100,Tryz.ntmps100
 go_wp2
 refine bodyPost_ret (v:= .agg #[.int .i64 2,.int .i64 0,.string s]) (by simp [results,Tryz.results100,go_sem]) rfl ⟨rfl,?_⟩;exact ((Below.refl _ _).alloc (Nat.le_refl _) _).alloc (by simp) _
theorem aEj (k n:Int) (s:ByteArray) (k' n':Int) (s':ByteArray) (w:World):
  (binOp .eql 53 (.agg #[.int .i64 k,.int .i64 n,.string s]) (.agg #[.int .i64 k',.int .i64 n',.string s'])).run prog w
   = .ok (.bool ((k == k') && (n == n') && (s.toList == s'.toList))) w:=by
 have f1:prog.stoodInHeld 53=false:=by kernel_rfl
 have f2:prog.underlying 53=some (.struct (prog.fieldsOf 53)):=by kernel_rfl
 rw [run_eql_struct,run_equalIn_struct _ _ _ _ _ f2 f1];simp only [Program.fieldsOf];cases hk:k == k' <;> cases hn:n == n' <;> cases hs:s.toList == s'.toList <;> simp [go_sem,Op.eqFields,part,hk,hn,hs]
theorem aEk (x:Option (Int ⊕ ByteArray)) (w:World):
  Calls prog 100 #[.agg #[dN x]] w fun e w'=>e= .returned (.agg #[.int .i64 (gU x),.int .i64 (fR x),.string (nO x)])∧Below w.heap.size w w':=by
 rcases x with _|n|s
 ·exact aEc w
 ·exact aEf n w
 ·exact aEi s w
theorem pC (x:Option (Int ⊕ ByteArray)) (w:World):
  Calls prog 175 #[.agg #[dN x]] w fun e w'=>e= .returned (.int .i64 (gU x))∧Below w.heap.size w w':=by
 rcases x with _|n|s
 ·exact aEa w
 ·exact aEd n w
 ·exact aEg s w
theorem vT (x:Option (Int ⊕ ByteArray)) (w:World):
  Calls prog 276 #[.agg #[dN x]] w fun e w'=>e= .returned (.tuple #[.int .i64 (fR x),.bool (mI x)])∧Below w.heap.size w w':=by
 rcases x with _|n|s
 ·exact aEb w
 ·exact aEe n w
 ·exact aEh s w
def eqV (x y:Option (Int ⊕ ByteArray)):Bool:=(gU x == gU y) && (fR x == fR y) && ((nO x).toList == (nO y).toList)
set_option maxRecDepth 100000 in
theorem aEl (x y:Option (Int ⊕ ByteArray)) (w:World):
  Calls prog 275 #[.agg #[dN x],.agg #[dN y]] w fun e w'=>e= .returned (.bool (eqV x y))∧Below w.heap.size w w':=by
 have hv:=fun (x:Option (Int ⊕ ByteArray)) (W:World)=>aEk x W;have he:=aEj (gU x) (fR x) (nO x) (gU y) (fR y) (nO y);unfold eqV;generalize gU=KK at *;generalize fR=NN at *;generalize nO=SS at *;generalize dN=V at *;have HV:=Lib.hid hv;clear hv
 go_enter Tryz.func275,Tryz.ntmps275
 go_wp2_with fail
 have hb0:Below w.heap.size w ((w.alloc (Obj.cells #[V x] 174)).alloc (Obj.cells #[V y] 174)):=((Below.refl _ _).alloc (Nat.le_refl _) _).alloc (by simp) _;have hc1:((w.alloc (Obj.cells #[V x] 174)).alloc (Obj.cells #[V y] 174)).cell? ⟨w.heap.size,0,none⟩=some (V x):=by simp [go_sem]
 have hc2:((w.alloc (Obj.cells #[V x] 174)).alloc (Obj.cells #[V y] 174)).cell? ⟨w.heap.size+1,0,none⟩=some (V y):=by simp [go_sem]
 have hsz:w.heap.size+1<((w.alloc (Obj.cells #[V x] 174)).alloc (Obj.cells #[V y] 174)).heap.size:=by simp
 generalize (w.alloc (Obj.cells #[V x] 174)).alloc (Obj.cells #[V y] 174)=w1 at *;have vK:∀(W W':World),(W.cell? ⟨w.heap.size,0,none⟩=some (V x)∧W.cell? ⟨w.heap.size+1,0,none⟩=some (V y)∧w.heap.size+1<W.heap.size∧Below w.heap.size w W)→Below W.heap.size W W'→(W'.cell? ⟨w.heap.size,0,none⟩=some (V x)∧W'.cell? ⟨w.heap.size+1,0,none⟩=some (V y)∧w.heap.size+1<W'.heap.size∧Below w.heap.size w W'):=by
  rintro W W' ⟨a,b,c,d⟩ h;have:=h.size;exact ⟨(h.cell (by simp;omega)).trans a,(h.cell (by simp;omega)).trans b,by omega,aEX d h⟩
 have HK:=Lib.hid vK;clear vK
 go_region_held3 (fun W=>W.cell? ⟨w.heap.size,0,none⟩=some (V x)∧W.cell? ⟨w.heap.size+1,0,none⟩=some (V y)∧w.heap.size+1<W.heap.size∧Below w.heap.size w W)
  (first|(refine HK.out _ _ ?_ hb9;assumption)|assumption|exact ⟨by assumption,by assumption,by assumption,by assumption⟩|exact ⟨by assumption,by assumption,by assumption,Below.drew (by assumption)⟩)
  (first|(go_at_call 100;refine (HV.out _ _).mono ?_;rintro e w9 ⟨rfl,hb9⟩))
 rename_i hHeld
 go_wp2
 go_ret
 exact ⟨rfl,hHeld.2.2.2⟩
end Go.Proofs.YtgpbngfehfbndaaGreatDoor
namespace Go.Sx
open Go.RowKit
section
variable {P:Program} {ops:Array Oper} {rest:List Oper} {Q:Exit→Act→World→Prop} {a:Act} {n G:Nat} {L:List (Nat×Value)} {w W:World} {R:List Res} {d:Nat} {T S S' E E':TypeId} {p:String} {e:Array Edge} {x y lo hi mx:Operand} {v u:Value} {cur xs news:List Value} {g i j k m len cap size bytes:Nat} {q q' q'':IntKind} {z:List Value}
theorem aCM {agg:Bool} [sl:Sl P S E] [t:Ty P E agg z] (hs:Slots a n L) (h1:i≤j) (h2:j≤m) (h3:m≤cap) (c:∀a' v,Slots a' n ((d,v)::L)→wpList P ops Q rest a' W) (hx:ev L x=some (.slice (some ⟨g,0,none⟩) len cap):=by with_unfolding_all exact rfl) (hl:ev L lo=some (.int q (i:Int)):=by with_unfolding_all exact rfl) (hh:ev L hi=some (.int q' (j:Int)):=by with_unfolding_all exact rfl) (hm:ev L mx=some (.int q'' (m:Int)):=by with_unfolding_all exact rfl) (hd:Nat.blt d n=true:=by with_unfolding_all exact rfl):
  wpList P ops Q (⟨some d,.slice S x (some lo) (some hi) (some mx),T,p,e,none⟩::rest) a W:=by
 have hb:∀(k y:Nat) (c:BoundsCode) (q:IntKind),k≤y→(Instr.sliceBound (.int q (k:Int)) y c).run P W= .ok k W:=by
  intro k y c q hy;have:(0:Int)≤(k:Int)∧(k:Int)≤(y:Int):=⟨by omega,by omega⟩
  simp only [Instr.sliceBound,asIntOf,Sem.run_bind,Sem.run_pure,Result.andThen_ok];rw [if_pos this];simp
 have hbs:(Instr.sliceBounds true len cap (some (.int q (i:Int))) (some (.int q' (j:Int))) (some (.int q'' (m:Int)))).run P W= .ok (i,j,m) W:=by
  unfold Instr.sliceBounds;simp [hb m cap .slice3Acap q'' h3,hb j m .slice3B q' h2,hb i j .slice3C q h1]
 have hv:∃v,(Instr.sliceAt S (.slice (some ⟨g,0,none⟩) len cap) (some (.int q (i:Int))) (some (.int q' (j:Int))) (some (.int q'' (m:Int)))).run P W= .ok v W:=by
  simp only [Instr.sliceAt,Instr.slice,Sem.run_bind,run_underlying sl.out,Result.andThen_ok,hbs,t.sizeOf,Sem.run_pure]
  by_cases h0:m - i=0
  ·simp
  ·simp
 obtain ⟨v,hv⟩:=hv;refine bP hs hd (v:=v) (W':=W) ?_ fun a' hs'=>c a' v hs';simp only [execOp,Option.map_some,hs.ev hx,hs.ev hl,hs.ev hh,hs.ev hm,Sem.run_bind,hv,Result.andThen_ok];rfl
theorem aCN [sl:Sl P S E] [el:El P E size bytes] (hs:Slots a n L) (hw:Has G w W (aA g cur E'::R)) (hsrc:Src P size S' u m news W) (hroom:k+m≤cap) (hl:k*size+news.length≤cur.length) (c:∀a' W',Slots a' n ((d,.slice (some ⟨g,0,none⟩) (k+m) cap)::L)→Has G w W' (aA g (ov cur (k*size) news) E'::R)→wpList P ops Q rest a' W') (hx:ev L x=some (.slice (some ⟨g,0,none⟩) k cap):=by with_unfolding_all exact rfl) (hy:ev L y=some u:=by with_unfolding_all exact rfl) (hd:Nat.blt d n=true:=by with_unfolding_all exact rfl):
  wpList P ops Q (⟨some d,.call {callee:= .builtin .append,args:=#[x,y],argTypes:=#[S,S']},T,p,e,none⟩::rest) a W:=by
 obtain ⟨i,z,h1,h2,h3,h4,h5⟩:=el.out;subst h4 h5;have hg:=(hw.block In.hd).1;have hst:=oT (P:=P) (b:=g) (T:=E') (k*i.size) news 0 cur W hg (by rw [Nat.add_zero];exact hl) hsrc.one;rw [Nat.add_zero] at hst;have hr:(Builtin.append_ #[S,S'] T #[.slice (some ⟨g,0,none⟩) k cap,u]).run P W= .ok (.slice (some ⟨g,0,none⟩) (k+m) cap) (put W g (.cells ⟨ov cur (k*i.size) news⟩ E' (0,0))):=by
  rcases hsrc.kind with ⟨e',hk⟩|hk <;> simp [Builtin.append_,run_underlying sl.out,run_underlying hk,sizeOf,typeInfo,h1,hsrc.len,hsrc.cells,hroom,eF,hst]
 refine bP hs hd (v:= .slice (some ⟨g,0,none⟩) (k+m) cap) (W':=put W g (.cells ⟨ov cur (k*i.size) news⟩ E' (0,0))) ?_ fun a' hs'=>c a' _ hs' ?_
 ·simp only [execOp,resolve,invoke,builtin,Sem.run_bind,Sem.run_pure,Result.andThen_ok,List.map_toArray,List.map_cons,List.map_nil,hs.ev hx,hs.ev hy,hr]
 ·exact hw.set Upd.hd (by simp [put]) rfl rfl rfl (fun c hc=>rJ hc) (oS (iX hg))
theorem aCO {agg:Bool} [sl:Sl P S E] [t:Ty P E agg z] (hs:Slots a n L) (h1:i≤j) (h2:j≤cap) (h3:i<cap) (c:∀a',Slots a' n ((d,.slice (some ⟨g,i*z.length,none⟩) (j - i) (cap - i))::L)→wpList P ops Q rest a' W) (hx:ev L x=some (.slice (some ⟨g,0,none⟩) len cap):=by with_unfolding_all exact rfl) (hl:ev L lo=some (.int q (i:Int)):=by with_unfolding_all exact rfl) (hh:ev L hi=some (.int q' (j:Int)):=by with_unfolding_all exact rfl) (hd:Nat.blt d n=true:=by with_unfolding_all exact rfl):
  wpList P ops Q (⟨some d,.slice S x (some lo) (some hi) none,T,p,e,none⟩::rest) a W:=by
 have hb:∀(k y:Nat) (c:BoundsCode) (q:IntKind),k≤y→(Instr.sliceBound (.int q (k:Int)) y c).run P W= .ok k W:=by
  intro k y c q hy;have:(0:Int)≤(k:Int)∧(k:Int)≤(y:Int):=⟨by omega,by omega⟩
  simp only [Instr.sliceBound,asIntOf,Sem.run_bind,Sem.run_pure,Result.andThen_ok];rw [if_pos this];simp
 have hbs:(Instr.sliceBounds true len cap (some (.int q (i:Int))) (some (.int q' (j:Int))) none).run P W= .ok (i,j,cap) W:=by
  unfold Instr.sliceBounds;simp [hb j cap .sliceAcap q' h2,hb i j .sliceB q h1]
 refine bP hs hd (v:= .slice (some ⟨g,i*z.length,none⟩) (j - i) (cap - i)) (W':=W) ?_ c;simp only [execOp,Option.map_some,Option.map_none,hs.ev hx,hs.ev hl,hs.ev hh,Instr.sliceAt,Instr.slice,Sem.run_bind,run_underlying sl.out,Result.andThen_ok,hbs,t.sizeOf,Sem.run_pure];rw [if_neg (by omega)];simp [eF]
theorem aCP {agg:Bool} {o c':Nat} [sl:Sl P S E] [t:Ty P E agg z] (hs:Slots a n L) (hw:Has G w W (aA g cur E'::R)) (hz0:0<z.length) (h1:∀u∈z,u.oneCell'=true) (hl:o+z.length≤cur.length) (c:∀W',Slots a n L→Has G w W' (aA g (ov cur o z) E'::R)→wpList P ops Q rest a W') (hx:ev L x=some (.slice (some ⟨g,o,none⟩) 1 c'):=by with_unfolding_all exact rfl):
  wpList P ops Q (⟨none,.call {callee:= .builtin .clear,args:=#[x],argTypes:=#[S]},T,p,e,none⟩::rest) a W:=by
 have hg:=(hw.block In.hd).1;have hst:=oT (P:=P) (b:=g) (T:=E') o z 0 cur W hg (by rw [Nat.add_zero];exact hl) h1;rw [Nat.add_zero] at hst;obtain ⟨zv,hz1,hz2⟩:=t.zero W;have hzc:(Builtin.zeroCells zv.cells 1).toList=z:=by
  have h9:=uV z hz0 1;rw [Nat.one_mul] at h9;have h10:rep 1 z=z:=by show z ++ []=z;simp
  rw [hz2];unfold Builtin.zeroCells;rw [Array.toList_map,Array.toList_range,Nat.one_mul];exact h9.trans h10
 have hr:(Builtin.clear_ #[S] T #[.slice (some ⟨g,o,none⟩) 1 c']).run P W= .ok (.tuple #[]) (put W g (.cells ⟨ov cur o z⟩ E' (0,0))):=by
  simp [Builtin.clear_,run_underlying sl.out,hz1,hzc,hst]
 refine vF hs (v:= .tuple #[]) (W':=put W g (.cells ⟨ov cur o z⟩ E' (0,0))) ?_ fun hs'=>c _ hs' ?_
 ·simp only [execOp,resolve,invoke,builtin,Sem.run_bind,Sem.run_pure,Result.andThen_ok,List.map_toArray,List.map_cons,List.map_nil,hs.ev hx,hr]
 ·exact hw.set Upd.hd (by simp [put]) rfl rfl rfl (fun c hc=>rJ hc) (oS (iX hg))
end
end Go.Sx
