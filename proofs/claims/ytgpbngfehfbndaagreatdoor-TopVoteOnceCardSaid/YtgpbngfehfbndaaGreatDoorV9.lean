import Derived.Test.YtgpbngfehfbndaaGreatDoorV7
import Derived.Test.YtgpbngfehfbndaaGreatDoorV8
import Derived.Laws.StructEq
import Derived.IntWalk
set_option maxHeartbeats 16000000
set_option linter.all false
set_option maxRecDepth 10000
namespace Go.Sx
open Go.RowKit
theorem kV {P:Program} {d:Nat} {xs ys:List Value} {f:Field} {fs:List Field} {W:World} {x y:Value} {b:Bool} {z:List Value} (u:Ty P f.type false z) (hn:(f.name != "_")=true) (hx:xs[f.offset]? =some x) (hy:ys[f.offset]? =some y) (he:(Op.equalIn d f.type x y).run P W= .ok b W):
  (Op.eqFields d ⟨xs⟩ ⟨ys⟩ (f::fs)).run P W=if b then (Op.eqFields d ⟨xs⟩ ⟨ys⟩ fs).run P W else .ok false W:=by
 have hn':f.name≠ "_" :=by simpa using hn
 simp only [Op.eqFields,if_pos hn',Sem.run_bind,part,u.isAgg,Result.andThen_ok,Bool.false_eq_true,if_false];simp only [List.getElem?_toArray,hx,hy,Sem.run_pure,Result.andThen_ok,he];cases b <;> simp
theorem aEo {P:Program} {T TI TN TS:TypeId} {zi zn zs:List Value} [IntTy P TI .i64] [IntTy P TN .i64] [StrTy P TS] [ui:Ty P TI false zi] [un:Ty P TN false zn] [us:Ty P TS false zs] (ht:P.underlying T=some (.struct (P.fieldsOf T))) (hp:P.stoodInHeld T=false)
  (hF:(P.fieldsOf T).toList.map (fun f=>(f.name != "_",f.offset,f.type))= [(true,0,TI),(true,1,TN),(true,2,TS)]) (k n:Int) (s:ByteArray) (k' n':Int) (s':ByteArray) (W:World):
  (Op.equalIn 10000 T (.agg ⟨[.int .i64 k,.int .i64 n,.string s]⟩) (.agg ⟨[.int .i64 k',.int .i64 n',.string s']⟩)).run P W= .ok ((k == k') && (n == n') && (s.toList == s'.toList)) W:=by
 rw [run_equalIn_agg W 9999 T _ _ ht hp];obtain ⟨f0,r0,e0,m0,hr0⟩:=List.map_eq_cons_iff.1 hF;obtain ⟨f1,r1,e1,m1,hr1⟩:=List.map_eq_cons_iff.1 hr0;obtain ⟨f2,r2,e2,m2,hr2⟩:=List.map_eq_cons_iff.1 hr1;have hr3:=List.map_eq_nil_iff.1 hr2;subst hr3 e2 e1;rw [e0];simp only [Prod.mk.injEq] at m0 m1 m2;obtain ⟨a0,b0,c0⟩:=m0;obtain ⟨a1,b1,c1⟩:=m1;obtain ⟨a2,b2,c2⟩:=m2;rw [kV (x:= .int .i64 k) (y:= .int .i64 k') (b:=k == k') (z:=zi) (by rw [c0];exact ui) a0 (by rw [b0];rfl) (by rw [b0];rfl) (by rw [c0];exact run_equalIn_int W 9998 TI .i64 .i64 k k' (IntTy.out))];rw [kV (x:= .int .i64 n) (y:= .int .i64 n') (b:=n == n') (z:=zn) (by rw [c1];exact un) a1 (by rw [b1];rfl) (by rw [b1];rfl) (by rw [c1];exact run_equalIn_int W 9998 TN .i64 .i64 n n' (IntTy.out))];rw [kV (x:= .string s) (y:= .string s') (b:=s.toList == s'.toList) (z:=zs) (by rw [c2];exact us) a2 (by rw [b2];rfl) (by rw [b2];rfl) (by rw [c2];exact run_equalIn_string W 9998 TS s s' (StrTy.out))];simp only [Op.eqFields,Sem.run_pure];cases k == k' <;> cases n == n' <;> cases s.toList == s'.toList <;> rfl
end Go.Sx
namespace Go.Proofs.YtgpbngfehfbndaaGreatDoor.Sw
open Go.RowKit Go.Sx
open Go.Proofs.Tryz (prog)
def d9 (k n:Int) (s:ByteArray) (k' n':Int) (s':ByteArray):Bool:=(k == k') && (n == n') && (s.toList == s'.toList)
theorem aAO (k n:Int) (s:ByteArray) (k' n':Int) (s':ByteArray) (W:World):
  (Op.equalIn 10000 53 (.agg ⟨[.int .i64 k,.int .i64 n,.string s]⟩) (.agg ⟨[.int .i64 k',.int .i64 n',.string s']⟩)).run prog W= .ok (d9 k n s k' n' s') W:=
 aEo Tryz.underlying53 (by kernel_rfl) (by kernel_rfl:_= [(true,0,3),(true,1,2),(true,2,9)]) k n s k' n' s' W
section
variable {ops:Array Oper} {rest:List Oper} {Q:Exit→Act→World→Prop} {a:Act} {n:Nat} {L:List (Nat×Value)} {W:World} {d:Nat} {T S':TypeId} {p:String} {e:Array Edge} {x y:Operand} {k m k' m':Int} {s s':ByteArray}
theorem pD (hs:Slots a n L) (hx:ev L x=some (.agg ⟨[.int .i64 k,.int .i64 m,.string s]⟩):=by with_unfolding_all exact rfl) (hy:ev L y=some (.agg ⟨[.int .i64 k',.int .i64 m',.string s']⟩):=by with_unfolding_all exact rfl) (hd:Nat.blt d n=true:=by with_unfolding_all exact rfl)
  (c:∀a',Slots a' n ((d,.bool (d9 k m s k' m' s'))::L)→wpList prog ops Q rest a' W):wpList prog ops Q (⟨some d,.binOp .eql 53 x y S',T,p,e,none⟩::rest) a W:=
 bP hs hd (by simp only [execOp,hs.ev hx,hs.ev hy,Sem.run_bind];rw [run_eqGuard_agg W .eql 53 x y _ _ (by kernel_rfl)];simp only [Result.andThen_ok];rw [run_eql_struct,aAO];rfl) c
theorem vU (hs:Slots a n L) (hx:ev L x=some (.agg ⟨[.int .i64 k,.int .i64 m,.string s]⟩):=by with_unfolding_all exact rfl) (hy:ev L y=some (.agg ⟨[.int .i64 k',.int .i64 m',.string s']⟩):=by with_unfolding_all exact rfl) (hd:Nat.blt d n=true:=by with_unfolding_all exact rfl)
  (c:∀a',Slots a' n ((d,.bool (!d9 k m s k' m' s'))::L)→wpList prog ops Q rest a' W):wpList prog ops Q (⟨some d,.binOp .neq 53 x y S',T,p,e,none⟩::rest) a W:=
 bP hs hd (by simp only [execOp,hs.ev hx,hs.ev hy,Sem.run_bind];rw [run_eqGuard_agg W .neq 53 x y _ _ (by kernel_rfl)];simp only [Result.andThen_ok];rw [run_neq_struct,aAO];rfl) c
end
theorem pE (x:Option (Int ⊕ ByteArray)):[dN x].all (·.oneCell')=true:=by rcases x with _|n|s <;> rfl
theorem aAP (k n:Int) (s:ByteArray) (w:World) (hs0:s.size≤9223372036854775807) (hT:Tabs w):
  Calls prog 273 ⟨[.agg #[.int .i64 k,.int .i64 n,.string s]]⟩ w fun e w'=>e= .returned (.bool ((bV k n s).2 == 0))∧Below w.heap.size w w':=by
 have hw:=Has.start (G:=0) (w:=w) (Nat.zero_le _);refine en Tryz.func273 Tryz.ntmps273 fun a hs=>?_
 repeat (first|(refine sxv hs hw ?_;clear hs;intro a hs)|refine sxc hs ?_|(refine sxa hs hw ?_;clear hs hw;intro a b W hw hs)|(refine sxs hs hw ?_;clear hs hw;intro W hs hw))
 refine aH hs (hc:=lO k n s _ hs0 (hT.keep (hw.end inn))) (k:=?_);rintro e0 W1 ⟨rfl,hb⟩;refine ⟨_,rfl,?_⟩;clear hs;intro a hs;replace hw:=hw.below hb;clear hb
 repeat (first|(refine sxv hs hw ?_;clear hs;intro a hs)|refine sxc hs ?_|(refine sxa hs hw ?_;clear hs hw;intro a b W hw hs)|(refine sxs hs hw ?_;clear hs hw;intro W hs hw))
 refine d7 hs (hw:=hw) (h1:=pE (bV k n s).1) (k:=?_);clear hs hw;intro W hs hw;refine zA hs hw ?_;clear hs;intro a hs;exact rt1 hs rfl rfl ⟨rfl,hw.end inn⟩
def e7 (kind:Int) (key:ByteArray) (vk vn:Int) (vs:ByteArray) (ok on:Int) (os:ByteArray) (n:Int):Bool:=
 Ph.keyB key.data.toList && ((bV vk vn vs).2 == 0) && ((bV ok on os).2 == 0) &&
  (if kind=1 then !d9 vk vn vs 0 0 ⟨#[]⟩ && d9 ok on os 0 0 ⟨#[]⟩ && (n == 0)
   else if kind=2 then d9 vk vn vs 0 0 ⟨#[]⟩ && d9 ok on os 0 0 ⟨#[]⟩ && (n == 0)
   else if kind=3 then (!d9 vk vn vs 0 0 ⟨#[]⟩ || !d9 ok on os 0 0 ⟨#[]⟩) && (n == 0)
   else if kind=4 then d9 vk vn vs 0 0 ⟨#[]⟩ && d9 ok on os 0 0 ⟨#[]⟩ && decide (n≥-1099511627776) && decide (n≤1099511627776)
   else false)
theorem aAQ (kind:Int) (key:ByteArray) (vk vn:Int) (vs:ByteArray) (ok on:Int) (os:ByteArray) (n:Int) (w:World) (hs0:key.size≤9223372036854775807) (hs1:vs.size≤9223372036854775807) (hs2:os.size≤9223372036854775807) (hT:Tabs w):
  Calls prog 245 ⟨[.agg #[.int .i64 kind,.string key,.int .i64 vk,.int .i64 vn,.string vs,.int .i64 ok,.int .i64 on,.string os,.int .i64 n]]⟩ w fun e w'=>e= .returned (.bool (e7 kind key vk vn vs ok on os n))∧Below w.heap.size w w':=by
 have hw:=Has.start (G:=0) (w:=w) (Nat.zero_le _);refine en Tryz.func245 Tryz.ntmps245 fun a hs=>?_
 repeat (first|(refine sxv hs hw ?_;clear hs;intro a hs)|refine sxc hs ?_|(refine sxa hs hw ?_;clear hs hw;intro a b W hw hs)|(refine sxs hs hw ?_;clear hs hw;intro W hs hw))
 refine aH hs (hc:=aEn key _ hs0 (hT.keep (hw.end inn))) (k:=?_);rintro e0 W1 ⟨rfl,hb⟩;refine ⟨_,rfl,?_⟩;clear hs;intro a hs;replace hw:=hw.below hb;clear hb;cases h1:(Ph.keyB key.data.toList) with
 |false=>
  rw [h1] at hs;refine zA hs hw ?_;clear hs;intro a hs;exact rt1 hs rfl rfl ⟨by simp [e7,h1],hw.end inn⟩
 |true=>
  rw [h1] at hs;refine zA hs hw ?_;clear hs;intro a hs;refine aH hs (hc:=aAP vk vn vs _ hs1 (hT.keep (hw.end inn))) (k:=?_);rintro e0 W1 ⟨rfl,hb⟩;refine ⟨_,rfl,?_⟩;clear hs;intro a hs;replace hw:=hw.below hb;clear hb;cases h2:((bV vk vn vs).2 == 0) with
  |false=>
   rw [h2] at hs;refine zA hs hw ?_;clear hs;intro a hs;exact rt1 hs rfl rfl ⟨by simp [e7,h1,h2],hw.end inn⟩
  |true=>
   rw [h2] at hs;refine zA hs hw ?_;clear hs;intro a hs;refine aH hs (hc:=aAP ok on os _ hs2 (hT.keep (hw.end inn))) (k:=?_);rintro e0 W1 ⟨rfl,hb⟩;refine ⟨_,rfl,?_⟩;clear hs;intro a hs;replace hw:=hw.below hb;clear hb;cases h3:((bV ok on os).2 == 0) with
   |false=>
    rw [h3] at hs;refine zA hs hw ?_;clear hs;intro a hs;exact rt1 hs rfl rfl ⟨by simp [e7,h1,h2,h3],hw.end inn⟩
   |true=>
    rw [h3] at hs
    repeat (first|(refine sxv hs hw ?_;clear hs;intro a hs)|refine sxc hs ?_|(refine sxa hs hw ?_;clear hs hw;intro a b W hw hs)|(refine sxs hs hw ?_;clear hs hw;intro W hs hw))
    by_cases k1:kind=1
    ·subst k1;refine zA hs hw ?_;clear hs;intro a hs;refine vU hs (c:=?_);clear hs;intro a hs;cases h4:(d9 vk vn vs 0 0 ⟨#[]⟩) with
     |false=>
      rw [h4] at hs;refine zA hs hw ?_;clear hs;intro a hs;refine pD hs (c:=?_);clear hs;intro a hs;cases h5:(d9 ok on os 0 0 ⟨#[]⟩) with
      |false=>
       rw [h5] at hs;refine zA hs hw ?_;clear hs;intro a hs;exact rt1 hs rfl rfl ⟨by simp [e7,h1,h2,h3,h4,h5],hw.end inn⟩
      |true=>
       rw [h5] at hs;refine zA hs hw ?_;clear hs;intro a hs;exact rt1 hs rfl rfl ⟨by simp [e7,h1,h2,h3,h4,h5],hw.end inn⟩
     |true=>
      rw [h4] at hs;refine zA hs hw ?_;clear hs;intro a hs;exact rt1 hs rfl rfl ⟨by simp [e7,h1,h2,h3,h4],hw.end inn⟩
    have e1:(kind == 1)=false:=by simpa using k1
    rw [e1] at hs;refine zA hs hw ?_;clear hs;intro a hs
    by_cases k2:kind=2
    ·subst k2;refine zA hs hw ?_;clear hs;intro a hs;refine pD hs (c:=?_);clear hs;intro a hs;cases h4:(d9 vk vn vs 0 0 ⟨#[]⟩) with
     |false=>
      rw [h4] at hs;refine zA hs hw ?_;clear hs;intro a hs;exact rt1 hs rfl rfl ⟨by simp [e7,h1,h2,h3,h4],hw.end inn⟩
     |true=>
      rw [h4] at hs;refine zA hs hw ?_;clear hs;intro a hs;refine pD hs (c:=?_);clear hs;intro a hs;cases h5:(d9 ok on os 0 0 ⟨#[]⟩) with
      |false=>
       rw [h5] at hs;refine zA hs hw ?_;clear hs;intro a hs;exact rt1 hs rfl rfl ⟨by simp [e7,h1,h2,h3,h4,h5],hw.end inn⟩
      |true=>
       rw [h5] at hs;refine zA hs hw ?_;clear hs;intro a hs;exact rt1 hs rfl rfl ⟨by simp [e7,h1,h2,h3,h4,h5],hw.end inn⟩
    have e2:(kind == 2)=false:=by simpa using k2
    rw [e2] at hs;refine zA hs hw ?_;clear hs;intro a hs
    by_cases k3:kind=3
    ·subst k3;refine zA hs hw ?_;clear hs;intro a hs;refine vU hs (c:=?_);clear hs;intro a hs;cases h4:(d9 vk vn vs 0 0 ⟨#[]⟩) with
     |false=>
      rw [h4] at hs;refine zA hs hw ?_;clear hs;intro a hs;exact rt1 hs rfl rfl ⟨by simp [e7,h1,h2,h3,h4],hw.end inn⟩
     |true=>
      rw [h4] at hs;refine zA hs hw ?_;clear hs;intro a hs;refine vU hs (c:=?_);clear hs;intro a hs;cases h5:(d9 ok on os 0 0 ⟨#[]⟩) with
      |false=>
       rw [h5] at hs;refine zA hs hw ?_;clear hs;intro a hs;exact rt1 hs rfl rfl ⟨by simp [e7,h1,h2,h3,h4,h5],hw.end inn⟩
      |true=>
       rw [h5] at hs;refine zA hs hw ?_;clear hs;intro a hs;exact rt1 hs rfl rfl ⟨by simp [e7,h1,h2,h3,h4,h5],hw.end inn⟩
    have e3:(kind == 3)=false:=by simpa using k3
    rw [e3] at hs;refine zA hs hw ?_;clear hs;intro a hs
    by_cases k4:kind=4
    ·subst k4;refine zA hs hw ?_;clear hs;intro a hs;refine pD hs (c:=?_);clear hs;intro a hs;cases h4:(d9 vk vn vs 0 0 ⟨#[]⟩) with
     |false=>
      rw [h4] at hs;refine zA hs hw ?_;clear hs;intro a hs;exact rt1 hs rfl rfl ⟨by simp [e7,h1,h2,h3,h4],hw.end inn⟩
     |true=>
      rw [h4] at hs;refine zA hs hw ?_;clear hs;intro a hs;refine pD hs (c:=?_);clear hs;intro a hs;cases h5:(d9 ok on os 0 0 ⟨#[]⟩) with
      |false=>
       rw [h5] at hs;refine zA hs hw ?_;clear hs;intro a hs;exact rt1 hs rfl rfl ⟨by simp [e7,h1,h2,h3,h4,h5],hw.end inn⟩
      |true=>
       rw [h5] at hs;refine zA hs hw ?_;clear hs;intro a hs;cases h6:(decide (n≥-1099511627776)) with
       |false=>
        rw [h6] at hs;refine zA hs hw ?_;clear hs;intro a hs;exact rt1 hs rfl rfl ⟨by simp [e7,h1,h2,h3,h4,h5,h6],hw.end inn⟩
       |true=>
        rw [h6] at hs;refine zA hs hw ?_;clear hs;intro a hs;exact rt1 hs rfl rfl ⟨by simp [e7,h1,h2,h3,h4,h5,h6],hw.end inn⟩
    have e4:(kind == 4)=false:=by simpa using k4
    rw [e4] at hs;refine zA hs hw ?_;clear hs;intro a hs;exact rt1 hs rfl rfl ⟨by simp [e7,h1,h2,h3,k1,k2,k3,k4],hw.end inn⟩
end Go.Proofs.YtgpbngfehfbndaaGreatDoor.Sw
namespace Go.Sx
theorem Has.call {w0 W W':World} {R:List Res} {r:Res} (h:Has 0 w0 W R) (k:Has 0 W W' (r::Old W 0:: [])):Has 0 w0 W' (r::R):=by
 have hb:=k.end (In.tl In.hd);obtain ⟨F1,a1,a2,F2,b1,b2,_⟩:=k.has;have h1:=h.below hb;refine ⟨h1.ext,h1.glob,F1,a1,a2,?_⟩;exact (h.has.loc fun b hb'=>hb.block b hb'.2).mono fun b hb'=>⟨⟨hb'.1,Nat.lt_of_lt_of_le hb'.2 hb.size⟩,fun hF=>(b1 b ((b2 b (Nat.zero_le _) hb'.2).1)).2 hF⟩
theorem Has.swap2 {G:Nat} {w W:World} {r q:Res} {R:List Res} (h:Has G w W (r::q::R)):Has G w W (q::r::R):=⟨h.ext,h.glob,HasIn.swap h.has⟩
theorem Has.drop2 {G:Nat} {w W:World} {r q:Res} {R:List Res} (h:Has G w W (r::q::R)):Has G w W (r::R):=h.sub (List.Sublist.cons_cons _ (List.Sublist.cons _ (List.Sublist.refl _)))
theorem Has.own_slice {G:Nat} {w W:World} {E:TypeId} {size n:Nat} {v:Value} {xs:List Value} {R:List Res} (h:Has G w W (Own E size v n xs::R)):∃ad cap,v= .slice ad n cap:=by
 obtain ⟨_,ad,cap,e,_⟩:=h.rd_own In.hd;exact ⟨ad,cap,e⟩
end Go.Sx
namespace Go.Proofs.YtgpbngfehfbndaaGreatDoor.Sw
open Go.RowKit Go.Sx
open Go.Proofs.Tryz (prog)
structure OpD where
 kind:Int
 key:ByteArray
 vk:Int
 vn:Int
 vs:ByteArray
 ok:Int
 on:Int
 os:ByteArray
 n:Int
def bZ (o:OpD):List Value:=[.int .i64 o.kind,.string o.key,.int .i64 o.vk,.int .i64 o.vn,.string o.vs,.int .i64 o.ok,.int .i64 o.on,.string o.os,.int .i64 o.n]
def opB (o:OpD):List UInt8:=Ph.putI o.kind ++ Ph.putT o.key.data.toList ++ (if o.kind=3 then cS o.vk o.vn o.vs ++ cS o.ok o.on o.os else if o.kind=1 then cS o.vk o.vn o.vs else if o.kind=4 then Ph.putI o.n else [])
def iJ (c q n:Int):List UInt8:=Ph.putI c ++ Ph.putI q ++ Ph.putI n
def eA (c q:Int) (l:List OpD):List UInt8:=iJ c q l.length ++ l.flatMap opB
def i64 (n:Int):Prop:= -9223372036854775808≤n∧n≤9223372036854775807
structure OpOk (o:OpD):Prop where
 kind:i64 o.kind
 vk:i64 o.vk
 vn:i64 o.vn
 ok:i64 o.ok
 on:i64 o.on
 n:i64 o.n
 key:o.key.size≤1000000
 vs:o.vs.size≤1000000
 os:o.os.size≤1000000
theorem mJ (s:ByteArray):(Ph.putT s.data.toList).length≤10+s.size:=by
 have hd:s.data.toList.length=s.size:=by rw [Array.length_toList];rfl
 unfold Ph.putT;have:=Ph.putI_length_le s.data.toList.length;rw [List.length_append,hd];rw [hd] at this;omega
theorem vV (k n:Int) (s:ByteArray):(cS k n s).length≤30+s.size:=by
 unfold cS;have h1:=Ph.putI_length_le k;have h2:=Ph.putI_length_le n;have h3:=mJ s;rw [List.length_append];split
 ·omega
 ·split
  ·omega
  ·simp;omega
theorem aEp {o:OpD} (h:OpOk o):(opB o).length≤3200000:=by
 have h1:=Ph.putI_length_le o.kind;have h2:=mJ o.key;have h3:=vV o.vk o.vn o.vs;have h4:=vV o.ok o.on o.os;have h5:=Ph.putI_length_le o.n;have:=h.key;have:=h.vs;have:=h.os;unfold opB;rw [List.length_append,List.length_append];split
 ·rw [List.length_append];omega
 ·split
  ·omega
  ·split
   ·omega
   ·simp;omega
theorem aAR (c q n:Int):(iJ c q n).length≤30:=by
 have h1:=Ph.putI_length_le c;have h2:=Ph.putI_length_le q;have h3:=Ph.putI_length_le n;unfold iJ;rw [List.length_append,List.length_append];omega
theorem aEq {l:List OpD} (h:∀o∈l,OpOk o):(l.flatMap opB).length≤3200000*l.length:=by
 induction l with
 |nil=>simp
 |cons o l ih=>
  have h1:=aEp (h o (by simp));have h2:=ih fun x hx=>h x (by simp [hx]);rw [List.flatMap_cons,List.length_append,List.length_cons];omega
def lP (c q n:Int):Nat→List UInt8
 |0=>[]
 |1=>Ph.putI c
 |2=>Ph.putI c ++ Ph.putI q
 |_=>iJ c q n
theorem vW (c q n:Int) (i:Nat):(lP c q n i).length≤30:=by
 have h1:=Ph.putI_length_le c;have h2:=Ph.putI_length_le q;unfold lP;split
 ·simp
 ·omega
 ·rw [List.length_append];omega
 ·exact aAR c q n
theorem vX:∀(l:List OpD) (i:Nat) (o:OpD),l[i]? =some o→((l.flatMap bZ).drop (i*9)).take 9=bZ o
 | [],i,o,h=>by simp at h
 |x::l,0,o,h=>by
  simp only [List.getElem?_cons_zero,Option.some.injEq] at h;subst h;rw [List.flatMap_cons,Nat.zero_mul,List.drop_zero];exact List.take_left' rfl
 |x::l,i+1,o,h=>by
  rw [List.getElem?_cons_succ] at h;rw [List.flatMap_cons,show (i+1)*9=(bZ x).length+i*9 from by rw [Nat.add_mul];show _=9+_;omega,List.drop_append];rw [List.drop_of_length_le (by omega),List.nil_append,show (bZ x).length+i*9 - (bZ x).length=i*9 from by omega];exact vX l i o h
section
variable {ops:Array Oper} {rest:List Oper} {Q:Exit→Act→World→Prop} {a:Act} {n:Nat} {L:List (Nat×Value)} {W:World} {d:Nat} {T:TypeId} {p:String} {e:Array Edge} {x y:Operand} {v:Value} {q:IntKind}
theorem vY {l:List OpD} {i:Nat} {o:OpD} (hs:Slots a n L) (r:Rd W 9 v l.length (l.flatMap bZ)) (ho:l[i]? =some o) (hx:ev L x=some v:=by with_unfolding_all exact rfl) (hy:ev L y=some (.int q (i:Int)):=by with_unfolding_all exact rfl) (hd:Nat.blt d n=true:=by with_unfolding_all exact rfl)
  (c:∀a' b off,(∀j u,(bZ o)[j]? =some u→W.cell? ⟨b,off+j,none⟩=some u)→Slots a' n ((d,.pointer (some ⟨b,off,none⟩))::L)→wpList prog ops Q rest a' W):wpList prog ops Q (⟨some d,.indexAddr 64 x y,T,p,e,none⟩::rest) a W:=by
 have hi:i<l.length:=(List.getElem?_eq_some_iff.1 ho).1;refine uT (z:=bZ ⟨0,⟨#[]⟩,0,0,⟨#[]⟩,0,0,⟨#[]⟩,0⟩) hs hx hy r (by omega) (by omega) hd fun a' b off h1 h2 h3=>c a' b off (fun j u hu=>h1 j u ?_) h3;rw [gB,Int.toNat_natCast];exact (congrArg (fun t=>t[j]?) (vX l i o ho)).trans hu
end
theorem aAS (c q:Int) (l:List OpD) (sv:Value) (w:World) (hc:i64 c) (hq:i64 q) (hl:l.length≤100) (ho:∀o∈l,OpOk o) (r:Rd w 9 sv l.length (l.flatMap bZ)):
  Calls prog 194 ⟨[.agg ⟨[.int .i64 c,.int .i64 q,sv]⟩]⟩ w fun e w'=>∃ad cap,e= .returned (.slice ad (eA c q l).length cap)∧Has 0 w w' (OwnB 5 (.slice ad (eA c q l).length cap) (eA c q l)::Old w 0:: []):=by
 have hw:=Has.start (G:=0) (w:=w) (Nat.zero_le _);obtain ⟨sad,scap,rfl⟩:∃ad cap,sv= .slice ad l.length cap:=by obtain ⟨_,ad,cap,e,_⟩:=r;exact ⟨ad,cap,e⟩
 refine en Tryz.func194 Tryz.ntmps194 fun a hs=>?_
 repeat (first|(refine sxv hs hw ?_;clear hs;intro a hs)|refine sxc hs ?_|(refine sxa hs hw ?_;clear hs hw;intro a b W hw hs)|(refine sxs hs hw ?_;clear hs hw;intro W hs hw))
 obtain ⟨b2,q2⟩:=nm1 hw;subst q2;obtain ⟨b1,q1⟩:=nm2 hw;subst q1;have hw:=hw.nilB 5;have hw:Has 0 w _ (Sx.OwnB 5 (.slice none 0 0) []:: [aA b2 [.int .i64 c,.int .i64 q,.int .i64 (l.length:Int)] 2,aA b1 [.int .i64 c,.int .i64 q,.slice sad l.length scap] 66,Old w 0]):=hw;refine bX (σ:=Value×Nat) (fun s=>[(1,.pointer (some ⟨b1,0,none⟩)),(3,s.1),(15,.slice (some ⟨b2,0,none⟩) 3 3),(16,.int .i64 3),(17,.int .i64 s.2)]) (fun s=>OwnB 5 s.1 (lP c q l.length s.2):: [aA b2 [.int .i64 c,.int .i64 q,.int .i64 (l.length:Int)] 2,aA b1 [.int .i64 c,.int .i64 q,.slice sad l.length scap] 66,Old w 0]) (fun s=>s.2≤3) (fun s=>3 - s.2) (.slice none 0 0,0) (by decide) hs ⟨rfl,rfl,rfl,rfl,rfl,trivial⟩ hw ?_;clear hs hw;rintro ⟨v,i⟩ a W hi hs hw;simp only at hi hs hw;refine zA hs hw ?_;clear hs;intro a hs;obtain rfl|rfl|rfl|rfl:i=0∨i=1∨i=2∨i=3:=by omega
 ·refine zG hs ?_;refine eL hs (h0:=by decide) (h1:=by decide) (c:=?_);clear hs;intro a hs;refine zA hs hw ?_;clear hs;intro a hs;refine aH hs (hc:=eS w _ _ (lP c q l.length 0) c _ hc.1 hc.2 (by have:=vW c q l.length 0;omega) hw) (k:=?_);rintro e0 W1 ⟨ad,cap,rfl,hw1⟩;refine ⟨_,rfl,?_⟩;clear hs hw;intro a hs;have hw:=hw1;clear hw1;refine zA hs hw ?_;clear hs;intro a hs;refine bS (_,1) hs hw (by show 1≤3;decide) (by show 3 - 1<3 - 0;decide) ⟨rfl,rfl,rfl,rfl,rfl,trivial⟩
 ·refine zG hs ?_;refine eL hs (h0:=by decide) (h1:=by decide) (c:=?_);clear hs;intro a hs;refine zA hs hw ?_;clear hs;intro a hs;refine aH hs (hc:=eS w _ _ (lP c q l.length 1) q _ hq.1 hq.2 (by have:=vW c q l.length 1;omega) hw) (k:=?_);rintro e0 W1 ⟨ad,cap,rfl,hw1⟩;refine ⟨_,rfl,?_⟩;clear hs hw;intro a hs;have hw:=hw1;clear hw1;refine zA hs hw ?_;clear hs;intro a hs;refine bS (_,2) hs hw (by show 2≤3;decide) (by show 3 - 2<3 - 1;decide) ⟨rfl,rfl,rfl,rfl,rfl,trivial⟩
 ·refine zG hs ?_;refine eL hs (h0:=by decide) (h1:=by decide) (c:=?_);clear hs;intro a hs;refine zA hs hw ?_;clear hs;intro a hs;refine aH hs (hc:=eS w _ _ (lP c q l.length 2) (l.length:Int) _ (by omega) (by omega) (by have:=vW c q l.length 2;omega) hw) (k:=?_);rintro e0 W1 ⟨ad,cap,rfl,hw1⟩;refine ⟨_,rfl,?_⟩;clear hs hw;intro a hs;have hw:=hw1;clear hw1;refine zA hs hw ?_;clear hs;intro a hs;refine bS (_,3) hs hw (by show 3≤3;decide) (by show 3 - 3<3 - 2;decide) ⟨rfl,rfl,rfl,rfl,rfl,trivial⟩
 ·
  refine zA hs hw ?_;clear hs;intro a hs;refine bX (σ:=Value×Nat) (fun s=>[(3,s.1),(26,.slice sad l.length scap),(27,.int .i64 (l.length:Int)),(28,.int .i64 (s.2:Int))]) (fun s=>Sx.OwnB 5 s.1 (iJ c q l.length ++ (l.take s.2).flatMap opB)::aA b2 [.int .i64 c,.int .i64 q,.int .i64 (l.length:Int)] 2::aA b1 [.int .i64 c,.int .i64 q,.slice sad l.length scap] 66::Old w 0:: []) (fun s=>s.2≤l.length) (fun s=>l.length - s.2) (v,0) (Nat.zero_le _) hs ⟨rfl,rfl,rfl,rfl,trivial⟩ (by rw [show (iJ c q l.length ++ (l.take 0).flatMap opB)=lP c q l.length 3 from by simp [lP]];exact hw) ?_;clear hs hw hi;rintro ⟨v,i⟩ a W hi hs hw;simp only at hi hs hw;refine zA hs hw ?_;clear hs;intro a hs;refine cI hs (kt:=fun hc=>?_) (kf:=fun hc=>?_)
  ·have hi':i<l.length:=by simpa using hc
   obtain ⟨o,hoi⟩:∃o,l[i]? =some o:=⟨l[i],List.getElem?_eq_getElem hi'⟩
   have hok:=ho o (List.mem_of_getElem? hoi);have hacc:(iJ c q l.length ++ (l.take i).flatMap opB).length≤320000030:=by
    have h1:=aAR c q l.length;have h2:=aEq (l:=l.take i) fun x hx=>ho x (List.mem_of_mem_take hx);rw [List.length_take] at h2;rw [List.length_append];omega
   have hnext:iJ c q l.length ++ (l.take (i+1)).flatMap opB=iJ c q l.length ++ (l.take i).flatMap opB ++ opB o:=by
    rw [List.take_add_one,hoi,List.flatMap_append,List.append_assoc];simp
   generalize iJ c q l.length ++ (l.take i).flatMap opB=acc at *;have hp1:=Ph.putI_length_le o.kind;have hp2:=mJ o.key;have hp3:=vV o.vk o.vn o.vs;obtain ⟨hk,hvk,hvn,hok',hon,hn,hkey,hvs,hos⟩:=hok;refine zG hs ?_;refine vY hs (r:=hw.rd inn hw.ext.size r) (ho:=hoi) (c:=?_);clear hs;intro a p off hpc hs;refine eC (z:=bZ ⟨0,⟨#[]⟩,0,0,⟨#[]⟩,0,0,⟨#[]⟩,0⟩) hs (hc:=hpc) (hl:=rfl) (c:=?_);clear hs;intro a hs;obtain ⟨kind,key,vk,vn,vs,ok,on,os,n⟩:=o;simp only at hk hvk hvn hok' hon hn hkey hvs hos hp1 hp2 hp3;simp only [bZ] at hs;clear hpc
   repeat (first|(refine sxv hs hw ?_;clear hs;intro a hs)|refine sxc hs ?_|(refine sxa hs hw ?_;clear hs hw;intro a b W hw hs)|(refine sxs hs hw ?_;clear hs hw;intro W hs hw))
   obtain ⟨b4,q4⟩:=nm1 hw;subst q4;have hw:Has 0 w _ (aA b4 [.int .i64 kind,.string key,.int .i64 vk,.int .i64 vn,.string vs,.int .i64 ok,.int .i64 on,.string os,.int .i64 n] 55::Sx.OwnB 5 v acc::aA b2 [.int .i64 c,.int .i64 q,.int .i64 (l.length:Int)] 2::aA b1 [.int .i64 c,.int .i64 q,.slice sad l.length scap] 66::Old w 0:: []):=hw;have hw:=hw.swap2;refine fV (σ:=Option Addr×Nat) (V:=fun u=>[v,.pointer (some ⟨b4,0+0,none⟩),.int .i64 kind,(.slice (u 3).1 (acc ++ Ph.putI kind).length (u 3).2),.pointer (some ⟨b4,0+1,none⟩),.string key,(.slice (u 6).1 (acc ++ Ph.putI kind ++ Ph.putT key.data.toList).length (u 6).2),(.slice (u 7).1 (acc ++ Ph.putI kind ++ Ph.putT key.data.toList).length (u 7).2)])
    (Rs:=fun u D=>(if D 7 then Sx.OwnB 5 (.slice (u 7).1 (acc ++ Ph.putI kind ++ Ph.putT key.data.toList).length (u 7).2) (acc ++ Ph.putI kind ++ Ph.putT key.data.toList) else if D 6 then Sx.OwnB 5 (.slice (u 6).1 (acc ++ Ph.putI kind ++ Ph.putT key.data.toList).length (u 6).2) (acc ++ Ph.putI kind ++ Ph.putT key.data.toList) else if D 3 then Sx.OwnB 5 (.slice (u 3).1 (acc ++ Ph.putI kind).length (u 3).2) (acc ++ Ph.putI kind) else Sx.OwnB 5 v acc)::aA b4 [.int .i64 kind,.string key,.int .i64 vk,.int .i64 vn,.string vs,.int .i64 ok,.int .i64 on,.string os,.int .i64 n] 55::aA b2 [.int .i64 c,.int .i64 q,.int .i64 (l.length:Int)] 2::aA b1 [.int .i64 c,.int .i64 q,.slice sad l.length scap] 66::Old w 0:: []) (fun _=>(none,0)) hs hw (hVu:=?vu_a) (ho:=⟨?_,?_,?_,?c3_a,?_,?_,?c6_a,?c7_a,trivial⟩) (k:=?k_a)
   case vu_a=>
    intro u u' j h;rcases j with _|_|_|_|_|_|_|_|j
    ·rfl
    ·rfl
    ·rfl
    ·simp [h]
    ·rfl
    ·rfl
    ·simp [h]
    ·simp [h]
    ·rfl
   case c3_a=>
    intro u LD D a W hcl hi hp hs hw;have h6:=Go.Sx.not_done hcl hi 6 (by kernel_rfl);have h7:=Go.Sx.not_done hcl h6 7 (by kernel_rfl);simp only [hi,h6,h7,Bool.false_eq_true,if_false] at hw;refine aH hs (hc:=eS w _ _ acc kind _ hk.1 hk.2 (by omega) hw) (k:=?_);rintro e0 W1 ⟨ad,cap,rfl,hw1⟩;refine ⟨_,rfl,?_⟩;clear hs hw;intro a hs;have hw:=hw1;clear hw1;refine zG hs ?_;refine Or.inr ⟨(ad,cap),hs,?_⟩;show Has 0 w _ ((if (Nat.beq 7 3 || D 7)=true then _ else if (Nat.beq 6 3 || D 6)=true then _ else _)::_);rw [h6,h7];exact hw
   case c6_a=>
    intro u LD D a W hcl hi hp hs hw;have h7:=Go.Sx.not_done hcl hi 7 (by kernel_rfl);have h3:=Go.Sx.done hp 3 (by kernel_rfl);simp only [hi,h3,h7,Bool.false_eq_true,if_false,if_true] at hw;refine aH hs (hc:=o4 w _ _ (acc ++ Ph.putI kind) key _ (by omega) (by rw [List.length_append];omega) hw) (k:=?_);rintro e0 W1 ⟨ad,cap,rfl,hw1⟩;refine ⟨_,rfl,?_⟩;clear hs hw;intro a hs;have hw:=hw1;clear hw1;refine zG hs ?_;refine Or.inr ⟨(ad,cap),hs,?_⟩;show Has 0 w _ ((if (Nat.beq 7 6 || D 7)=true then _ else _)::_);rw [h7];exact hw
   case c7_a=>
    intro u LD D a W hcl hi hp hs hw;have h6:=Go.Sx.done hp 6 (by kernel_rfl);simp only [hi,h6,Bool.false_eq_true,if_false,if_true] at hw;refine zA hs hw ?_;clear hs;intro a hs;exact Or.inr ⟨u 6,hs,hw⟩
   case k_a=>
    clear hs hw;intro u a W hs hw;replace hw:Has 0 w W (Sx.OwnB 5 (.slice (u 7).1 (acc ++ Ph.putI kind ++ Ph.putT key.data.toList).length (u 7).2) (acc ++ Ph.putI kind ++ Ph.putT key.data.toList)::aA b4 [.int .i64 kind,.string key,.int .i64 vk,.int .i64 vn,.string vs,.int .i64 ok,.int .i64 on,.string os,.int .i64 n] 55::aA b2 [.int .i64 c,.int .i64 q,.int .i64 (l.length:Int)] 2::aA b1 [.int .i64 c,.int .i64 q,.slice sad l.length scap] 66::Old w 0:: []):=hw;replace hs:Slots a 64 [(3,(.slice (u 7).1 (acc ++ Ph.putI kind ++ Ph.putT key.data.toList).length (u 7).2)),(7,.pointer (some ⟨b4,0,none⟩)),(26,.slice sad l.length scap),(27,.int .i64 (l.length:Int)),(28,.int .i64 (i:Int))]:=hs.ot;generalize (u 7).1=ad1 at *;generalize (u 7).2=cap1 at *;clear u;have hlen2:(acc ++ Ph.putI kind ++ Ph.putT key.data.toList).length≤322000060:=by simp only [List.length_append];omega
    generalize hA:acc ++ Ph.putI kind ++ Ph.putT key.data.toList=acc2 at *;generalize Value.slice ad1 acc2.length cap1=v at *;refine zA hs hw ?_;clear hs;intro a hs
    by_cases k3:kind=3
    ·subst k3;refine zG hs ?_;refine fV (σ:=Option Addr×Nat) (V:=fun u=>[v,.pointer (some ⟨b4,0+2,none⟩),.agg ⟨[.int .i64 vk,.int .i64 vn,.string vs]⟩,(.slice (u 3).1 (acc2 ++ cS vk vn vs).length (u 3).2),.pointer (some ⟨b4,0+5,none⟩),.agg ⟨[.int .i64 ok,.int .i64 on,.string os]⟩,(.slice (u 6).1 (acc2 ++ cS vk vn vs ++ cS ok on os).length (u 6).2),(.slice (u 7).1 (acc2 ++ cS vk vn vs ++ cS ok on os).length (u 7).2)])
      (Rs:=fun u D=>(if D 7 then Sx.OwnB 5 (.slice (u 7).1 (acc2 ++ cS vk vn vs ++ cS ok on os).length (u 7).2) (acc2 ++ cS vk vn vs ++ cS ok on os) else if D 6 then Sx.OwnB 5 (.slice (u 6).1 (acc2 ++ cS vk vn vs ++ cS ok on os).length (u 6).2) (acc2 ++ cS vk vn vs ++ cS ok on os) else if D 3 then Sx.OwnB 5 (.slice (u 3).1 (acc2 ++ cS vk vn vs).length (u 3).2) (acc2 ++ cS vk vn vs) else Sx.OwnB 5 v acc2)::aA b4 [.int .i64 3,.string key,.int .i64 vk,.int .i64 vn,.string vs,.int .i64 ok,.int .i64 on,.string os,.int .i64 n] 55::aA b2 [.int .i64 c,.int .i64 q,.int .i64 (l.length:Int)] 2::aA b1 [.int .i64 c,.int .i64 q,.slice sad l.length scap] 66::Old w 0:: []) (fun _=>(none,0)) hs hw (hVu:=?vu_b) (ho:=⟨?_,?_,?_,?c3_b,?_,?_,?c6_b,?c7_b,trivial⟩) (k:=?k_b)
     case vu_b=>
      intro u u' j h;rcases j with _|_|_|_|_|_|_|_|j
      ·rfl
      ·rfl
      ·rfl
      ·simp [h]
      ·rfl
      ·rfl
      ·simp [h]
      ·simp [h]
      ·rfl
     case c3_b=>
      intro u LD D a W hcl hi hp hs hw;have h6:=Go.Sx.not_done hcl hi 6 (by kernel_rfl);have h7:=Go.Sx.not_done hcl h6 7 (by kernel_rfl);simp only [hi,h6,h7,Bool.false_eq_true,if_false] at hw;refine aH hs (hc:=vC w _ _ acc2 vk vn vs _ hvk.1 hvk.2 hvn.1 hvn.2 (by omega) (by omega) hw) (k:=?_);rintro e0 W1 ⟨ad,cap,rfl,hw1⟩;refine ⟨_,rfl,?_⟩;clear hs hw;intro a hs;have hw:=hw1;clear hw1;refine zG hs ?_;refine Or.inr ⟨(ad,cap),hs,?_⟩;show Has 0 w _ ((if (Nat.beq 7 3 || D 7)=true then _ else if (Nat.beq 6 3 || D 6)=true then _ else _)::_);rw [h6,h7];exact hw
     case c6_b=>
      intro u LD D a W hcl hi hp hs hw;have h7:=Go.Sx.not_done hcl hi 7 (by kernel_rfl);have h3:=Go.Sx.done hp 3 (by kernel_rfl);simp only [hi,h3,h7,Bool.false_eq_true,if_false,if_true] at hw;refine aH hs (hc:=vC w _ _ (acc2 ++ cS vk vn vs) ok on os _ hok'.1 hok'.2 hon.1 hon.2 (by omega) (by rw [List.length_append];omega) hw) (k:=?_);rintro e0 W1 ⟨ad,cap,rfl,hw1⟩;refine ⟨_,rfl,?_⟩;clear hs hw;intro a hs;have hw:=hw1;clear hw1;refine zG hs ?_;refine Or.inr ⟨(ad,cap),hs,?_⟩;show Has 0 w _ ((if (Nat.beq 7 6 || D 7)=true then _ else _)::_);rw [h7];exact hw
     case c7_b=>
      intro u LD D a W hcl hi hp hs hw;have h6:=Go.Sx.done hp 6 (by kernel_rfl);simp only [hi,h6,Bool.false_eq_true,if_false,if_true] at hw;refine zA hs hw ?_;clear hs;intro a hs;exact Or.inr ⟨u 6,hs,hw⟩
     case k_b=>
      clear hs hw;intro u a W hs hw;replace hw:Has 0 w W (Sx.OwnB 5 (.slice (u 7).1 (acc2 ++ cS vk vn vs ++ cS ok on os).length (u 7).2) (acc2 ++ cS vk vn vs ++ cS ok on os)::aA b4 [.int .i64 3,.string key,.int .i64 vk,.int .i64 vn,.string vs,.int .i64 ok,.int .i64 on,.string os,.int .i64 n] 55::aA b2 [.int .i64 c,.int .i64 q,.int .i64 (l.length:Int)] 2::aA b1 [.int .i64 c,.int .i64 q,.slice sad l.length scap] 66::Old w 0:: []):=hw;replace hs:Slots a 64 [(3,(.slice (u 7).1 (acc2 ++ cS vk vn vs ++ cS ok on os).length (u 7).2)),(7,.pointer (some ⟨b4,0,none⟩)),(26,.slice sad l.length scap),(27,.int .i64 (l.length:Int)),(28,.int .i64 (i:Int))]:=hs.ot;generalize (u 7).1=ad1 at *;generalize (u 7).2=cap1 at *;clear u;have hw:=hw.drop2;refine zA hs hw ?_;clear hs;intro a hs;rw [show acc2 ++ cS vk vn vs ++ cS ok on os=acc ++ opB ⟨3,key,vk,vn,vs,ok,on,os,n⟩ from by rw [←hA];simp [opB],←hnext] at hs hw;refine bS (_,i+1) hs hw (by show i+1≤l.length;omega) (by show l.length - (i+1)<l.length - i;omega) ⟨rfl,rfl,rfl,bU (by show IntKind.i64.wrap ((i:Int)+1)=((i+1:Nat):Int);rw [IntWalk.i64_in _ (by omega)];omega),trivial⟩
     all_goals
      intro u LD D a W hcl hi hp hs hw;refine zA hs hw ?_;clear hs;intro a hs;exact Or.inl ⟨hs,hw⟩
    have e3:(kind == 3)=false:=by simpa using k3
    rw [e3] at hs;refine zA hs hw ?_;clear hs;intro a hs
    by_cases k1:kind=1
    ·subst k1;refine zA hs hw ?_;clear hs;intro a hs;refine aH hs (hc:=vC w _ _ (acc2) vk vn vs _ hvk.1 hvk.2 hvn.1 hvn.2 (by omega) (by omega) hw) (k:=?_);rintro e0 W1 ⟨ad,cap,rfl,hw1⟩;refine ⟨_,rfl,?_⟩;clear hs hw;intro a hs;have hw:=hw1;clear hw1;refine zA hs hw ?_;clear hs;intro a hs;have hw:=hw.drop2
     repeat (first|(refine sxv hs hw ?_;clear hs;intro a hs)|refine sxc hs ?_|(refine sxa hs hw ?_;clear hs hw;intro a b W hw hs)|(refine sxs hs hw ?_;clear hs hw;intro W hs hw))
     rw [show acc2 ++ cS vk vn vs=acc ++ opB ⟨1,key,vk,vn,vs,ok,on,os,n⟩ from by rw [←hA];simp [opB],←hnext] at hs hw;refine bS (_,i+1) hs hw (by show i+1≤l.length;omega) (by show l.length - (i+1)<l.length - i;omega) ⟨rfl,rfl,rfl,bU (by show IntKind.i64.wrap ((i:Int)+1)=((i+1:Nat):Int);rw [IntWalk.i64_in _ (by omega)];omega),trivial⟩
    have e1:(kind == 1)=false:=by simpa using k1
    rw [e1] at hs;refine zA hs hw ?_;clear hs;intro a hs
    by_cases k4:kind=4
    ·subst k4;refine zA hs hw ?_;clear hs;intro a hs;refine aH hs (hc:=eS w _ _ (acc2) n _ hn.1 hn.2 (by omega) hw) (k:=?_);rintro e0 W1 ⟨ad,cap,rfl,hw1⟩;refine ⟨_,rfl,?_⟩;clear hs hw;intro a hs;have hw:=hw1;clear hw1;refine zA hs hw ?_;clear hs;intro a hs;have hw:=hw.drop2
     repeat (first|(refine sxv hs hw ?_;clear hs;intro a hs)|refine sxc hs ?_|(refine sxa hs hw ?_;clear hs hw;intro a b W hw hs)|(refine sxs hs hw ?_;clear hs hw;intro W hs hw))
     rw [show acc2 ++ Ph.putI n=acc ++ opB ⟨4,key,vk,vn,vs,ok,on,os,n⟩ from by rw [←hA];simp [opB],←hnext] at hs hw;refine bS (_,i+1) hs hw (by show i+1≤l.length;omega) (by show l.length - (i+1)<l.length - i;omega) ⟨rfl,rfl,rfl,bU (by show IntKind.i64.wrap ((i:Int)+1)=((i+1:Nat):Int);rw [IntWalk.i64_in _ (by omega)];omega),trivial⟩
    have e4:(kind == 4)=false:=by simpa using k4
    rw [e4] at hs;refine zA hs hw ?_;clear hs;intro a hs;have hw:=hw.drop2
    repeat (first|(refine sxv hs hw ?_;clear hs;intro a hs)|refine sxc hs ?_|(refine sxa hs hw ?_;clear hs hw;intro a b W hw hs)|(refine sxs hs hw ?_;clear hs hw;intro W hs hw))
    rw [show acc2=acc ++ opB ⟨kind,key,vk,vn,vs,ok,on,os,n⟩ from by rw [←hA];simp [opB,k3,k1,k4],←hnext] at hw;refine bS (_,i+1) hs hw (by show i+1≤l.length;omega) (by show l.length - (i+1)<l.length - i;omega) ⟨rfl,rfl,rfl,bU (by show IntKind.i64.wrap ((i:Int)+1)=((i+1:Nat):Int);rw [IntWalk.i64_in _ (by omega)];omega),trivial⟩
   all_goals
    intro u LD D a W hcl hi hp hs hw;refine zA hs hw ?_;clear hs;intro a hs;exact Or.inl ⟨hs,hw⟩
  ·have hi':i=l.length:=by simp at hc;omega
   subst hi';refine zA hs hw ?_;clear hs;intro a hs;rw [List.take_length] at hw;have hw:=hw.sub (List.Sublist.cons_cons _ (List.Sublist.cons _ (List.Sublist.cons _ (List.Sublist.refl _))));obtain ⟨ad,cap,e⟩:∃ad cap,v= .slice ad (eA c q l).length cap:=hw.own_slice;subst e;exact rt1 hs rfl rfl ⟨ad,cap,rfl,hw⟩
theorem aF7 (ad:Option Addr) (cap:Nat) (w:World):
  Calls prog 156 ⟨[.slice ad 0 cap]⟩ w fun e W'=>e= .returned (.tuple #[.int .i64 (Ph.getI []).1,.int .i64 (Ph.getI []).2.1,.int .i64 (Ph.getI []).2.2])∧w=W':=by
 cases ad with
 |none=>exact aF5 cap w
 |some a=>
  go_enter Tryz.func156,Tryz.ntmps156
  go_wp2
  go_loop [5,11] (fun u i=>u= .int .u64 0∧i= .int .i64 0) (fun _ i=>0)
  case atStart=>exact ⟨rfl,rfl⟩
  case round=>
   obtain ⟨rfl,rfl⟩:=hrel
   go_wp2
   go_ret3
   exact ⟨rfl,rfl⟩
theorem mN (W:World) (v:Value) (l:List UInt8) (r:RdB W v l):
  Calls prog 156 ⟨[v]⟩ W fun e W'=>e= .returned (.tuple #[.int .i64 (Ph.getI l).1,.int .i64 (Ph.getI l).2.1,.int .i64 (Ph.getI l).2.2])∧W=W':=by
 obtain ⟨ad,cap,rfl,h3,h4,rfl|⟨b,o,rfl,hc⟩⟩:=r.cells
 ·exact aF7 ad cap W
 ·exact aF6 b o cap l W h3 h4 hc
theorem nQ {x:Int} (h0: -9223372036854775808≤x) (h1:x≤9223372036854775807):IntKind.i64.wrap x=x:=IntWalk.i64_in _ (by omega)
theorem sE (W:World) (v:Value) (l:List UInt8) (r:RdB W v l):
  Calls prog 157 ⟨[v]⟩ W fun e W'=>e= .returned (.tuple #[.string ⟨(Ph.getT l).1.toArray⟩,.int .i64 (Ph.getT l).2.1,.int .i64 (Ph.getT l).2.2])∧W=W':=by
 have hlen:l.length≤9223372036854775807:=by have:=r.len;exact this
 have hle:=Ph.getI_le l;have hG:=mN W v l r;obtain ⟨ad,cap,rfl, -⟩:=r.cells;have hw:=Has.start (G:=0) (w:=W) (Nat.zero_le _);refine en Tryz.func157 Tryz.ntmps157 fun a hs=>?_;refine zA hs hw ?_;clear hs;intro a hs;refine aH hs (hc:=hG) (k:=?_);rintro e0 W1 ⟨rfl,rfl⟩;refine ⟨_,rfl,?_⟩;clear hs hG;intro a hs;generalize hg:Ph.getI l=g at *;obtain ⟨n,k,e⟩:=g;simp only at hle hs
 by_cases he:e=0
 ·subst he
  by_cases hn:n<0
  ·have e1:decide (n<0)=true:=by simpa using hn
   have hT:Ph.getT l=([],0,1):=by simp [Ph.getT,hg,hn]
   refine zA hs hw ?_;clear hs;intro a hs;rw [e1] at hs;refine zA hs hw ?_;clear hs;intro a hs;exact rt3 hs rfl rfl rfl rfl ⟨by rw [hT];rfl,rfl⟩
  ·have e1:decide (n<0)=false:=by simpa using hn
   refine zA hs hw ?_;clear hs;intro a hs;rw [e1] at hs;refine zA hs hw ?_;clear hs;intro a hs
   by_cases hb:n > 1048576
   ·have e2:decide (n > 1048576)=true:=by simpa using hb
    have hT:Ph.getT l=([],0,1):=by simp [Ph.getT,hg,hb]
    rw [e2] at hs;refine zA hs hw ?_;clear hs;intro a hs;exact rt3 hs rfl rfl rfl rfl ⟨by rw [hT];rfl,rfl⟩
   ·have e2:decide (n > 1048576)=false:=by simpa using hb
    rw [e2] at hs;refine zA hs hw ?_;clear hs;intro a hs;have e3:IntKind.i64.wrap ((l.length:Int) - (k:Int))=(l.length:Int) - k:=nQ (by omega) (by omega);rw [e3] at hs
    by_cases hm:n > (l.length:Int) - k
    ·have e4:decide (n > (l.length:Int) - k)=true:=by simpa using hm
     have hT:Ph.getT l=([],0,2):=by
      simp only [Ph.getT,hg];rw [if_neg (by simp),if_neg (by omega),if_pos (by omega)]
     rw [e4] at hs;refine zA hs hw ?_;clear hs;intro a hs;exact rt3 hs rfl rfl rfl rfl ⟨by rw [hT];rfl,rfl⟩
    ·have e4:decide (n > (l.length:Int) - k)=false:=by simpa using hm
     have hT:Ph.getT l=((l.drop k).take n.toNat,k+n.toNat,0):=by
      simp only [Ph.getT,hg];rw [if_neg (by simp),if_neg (by omega),if_neg (by omega)]
     rw [e4] at hs;refine zA hs hw ?_;clear hs;intro a hs;have e5:IntKind.i64.wrap ((k:Int)+n)=(k:Int)+n:=nQ (by omega) (by omega);rw [e5] at hs;refine aDj (hs:=hs) (r:=r) (h0:=by omega) (h1:=by omega) (h2:=by omega) (m:=(l.drop k).take n.toNat) (hm:=by rw [show ((k:Int)+n).toNat - (k:Int).toNat=n.toNat by omega,show (k:Int).toNat=k by omega]) (c:=?_);clear hs;intro a ad2 cap2 hr2 hs;refine iF hs (r:=hr2) (k:=?_);clear hs;intro a hs;refine zA hs hw ?_;clear hs;intro a hs;rw [e5] at hs
     repeat (first|(refine sxv hs hw ?_;clear hs;intro a hs)|refine sxc hs ?_|(refine sxa hs hw ?_;clear hs hw;intro a b W hw hs)|(refine sxs hs hw ?_;clear hs hw;intro W hs hw))
     refine rt3 hs rfl rfl rfl rfl ⟨?_,rfl⟩;rw [hT];simp only;rw [show (((k+n.toNat:Nat):Int))=(k:Int)+n by omega]
 ·have e1:(e !=0)=true:=by simpa using he
  have hT:Ph.getT l=([],0,e):=by simp [Ph.getT,hg,he]
  refine zA hs hw ?_;clear hs;intro a hs;rw [e1] at hs;refine zA hs hw ?_;clear hs;intro a hs;exact rt3 hs rfl rfl rfl rfl ⟨by rw [hT];rfl,rfl⟩
def getR (l:List UInt8):(Int×Int×ByteArray)×Nat×Int:=
 let g:=Ph.getI l
 if g.2.2≠0 then ((0,0,⟨#[]⟩),0,g.2.2)
 else if g.1=0 then ((0,0,⟨#[]⟩),g.2.1,0)
 else if g.1=1 then
  let h:=Ph.getI (l.drop g.2.1)
  if h.2.2≠0 then ((0,0,⟨#[]⟩),0,h.2.2) else ((1,h.1,⟨#[]⟩),g.2.1+h.2.1,0)
 else if g.1=2 then
  let h:=Ph.getT (l.drop g.2.1)
  if h.2.2≠0 then ((0,0,⟨#[]⟩),0,h.2.2)
  else if (bV 2 0 ⟨h.1.toArray⟩).2≠0 then ((0,0,⟨#[]⟩),0,1)
  else ((2,0,⟨h.1.toArray⟩),g.2.1+h.2.1,0)
 else ((0,0,⟨#[]⟩),0,1)
theorem aF8 (k n:Int) (s:ByteArray):(bV k n s).2=0∨(bV k n s).2=1:=by
 unfold bV;split
 ·exact .inl rfl
 ·split
  ·exact .inl rfl
  ·split
   ·exact .inl rfl
   ·exact .inr rfl
theorem aF9 (n:Int):(bV 1 n ⟨#[]⟩).2=0:=by
 unfold bV;rw [if_neg (fun h=>by have:=h.1;omega),if_pos ⟨rfl,rfl⟩]
theorem aFa:(bV 0 0 ⟨#[]⟩).2=0:=by
 unfold bV;rw [if_pos ⟨rfl,rfl,rfl⟩]
theorem aFb (k:Int) (h0:k≠0) (h1:k≠1) (h2:k≠2):(bV k 0 ⟨#[]⟩).2=1:=by
 unfold bV;rw [if_neg (fun h=>h0 h.1),if_neg (fun h=>h1 h.1),if_neg (fun h=>h2 h.1)]
theorem sF (l:List UInt8):(⟨(Ph.getT l).1.toArray⟩:ByteArray).size≤l.length:=by
 show (Ph.getT l).1.toArray.size≤_;unfold Ph.getT;simp only;split
 ·simp
 ·split
  ·simp
  ·split
   ·simp
   ·simp;omega
theorem pK (l:List UInt8):(Ph.getT l).2.1≤l.length:=by
 have:=Ph.getI_le l;unfold Ph.getT;simp only;split
 ·simp
 ·split
  ·simp
  ·split
   ·simp
   ·simp only;omega
theorem aFc (w:World) (v:Value) (l:List UInt8) (r:RdB w v l) (hT:Tabs w):
  Calls prog 303 ⟨[v]⟩ w fun e W'=>e= .returned (.tuple #[.agg #[.int .i64 (getR l).1.1,.int .i64 (getR l).1.2.1,.string (getR l).1.2.2],.int .i64 (getR l).2.1,.int .i64 (getR l).2.2])∧Below w.heap.size w W':=by
 have hlen:l.length≤9223372036854775807:=by have:=r.len;exact this
 have hw:=Has.start (G:=0) (w:=w) (Nat.zero_le _);obtain ⟨ad,cap,rfl, -⟩:=r.cells;have hle:=Ph.getI_le l;refine en Tryz.func303 Tryz.ntmps303 fun a hs=>?_
 repeat (first|(refine sxv hs hw ?_;clear hs;intro a hs)|refine sxc hs ?_|(refine sxa hs hw ?_;clear hs hw;intro a b W hw hs)|(refine sxs hs hw ?_;clear hs hw;intro W hs hw))
 have hG:=mN _ _ l (hw.rd inn hw.ext.size r);refine aH hs (hc:=hG) (k:=?_);rintro e0 W1 ⟨rfl,rfl⟩;refine ⟨_,rfl,?_⟩;clear hs hG;intro a hs;have gR:=getR.eq_1 l;generalize hg:Ph.getI l=g at *;obtain ⟨k,m,e⟩:=g;simp only at hle hs gR
 by_cases he:e=0
 ·subst he;simp only [ne_eq,not_true_eq_false,if_false] at gR
  by_cases k1:k=1
  ·subst k1;simp only [if_neg (show¬((1:Int)=0) by decide),if_true] at gR
   repeat (first|(refine sxv hs hw ?_;clear hs;intro a hs)|refine sxc hs ?_|(refine sxa hs hw ?_;clear hs hw;intro a b W hw hs)|(refine sxs hs hw ?_;clear hs hw;intro W hs hw))
   refine o3 (hs:=hs) (r:=r) (h0:=by omega) (h1:=by omega) (c:=?_);clear hs;intro a ad2 cap2 hr hs;have hr2:=hw.rd inn hw.ext.size hr;rw [show (m:Int).toNat=m by omega] at hr hs hr2;have hle2:=Ph.getI_le (l.drop m);rw [List.length_drop] at hle2;have hG:=mN _ _ _ hr2;refine aH hs (hc:=hG) (k:=?_);rintro e0 W1 ⟨rfl,rfl⟩;refine ⟨_,rfl,?_⟩;clear hs hG hr hr2;intro a hs;generalize Ph.getI (l.drop m)=g at *;obtain ⟨n,m2,e2⟩:=g;simp only at hle2 hs gR
   by_cases he2:e2=0
   ·subst he2;simp only [not_true_eq_false,if_false] at gR;refine zB hs hw ?_;clear hs hw;intro a W hs hw;have hO:=aF9 n;refine aH hs (hc:=lO 1 n ⟨#[]⟩ _ (by decide) (hT.keep (hw.end inn))) (k:=?_);rintro e0 W1 ⟨rfl,hb⟩;refine ⟨_,rfl,?_⟩;clear hs;intro a hs;replace hw:=hw.below hb;clear hb;rw [hO] at hs;refine zB hs hw ?_;clear hs hw;intro a W hs hw;rw [nQ (x:=(m:Int)+(m2:Int)) (by omega) (by omega)] at hs
    repeat (first|(refine sxv hs hw ?_;clear hs;intro a hs)|refine sxc hs ?_|(refine sxa hs hw ?_;clear hs hw;intro a b W hw hs)|(refine sxs hs hw ?_;clear hs hw;intro W hs hw))
    exact rc3 hs rfl rfl hw inn rfl rfl rfl ⟨by rw [gR];rfl,hw.end inn⟩
   ·have e1:(e2 !=0)=true:=by simpa using he2
    rw [if_pos he2] at gR;refine zB hs hw ?_;clear hs hw;intro a W hs hw;rw [e1] at hs;refine zB hs hw ?_;clear hs hw;intro a W hs hw;exact rc3 hs rfl rfl hw inn rfl rfl rfl ⟨by rw [gR];rfl,hw.end inn⟩
  ·by_cases k2:k=2
   ·subst k2;simp only [if_neg (show¬((2:Int)=0) by decide),if_neg (show¬((2:Int)=1) by decide),if_true] at gR
    repeat (first|(refine sxv hs hw ?_;clear hs;intro a hs)|refine sxc hs ?_|(refine sxa hs hw ?_;clear hs hw;intro a b W hw hs)|(refine sxs hs hw ?_;clear hs hw;intro W hs hw))
    refine o3 (hs:=hs) (r:=r) (h0:=by omega) (h1:=by omega) (c:=?_);clear hs;intro a ad2 cap2 hr hs;have hr2:=hw.rd inn hw.ext.size hr;rw [show (m:Int).toNat=m by omega] at hr hs hr2;have hle2:=pK (l.drop m);have hsz:=sF (l.drop m);rw [List.length_drop] at hle2 hsz;have hG:=sE _ _ _ hr2;refine aH hs (hc:=hG) (k:=?_);rintro e0 W1 ⟨rfl,rfl⟩;refine ⟨_,rfl,?_⟩;clear hs hG hr hr2;intro a hs;generalize Ph.getT (l.drop m)=g at *;obtain ⟨s,m2,e2⟩:=g;simp only at hle2 hsz hs gR;generalize (⟨s.toArray⟩:ByteArray)=s at *
    by_cases he2:e2=0
    ·subst he2;simp only [not_true_eq_false,if_false] at gR;refine zB hs hw ?_;clear hs hw;intro a W hs hw;refine aH hs (hc:=lO 2 0 s _ (by omega) (hT.keep (hw.end inn))) (k:=?_);rintro e0 W1 ⟨rfl,hb⟩;refine ⟨_,rfl,?_⟩;clear hs;intro a hs;replace hw:=hw.below hb;clear hb;rcases aF8 2 0 s with hO|hO
     ·rw [hO] at hs gR;refine zB hs hw ?_;clear hs hw;intro a W hs hw;rw [nQ (x:=(m:Int)+(m2:Int)) (by omega) (by omega)] at hs
      repeat (first|(refine sxv hs hw ?_;clear hs;intro a hs)|refine sxc hs ?_|(refine sxa hs hw ?_;clear hs hw;intro a b W hw hs)|(refine sxs hs hw ?_;clear hs hw;intro W hs hw))
      exact rc3 hs rfl rfl hw inn rfl rfl rfl ⟨by rw [gR];rfl,hw.end inn⟩
     ·rw [hO] at hs gR;refine zB hs hw ?_;clear hs hw;intro a W hs hw;exact rc3 hs rfl rfl hw inn rfl rfl rfl ⟨by rw [gR];rfl,hw.end inn⟩
    ·have e1:(e2 !=0)=true:=by simpa using he2
     rw [if_pos he2] at gR;refine zB hs hw ?_;clear hs hw;intro a W hs hw;rw [e1] at hs;refine zB hs hw ?_;clear hs hw;intro a W hs hw;exact rc3 hs rfl rfl hw inn rfl rfl rfl ⟨by rw [gR];rfl,hw.end inn⟩
   ·have e1:(k == 1)=false:=by simpa using k1
    have e2:(k == 2)=false:=by simpa using k2
    repeat (first|(refine sxv hs hw ?_;clear hs;intro a hs)|refine sxc hs ?_|(refine sxa hs hw ?_;clear hs hw;intro a b W hw hs)|(refine sxs hs hw ?_;clear hs hw;intro W hs hw))
    rw [e1] at hs;refine zA hs hw ?_;clear hs;intro a hs;rw [e2] at hs;refine zA hs hw ?_;clear hs;intro a hs;refine aH hs (hc:=lO k 0 ⟨#[]⟩ _ (by decide) (hT.keep (hw.end inn))) (k:=?_);rintro e0 W1 ⟨rfl,hb⟩;refine ⟨_,rfl,?_⟩;clear hs;intro a hs;replace hw:=hw.below hb;clear hb
    by_cases k0:k=0
    ·subst k0;have hO:=aFa;rw [hO] at hs;refine zB hs hw ?_;clear hs hw;intro a W hs hw;rw [nQ (x:=(m:Int)+0) (by omega) (by omega),Int.add_zero] at hs
     repeat (first|(refine sxv hs hw ?_;clear hs;intro a hs)|refine sxc hs ?_|(refine sxa hs hw ?_;clear hs hw;intro a b W hw hs)|(refine sxs hs hw ?_;clear hs hw;intro W hs hw))
     exact rc3 hs rfl rfl hw inn rfl rfl rfl ⟨by rw [gR];rfl,hw.end inn⟩
    ·have hO:=aFb k k0 k1 k2;rw [if_neg k0,if_neg k1,if_neg k2] at gR;rw [hO] at hs;refine zB hs hw ?_;clear hs hw;intro a W hs hw;exact rc3 hs rfl rfl hw inn rfl rfl rfl ⟨by rw [gR];rfl,hw.end inn⟩
 ·have e1:(e !=0)=true:=by simpa using he
  rw [if_pos he] at gR;refine zA hs hw ?_;clear hs;intro a hs;rw [e1] at hs;refine zB hs hw ?_;clear hs hw;intro a W hs hw;exact rc3 hs rfl rfl hw inn rfl rfl rfl ⟨by rw [gR];rfl,hw.end inn⟩
def tk (s:List UInt8×Bool) (n:Nat) (err:Int):List UInt8×Bool:=(if s.2 || err !=0 then s.1 else s.1.drop n,s.2 || err !=0)
theorem wI (w0 W:World) (p:Nat) (sv:Value) (s:List UInt8×Bool) (n:Nat) (err:Int) (R:List Res) (i:In (Old w0 0) R) (r:RdB w0 sv s.1) (hn:n≤s.1.length) (hw:Has 0 w0 W (aA p [sv,.bool s.2] 312::R)):
  Calls prog 268 ⟨[.pointer (some ⟨p,0,none⟩),.int .i64 (n:Int),.int .i64 err]⟩ W fun e W'=>e= .returned (.tuple #[])∧∃sv',RdB w0 sv' (tk s n err).1∧Has 0 w0 W' (aA p [sv',.bool (tk s n err).2] 312::R):=by
 obtain ⟨l,bad⟩:=s;simp only at r hn hw;obtain ⟨ad,cap,rfl, -⟩:=r.cells;refine en Tryz.func268 Tryz.ntmps268 fun a hs=>?_;cases bad with
 |true=>
  refine zB hs hw ?_;clear hs hw;intro a W hs hw;exact cO hs rfl ⟨rfl,_,r,hw⟩
 |false=>
  refine zB hs hw ?_;clear hs hw;intro a W hs hw;cases he:(err !=0) with
  |true=>
   rw [he] at hs hw;refine zG hs ?_;exact cO hs rfl ⟨rfl,_,by simp only [tk,he];exact r,by simp only [tk,he];exact hw⟩
  |false=>
   rw [he] at hs hw;refine zA hs hw ?_;clear hs;intro a hs;refine o3 (hs:=hs) (r:=r) (h0:=by omega) (h1:=by omega) (c:=?_);clear hs;intro a ad' cap' r' hs;refine zB hs hw ?_;clear hs hw;intro a W hs hw;rw [Int.toNat_natCast] at r' hw;exact cO hs rfl ⟨rfl,_,by simp only [tk,he];exact r',by simp only [tk,he];exact hw⟩
theorem aFd (l:List UInt8):(getR l).2.1≤l.length:=by
 have h1:=Ph.getI_le l;unfold getR;simp only;split
 ·simp
 ·split
  ·exact h1
  ·split
   ·split
    ·simp
    ·have:=Ph.getI_le (l.drop (Ph.getI l).2.1);rw [List.length_drop] at this;simp only;omega
   ·split
    ·split
     ·simp
     ·have:=pK (l.drop (Ph.getI l).2.1);rw [List.length_drop] at this;split <;> simp only <;> omega
    ·simp
theorem pL (w0 W:World) (p:Nat) (sv:Value) (s:List UInt8×Bool) (R:List Res) (i:In (Old w0 0) R) (r:RdB w0 sv s.1) (hw:Has 0 w0 W (aA p [sv,.bool s.2] 312::R)):
  Calls prog 232 ⟨[.pointer (some ⟨p,0,none⟩)]⟩ W fun e W'=>e= .returned (.int .i64 (Ph.getI s.1).1)∧∃sv',RdB w0 sv' (tk s (Ph.getI s.1).2.1 (Ph.getI s.1).2.2).1∧Has 0 w0 W' (aA p [sv',.bool (tk s (Ph.getI s.1).2.1 (Ph.getI s.1).2.2).2] 312::R):=by
 refine en Tryz.func232 Tryz.ntmps232 fun a hs=>?_;refine zA hs hw ?_;clear hs;intro a hs;refine aH hs (hc:=mN _ sv s.1 (hw.rd (In.tl i) hw.ext.size r)) (k:=?_);rintro e0 W1 ⟨rfl,rfl⟩;refine ⟨_,rfl,?_⟩;clear hs;intro a hs;refine zA hs hw ?_;clear hs;intro a hs;refine aH hs (hc:=wI w0 _ p sv s _ _ R i r (Ph.getI_le s.1) hw) (k:=?_);rintro e0 W1 ⟨rfl,sv',r',hw'⟩;refine ⟨_,rfl,?_⟩;clear hs hw;intro a hs;have hw:=hw';clear hw';refine zA hs hw ?_;clear hs;intro a hs;exact rt1 hs rfl rfl ⟨rfl,sv',r',hw⟩
theorem aFe {G:Nat} {w W:World} {x y q:Res} {R:List Res} (h:Has G w W (x::y::q::R)):Has G w W (q::x::y::R):=
 ⟨h.ext,h.glob,HasIn.swap (let ⟨F1,h1,h2,h3⟩:=h.has;⟨F1,h1,h2,HasIn.swap h3⟩)⟩
theorem wJ (w0 W:World) (p:Nat) (sv:Value) (s:List UInt8×Bool) (R:List Res) (i:In (Old w0 0) R) (r:RdB w0 sv s.1) (hT:Tabs w0) (hw:Has 0 w0 W (aA p [sv,.bool s.2] 312::R)):
  Calls prog 269 ⟨[.pointer (some ⟨p,0,none⟩)]⟩ W fun e W'=>e= .returned (.agg ⟨[.int .i64 (getR s.1).1.1,.int .i64 (getR s.1).1.2.1,.string (getR s.1).1.2.2]⟩)∧∃sv',RdB w0 sv' (tk s (getR s.1).2.1 (getR s.1).2.2).1∧Has 0 w0 W' (aA p [sv',.bool (tk s (getR s.1).2.1 (getR s.1).2.2).2] 312::R):=by
 refine en Tryz.func269 Tryz.ntmps269 fun a hs=>?_
 repeat (first|(refine sxv hs hw ?_;clear hs;intro a hs)|refine sxc hs ?_|(refine sxa hs hw ?_;clear hs hw;intro a b W hw hs)|(refine sxs hs hw ?_;clear hs hw;intro W hs hw))
 refine aH hs (hc:=aFc _ sv s.1 (hw.rd (In.tl (In.tl i)) hw.ext.size r) (hT.keep (hw.end (In.tl (In.tl i))))) (k:=?_);rintro e0 W1 ⟨rfl,hb⟩;refine ⟨_,rfl,?_⟩;clear hs;intro a hs;replace hw:=hw.below hb;clear hb
 repeat (first|(refine sxv hs hw ?_;clear hs;intro a hs)|refine sxc hs ?_|(refine sxa hs hw ?_;clear hs hw;intro a b W hw hs)|(refine sxs hs hw ?_;clear hs hw;intro W hs hw))
 have hw:=aFe hw;refine aH hs (hc:=wI w0 _ p sv s _ _ _ (In.tl (In.tl i)) r (aFd s.1) hw) (k:=?_);rintro e0 W1 ⟨rfl,sv',r',hw'⟩;refine ⟨_,rfl,?_⟩;clear hs hw;intro a hs;have hw:=hw';clear hw';refine zB hs hw ?_;clear hs hw;intro a W hs hw;have hw':=hw.sub (List.Sublist.cons_cons _ (List.Sublist.cons _ (List.Sublist.cons _ (List.Sublist.refl _))));refine rc1 hs rfl rfl hw (In.tl (In.tl In.hd)) rfl ?_;exact ⟨rfl,sv',r',hw'⟩
end Go.Proofs.YtgpbngfehfbndaaGreatDoor.Sw
