/-
  Texts of the proof, one behind the other (part 2).
-/
import Derived.Test.YtgpbngfehfbndaaGreatDoorM1
import Derived.Laws.Bits64
import Derived.Laws.Bits64b
import Derived.Laws.BitsLemmas
import Derived.Laws.DeepNot64
import Derived.WalkSmall
import Derived.Test.YtgpbngfehfbndaaGreatDoorChecked
import Derived.Lib.Hide
import Derived.Maps.RangeRun
import Derived.Laws.Small
import Derived.Laws.StructEq
set_option maxHeartbeats 16000000
set_option linter.unusedVariables false
namespace Ph
theorem u8n (x:Nat) (h:x<256):(x.toUInt8).toNat=x:=by simp;omega
theorem putN_last (f u:Nat) (h:u<128):putN (f+1) u= [u.toUInt8]:=by simp [putN,h]
theorem zX (f u:Nat) (h:¬u<128):putN (f+1) u=(u % 128+128).toUInt8::putN f (u / 128):=by simp [putN,h]
theorem uZ (i:Nat):128 ^ (i+1)=128 ^ i*128:=Nat.pow_succ 128 i
theorem zY:∀(f i a u:Nat) (t:List UInt8),u<128 ^ f→i+f≤10→1≤f→(1≤i→1≤u)→(i=9→u≤1)→(∀j,i+j=9→u / 128 ^ j≤1)→
  getN i a (putN f u ++ t)=(unzig (a+u*128 ^ i),i+(putN f u).length,0)
 |0,_,_,_,_,_,_,h,_,_,_=>by omega
 |f+1,i,a,u,t,hu,hf,_,h1,h9,hj=>by
  by_cases hl:u<128
  ·rw [putN_last f u hl]
   have hb:=u8n u (by omega)
   simp only [List.cons_append,List.nil_append,getN,hb,List.length_cons,List.length_nil]
   rw [if_neg (by omega),if_neg (by omega),if_neg (by omega)]
   have:u % 128=u:=by omega
   rw [this]
  ·rw [zX f u hl]
   have hb:=u8n (u % 128+128) (by omega)
   have hne:i≠9:=fun e=>by have:=h9 e;omega
   have hf1:1≤f:=by
    rcases Nat.eq_zero_or_pos f with h0|h0
    ·subst h0;simp at hu;omega
    ·exact h0
   simp only [List.cons_append,getN,hb,List.length_cons]
   rw [if_neg (by omega),if_pos (by omega)]
   have hd:u / 128<128 ^ f:=by
    rw [uZ] at hu
    omega
   rw [zY f (i+1) _ (u / 128) t hd (by omega) hf1 (fun _=>by omega) (fun e=>by
     have:=hj 1 (by omega)
     simpa using this) (fun j e=>by
     have:=hj (j+1) (by omega)
     rw [Nat.div_div_eq_div_mul,Nat.mul_comm]
     rw [uZ] at this
     exact this)]
   have e1:(u % 128+128) % 128=u % 128:=by omega
   rw [e1,uZ]
   congr 1
   ·congr 1
    have:u / 128*(128 ^ i*128)=128*(u / 128)*128 ^ i:=by
     rw [Nat.mul_comm (128 ^ i) 128,←Nat.mul_assoc,Nat.mul_comm (u / 128) 128]
    rw [this]
    have h2:u=u % 128+128*(u / 128):=by omega
    have h3:u*128 ^ i=(u % 128+128*(u / 128))*128 ^ i:=by rw [←h2]
    rw [h3,Nat.add_mul]
    omega
   ·congr 1
    omega
theorem zig_small {n:Int} (h0: -9223372036854775808≤n) (h1:n≤9223372036854775807):zig n<128 ^ 10∧∀j,0+j=9→zig n / 128 ^ j≤1:=by
 have h:=aDo h0 h1
 have e10:(128:Nat) ^ 10=1180591620717411303424:=by decide
 have e9:(128:Nat) ^ 9=9223372036854775808:=by decide
 refine ⟨by rw [e10];omega,fun j hj=>?_⟩
 obtain rfl:j=9:=by omega
 rw [e9]
 omega
theorem getI_putI (n:Int) (t:List UInt8) (h0: -9223372036854775808≤n) (h1:n≤9223372036854775807):getI (putI n ++ t)=(n,(putI n).length,0):=by
 obtain ⟨a,b⟩:=zig_small h0 h1
 unfold getI putI uY
 rw [zY 10 0 0 (zig n) t a (by omega) (by omega) (fun h=>by omega) (fun h=>by omega) b]
 simp [aDp]
theorem getT_putT (s t:List UInt8) (h:s.length≤1048576):getT (putT s ++ t)=(s,(putT s).length,0):=by
 have g:=getI_putI s.length (s ++ t) (by omega) (by omega)
 unfold putT getT
 rw [List.append_assoc,g]
 simp only [List.length_append]
 rw [if_neg (by omega),if_neg (by omega),if_neg (by simp)]
 simp
theorem zZ:∀(l:List UInt8) (i u:Nat),(getN i u l).2.1≤i+l.length∧((getN i u l).2.2=0∨(getN i u l).2.2=1∨(getN i u l).2.2=2)∧((getN i u l).2.2≠0→(getN i u l).1=0∧(getN i u l).2.1=0)
 | [],i,u=>by simp [getN]
 |c::t,i,u=>by
  simp only [getN]
  split
  ·simp
  ·split
   ·have:=zZ t (i+1) (u+c.toNat % 128*128 ^ i)
    simp only [List.length_cons]
    exact ⟨by omega,this.2⟩
   ·split
    ·simp
    ·simp
theorem getI_le (l:List UInt8):(getI l).2.1≤l.length:=by
 have:=(zZ l 0 0).1
 unfold getI;omega
open Go
theorem aDq (x:Nat) (h:x<18446744073709551616):bits .xor .u64 IntKind.u64.max (x:Int)=((18446744073709551615 - x:Nat):Int):=by
 show IntKind.u64.wrap ((BitVec.ofInt 64 IntKind.u64.max ^^^ BitVec.ofInt 64 (x:Int)).toNat:Int)=_
 have h1:BitVec.ofInt 64 IntKind.u64.max=BitVec.allOnes 64:=by decide
 rw [h1,BitVec.allOnes_xor,BitVec.toNat_not,ofInt_u64 x h]
 rw [IntKind.wrap_u64]
 omega
theorem zig_neg (n:Int) (h0: -9223372036854775808≤n) (h1:n<0):bits .xor .u64 IntKind.u64.max (IntKind.u64.wrap (IntKind.u64.wrap n*2))=(zig n:Int):=by
 have e:IntKind.u64.wrap (IntKind.u64.wrap n*2)=(((2*n+18446744073709551616).toNat:Nat):Int):=by
  rw [IntKind.wrap_u64,IntKind.wrap_u64];omega
 rw [e,aDq _ (by omega)]
 unfold zig
 rw [if_neg (by omega)]
 omega
theorem zig_pos (n:Int) (h0:0≤n):n*2=(zig n:Int):=by
 unfold zig
 rw [if_pos h0];omega
set_option maxRecDepth 100000 in
theorem aDr:∀X:Fin 256,bits .or .u8 ((X.val:Nat):Int) 128=((X.val % 128+128:Nat):Int):=by decide
set_option maxRecDepth 100000 in
theorem aDs:∀X:Fin 256,bits .and .u8 ((X.val:Nat):Int) 127=((X.val % 128:Nat):Int):=by decide
theorem or128_at (x:Nat) (h:x<256):bits .or .u8 (x:Int) 128=((x % 128+128:Nat):Int):=aDr ⟨x,h⟩
theorem aDt (x:Nat) (h:x<256):bits .and .u8 (x:Int) 127=((x % 128:Nat):Int):=aDs ⟨x,h⟩
theorem z1 (k:Nat):(128:Nat) ^ k=2 ^ (7*k):=by
 rw [Nat.pow_mul]
theorem or_seven (x c k:Nat) (hx:x<128 ^ k) (hc:c<256) (hs:c % 128*128 ^ k<18446744073709551616) (hk:k≤9):
  bits .or .u64 (x:Int) (IntKind.u64.wrap (IntKind.u64.wrap (bits .and .u8 (c:Int) 127)*2 ^ (7*k)))=((x+c % 128*128 ^ k:Nat):Int):=by
 have e1:IntKind.u64.wrap (bits .and .u8 (c:Int) 127)=((c % 128:Nat):Int):=by
  rw [aDt c hc,IntKind.wrap_u64];omega
 have e2:((c % 128:Nat):Int)*2 ^ (7*k)=((c % 128*128 ^ k:Nat):Int):=by
  rw [z1];simp
 have e3:IntKind.u64.wrap (((c % 128:Nat):Int)*2 ^ (7*k))=((c % 128*128 ^ k:Nat):Int):=by
  rw [e2,IntKind.wrap_u64];omega
 have h9:(128:Nat) ^ k≤128 ^ 9:=Nat.pow_le_pow_right (by omega) hk
 have e9:(128:Nat) ^ 9=9223372036854775808:=by decide
 rw [e1,e3,bits_or_u64_nat x _ (by omega) hs]
 congr 1
 rw [z1] at hx⊢
 rw [Nat.or_comm,Nat.mul_comm,←Nat.two_pow_add_eq_or_of_lt hx]
 omega
theorem or_last (x c:Nat) (hx:x<128 ^ 9) (hc:c≤1):
  bits .or .u64 (x:Int) (IntKind.u64.wrap (IntKind.u64.wrap (bits .and .u8 (c:Int) 127)*9223372036854775808))=((x+c % 128*128 ^ 9:Nat):Int):=by
 have e9:(128:Nat) ^ 9=9223372036854775808:=by decide
 have h:=or_seven x c 9 hx (by omega) (by rw [e9];omega) (by omega)
 have e2:(2:Int) ^ (7*9)=9223372036854775808:=by decide
 rw [e2] at h
 exact h
theorem sum_small (x c k:Nat) (hx:x<128 ^ k) (hk:k≤8) (hc:c<256):c % 128*128 ^ k<18446744073709551616∧x+c % 128*128 ^ k<128 ^ (k+1):=by
 have h8:(128:Nat) ^ k≤128 ^ 8:=Nat.pow_le_pow_right (by omega) hk
 have e8:(128:Nat) ^ 8=72057594037927936:=by decide
 have h1:c % 128*128 ^ k≤127*128 ^ k:=Nat.mul_le_mul_right _ (by omega)
 rw [Nat.pow_succ]
 omega
theorem unzig_even (y:Nat) (h:y % 2=0):unzig y=((y / 2:Nat):Int):=by unfold unzig;rw [if_neg (by omega)]
theorem unzig_odd (y:Nat) (h:y % 2=1):unzig y= -1 - ((y / 2:Nat):Int):=by unfold unzig;rw [if_pos h];omega
theorem getN_end (k x:Nat):getN k x []=(0,0,2):=rfl
theorem getN_big (k x:Nat) (c:UInt8) (t:List UInt8) (h:k=9) (hc:1<c.toNat):getN k x (c::t)=(0,0,1):=by simp only [getN];rw [if_pos ⟨h,hc⟩]
theorem getN_more (k x:Nat) (c:UInt8) (t:List UInt8) (h:k≠9) (hc:128≤c.toNat):getN k x (c::t)=getN (k+1) (x+c.toNat % 128*128 ^ k) t:=by simp only [getN];rw [if_neg (by omega),if_pos hc]
theorem getN_zero (k x:Nat) (c:UInt8) (t:List UInt8) (h:0<k) (hc:c.toNat=0):getN k x (c::t)=(0,0,1):=by simp only [getN];rw [if_neg (by omega),if_neg (by omega),if_pos ⟨h,hc⟩]
theorem getN_last (k x:Nat) (c:UInt8) (t:List UInt8) (h9:¬(k=9∧1<c.toNat)) (hc:c.toNat<128) (hz:¬(0<k∧c.toNat=0)):getN k x (c::t)=(unzig (x+c.toNat % 128*128 ^ k),k+1,0):=by simp only [getN];rw [if_neg h9,if_neg (by omega),if_neg hz]
theorem putN_split (f u:Nat) (h:¬u<128) (hu:u<128 ^ f):∃g,f=g+1∧1≤g∧u / 128<128 ^ g∧putN f u=(u % 128+128).toUInt8::putN g (u / 128):=by
 obtain ⟨g,rfl⟩:∃g,f=g+1:=by
  cases f with
  |zero=>simp at hu;omega
  |succ g=>exact ⟨g,rfl⟩
 refine ⟨g,rfl,?_,?_,zX g u h⟩
 ·rcases Nat.eq_zero_or_pos g with h0|h0
  ·subst h0;simp at hu;omega
  ·exact h0
 ·rw [Nat.pow_succ] at hu;omega
end Ph
set_option maxRecDepth 10000
namespace Go.Proofs.YtgpbngfehfbndaaGreatDoor.Sw
open Go.RowKit Go.Sx
theorem u8w (x:Nat) (h:x<128):IntKind.u8.wrap (x:Int)=((x.toUInt8).toNat:Int):=by
 rw [IntKind.wrap_u8,Ph.u8n x (by omega)];omega
theorem u8o (x:Nat):bits .or .u8 (IntKind.u8.wrap (x:Int)) 128=(((x % 128+128).toUInt8).toNat:Int):=by
 have e:IntKind.u8.wrap (x:Int)=((x % 256:Nat):Int):=by rw [IntKind.wrap_u8];omega
 rw [e,Ph.or128_at _ (by omega),Ph.u8n _ (by omega)];omega
structure aDu where
 v:Value
 acc:List UInt8
 f:Nat
 x:Nat
theorem aDv (x:Nat):(x:Int).fdiv (2 ^ 7)=((x / 128:Nat):Int):=by
 rw [Int.fdiv_eq_ediv_of_nonneg _ (by decide)];omega
theorem eJ (w0 W:World) (v:Value) (l:List UInt8) (n:Int) (R:List Res) (h0: -9223372036854775808≤n) (h1:n≤9223372036854775807) (hl:l.length≤1000000000) (hw:Has 0 w0 W (OwnB 5 v l::R)):
  Calls Tryz.prog 115 ⟨[v,.int .i64 n]⟩ W fun e W'=>∃ad cap,e= .returned (.slice ad (l ++ Ph.putI n).length cap)∧Has 0 w0 W' (OwnB 5 (.slice ad (l ++ Ph.putI n).length cap) (l ++ Ph.putI n)::R):=by
 refine enter Tryz.func115 Tryz.ntmps115 rfl rfl fun a hs=>?_
 have hz:=(Ph.zig_small h0 h1).1
 refine zA hs hw ?_;clear hs;intro a hs
 refine fC (M:=fun a W=>Slots a 28 [(0,v),(5,.int .u64 (Ph.zig n))]∧Has 0 w0 W (OwnB 5 v l::R)) ?_ ?_
 ·refine cI hs (kt:=fun hc=>?_) (kf:=fun hc=>?_)
  ·have hn:n<0:=by simpa using hc
   refine zA hs hw ?_;clear hs;intro a hs
   exact ⟨hs.of ⟨rfl,bS (Ph.zig_neg n h0 hn),trivial⟩,hw⟩
  ·have hn:0≤n:=by simpa using hc
   refine zG hs ?_
   have e:IntKind.u64.wrap (IntKind.u64.wrap n*2 ^ min 1 IntKind.u64.bits)=(Ph.zig n:Int):=by
    rw [←Ph.zig_pos n hn,IntKind.wrap_u64,IntKind.wrap_u64]
    show (n % 18446744073709551616*2 % 18446744073709551616:Int)=_
    omega
   exact ⟨hs.of ⟨rfl,bS e,trivial⟩,hw⟩
 clear hs hw
 rintro a W ⟨hs,hw⟩
 refine zG hs ?_
 refine bX (σ:=aDu) (fun s=>[(0,s.v),(5,.int .u64 s.x)]) (fun s=>OwnB 5 s.v s.acc::R) (fun s=>s.x<128 ^ s.f∧1≤s.f∧s.f≤10∧s.acc.length+s.f≤l.length+10∧s.acc ++ Ph.putN s.f s.x=l ++ Ph.putI n) (fun s=>s.x) ⟨v,l,10,Ph.zig n⟩ ⟨hz,Nat.le_add_left 1 9,Nat.le_refl 10,by simp,rfl⟩ hs ⟨rfl,rfl,trivial⟩ hw ?_
 clear hs hw
 rintro ⟨v,acc,f,x⟩ a W ⟨hx,hf1,hf2,hal,he⟩ hs hw
 simp only at hx hf1 hf2 hal he hs hw
 refine zA hs hw ?_;clear hs;intro a hs
 refine cI hs (kt:=fun hc=>?_) (kf:=fun hc=>?_)
 ·have hx':¬x<128:=by simp at hc;omega
  obtain ⟨g,rfl,hg1,hxg,hpn⟩:=Ph.putN_split f x hx' hx
  repeat (first|(refine sxv hs hw ?_;clear hs;intro a hs)|refine sxc hs ?_|(refine sxa hs hw ?_;clear hs hw;intro a b W hw hs)|(refine sxs hs hw ?_;clear hs hw;intro W hs hw))
  refine rH hs hw (k:=acc.length) (h63:=by omega) (hb:=by omega) (c:=?_)
  clear hs hw;intro a ad cap W hs hw
  refine zA hs hw ?_;clear hs;intro a hs
  have hw':=hw.sub (List.Sublist.cons _ (List.Sublist.refl _))
  rw [uQ (l:=acc) (m:=[(x % 128+128).toUInt8]) (by simp) (by rw [uP];exact congrArg (fun u=>bys acc ++ [Value.int .u8 u]) (u8o x))] at hw'
  refine bR ⟨_,acc ++ [(x % 128+128).toUInt8],g,x / 128⟩ hs hw' ⟨hxg,hg1,by show g≤10;omega,by simp;omega,?_⟩ (by show x / 128<x;omega) ⟨rfl,bS (aDv x),trivial⟩
  rw [←he,hpn]
  simp
 ·have hx':x<128:=by simp at hc;omega
  obtain ⟨g,rfl⟩:∃g,f=g+1:=⟨f - 1,by omega⟩
  repeat (first|(refine sxv hs hw ?_;clear hs;intro a hs)|refine sxc hs ?_|(refine sxa hs hw ?_;clear hs hw;intro a b W hw hs)|(refine sxs hs hw ?_;clear hs hw;intro W hs hw))
  refine rH hs hw (k:=acc.length) (h63:=by omega) (hb:=by omega) (c:=?_)
  clear hs hw;intro a ad cap W hs hw
  refine zA hs hw ?_;clear hs;intro a hs
  have hw':=hw.sub (List.Sublist.cons _ (List.Sublist.refl _))
  have e1:acc ++ [x.toUInt8]=l ++ Ph.putI n:=by rw [←he,Ph.putN_last g x hx']
  have e2:(l ++ Ph.putI n).length=acc.length+1:=by rw [←e1];simp
  refine rt1 hs rfl rfl ⟨ad,cap,by rw [e2],?_⟩
  rw [uQ (l:=acc) (m:=[x.toUInt8]) (by simp) (by rw [uP];exact congrArg (fun u=>bys acc ++ [Value.int .u8 u]) (u8w x hx'))] at hw'
  rw [e2,←e1]
  exact hw'
theorem aDw (s:ByteArray):Ph.putI (s.size:Int) ++ s.data.toList=Ph.putT s.data.toList:=by
 unfold Ph.putT
 rw [show (s.data.toList.length:Int)=(s.size:Int) from by rw [Array.length_toList];rfl]
theorem aDx {P:Program} {T:TypeId} [t:StrTy P T] (s:ByteArray) (W:World):Src P 1 T (.string s) s.data.toList.length (bys s.data.toList) W:=by
 have:=aDj (P:=P) (S:=T) (W:=W) s
 rwa [show s.size=s.data.toList.length from by rw [Array.length_toList];rfl] at this
theorem oR (w0 W:World) (v:Value) (l:List UInt8) (s:ByteArray) (R:List Res) (hs0:s.size≤1000000000) (hl:l.length≤1000000000) (hw:Has 0 w0 W (OwnB 5 v l::R)):
  Calls Tryz.prog 116 ⟨[v,.string s]⟩ W fun e W'=>∃ad cap,e= .returned (.slice ad (l ++ Ph.putT s.data.toList).length cap)∧Has 0 w0 W' (OwnB 5 (.slice ad (l ++ Ph.putT s.data.toList).length cap) (l ++ Ph.putT s.data.toList)::R):=by
 have e:=aDw s
 have hd:s.data.toList.length=s.size:=by rw [Array.length_toList];rfl
 have hp:=Ph.putI_length_le (s.size:Int)
 refine enter Tryz.func116 Tryz.ntmps116 rfl rfl fun a hs=>?_
 refine zA hs hw ?_;clear hs;intro a hs
 refine aF hs (hc:=eJ w0 W v l s.size R (by omega) (by omega) hl hw) (k:=?_);rintro e0 W1 ⟨ad,cap,rfl,hw1⟩;refine ⟨_,rfl,?_⟩;clear hs hw;intro a hs;have hw:=hw1;clear hw1
 refine zA hs hw ?_;clear hs;intro a hs
 refine hJ hs hw (l:=l ++ Ph.putI (s.size:Int)) (m:=s.data.toList) (hr:=aDx s W1) (hb:=by rw [List.length_append];omega) (c:=?_)
 clear hs hw;intro a ad cap W hs hw
 refine zA hs hw ?_;clear hs;intro a hs
 rw [List.append_assoc,e] at hs hw
 exact rt1 hs rfl rfl ⟨ad,cap,rfl,hw⟩
def cU (k n:Int) (s:ByteArray):List UInt8:=Ph.putI k ++ (if k=1 then Ph.putI n else if k=2 then Ph.putT s.data.toList else [])
theorem u5 (w0 W:World) (v:Value) (l:List UInt8) (k n:Int) (s:ByteArray) (R:List Res) (hk0: -9223372036854775808≤k) (hk1:k≤9223372036854775807) (h0: -9223372036854775808≤n) (h1:n≤9223372036854775807) (hs0:s.size≤1000000000) (hl:l.length≤900000000) (hw:Has 0 w0 W (OwnB 5 v l::R)):
  Calls Tryz.prog 258 ⟨[v,.agg #[.int .i64 k,.int .i64 n,.string s]]⟩ W fun e W'=>∃ad cap,e= .returned (.slice ad (l ++ cU k n s).length cap)∧Has 0 w0 W' (OwnB 5 (.slice ad (l ++ cU k n s).length cap) (l ++ cU k n s)::R):=by
 have hpk:=Ph.putI_length_le k
 refine enter Tryz.func258 Tryz.ntmps258 rfl rfl fun a hs=>?_
 repeat (first|(refine sxv hs hw ?_;clear hs;intro a hs)|refine sxc hs ?_|(refine sxa hs hw ?_;clear hs hw;intro a b W hw hs)|(refine sxs hs hw ?_;clear hs hw;intro W hs hw))
 refine aF hs (hc:=eJ w0 _ v l k _ hk0 hk1 (by omega) (hw.pick (by repeat (first|exact Pick.hd|apply Pick.tl)))) (k:=?_);rintro e0 W1 ⟨ad,cap,rfl,hw1⟩;refine ⟨_,rfl,?_⟩;clear hs hw;intro a hs;have hw:=hw1;clear hw1
 refine zA hs hw ?_;clear hs;intro a hs
 refine cI hs (kt:=fun hc=>?_) (kf:=fun hc=>?_)
 ·have hk:k=1:=by simpa using hc
  subst hk
  refine zA hs hw ?_;clear hs;intro a hs
  refine aF hs (hc:=eJ w0 _ _ (l ++ Ph.putI 1) n _ h0 h1 (by rw [List.length_append];omega) (hw.pick (by repeat (first|exact Pick.hd|apply Pick.tl)))) (k:=?_);rintro e0 W1 ⟨ad,cap,rfl,hw1⟩;refine ⟨_,rfl,?_⟩;clear hs hw;intro a hs;have hw:=hw1;clear hw1
  refine zA hs hw ?_;clear hs;intro a hs
  have e:l ++ cU 1 n s=l ++ Ph.putI 1 ++ Ph.putI n:=by rw [List.append_assoc];rfl
  rw [←e] at hs hw
  exact rt1 hs rfl rfl ⟨ad,cap,rfl,(hw.pick (by repeat (first|exact Pick.hd|apply Pick.tl))).sub (by repeat (first|exact List.Sublist.refl _|apply List.Sublist.cons_cons|apply List.Sublist.cons))⟩
 ·have hk:¬k=1:=by simpa using hc
  refine zA hs hw ?_;clear hs;intro a hs
  refine cI hs (kt:=fun hc=>?_) (kf:=fun hc=>?_)
  ·have hk2:k=2:=by simpa using hc
   subst hk2
   refine zA hs hw ?_;clear hs;intro a hs
   refine aF hs (hc:=oR w0 _ _ (l ++ Ph.putI 2) s _ hs0 (by rw [List.length_append];omega) (hw.pick (by repeat (first|exact Pick.hd|apply Pick.tl)))) (k:=?_);rintro e0 W1 ⟨ad,cap,rfl,hw1⟩;refine ⟨_,rfl,?_⟩;clear hs hw;intro a hs;have hw:=hw1;clear hw1
   refine zA hs hw ?_;clear hs;intro a hs
   have e:l ++ cU 2 n s=l ++ Ph.putI 2 ++ Ph.putT s.data.toList:=by rw [List.append_assoc];rfl
   rw [←e] at hs hw
   exact rt1 hs rfl rfl ⟨ad,cap,rfl,(hw.pick (by repeat (first|exact Pick.hd|apply Pick.tl))).sub (by repeat (first|exact List.Sublist.refl _|apply List.Sublist.cons_cons|apply List.Sublist.cons))⟩
  ·have hk2:¬k=2:=by simpa using hc
   refine zA hs hw ?_;clear hs;intro a hs
   have e:l ++ cU k n s=l ++ Ph.putI k:=by unfold cU;rw [if_neg hk,if_neg hk2,List.append_nil]
   rw [←e] at hs hw
   exact rt1 hs rfl rfl ⟨ad,cap,rfl,(hw.pick (by repeat (first|exact Pick.hd|apply Pick.tl))).sub (by repeat (first|exact List.Sublist.refl _|apply List.Sublist.cons_cons|apply List.Sublist.cons))⟩
end Go.Proofs.YtgpbngfehfbndaaGreatDoor.Sw
namespace Go.Sx
open Go.RowKit
abbrev KV:=List (ByteArray×Value)
def ks (a b:ByteArray):Bool:=a == b
theorem jR {a b:ByteArray}:ks a b=true↔a=b:=by
 unfold ks
 constructor
 ·intro h
  obtain ⟨a⟩:=a
  obtain ⟨b⟩:=b
  have:(a == b)=true:=h
  rw [beq_iff_eq] at this
  rw [this]
 ·rintro rfl
  obtain ⟨a⟩:=a
  show (a == a)=true
  exact beq_self_eq_true a
theorem rI (a:ByteArray):ks a a=true:=jR.2 rfl
def iR:KV→ByteArray→Option Value
 | [],_=>none
 |p::d,k=>match ks k p.1 with|true=>some p.2|false=>iR d k
def fR:KV→ByteArray→Value→KV
 | [],k,v=>[(k,v)]
 |p::d,k,v=>match ks k p.1 with|true=>(k,v)::d|false=>p::fR d k v
def jS:KV→ByteArray→KV
 | [],_=>[]
 |p::d,k=>match ks k p.1 with|true=>d|false=>p::jS d k
structure Ent where
 k:ByteArray
 v:Value
 t:Nat
def Ent.raw (e:Ent):MapEntry:=⟨.string e.k,e.v,e.t⟩
def Ent.kv (e:Ent):ByteArray×Value:=(e.k,e.v)
structure MapAt (W:World) (b:Nat) (es:List Ent) (c:Nat):Prop where
 at_:W.heap[b]? =some (.map ⟨es.map Ent.raw⟩ c)
 nodup:(es.map (·.t)).Nodup
 lt:∀e∈es,e.t<c
def bW (b:Nat) (d:KV):Res where
 ok F W:=F b∧∃es c,MapAt W b es c∧es.map Ent.kv=d
 loc F W W' h:=fun ⟨h1,es,c,h2,h3⟩=>⟨h1,es,c,⟨(h b h1).trans h2.at_,h2.nodup,h2.lt⟩,h3⟩
def iS:List Ent→ByteArray→Nat→Option (Nat×Value)
 | [],_,_=>none
 |e::es,k,i=>match ks k e.k with|true=>some (i,e.v)|false=>iS es k (i+1)
theorem z2 (k:ByteArray):∀(es:List Ent) (i:Nat),Instr.findNow .string (.string k) (es.map Ent.raw) i=some (iS es k i)
 | [],_=>rfl
 |e::es,i=>by
  simp only [List.map_cons,Instr.findNow,Ent.raw,Instr.sameNow,iS]
  rw [show (k == e.k)=ks k e.k from rfl]
  cases ks k e.k with
  |true=>rfl
  |false=>exact z2 k es (i+1)
theorem rJ {k:ByteArray}:∀{es:List Ent} {i:Nat},iS es k i=none→iR (es.map Ent.kv) k=none∧(∀v,fR (es.map Ent.kv) k v=es.map Ent.kv ++ [(k,v)])∧jS (es.map Ent.kv) k=es.map Ent.kv
 | [],_,_=>⟨rfl,fun _=>rfl,rfl⟩
 |e::es,i,h=>by
  simp only [iS] at h
  cases hk:ks k e.k with
  |true=>rw [hk] at h;cases h
  |false=>
   rw [hk] at h
   obtain ⟨h1,h2,h3⟩:=rJ (es:=es) (i:=i+1) h
   simp only [List.map_cons,iR,fR,jS,Ent.kv,hk]
   exact ⟨h1,fun v=>by rw [h2 v];rfl,by rw [h3]⟩
theorem rK {k:ByteArray}:∀{es:List Ent} {i j:Nat} {v0:Value},iS es k i=some (j,v0)→iR (es.map Ent.kv) k=some v0∧∃m e,j=i+m∧es[m]? =some e∧e.k=k∧
  (∀v,fR (es.map Ent.kv) k v=(es.modify m fun e=>⟨k,v,e.t⟩).map Ent.kv)∧jS (es.map Ent.kv) k=(es.eraseIdx m).map Ent.kv
 | [],_,_,_,h=>by simp [iS] at h
 |e::es,i,j,v0,h=>by
  simp only [iS] at h
  cases hk:ks k e.k with
  |true=>
   rw [hk] at h
   injection h with h
   injection h with h1 h2
   subst h1 h2
   simp only [List.map_cons,iR,fR,jS,Ent.kv,hk]
   exact ⟨trivial,0,e,rfl,rfl,(jR.1 hk).symm,fun v=>by simp [Ent.kv],by simp⟩
  |false=>
   rw [hk] at h
   obtain ⟨h1,m,e',h2,h3,h4,h5,h6⟩:=rK (es:=es) (i:=i+1) h
   simp only [List.map_cons,iR,fR,jS,Ent.kv,hk]
   refine ⟨h1,m+1,e',by omega,h3,h4,fun v=>?_,?_⟩
   ·rw [h5 v];simp [Ent.kv]
   ·rw [h6];simp [Ent.kv]
section
variable {P:Program} {W:World} {T K E:TypeId}
class Mp (P:Program) (T:TypeId) (K E:outParam TypeId):Prop where
 out:P.underlying T=some (.map K E)
 key:P.underlying K=some .string
theorem u6 (hK:P.underlying K=some .string) (em:Bool) (k:ByteArray) (W:World):(Instr.checkKey em 10000 K (.string k)).run P W= .ok () W:=by
 show (Instr.checkKey em (9999+1) K (.string k)).run P W= .ok () W
 unfold Instr.checkKey
 simp [run_underlying hK]
theorem u7 (hK:P.underlying K=some .string) (k:ByteArray) (es:List Ent) (W:World):(Instr.findKey K (.string k) (es.map Ent.raw)).run P W= .ok (iS es k 0) W:=by
 unfold Instr.findKey
 simp only [Sem.run_bind,run_underlying hK,Result.andThen_ok,z2]
 rfl
theorem MapAt.get {b:Nat} {es:List Ent} {c:Nat} (h:MapAt W b es c):(getObj b).run P W= .ok (.map ⟨es.map Ent.raw⟩ c) W:=MapKept.run_getObj_map h.at_
theorem aDy [m:Mp P T K E] {b:Nat} {es:List Ent} {c:Nat} {k:ByteArray} {zv:Value} (h:MapAt W b es c) (hz:(zeroValue E).run P W= .ok zv W):
  (Instr.lookup T (.map (some b)) (.string k) false).run P W= .ok ((iR (es.map Ent.kv) k).getD zv) W:=by
 unfold Instr.lookup
 simp only [Sem.run_bind,run_underlying m.out,Result.andThen_ok,h.get,u6 m.key,u7 m.key,Sem.run_pure]
 cases hf:iS es k 0 with
 |none=>
  simp only [(rJ hf).1,Sem.run_bind,hz,Result.andThen_ok,Sem.run_pure]
  rfl
 |some p=>
  obtain ⟨j,v⟩:=p
  simp only [(rK hf).1,Sem.run_bind,Result.andThen_ok,Sem.run_pure]
  rfl
theorem rL {b:Nat} {es:List Ent} {c:Nat} (h:MapAt W b es c) (o':Obj):(setObj b o').run P W= .ok () (ChangeMaps.setBlock W b o'):=by
 simp [setObj,Sem.run,h.at_,ChangeMaps.setBlock]
theorem mA {b:Nat} {o:Obj} (h:b<W.heap.size):(ChangeMaps.setBlock W b o).heap[b]? =some o:=by
 simp [ChangeMaps.setBlock,h]
theorem oS {b r:Nat} {o:Obj} (h:r≠b):(ChangeMaps.setBlock W b o).heap[r]? =W.heap[r]?:=by
 simp only [ChangeMaps.setBlock,Array.getElem?_setIfInBounds]
 rw [if_neg (Ne.symm h)]
theorem MapAt.size {b:Nat} {es:List Ent} {c:Nat} (h:MapAt W b es c):b<W.heap.size:=by
 have:=h.at_
 exact (Array.getElem?_eq_some_iff.1 this).1
theorem aDz (es:List Ent) (m:Nat) (k:ByteArray) (v:Value):(es.map Ent.raw).modify m (fun e=>{e with key:= .string k,val:=v})=(es.modify m fun e=>⟨k,v,e.t⟩).map Ent.raw:=by
 induction es generalizing m with
 |nil=>simp
 |cons e es ih=>
  cases m with
  |zero=>simp [Ent.raw]
  |succ m=>simp [ih]
theorem z6 (es:List Ent) (m:Nat) (k:ByteArray) (v:Value):(es.modify m fun e=>⟨k,v,e.t⟩).map (·.t)=es.map (·.t):=by
 induction es generalizing m with
 |nil=>simp
 |cons e es ih=>
  cases m with
  |zero=>simp
  |succ m=>simp [ih]
theorem aEA (es:List Ent) (m:Nat):(es.map Ent.raw).eraseIdx m=(es.eraseIdx m).map Ent.raw:=by
 induction es generalizing m with
 |nil=>simp
 |cons e es ih=>
  cases m with
  |zero=>simp
  |succ m=>simp [ih]
theorem aEB [m:Mp P T K E] {b:Nat} {es:List Ent} {c:Nat} {k:ByteArray} {v:Value} (h:MapAt W b es c):
  ∃W' es' c',(Instr.mapUpdate T (.map (some b)) (.string k) v).run P W= .ok () W'∧MapAt W' b es' c'∧es'.map Ent.kv=fR (es.map Ent.kv) k v∧∃o,W'=ChangeMaps.setBlock W b o:=by
 unfold Instr.mapUpdate
 simp only [Sem.run_bind,run_underlying m.out,Result.andThen_ok,h.get,u6 m.key,u7 m.key]
 cases hf:iS es k 0 with
 |none=>
  obtain ⟨h1,h2,h3⟩:=rJ hf
  refine ⟨_,es ++ [⟨k,v,c⟩],c+1,rL h _,⟨?_,?_,?_⟩,?_,_,rfl⟩
  ·rw [mA h.size]
   simp [Ent.raw]
  ·rw [List.map_append,List.nodup_append]
   refine ⟨h.nodup,by simp,fun a ha b hb=>?_⟩
   obtain ⟨e,he,rfl⟩:=List.mem_map.1 ha
   simp only [List.map_cons,List.map_nil,List.mem_singleton] at hb
   have:=h.lt e he
   omega
  ·intro e he
   rcases List.mem_append.1 he with he|he
   ·have:=h.lt e he;omega
   ·rw [List.mem_singleton] at he;subst he;exact Nat.lt_succ_self c
  ·rw [h2 v];simp [Ent.kv]
 |some p=>
  obtain ⟨j,v0⟩:=p
  obtain ⟨h1,i,e,h2,h3,h4,h5,h6⟩:=rK hf
  rw [Nat.zero_add] at h2
  subst h2
  have hkey:(((⟨es.map Ent.raw⟩:Array MapEntry)[j]?).map (·.key)).getD (.string k)= .string k:=by
   simp [h3,Ent.raw,h4]
  have hstay:(Instr.keyThatStays (.string k) (.string k)).run P W= .ok (.string k) W:=by
   unfold Instr.keyThatStays
   have:Instr.sameBits 10000 (.string k) (.string k)=true:=by
    show Instr.sameBits (9999+1) (.string k) (.string k)=true
    unfold Instr.sameBits
    exact rI k
   simp [this]
  refine ⟨ChangeMaps.setBlock W b (.map (Array.modify ⟨es.map Ent.raw⟩ j fun e=>{e with key:= .string k,val:=v}) c),es.modify j fun e=>⟨k,v,e.t⟩,c,?_,⟨?_,?_,?_⟩,(h5 v).symm,_,rfl⟩
  ·simp only [Sem.run_bind,hkey,hstay,Result.andThen_ok]
   exact rL h _
  ·rw [mA h.size]
   congr 2
   apply Array.ext'
   rw [Array.toList_modify]
   exact aDz es j k v
  ·rw [z6];exact h.nodup
  ·intro e' he'
   have:e'.t∈(es.modify j fun e=>⟨k,v,e.t⟩).map (·.t):=List.mem_map_of_mem he'
   rw [z6] at this
   obtain ⟨e2,he2,h7⟩:=List.mem_map.1 this
   rw [←h7];exact h.lt e2 he2
theorem aEC [m:Mp P T K E] {b:Nat} {es:List Ent} {c:Nat} {k:ByteArray} {ty:TypeId} (h:MapAt W b es c):
  ∃W' es' c',(Builtin.delete_ #[T,K] ty #[.map (some b),.string k]).run P W= .ok (.tuple #[]) W'∧MapAt W' b es' c'∧es'.map Ent.kv=jS (es.map Ent.kv) k∧∃o,W'=ChangeMaps.setBlock W b o:=by
 unfold Builtin.delete_
 simp only [List.getElem?_toArray,List.getElem?_cons_zero,List.getElem?_cons_succ,Sem.run_bind,run_underlying m.out,Result.andThen_ok,h.get,u6 m.key,u7 m.key]
 cases hf:iS es k 0 with
 |none=>
  obtain ⟨h1,h2,h3⟩:=rJ hf
  refine ⟨_,es,c,?_,⟨mA h.size,h.nodup,h.lt⟩,h3.symm,_,rfl⟩
  simp only [Sem.run_bind,rL h,Result.andThen_ok]
  rfl
 |some p=>
  obtain ⟨j,v0⟩:=p
  obtain ⟨h1,i,e,h2,h3,h4,h5,h6⟩:=rK hf
  rw [Nat.zero_add] at h2
  subst h2
  refine ⟨ChangeMaps.setBlock W b (.map (Array.eraseIdxIfInBounds ⟨es.map Ent.raw⟩ j) c),es.eraseIdx j,c,?_,⟨?_,?_,?_⟩,h6.symm,_,rfl⟩
  ·simp only [Sem.run_bind,rL h,Result.andThen_ok]
   rfl
  ·rw [mA h.size]
   congr 2
   apply Array.ext'
   rw [Array.toList_eraseIdxIfInBounds]
   exact aEA es j
  ·exact h.nodup.sublist ((List.eraseIdx_sublist _ _).map _)
  ·exact fun e he=>h.lt e (List.mem_of_mem_eraseIdx he)
end
section
variable {G:Nat} {w W W':World} {L L' R R':List Res} {b:Nat} {d d':KV}
theorem Has.setMap (h:Has G w W L) (u:Upd (bW b d) L (bW b d') L') {o:Obj} (hW:W'=ChangeMaps.setBlock W b o) (hd:∃es c,MapAt W' b es c∧es.map Ent.kv=d'):Has G w W' L':=by
 obtain ⟨F1,h1,h2,h3⟩:=h.has.upd u
 have hbG:=(h1 b h2.1).1
 have hbl:=(h1 b h2.1).2
 subst hW
 have hx:(ChangeMaps.setBlock W b o).heap.size=W.heap.size:=by simp [ChangeMaps.setBlock]
 refine ⟨h.ext.trans ⟨rfl,rfl,rfl,by omega,fun c hc=>oS (by omega)⟩,h.glob,h3 _ _ (fun c=>c=b) (fun c hc=>⟨hc.1,by omega⟩) ?_ ?_ ⟨rfl,hd⟩⟩
 ·rintro c rfl
  exact ⟨⟨hbG,by omega⟩,fun _=>h2.1⟩
 ·intro c hc hn
  refine oS fun e=>hn ?_
  rw [e];exact h2.1
theorem Has.map_at (h:Has G w W L) (i:In (bW b d) L):∃es c,MapAt W b es c∧es.map Ent.kv=d:=by
 obtain ⟨F,_,h2⟩:=h.of_in i
 exact h2.2
theorem Has.newObj (h:Has G w W L) {o:Obj} {r:Res} (hr:r.ok (fun b=>b=W.heap.size) (W.alloc o)):Has G w (W.alloc o) (r::L):=by
 have hb:Below W.heap.size W (W.alloc o):=(Below.refl _ _).alloc (Nat.le_refl _) _
 have h1:=h.below hb
 refine ⟨h1.ext,h1.glob,fun b=>b=W.heap.size,?_,hr,?_⟩
 ·rintro b rfl
  exact ⟨h.globW,by simp⟩
 ·refine (h.has.loc fun b hb'=>hb.block b hb'.2).mono fun b hb'=>⟨⟨hb'.1,Nat.lt_of_lt_of_le hb'.2 hb.size⟩,by omega⟩
theorem Has.newMap (h:Has G w W L):Has G w (W.alloc (.map #[] 0)) (bW W.heap.size []::L):=
 h.newObj ⟨rfl,[],0,⟨heap_alloc_new _ _,by simp,by simp⟩,rfl⟩
end
section
variable {P:Program} {ops:Array Oper} {aD:List Oper} {Q:Exit→Act→World→Prop} {a:Act} {n G:Nat} {L:List (Nat×Value)} {w W:World} {R R':List Res} {dst b:Nat} {T K E ty:TypeId} {p:String} {e:Array Edge} {x y z:Operand} {k:ByteArray} {v zv:Value} {d:KV}
theorem z7 (hs:Slots a n L) (hw:Has G w W R) (hd:Nat.blt dst n=true:=by with_unfolding_all exact rfl)
  (c:∀a' b W',Has G w W' (bW b []::R)→Slots a' n ((dst,.map (some b))::L)→wpList P ops Q aD a' W'):wpList P ops Q (⟨some dst,.makeMap T none,ty,p,e,none⟩::aD) a W:=by
 refine bO hs hd (v:= .map (some W.heap.size)) (W':=W.alloc (.map #[] 0)) ?_ fun a' hs'=>c a' W.heap.size _ hw.newMap hs'
 simp only [execOp,Option.map_none,Sem.run_bind,run_makeMap,Result.andThen_ok]
 rfl
theorem mB [m:Mp P T K E] (hs:Slots a n L) (hx:ev L x=some (.map (some b)):=by with_unfolding_all exact rfl) (hy:ev L y=some (.string k):=by with_unfolding_all exact rfl) (hw:Has G w W R) (hi:In (bW b d) R:=by repeat (first|exact In.hd|apply In.tl)) (hz:∀W,(zeroValue E).run P W= .ok zv W) (hd:Nat.blt dst n=true:=by with_unfolding_all exact rfl)
  (c:∀a',Slots a' n ((dst,(iR d k).getD zv)::L)→wpList P ops Q aD a' W):wpList P ops Q (⟨some dst,.lookup T x y false,ty,p,e,none⟩::aD) a W:=by
 obtain ⟨es,ck,h1,rfl⟩:=hw.map_at hi
 refine bO hs hd (W':=W) ?_ c
 simp only [execOp,hs.ev hx,hs.ev hy,Sem.run_bind,aDy h1 (hz W),Result.andThen_ok]
 rfl
theorem oT [m:Mp P T K E] (hs:Slots a n L) (hx:ev L x=some (.map (some b)):=by with_unfolding_all exact rfl) (hy:ev L y=some (.string k):=by with_unfolding_all exact rfl) (hz:ev L z=some v:=by with_unfolding_all exact rfl) (hw:Has G w W R) (hu:Upd (bW b d) R (bW b (fR d k v)) R':=by repeat (first|exact Upd.hd|apply Upd.tl))
  (c:∀W',Slots a n L→Has G w W' R'→wpList P ops Q aD a W'):wpList P ops Q (⟨none,.mapUpdate T x y z,ty,p,e,none⟩::aD) a W:=by
 obtain ⟨F1, -,h2, -⟩:=hw.has.upd hu
 obtain ⟨-,es,ck,h1,rfl⟩:=h2
 obtain ⟨W',es',c',g1,g2,g3,o,g4⟩:=aEB (P:=P) (T:=T) (k:=k) (v:=v) h1
 refine uG hs (W':=W') ?_ fun hs'=>c W' hs' (hw.setMap hu g4 ⟨es',c',g2,g3⟩)
 simp only [execOp,hs.ev hx,hs.ev hy,hs.ev hz,Sem.run_bind,g1,Result.andThen_ok]
 rfl
theorem z8 {op:Op} {W':World} (hs:Slots a n L) (he:(execOp a.eval ⟨none,op,ty,p,e,none⟩).run P W= .ok (.value v) W')
  (c:Slots a n L→wpList P ops Q aD a W'):wpList P ops Q (⟨none,op,ty,p,e,none⟩::aD) a W:=by
 refine wpList_plain rfl fun K hK=>?_
 simp only [Oper.wp,he,Oper.upon_value]
 exact hK _ _ (c hs)
theorem aED [m:Mp P T K E] (hs:Slots a n L) (hx:ev L x=some (.map (some b)):=by with_unfolding_all exact rfl) (hy:ev L y=some (.string k):=by with_unfolding_all exact rfl) (hw:Has G w W R) (hu:Upd (bW b d) R (bW b (jS d k)) R':=by repeat (first|exact Upd.hd|apply Upd.tl))
  (c:∀W',Slots a n L→Has G w W' R'→wpList P ops Q aD a W'):wpList P ops Q (⟨none,.call {callee:= .builtin .delete,args:=#[x,y],argTypes:=#[T,K]},ty,p,e,none⟩::aD) a W:=by
 obtain ⟨F1, -,h2, -⟩:=hw.has.upd hu
 obtain ⟨-,es,ck,h1,rfl⟩:=h2
 obtain ⟨W',es',c',g1,g2,g3,o,g4⟩:=aEC (P:=P) (T:=T) (k:=k) (ty:=ty) h1
 refine z8 hs (v:= .tuple #[]) (W':=W') ?_ fun hs'=>c W' hs' (hw.setMap hu g4 ⟨es',c',g2,g3⟩)
 simp only [execOp,resolve,invoke,builtin,Sem.run_bind,Sem.run_pure,Result.andThen_ok,List.map_toArray,List.map_cons,List.map_nil,hs.ev hx,hs.ev hy,g1]
theorem aEE [m:Mp P T K E] (hs:Slots a n L) (hx:ev L x=some (.map (some b)):=by with_unfolding_all exact rfl) (hw:Has G w W R) (hi:In (bW b d) R:=by repeat (first|exact In.hd|apply In.tl)) (hd:Nat.blt dst n=true:=by with_unfolding_all exact rfl)
  (c:∀a',Slots a' n ((dst,.int .i64 (d.length:Int))::L)→wpList P ops Q aD a' W):wpList P ops Q (⟨some dst,.call {callee:= .builtin .len,args:=#[x],argTypes:=#[T]},ty,p,e,none⟩::aD) a W:=by
 obtain ⟨es,ck,h1,rfl⟩:=hw.map_at hi
 refine bO hs hd (W':=W) ?_ c
 simp only [execOp,resolve,invoke,builtin,Builtin.len_,List.map_toArray,List.map_cons,List.map_nil,hs.ev hx,Sem.run_bind,Sem.run_pure,Result.andThen_ok]
 simp [Sem.run_bind,run_underlying m.out,goInt,h1.get]
end
def mC (b it:Nat) (d left:KV) (cur:Option (ByteArray×Value)):Res where
 ok F W:=F b∧F it∧b≠it∧∃(es:List Ent) (c since:Nat) (seen:List Nat) (c0:Nat),MapAt W b es c∧es.map Ent.kv=d∧W.heap[it]? =some (.mapIter (some b) since ⟨seen⟩ c0)∧(∀e∈es,e.t<since)∧since≤c0∧since≤c∧(es.filter fun e=>!seen.contains e.t).map Ent.kv=left∧∀p,cur=some p→c0=c∧∃(s:List Nat) (e:Ent),seen=s ++ [e.t]∧e∈es∧e.kv=p
 loc F W W' h:=fun ⟨h1,h2,hn,es,c,since,seen,c0,h3,h4,h5,h6⟩=>⟨h1,h2,hn,es,c,since,seen,c0,⟨(h b h1).trans h3.at_,h3.nodup,h3.lt⟩,h4,(h it h2).trans h5,h6⟩
section
variable {G:Nat} {w W W':World} {L L' R R':List Res} {b it:Nat} {d left:KV} {cur:Option (ByteArray×Value)}
theorem Has.ranged (h:Has G w W (bW b d::L)):∃c,(∃es,MapAt W b es c)∧Has G w (W.alloc (.mapIter (some b) c #[] c)) (mC b W.heap.size d d none::L):=by
 obtain ⟨F1,h1,⟨h2,es,c,h3,rfl⟩,h4⟩:=h.has
 have hb:Below W.heap.size W (W.alloc (.mapIter (some b) c #[] c)):=(Below.refl _ _).alloc (Nat.le_refl _) _
 have he:=h.below hb
 refine ⟨c,⟨es,h3⟩,he.ext,he.glob,fun x=>F1 x∨x=W.heap.size,?_,⟨.inl h2,.inr rfl,?_,es,c,c,[],c,⟨?_,h3.nodup,h3.lt⟩,rfl,heap_alloc_new _ _,h3.lt,Nat.le_refl _,Nat.le_refl _,congrArg (List.map Ent.kv) (List.filter_eq_self.2 fun e _=>by simp),fun p h=>by cases h⟩,?_⟩
 ·rintro x (hx|rfl)
  ·exact ⟨(h1 x hx).1,Nat.lt_of_lt_of_le (h1 x hx).2 hb.size⟩
  ·exact ⟨h.globW,by simp⟩
 ·have:=h3.size;omega
 ·exact (heap_alloc_old W _ h3.size).trans h3.at_
 ·refine (h4.loc fun x hx=>hb.block x hx.1.2).mono fun x hx=>⟨⟨hx.1.1,Nat.lt_of_lt_of_le hx.1.2 hb.size⟩,?_⟩
  rintro (h|h)
  ·exact hx.2 h
  ·have:=hx.1.2;omega
theorem Has.unranged (h:Has G w W (mC b it d left cur::L)):Has G w W (bW b d::L):=by
 obtain ⟨F1,h1,⟨h2,h3,hn,es,c,since,seen,c0,h4,h5,h6⟩,h7⟩:=h.has
 exact ⟨h.ext,h.glob,F1,h1,⟨h2,es,c,h4,h5⟩,h7⟩
theorem aAA (es:List Ent) (seen:List Nat):(leftOf ⟨es.map Ent.raw⟩ ⟨seen⟩).toList=(es.filter fun e=>!seen.contains e.t).map Ent.raw:=by
 unfold leftOf
 simp only [Array.toList_filter,List.filter_map]
 congr 1
 apply List.filter_congr
 intro e _
 simp [Ent.raw]
 exact decide_eq_decide.2 Iff.rfl
theorem aEF {es:List Ent} {seen:List Nat} {e:Ent} (hd:(es.map (·.t)).Nodup) (he:e∈es.filter fun e=>!seen.contains e.t):
  (es.filter fun e=>!seen.contains e.t).Perm (e::es.filter fun x=>!(seen ++ [e.t]).contains x.t):=by
 have e1:(es.filter fun x=>!(seen ++ [e.t]).contains x.t)=(es.filter fun e=>!seen.contains e.t).filter fun x=>!(x.t == e.t):=by
  rw [List.filter_filter]
  apply List.filter_congr
  intro x _
  simp only [List.contains_eq_mem,List.mem_append,List.mem_singleton]
  by_cases h1:x.t∈seen <;> by_cases h2:x.t=e.t <;> simp [h1,h2]
 rw [e1]
 have hd':((es.filter fun e=>!seen.contains e.t).map (·.t)).Nodup:=hd.sublist (List.filter_sublist.map _)
 generalize (es.filter fun e=>!seen.contains e.t)=l at *
 clear e1 hd
 induction l with
 |nil=>simp at he
 |cons x l ih=>
  rw [List.map_cons,List.nodup_cons] at hd'
  rcases List.mem_cons.1 he with rfl|he
  ·rw [List.filter_cons]
   simp only [beq_self_eq_true,Bool.not_true,Bool.false_eq_true,if_false]
   have:l.filter (fun x=>!(x.t == e.t))=l:=by
    rw [List.filter_eq_self]
    intro y hy
    have:y.t≠e.t:=fun h=>hd'.1 (by rw [←h];exact List.mem_map_of_mem hy)
    simpa using this
   rw [this]
  ·have hne:x.t≠e.t:=fun h=>hd'.1 (by rw [h];exact List.mem_map_of_mem he)
   rw [List.filter_cons]
   have:(x.t == e.t)=false:=by simpa using hne
   simp only [this,Bool.not_false,if_true]
   exact ((ih he hd'.2).cons x).trans (List.Perm.swap _ _ _)
end
section
variable {P:Program} {ops:Array Oper} {aD:List Oper} {Q:Exit→Act→World→Prop} {a:Act} {n G:Nat} {L:List (Nat×Value)} {w W:World} {R R':List Res} {dst b it:Nat} {T K E ty:TypeId} {p:String} {e:Array Edge} {x:Operand} {d left:KV} {cur:Option (ByteArray×Value)}
theorem aEG [m:Mp P T K E] (hs:Slots a n L) (hx:ev L x=some (.map (some b)):=by with_unfolding_all exact rfl) (hw:Has G w W (bW b d::R)) (hd:Nat.blt dst n=true:=by with_unfolding_all exact rfl)
  (c:∀a' it W',Has G w W' (mC b it d d none::R)→Slots a' n ((dst,.pointer (some ⟨it,0,none⟩))::L)→wpList P ops Q aD a' W'):wpList P ops Q (⟨some dst,.range T x,ty,p,e,none⟩::aD) a W:=by
 obtain ⟨ck,⟨es,h1⟩,hw'⟩:=hw.ranged
 refine bO hs hd (v:= .pointer (some ⟨W.heap.size,0,none⟩)) (W':=W.alloc (.mapIter (some b) ck #[] ck)) ?_ fun a' hs'=>c a' W.heap.size _ hw' hs'
 simp only [execOp,hs.ev hx,Sem.run_bind,run_range_map W T K E b _ _ m.out h1.at_,Result.andThen_ok]
 rfl
theorem aEH (hs:Slots a n L) (hx:ev L x=some (.pointer (some ⟨it,0,none⟩)):=by with_unfolding_all exact rfl) (hw:Has G w W (mC b it d left cur::R)) (hd:Nat.blt dst n=true:=by with_unfolding_all exact rfl)
  (c1:∀a',left= []→Slots a' n ((dst,.tuple #[.bool false])::L)→wpList P ops Q aD a' W)
  (c2:∀a' W' kv left',left.Perm (kv::left')→Has G w W' (mC b it d left' (some kv)::R)→Slots a' n ((dst,.tuple #[.bool true,.string kv.1,kv.2])::L)→wpList P ops Q aD a' W'):wpList P ops Q (⟨some dst,.next x false,ty,p,e,none⟩::aD) a W:=by
 have hW:=hw
 obtain ⟨F1,h1,⟨h2,h3,hn,es,ck,since,seen,c0,h4,h5,h6,h7,h8,h9,h10, -⟩,h11⟩:=hw.has
 have hold:∀x∈(⟨es.map Ent.raw⟩:Array MapEntry).toList,x.born<since:=by
  intro x hx
  obtain ⟨e,he,rfl⟩:=List.mem_map.1 hx
  exact h7 e he
 rcases run_next_at (P:=P) W ty it b since c0 ⟨seen⟩ ⟨es.map Ent.raw⟩ ck h6 h4.at_ hold h8 with ⟨g1,g2⟩|⟨en,g1,w1,g2,g3⟩
 ·refine bO hs hd (W':=W) ?_ fun a' hs'=>c1 a' ?_ hs'
  ·simp only [execOp,hs.ev hx,Sem.run_bind,g2,Result.andThen_ok]
   rfl
  ·have:(leftOf ⟨es.map Ent.raw⟩ ⟨seen⟩).toList.length=0:=by rw [Array.length_toList];exact g1
   rw [aAA] at this
   rw [←h10]
   simpa using this
 ·rw [aAA] at g1
  obtain ⟨e',he',rfl⟩:=List.mem_map.1 g1
  have hp:=aEF h4.nodup he'
  refine bO hs hd (W':=ChangeMaps.setBlock w1 it (.mapIter (some b) since ((⟨seen⟩:Array Nat).push e'.t) ck)) ?_ fun a' hs'=>c2 a' _ e'.kv _ (by rw [←h10];exact hp.map Ent.kv) ?_ hs'
  ·simp only [execOp,hs.ev hx,Sem.run_bind,Ent.raw,g3,Result.andThen_ok]
   rfl
  ·have hbl:=(h1 it h3)
   have hw1:w1.heap=W.heap∧w1.os=W.os∧w1.tape=W.tape∧w1.output=W.output:=by rcases g2 with rfl|rfl <;> exact ⟨rfl,rfl,rfl,rfl⟩
   have hsz:w1.heap.size=W.heap.size:=by rw [hw1.1]
   have hoth:∀r,r≠it→(ChangeMaps.setBlock w1 it (.mapIter (some b) since ((⟨seen⟩:Array Nat).push e'.t) ck)).heap[r]? =W.heap[r]?:=fun r hr=>by
    rw [oS hr,hw1.1]
   have hx2:(ChangeMaps.setBlock w1 it (.mapIter (some b) since ((⟨seen⟩:Array Nat).push e'.t) ck)).heap.size=W.heap.size:=by simp [ChangeMaps.setBlock,hsz]
   refine ⟨hW.ext.trans ⟨hw1.2.1,hw1.2.2.1,hw1.2.2.2,by omega,fun r hr=>hoth r (by omega)⟩,hW.glob,F1,?_,⟨h2,h3,hn,es,ck,since,seen ++ [e'.t],ck,⟨(hoth b hn).trans h4.at_,h4.nodup,h4.lt⟩,h5,?_,h7,h9,h9,rfl,fun p hp=>⟨rfl,seen,e',rfl,(List.mem_filter.1 he').1,Option.some.inj hp⟩⟩,?_⟩
   ·intro r hr
    rw [hx2];exact h1 r hr
   ·rw [mA (by omega)]
    simp
   ·refine (h11.loc fun r hr=>hoth r fun h=>hr.2 (h▸h3)).mono fun r hr=>?_
    rw [hx2];exact hr
theorem aEI {kv:ByteArray×Value} (hs:Slots a n L) (hx:ev L x=some (.pointer (some ⟨it,0,none⟩)):=by with_unfolding_all exact rfl) (hw:Has G w W R) (hi:In (mC b it d left (some kv)) R:=by repeat (first|exact In.hd|apply In.tl)) (hd:Nat.blt dst n=true:=by with_unfolding_all exact rfl)
  (c:∀a',Slots a' n ((dst,.tuple #[.string kv.1,kv.2])::L)→wpList P ops Q aD a' W):wpList P ops Q (⟨some dst,.entry x,ty,p,e,none⟩::aD) a W:=by
 obtain ⟨F, -,h2,h3,hn,es,ck,since,seen,c0,h4,h5,h6,h7,h8,h9,h10,h11⟩:=hw.of_in hi
 obtain ⟨rfl,s,e',rfl,he,rfl⟩:=h11 kv rfl
 refine bO hs hd (W':=W) ?_ c
 have hr:W.heap[it]? =some (.mapIter (some b) since ((⟨s⟩:Array Nat).push e'.raw.born) c0):=by rw [h6];simp [Ent.raw]
 have:=run_entry_at (P:=P) W it b since ⟨s⟩ ⟨es.map Ent.raw⟩ c0 e'.raw hr h4.at_ (List.mem_map_of_mem he) (by simpa [Ent.raw,Function.comp_def] using h4.nodup)
 simp only [execOp,hs.ev hx,Sem.run_bind,this,Result.andThen_ok]
 rfl
end
theorem aAB:∀{d:KV} {k:ByteArray} (v:Value),k∉d.map (·.1)→fR d k v=d ++ [(k,v)]
 | [],_,_,_=>rfl
 |p::d,k,v,h=>by
  rw [List.map_cons,List.mem_cons,not_or] at h
  have:ks k p.1=false:=by
   cases hk:ks k p.1 with
   |false=>rfl
   |true=>exact absurd (jR.1 hk) h.1
  simp only [fR,this]
  rw [aAB v h.2];rfl
end Go.Sx
namespace Go.Sx
theorem HasIn.under {W:World} {r:Res} {A B:List Res} (f:∀F,HasIn W A F→HasIn W B F) {F:Nat→Prop}:HasIn W (r::A) F→HasIn W (r::B) F:=
 fun ⟨F1,h1,h2,h3⟩=>⟨F1,h1,h2,f _ h3⟩
theorem HasIn.perm {W:World} {A B:List Res} (p:A.Perm B):∀{F:Nat→Prop},HasIn W A F→HasIn W B F:=by
 induction p with
 |nil=>exact fun h=>h
 |cons x _ ih=>exact fun h=>HasIn.under (fun F=>ih) h
 |swap x y l=>exact fun h=>HasIn.swap h
 |trans _ _ ih1 ih2=>exact fun h=>ih2 (ih1 h)
theorem Has.perm {G:Nat} {w W:World} {A B:List Res} (h:Has G w W A) (p:A.Perm B):Has G w W B:=⟨h.ext,h.glob,h.has.perm p⟩
def bK:Res where
 ok _ _:=True
 loc _ _ _ _ h:=h
theorem Has.free {G:Nat} {w W:World} {A:List Res} (h:Has G w W A):Has G w W (bK::A):=
 ⟨h.ext,h.glob,fun _=>False,fun _ h=>h.elim,trivial,h.has.mono fun b hb=>⟨hb,fun h=>h⟩⟩
theorem HasIn.fill {W:World} {r q:Res} {L L':List Res} (u:Upd q L r L'):∀{F:Nat→Prop},HasIn W (r::L) F→HasIn W L' F:=by
 induction u with
 |hd=>
  rintro F ⟨F1,h1,h2,F2,h3,h4,h5⟩
  exact ⟨F1,h1,h2,h5.mono fun b hb=>hb.1⟩
 |tl u ih=>exact fun h=>HasIn.under (fun F=>ih) (HasIn.swap h)
theorem Has.fill {G:Nat} {w W:World} {r q:Res} {L L':List Res} (h:Has G w W (r::L)) (u:Upd q L r L'):Has G w W L':=⟨h.ext,h.glob,h.has.fill u⟩
def bN (p:Prop):Res where
 ok _ _:=p
 loc _ _ _ _ h:=h
theorem Has.fact {G:Nat} {w W:World} {A:List Res} {p:Prop} (h:Has G w W A) (hp:p):Has G w W (bN p::A):=
 ⟨h.ext,h.glob,fun _=>False,fun _ h=>h.elim,hp,h.has.mono fun b hb=>⟨hb,fun h=>h⟩⟩
theorem Has.told {G:Nat} {w W:World} {A:List Res} {p:Prop} (h:Has G w W A) (i:In (bN p) A):p:=by
 obtain ⟨F,_,h2⟩:=h.of_in i
 exact h2
section
variable {P:Program} {ops:Array Oper} {aD:List Oper} {Q:Exit→Act→World→Prop} {a:Act} {n G:Nat} {L:List (Nat×Value)} {w W W':World} {R:List Res} {d k cap:Nat} {T S S' E:TypeId} {p:String} {e:Array Edge} {x y:Operand} {ad:Option Addr}
theorem kE [sl:Sl P S E] (hs:Slots a n L) (hx:ev L x=some (.slice ad k cap):=by with_unfolding_all exact rfl) (hd:Nat.blt d n=true:=by with_unfolding_all exact rfl)
  (c:∀a',Slots a' n ((d,.bool ad.isNone)::L)→wpList P ops Q aD a' W):wpList P ops Q (⟨some d,.binOp .eql S x (.const (.slice none 0 0)) S',T,p,e,none⟩::aD) a W:=by
 refine bO hs hd (W':=W) ?_ c
 have h1:∀d,(Op.equalIn (d+1) S (.slice ad k cap) (.slice none 0 0)).run P W= .ok ad.isNone W:=fun d=>by
  cases ad <;> simp [Op.equalIn,run_underlying sl.out]
 have h2:(binOp .eql S (.slice ad k cap) (.slice none 0 0)).run P W= .ok (.bool ad.isNone) W:=by
  simp only [binOp,Op.equal,Sem.run_bind]
  rw [show Op.maxDepth=9999+1 from rfl,h1 9999]
  rfl
 have h3:a.eval (.const (.slice none 0 0))= .slice none 0 0:=rfl
 simp only [execOp,hs.ev hx,h3,Sem.run_bind]
 simp [eqGuard,h2]
theorem aEJ {s:ByteArray} {q:IntKind} {i:Int} {hi:Operand} [t:StrTy P S] (hs:Slots a n L) (hx:ev L x=some (.string s):=by with_unfolding_all exact rfl) (hh:ev L hi=some (.int q i):=by with_unfolding_all exact rfl) (h0:0≤i) (h1:i≤s.size) (hd:Nat.blt d n=true:=by with_unfolding_all exact rfl)
  (c:∀a',Slots a' n ((d,.string (s.extract 0 i.toNat))::L)→wpList P ops Q aD a' W):wpList P ops Q (⟨some d,.slice S x none (some hi) none,T,p,e,none⟩::aD) a W:=by
 refine bO hs hd (W':=W) ?_ c
 simp only [execOp,Option.map_some,Option.map_none,hs.ev hx,hs.ev hh]
 simp only [Sem.run_bind,run_sliceAt_string (h:=t.out),run_slice_string_h (ht:=t.out) (h0:=h0) (h2:=h1),Result.andThen_ok]
 rfl
end
open Go.RowKit
theorem nB {r:Res} {L L' K:List Res} (p:Pick r L L') (h:L'.Perm K):L.Perm (r::K):=by
 induction p generalizing K with
 |hd=>exact h.cons r
 |tl p ih=>exact ((ih (List.Perm.refl _)).cons _).trans ((List.Perm.swap _ _ _).trans (h.cons r))
theorem Has.pm {G:Nat} {w W:World} {A B:List Res} (h:Has G w W A) (p:A.Perm B:=by repeat (first|exact List.Perm.refl _|refine nB (by repeat (first|exact Pick.hd|apply Pick.tl)) ?_)):Has G w W B:=h.perm p
abbrev Fh:=Nat→Option Obj
def Fz (H:Fh):Res where
 ok F W:=∀b o,H b=some o→F b∧W.heap[b]? =some o
 loc F W W' h k:=fun b o hb=>⟨(k b o hb).1,(h b (k b o hb).1).trans (k b o hb).2⟩
def Fh.le (H H':Fh):Prop:=∀b o,H b=some o→H' b=some o
theorem Fh.le.refl (H:Fh):H.le H:=fun _ _ h=>h
theorem Fh.le.trans {H H' H'':Fh} (h:H.le H') (k:H'.le H''):H.le H'':=fun b o e=>k b o (h b o e)
def fr (w:World):Fh:=fun b=>w.heap[b]?
section
variable {G:Nat} {w W W':World} {L L' R:List Res} {H H':Fh}
theorem Has.startF (w:World):Has 0 w w [Fz (fr w)]:=
 ⟨Ext.refl _ _,Nat.zero_le _,fun b=>0≤b∧b<w.heap.size,fun _ h=>h,fun b o hb=>⟨⟨Nat.zero_le _,(Array.getElem?_eq_some_iff.1 hb).1⟩,hb⟩,trivial⟩
theorem Has.endF (h:Has 0 w W L) (i:In (Fz H) L) (hH:(fr w).le H):Below w.heap.size w W:=by
 obtain ⟨F,_,h2⟩:=h.of_in i
 refine ⟨h.ext.os,h.ext.tape,h.ext.output,h.ext.size,fun b hb=>?_⟩
 obtain ⟨o,ho⟩:∃o,w.heap[b]? =some o:=⟨w.heap[b],Array.getElem?_eq_getElem hb⟩
 rw [ho]
 exact (h2 b o (hH b o ho)).2
def RdH (H:Fh) (size:Nat) (v:Value) (n:Nat) (xs:List Value):Prop:=
 xs.length=n*size∧∃ad cap,v= .slice ad n cap∧n≤cap∧cap≤9223372036854775807∧(n=0∨∃b o cs T z,ad=some ⟨b,o,none⟩∧H b=some (.cells cs T z)∧∀j x,xs[j]? =some x→cs[o+j]? =some x)
theorem RdH.le {size n:Nat} {v:Value} {xs:List Value} (r:RdH H size v n xs) (h:H.le H'):RdH H' size v n xs:=by
 obtain ⟨h1,ad,cap,h2,h3,h4,h5⟩:=r
 refine ⟨h1,ad,cap,h2,h3,h4,h5.imp id ?_⟩
 rintro ⟨b,o,cs,T,z,e,hb,hc⟩
 exact ⟨b,o,cs,T,z,e,h _ _ hb,hc⟩
theorem RdH.len {size n:Nat} {v:Value} {xs:List Value} (r:RdH H size v n xs):n≤9223372036854775807:=by
 obtain ⟨_,_,cap,_,h3,h4,_⟩:=r;omega
theorem RdH.slice {size n:Nat} {v:Value} {xs:List Value} (r:RdH H size v n xs):∃ad cap,v= .slice ad n cap:=by
 obtain ⟨_,ad,cap,e,_⟩:=r;exact ⟨ad,cap,e⟩
theorem RdH.nil (H:Fh) (size c:Nat) (hc:c≤9223372036854775807):RdH H size (.slice none 0 c) 0 []:=⟨by simp,none,c,rfl,by omega,hc,.inl rfl⟩
theorem Has.rdH {w0:World} {size n:Nat} {v:Value} {xs:List Value} (h:Has G w0 W L) (i:In (Fz H) L) (r:RdH H size v n xs):Rd W size v n xs:=by
 obtain ⟨F,hF,h2⟩:=h.of_in i
 obtain ⟨h1,ad,cap,e2,h3,h4,h5⟩:=r
 refine ⟨h1,ad,cap,e2,h3,h4,h5.imp id ?_⟩
 rintro ⟨b,o,cs,T,z,e,hb,hc⟩
 have hw:=h2 b _ hb
 refine ⟨b,o,e,(hF b hw.1).2,fun j x hx=>?_⟩
 unfold World.cell?
 rw [hw.2]
 simpa using hc j x hx
theorem Has.freeze {r:Res} {R':List Res} (h:Has G w W (r::Fz H::R)):∃H',H.le H'∧Has G w W (Fz H'::R)∧∃F,r.ok F W∧∀b o,F b→W.heap[b]? =some o→H' b=some o:=by
 classical
 obtain ⟨F1,h1,h2,F2,h3,h4,h5⟩:=h.has
 refine ⟨fun b=>if F1 b then W.heap[b]? else H b,fun b o hb=>?_,⟨h.ext,h.glob,fun b=>F1 b∨F2 b,?_,fun b o hb=>?_,?_⟩,F1,h2,fun b o hb ho=>?_⟩
 ·have:=(h3 b (h4 b o hb).1).2
  simp only [if_neg this]
  exact hb
 ·rintro b (hb|hb)
  ·exact h1 b hb
  ·exact (h3 b hb).1
 ·by_cases hf:F1 b
  ·simp only [if_pos hf] at hb
   exact ⟨.inl hf,hb⟩
  ·simp only [if_neg hf] at hb
   exact ⟨.inr (h4 b o hb).1,(h4 b o hb).2⟩
 ·refine h5.mono fun b hb=>⟨hb.1.1,?_⟩
  rintro (h|h)
  ·exact hb.1.2 h
  ·exact hb.2 h
 ·simp only [if_pos hb];exact ho
theorem Has.freeze_own {E:TypeId} {size n:Nat} {v:Value} {xs:List Value} (h:Has G w W (Own E size v n xs::Fz H::R)):∃H',H.le H'∧Has G w W (Fz H'::R)∧RdH H' size v n xs:=by
 obtain ⟨H',h1,h2,F,h3,h4⟩:=h.freeze (R':=[])
 refine ⟨H',h1,h2,?_⟩
 obtain ⟨hl,⟨rfl,rfl⟩|⟨g,cap,cur,rfl,hF,hg,hnc,hcm,hcs,ht⟩⟩:=h3
 ·exact ⟨hl,none,0,rfl,by omega,by omega,.inl rfl⟩
 ·refine ⟨hl,some ⟨g,0,none⟩,cap,rfl,hnc,by unfold maxLen at hcm;omega,.inr ⟨g,0,⟨cur⟩,E,(0,0),rfl,h4 g _ hF hg,fun j x hx=>?_⟩⟩
  rw [←ht,List.getElem?_take] at hx
  split at hx
  ·simpa using hx
  ·cases hx
end
def Ex {α:Type} (Ls:α→List Res):Res where
 ok F W:=∃x,HasIn W (Ls x) F
 loc F W W' h:=fun ⟨x,k⟩=>⟨x,k.loc h⟩
theorem HasIn.append {W:World}:∀{A B:List Res} {F F1:Nat→Prop},HasIn W A F1→(∀b,F1 b→F b)→HasIn W B (fun b=>F b∧¬F1 b)→HasIn W (A ++ B) F
 | [],B,F,F1,_,_,h=>h.mono fun b hb=>hb.1
 |r::A,B,F,F1,⟨F2,h1,h2,h3⟩,hF,h=>by
  refine ⟨F2,fun b hb=>hF b (h1 b hb),h2,HasIn.append (F1:=fun b=>F1 b∧¬F2 b) h3 (fun b hb=>⟨hF b hb.1,hb.2⟩) ?_⟩
  exact h.mono fun b hb=>⟨⟨hb.1,fun h2=>hb.2 (h1 b h2)⟩,fun h2=>hb.2 h2.1⟩
theorem HasIn.unappend {W:World}:∀{A B:List Res} {F:Nat→Prop},HasIn W (A ++ B) F→∃F1,(∀b,F1 b→F b)∧HasIn W A F1∧HasIn W B (fun b=>F b∧¬F1 b)
 | [],B,F,h=>⟨fun _=>False,fun _ h=>h.elim,trivial,h.mono fun b hb=>⟨hb,fun h=>h⟩⟩
 |r::A,B,F,⟨F2,h1,h2,h3⟩=>by
  obtain ⟨F1,g1,g2,g3⟩:=HasIn.unappend h3
  refine ⟨fun b=>F2 b∨F1 b,?_,⟨F2,fun b hb=> .inl hb,h2,g2.mono fun b hb=>⟨.inr hb,(g1 b hb).2⟩⟩,g3.mono fun b hb=>⟨hb.1.1,?_⟩⟩
  ·rintro b (hb|hb)
   ·exact h1 b hb
   ·exact (g1 b hb).1
  ·rintro (h|h)
   ·exact hb.1.2 h
   ·exact hb.2 h
section
variable {α:Type} {Ls:α→List Res} {G:Nat} {w W:World} {R:List Res}
theorem Has.shut (x:α) (h:Has G w W (Ls x ++ R)):Has G w W (Ex Ls::R):=by
 obtain ⟨F1,h1,h2,h3⟩:=HasIn.unappend h.has
 exact ⟨h.ext,h.glob,F1,h1,⟨x,h2⟩,h3⟩
theorem Has.open (h:Has G w W (Ex Ls::R)):∃x,Has G w W (Ls x ++ R):=by
 obtain ⟨F1,h1,⟨x,h2⟩,h3⟩:=h.has
 exact ⟨x,h.ext,h.glob,HasIn.append h2 h1 h3⟩
end
section
variable {P:Program} {ops:Array Oper} {aD:List Oper} {Q:Exit→Act→World→Prop} {a:Act} {n G:Nat} {L:List (Nat×Value)} {w W W':World} {R:List Res} {d:Nat} {T S S' E:TypeId} {p:String} {e:Array Edge} {x:Operand} {ad:Addr}
theorem eQ (hs:Slots a n L) (hx:ev L x=some (.pointer (some ad)):=by with_unfolding_all exact rfl) (ht:P.underlying S=some (.pointer (P.pointee S)):=by kernel_rfl) (hd:Nat.blt d n=true:=by with_unfolding_all exact rfl)
  (k:∀a',Slots a' n ((d,.bool false)::L)→wpList P ops Q aD a' W):wpList P ops Q (⟨some d,.binOp .eql S x (.const (.pointer none)) S',T,p,e,none⟩::aD) a W:=by
 refine bO hs hd (W':=W) ?_ k
 have h2:(binOp .eql S (.pointer (some ad)) (.pointer none)).run P W= .ok (.bool false) W:=by
  have:=run_eql_pointer_nil (P:=P) W S (some ad) ht
  simpa using this
 have h3:a.eval (.const (.pointer none))= .pointer none:=rfl
 simp only [execOp,hs.ev hx,h3,Sem.run_bind]
 simp [eqGuard,h2]
theorem eR (hs:Slots a n L) (hx:ev L x=some (.pointer none):=by with_unfolding_all exact rfl) (ht:P.underlying S=some (.pointer (P.pointee S)):=by kernel_rfl) (hd:Nat.blt d n=true:=by with_unfolding_all exact rfl)
  (k:∀a',Slots a' n ((d,.bool true)::L)→wpList P ops Q aD a' W):wpList P ops Q (⟨some d,.binOp .eql S x (.const (.pointer none)) S',T,p,e,none⟩::aD) a W:=by
 refine bO hs hd (W':=W) ?_ k
 have h2:(binOp .eql S (.pointer none) (.pointer none)).run P W= .ok (.bool true) W:=by
  have:=run_eql_pointer_nil (P:=P) W S none ht
  simpa using this
 have h3:a.eval (.const (.pointer none))= .pointer none:=rfl
 simp only [execOp,hs.ev hx,h3,Sem.run_bind]
 simp [eqGuard,h2]
end
class Ar (P:Program) (S:TypeId) (len:outParam Nat) (E:outParam TypeId):Prop where
 out:P.underlying S=some (.array len E)
section
variable {P:Program} {ops:Array Oper} {aD:List Oper} {Q:Exit→Act→World→Prop} {a:Act} {n G:Nat} {L:List (Nat×Value)} {w W W':World} {R:List Res} {d k b o len:Nat} {T S S' E:TypeId} {p:String} {e:Array Edge} {x y:Operand} {z:List Value} {q:IntKind} {j:Int}
theorem oU {agg:Bool} [sl:Sl P S E] [t:Ty P E agg z] (hs:Slots a n L) (hw:Has G w W R) (hd:Nat.blt d n=true:=by with_unfolding_all exact rfl)
  (c:∀a' ad W',Has G w W' (Own E z.length (.slice ad 0 0) 0 []::R)→Slots a' n ((d,.slice ad 0 0)::L)→wpList P ops Q aD a' W'):wpList P ops Q (⟨some d,.buildSlice S 0 #[],T,p,e,none⟩::aD) a W:=by
 have hr:(Instr.buildSlice S 0 #[]).run P W= .ok (.slice (some ⟨W.heap.size,0,none⟩) 0 0) (W.alloc (.cells ⟨[]⟩ E)):=by
  have hf:∀(f:Nat→Option (Nat×Nat)) (cs:Array Value),Instr.fill f cs []=some cs:=fun f cs=>rfl
  have h0:∀g:Nat→Value,(Array.range 0).map g=⟨[]⟩:=fun g=>by simp
  simp only [Instr.buildSlice,Sem.run_bind,run_underlying sl.out,Result.andThen_ok,t.sizeOf,Nat.zero_mul,if_true,hf,h0,newRow]
  rfl
 refine bO hs hd (v:= .slice (some ⟨W.heap.size,0,none⟩) 0 0) (W':=W.alloc (.cells ⟨[]⟩ E)) ?_ fun a' hs'=>c a' _ _ ?_ hs'
 ·simp only [execOp,Sem.run_bind,List.map_toArray,List.map_nil]
  rw [hr]
  rfl
 ·obtain ⟨F1,h1,⟨h2,h3⟩,h4⟩:=(hw.new [] E).has
  exact ⟨(hw.new [] E).ext,hw.glob,F1,h1,⟨by simp,.inr ⟨W.heap.size,0,[],rfl,h2,h3,Nat.le_refl _,Nat.zero_le _,by simp,by simp⟩⟩,h4⟩
theorem lG {agg:Bool} [ar:Ar P S len E] [t:Ty P E agg z] (hs:Slots a n L) (hx:ev L x=some (.pointer (some ⟨b,o,none⟩)):=by with_unfolding_all exact rfl) (hy:ev L y=some (.int q j):=by with_unfolding_all exact rfl) (h0:0≤j) (h1:j<len) (hd:Nat.blt d n=true:=by with_unfolding_all exact rfl)
  (c:∀a',Slots a' n ((d,.pointer (some ⟨b,o+j.toNat*z.length,none⟩))::L)→wpList P ops Q aD a' W):wpList P ops Q (⟨some d,.indexAddr S x y,T,p,e,none⟩::aD) a W:=by
 refine bO hs hd (W':=W) ?_ c
 simp only [execOp,hs.ev hx,hs.ev hy,Instr.indexAt,asIntOf,Sem.run_bind,Sem.run_pure,Result.andThen_ok,run_underlying ar.out,Instr.sureAddr]
 rw [if_pos ⟨h0,h1⟩]
 simp only [Sem.run_bind,t.sizeOf,Result.andThen_ok,Sem.run_pure,eF]
end
def Ch {α:Type} (R:α→List Value→Prop):List α→List Value→Prop
 | [],cs=>cs= []
 |a::l,cs=>∃c cs',cs=c ++ cs'∧R a c∧Ch R l cs'
section
variable {α:Type} {R R':α→List Value→Prop} {k:Nat}
theorem Ch.length (hk:∀a c,R a c→c.length=k):∀{l:List α} {cs:List Value},Ch R l cs→cs.length=l.length*k
 | [],cs,h=>by
  have h:cs= []:=h
  subst h;simp
 |a::l,_,⟨c,cs',rfl,h1,h2⟩=>by
  have:=Ch.length hk h2
  have:=hk a c h1
  rw [List.length_append,List.length_cons,Nat.add_mul];omega
theorem Ch.app:∀{l m:List α} {cs ds:List Value},Ch R l cs→Ch R m ds→Ch R (l ++ m) (cs ++ ds)
 | [],m,cs,ds,h,h2=>by
  have h:cs= []:=h
  subst h;exact h2
 |a::l,m,_,ds,⟨c,cs',rfl,h1,h2⟩,h3=>⟨c,cs' ++ ds,by simp,h1,Ch.app h2 h3⟩
theorem Ch.unit {a:α} {c:List Value} (h:R a c):Ch R [a] c:=⟨c,[],by simp,h,rfl⟩
theorem Ch.mono (h:∀a c,R a c→R' a c):∀{l:List α} {cs:List Value},Ch R l cs→Ch R' l cs
 | [],cs,h0=>h0
 |a::l,_,⟨c,cs',e,h1,h2⟩=>⟨c,cs',e,h a c h1,Ch.mono h h2⟩
theorem Ch.split (hk:∀a c,R a c→c.length=k):∀{l:List α} {cs:List Value} {i:Nat} {a:α},Ch R l cs→l[i]? =some a→
  ∃cs1 c cs2,cs=cs1 ++ (c ++ cs2)∧cs1.length=i*k∧R a c∧Ch R (l.take i) cs1∧Ch R (l.drop (i+1)) cs2
 | [],_,_,_,_,h=>by simp at h
 |b::l,_,0,a,⟨c,cs',rfl,h1,h2⟩,h=>by
  simp only [List.getElem?_cons_zero,Option.some.injEq] at h
  subst h
  exact ⟨[],c,cs',rfl,by simp,h1,rfl,h2⟩
 |b::l,_,i+1,a,⟨c,cs',rfl,h1,h2⟩,h=>by
  rw [List.getElem?_cons_succ] at h
  obtain ⟨cs1,c',cs2,rfl,h3,h4,h5,h6⟩:=Ch.split hk h2 h
  refine ⟨c ++ cs1,c',cs2,by simp,?_,h4,⟨c,cs1,rfl,h1,h5⟩,h6⟩
  have:=hk b c h1
  rw [List.length_append,Nat.add_mul];omega
theorem Ch.get (hk:∀a c,R a c→c.length=k) {l:List α} {cs:List Value} {i:Nat} {a:α} (h:Ch R l cs) (hi:l[i]? =some a):∃c,R a c∧c.length=k∧cut cs (i*k) k=c:=by
 obtain ⟨cs1,c,cs2,rfl,h1,h2,_,_⟩:=h.split hk hi
 have:=hk a c h2
 refine ⟨c,h2,this,?_⟩
 rw [fX,List.drop_append,h1,Nat.sub_self,List.drop_of_length_le (by omega),List.nil_append,List.drop_zero,List.take_append_of_le_length (by omega),List.take_of_length_le (by omega)]
theorem Ch.set (hk:∀a c,R a c→c.length=k) {l:List α} {cs:List Value} {i:Nat} {a:α} {c:List Value} (h:Ch R l cs) (hi:i<l.length) (ha:R a c):Ch R (l.set i a) (ov cs (i*k) c):=by
 obtain ⟨cs1,c0,cs2,rfl,h1,h2,h3,h4⟩:=h.split hk (i:=i) (a:=l[i]) (by simp [hi])
 have e1:=hk _ _ h2
 have e2:=hk _ _ ha
 rw [kD _ _ _ (by simp;omega),List.set_eq_take_append_cons_drop,if_pos hi]
 have e3:(cs1 ++ (c0 ++ cs2)).take (i*k)=cs1:=by rw [←h1];simp
 have e4:(cs1 ++ (c0 ++ cs2)).drop (i*k+c.length)=cs2:=by
  rw [←List.append_assoc,←h1,e2,←e1,←List.length_append,List.drop_left]
 rw [e3,e4,List.append_assoc]
 exact h3.app ⟨c,cs2,rfl,ha,h4⟩
theorem Ch.take (hk:∀a c,R a c→c.length=k):∀{l:List α} {cs:List Value} (n:Nat),Ch R l cs→Ch R (l.take n) (cs.take (n*k))
 | [],cs,n,h=>by
  have h:cs= []:=h
  subst h
  rw [List.take_nil,List.take_nil];rfl
 |a::l,cs,0,h=>by rw [Nat.zero_mul];rfl
 |a::l,_,n+1,⟨c,cs',rfl,h1,h2⟩=>by
  have:=hk a c h1
  refine ⟨c,cs'.take (n*k),?_,h1,Ch.take hk n h2⟩
  rw [List.take_append,List.take_of_length_le (by rw [Nat.add_mul];omega),Nat.add_mul]
  congr 2;omega
theorem Ch.drop (hk:∀a c,R a c→c.length=k):∀{l:List α} {cs:List Value} (n:Nat),Ch R l cs→Ch R (l.drop n) (cs.drop (n*k))
 | [],cs,n,h=>by
  have h:cs= []:=h
  subst h
  rw [List.drop_nil,List.drop_nil];rfl
 |a::l,cs,0,h=>by rw [Nat.zero_mul];exact h
 |a::l,_,n+1,⟨c,cs',rfl,h1,h2⟩=>by
  have:=hk a c h1
  have e:(n+1)*k - c.length=n*k:=by rw [Nat.add_mul];omega
  have e2:c.drop ((n+1)*k)= []:=List.drop_of_length_le (by rw [Nat.add_mul];omega)
  rw [List.drop_succ_cons,List.drop_append,e2,List.nil_append,e]
  exact Ch.drop hk n h2
theorem Ch.ones (h1:∀a c,R a c→∀v∈c,v.oneCell'=true):∀{l:List α} {cs:List Value},Ch R l cs→∀v∈cs,v.oneCell'=true
 | [],cs,h=>by
  have h:cs= []:=h
  subst h;simp
 |a::l,_,⟨c,cs',rfl,h2,h3⟩=>fun v hv=>by
  rcases List.mem_append.1 hv with hv|hv
  ·exact h1 a c h2 v hv
  ·exact Ch.ones h1 h3 v hv
end
section
variable {P:Program} {ops:Array Oper} {aD:List Oper} {Q:Exit→Act→World→Prop} {a:Act} {n:Nat} {L:List (Nat×Value)} {W:World} {d k:Nat} {T S E:TypeId} {p:String} {e:Array Edge} {x y:Operand} {v:Value} {xs:List Value} {i:Nat} {q:IntKind} {z:List Value} {α:Type} {R:α→List Value→Prop} {l:List α} {u:α}
theorem fZ {agg:Bool} {sz:Nat} [sl:Sl P S E] [t:Ty P E agg z] (hs:Slots a n L) (r:Rd W sz v k xs) (hk:∀a c,R a c→c.length=sz) (ch:Ch R l xs) (ho:l[i]? =some u) (hlen:l.length=k) (hx:ev L x=some v:=by with_unfolding_all exact rfl) (hy:ev L y=some (.int q (i:Int)):=by with_unfolding_all exact rfl) (hd:Nat.blt d n=true:=by with_unfolding_all exact rfl) (hz:z.length=sz:=by with_unfolding_all exact rfl)
  (c:∀a' b o c,R u c→c.length=sz→(∀j u,c[j]? =some u→W.cell? ⟨b,o+j,none⟩=some u)→b<W.heap.size→Slots a' n ((d,.pointer (some ⟨b,o,none⟩))::L)→wpList P ops Q aD a' W):wpList P ops Q (⟨some d,.indexAddr S x y,T,p,e,none⟩::aD) a W:=by
 subst hz
 have hi:=(List.getElem?_eq_some_iff.1 ho).1
 obtain ⟨cc,h1,h2,h3⟩:=ch.get hk ho
 refine uL hs hx hy r (by omega) (by omega) hd fun a' b o h4 h5 h6=>c a' b o cc h1 h2 ?_ h5 h6
 rw [Int.toNat_natCast] at h4
 rw [←h3]
 exact h4
end
section
variable {P:Program} {ops:Array Oper} {aD:List Oper} {Q:Exit→Act→World→Prop} {a:Act} {n G:Nat} {L:List (Nat×Value)} {w W:World} {R:List Res} {d b size bytes m:Nat} {T S S' E:TypeId} {p:String} {e:Array Edge} {x y:Operand} {v:Value} {xs c:List Value} {α:Type} {Rr:α→List Value→Prop} {l:List α} {u:α}
theorem jB [sl:Sl P S E] [el:El P E size bytes] (hs:Slots a n L) (hw:Has G w W (Own E size v l.length xs::R)) (hi:In (aA b c E) R) (ch:Ch Rr l xs) (ha:Rr u c) (hl:Nat.beq c.length (1*size)=true) (h1:c.all (·.oneCell')=true) (hb:(l.length+1)*bytes≤140737488355328) (h63:l.length+1≤9223372036854775807) (hx:ev L x=some v:=by with_unfolding_all exact rfl) (hy:ev L y=some (.slice (some ⟨b,0,none⟩) 1 1):=by with_unfolding_all exact rfl) (hd:Nat.blt d n=true:=by with_unfolding_all exact rfl)
  (k:∀a' ad cap W',Slots a' n ((d,.slice ad (l ++ [u]).length cap)::L)→Has G w W' (Own E size (.slice ad (l ++ [u]).length cap) (l ++ [u]).length (xs ++ c)::R)→Ch Rr (l ++ [u]) (xs ++ c)→wpList P ops Q aD a' W'):wpList P ops Q (⟨some d,.call {callee:= .builtin .append,args:=#[x,y],argTypes:=#[S,S]},T,p,e,none⟩::aD) a W:=by
 refine rH (b:=b) (k:=l.length) (m:=1) (xs:=xs) (news:=c) (v:=v) (R':=fun v'=>Own E size v' (l.length+1) (xs ++ c)::R) hs hw hx hy (In.tl hi) (fun v'=>Upd.hd) hl h1 h63 hb hd ?_
 intro a' ad cap W' hs' hw'
 have e:l.length+1=(l ++ [u]).length:=by simp
 rw [e] at hs' hw'
 exact k a' ad cap W' hs' hw' (ch.app (Ch.unit ha))
end
section
variable {G:Nat} {w W:World} {R:List Res} {H:Fh}
def FzF (H:Fh) (p:Prop):Res where
 ok F W:=p∧(Fz H).ok F W
 loc F W W' h k:=⟨k.1,(Fz H).loc F W W' h k.2⟩
theorem Has.fzf {q:Prop} (h:Has G w W (Fz H::R)) (hq:q):Has G w W (FzF H q::R):=by
 obtain ⟨F1,h1,h2,h3⟩:=h.has
 exact ⟨h.ext,h.glob,F1,h1,⟨hq,h2⟩,h3⟩
theorem Has.unfzf {q:Prop} (h:Has G w W (FzF H q::R)):q∧Has G w W (Fz H::R):=by
 obtain ⟨F1,h1,⟨hq,h2⟩,h3⟩:=h.has
 exact ⟨hq,h.ext,h.glob,F1,h1,h2,h3⟩
end
theorem aEK {α:Type} {l:List α} {j:Nat} {o:α} (h:l[j]? =some o):l.drop j=o::l.drop (j+1):=by
 have hj:=(List.getElem?_eq_some_iff.1 h).1
 rw [List.drop_eq_getElem_cons hj]
 congr 1
 rw [List.getElem?_eq_getElem hj] at h
 exact Option.some.inj h
theorem fS {α:Type} {l:List α} {j:Nat} {o:α} (h:l[j]? =some o):l.take (j+1)=l.take j ++ [o]:=by
 rw [List.take_add_one,h];rfl
section
variable {P:Program} {ops:Array Oper} {aD:List Oper} {Q:Exit→Act→World→Prop} {a:Act} {n G:Nat} {L:List (Nat×Value)} {w W W':World} {R:List Res} {d:Nat} {T S E:TypeId} {p:String} {e:Array Edge} {x y lo hi:Operand} {v:Value} {xs cs:List Value} {k sz:Nat} {i j:Int} {q q':IntKind} {z:List Value} {H:Fh}
theorem aAC {agg:Bool} [sl:Sl P S E] [t:Ty P E agg z] (r:RdH H sz v k xs) (hz:z.length=sz) (l h:Option Value) {i' j':Nat} (h0:i'≤j') (h1:j'≤k)
  (hl:l=none∧i'=0∨∃q,l=some (.int q i')) (hh:h=none∧j'=k∨∃q,h=some (.int q j')):
  ∃v',(Instr.sliceAt S v l h none).run P W= .ok v' W∧RdH H sz v' (j' - i') ((xs.drop (i'*sz)).take ((j' - i')*sz)):=by
 subst hz
 obtain ⟨hx,ad,cap,rfl,h3,h4,h5⟩:=r
 have hb:∀(u:Value) (m y:Nat) (c:BoundsCode) (q:IntKind),u= .int q m→m≤y→(Instr.sliceBound u y c).run P W= .ok m W:=by
  rintro u m y c q rfl hm
  have:(0:Int)≤(m:Int)∧(m:Int)≤(y:Int):=⟨by omega,by omega⟩
  simp only [Instr.sliceBound,asIntOf,Sem.run_bind,Sem.run_pure,Result.andThen_ok]
  rw [if_pos this]
  simp
 have hbs:(Instr.sliceBounds true k cap l h none).run P W= .ok (i',j',cap) W:=by
  unfold Instr.sliceBounds
  rcases hh with ⟨rfl,rfl⟩|⟨q2,rfl⟩ <;> rcases hl with ⟨rfl,rfl⟩|⟨q1,rfl⟩
  ·simp
  ·simp [hb _ i' j' .sliceB q1 rfl h0]
  ·simp [hb _ j' cap .sliceAcap q2 rfl (by omega)]
  ·simp [hb _ j' cap .sliceAcap q2 rfl (by omega),hb _ i' j' .sliceB q1 rfl h0]
 refine ⟨.slice (if cap=i' then ad else ad.map (·.add (i'*z.length))) (j' - i') (cap - i'),?_,?_,_,_,rfl,by omega,by omega,?_⟩
 ·simp only [Instr.sliceAt,Instr.slice,Sem.run_bind,run_underlying sl.out,Result.andThen_ok,hbs,t.sizeOf,Sem.run_pure]
 ·rw [List.length_take,List.length_drop,hx]
  have:(j' - i')*z.length≤k*z.length - i'*z.length:=by rw [←Nat.sub_mul];exact Nat.mul_le_mul_right _ (by omega)
  omega
 ·rcases h5 with rfl|⟨b,o,cs,T,zz,rfl,hlt,hc⟩
  ·exact .inl (by omega)
  ·by_cases hci:cap=i'
   ·exact .inl (by omega)
   ·refine .inr ⟨b,o+i'*z.length,cs,T,zz,by rw [if_neg hci];simp [eF],hlt,fun m u hu=>?_⟩
    rw [List.getElem?_take] at hu
    split at hu
    ·rw [List.getElem?_drop] at hu
     rw [Nat.add_assoc]
     exact hc _ _ hu
    ·cases hu
theorem aAD {agg:Bool} [sl:Sl P S E] [t:Ty P E agg z] (hs:Slots a n L) (r:RdH H sz v k xs) (h0:0≤i) (h1:i≤k) (hx:ev L x=some v:=by with_unfolding_all exact rfl) (hl:ev L lo=some (.int q i):=by with_unfolding_all exact rfl) (hd:Nat.blt d n=true:=by with_unfolding_all exact rfl) (hz:z.length=sz:=by with_unfolding_all exact rfl)
  (c:∀a' v',RdH H sz v' (k - i.toNat) (xs.drop (i.toNat*sz))→Slots a' n ((d,v')::L)→wpList P ops Q aD a' W):wpList P ops Q (⟨some d,.slice S x (some lo) none none,T,p,e,none⟩::aD) a W:=by
 obtain ⟨m,rfl⟩:=Int.eq_ofNat_of_zero_le h0
 obtain ⟨v',h2,h3⟩:=aAC (P:=P) (S:=S) (W:=W) r hz (some (.int q m)) none (i':=m) (j':=k) (by omega) (Nat.le_refl _) (.inr ⟨q,rfl⟩) (.inl ⟨rfl,rfl⟩)
 refine bO hs hd (v:=v') (W':=W) ?_ fun a' hs'=>c a' v' ?_ hs'
 ·simp only [execOp,Option.map_some,Option.map_none,hs.ev hx,hs.ev hl]
  simp only [Sem.run_bind,h2,Result.andThen_ok]
  rfl
 ·rw [List.take_of_length_le (by rw [List.length_drop,r.1,Nat.sub_mul];omega)] at h3
  simpa using h3
theorem aEL {agg:Bool} [sl:Sl P S E] [t:Ty P E agg z] (hs:Slots a n L) (r:RdH H sz v k xs) (h0:0≤i) (h1:i≤k) (hx:ev L x=some v:=by with_unfolding_all exact rfl) (hh:ev L hi=some (.int q i):=by with_unfolding_all exact rfl) (hd:Nat.blt d n=true:=by with_unfolding_all exact rfl) (hz:z.length=sz:=by with_unfolding_all exact rfl)
  (c:∀a' v',RdH H sz v' i.toNat (xs.take (i.toNat*sz))→Slots a' n ((d,v')::L)→wpList P ops Q aD a' W):wpList P ops Q (⟨some d,.slice S x none (some hi) none,T,p,e,none⟩::aD) a W:=by
 obtain ⟨m,rfl⟩:=Int.eq_ofNat_of_zero_le h0
 obtain ⟨v',h2,h3⟩:=aAC (P:=P) (S:=S) (W:=W) r hz none (some (.int q m)) (i':=0) (j':=m) (by omega) (by omega) (.inl ⟨rfl,rfl⟩) (.inr ⟨q,rfl⟩)
 refine bO hs hd (v:=v') (W':=W) ?_ fun a' hs'=>c a' v' ?_ hs'
 ·simp only [execOp,Option.map_some,Option.map_none,hs.ev hx,hs.ev hh]
  simp only [Sem.run_bind,h2,Result.andThen_ok]
  rfl
 ·simpa using h3
theorem rM {ts:Array TypeId} (hs:Slots a n L) (hx:ev L x=some (.int q i):=by with_unfolding_all exact rfl) (hy:ev L y=some (.int q' j):=by with_unfolding_all exact rfl) (hd:Nat.blt d n=true:=by with_unfolding_all exact rfl)
  (k:∀a',Slots a' n ((d,.int q (if j<i then j else i))::L)→wpList P ops Q aD a' W):wpList P ops Q (⟨some d,.call {callee:= .builtin .min,args:=#[x,y],argTypes:=ts},T,p,e,none⟩::aD) a W:=
 bO hs hd (by simp only [execOp,resolve,invoke,builtin,List.map_toArray,List.map_cons,List.map_nil,hs.ev hx,hs.ev hy,Sem.run_bind,Sem.run_pure,Result.andThen_ok,run_min_int2]) k
theorem Has.freeze_lit {b m:Nat} (h:Has G w W (aA b cs E::Fz H::R)) (hl:cs.length=m*sz) (hm:m≤9223372036854775807):∃H',H.le H'∧Has G w W (Fz H'::R)∧RdH H' sz (.slice (some ⟨b,0,none⟩) m m) m cs:=by
 obtain ⟨H',h1,h2,F,⟨hF,hb⟩,h4⟩:=h.freeze (R':=[])
 exact ⟨H',h1,h2,hl,some ⟨b,0,none⟩,m,rfl,Nat.le_refl _,hm,.inr ⟨b,0,⟨cs⟩,E,(0,0),rfl,h4 b _ hF hb,fun j x hx=>by simpa using hx⟩⟩
end
section
variable {P:Program} {ops:Array Oper} {aD:List Oper} {Q:Exit→Act→World→Prop} {a:Act} {n:Nat} {L:List (Nat×Value)} {W:World} {d:Nat} {T S S':TypeId} {p:String} {e:Array Edge} {x:Operand} {ad:Addr}
theorem jC (hs:Slots a n L) (hx:ev L x=some (.pointer (some ad)):=by with_unfolding_all exact rfl) (ht:P.underlying S=some (.pointer (P.pointee S)):=by kernel_rfl) (hd:Nat.blt d n=true:=by with_unfolding_all exact rfl)
  (k:∀a',Slots a' n ((d,.bool true)::L)→wpList P ops Q aD a' W):wpList P ops Q (⟨some d,.binOp .neq S x (.const (.pointer none)) S',T,p,e,none⟩::aD) a W:=by
 refine bO hs hd (W':=W) ?_ k
 have h2:(binOp .neq S (.pointer (some ad)) (.pointer none)).run P W= .ok (.bool true) W:=by
  have:=run_neq_pointer_nil (P:=P) W S (some ad) ht
  simpa using this
 have h3:a.eval (.const (.pointer none))= .pointer none:=rfl
 simp only [execOp,hs.ev hx,h3,Sem.run_bind]
 simp [eqGuard,h2]
theorem jD (hs:Slots a n L) (hx:ev L x=some (.pointer none):=by with_unfolding_all exact rfl) (ht:P.underlying S=some (.pointer (P.pointee S)):=by kernel_rfl) (hd:Nat.blt d n=true:=by with_unfolding_all exact rfl)
  (k:∀a',Slots a' n ((d,.bool false)::L)→wpList P ops Q aD a' W):wpList P ops Q (⟨some d,.binOp .neq S x (.const (.pointer none)) S',T,p,e,none⟩::aD) a W:=by
 refine bO hs hd (W':=W) ?_ k
 have h2:(binOp .neq S (.pointer none) (.pointer none)).run P W= .ok (.bool false) W:=by
  have:=run_neq_pointer_nil (P:=P) W S none ht
  simpa using this
 have h3:a.eval (.const (.pointer none))= .pointer none:=rfl
 simp only [execOp,hs.ev hx,h3,Sem.run_bind]
 simp [eqGuard,h2]
end
section
variable {A:Prop} {P:Program} {ops:Array Oper} {aD:List Oper} {Q:Exit→Act→World→Prop} {a:Act} {n G:Nat} {L L':List (Nat×Value)} {w W:World} {R R':List Res} {d:Nat} {T:TypeId} {p:String} {e:Array Edge}
class Get (P:Program) (f:FuncId) (vs:List Value) (L:List Res) (v:outParam Value) (L':outParam (List Res)):Prop where
 ok:∀{w W:World},Has 0 w W L→Calls P f ⟨vs⟩ W fun e W'=>e= .returned v∧Has 0 w W' L'
theorem kF {f:FuncId} {xs:List Operand} {ts:Array TypeId} {vs:List Value} {v:Value} (hs:Slots a n L) (hw:Has 0 w W R) (k:∀a' W',Slots a' n ((d,v)::L)→Has 0 w W' R'→wpList P ops Q aD a' W') (hx:evs L xs=some vs:=by with_unfolding_all exact rfl) (hd:Nat.blt d n=true:=by with_unfolding_all exact rfl) (g:Get P f vs R v R':=by infer_instance) (hf:callee P f=true:=by kernel_rfl):
  wpList P ops Q (⟨some d,.call {callee:= .value (.func f),args:=⟨xs⟩,argTypes:=ts},T,p,e,none⟩::aD) a W:=
 aF hs hx hf hd (g.ok hw) fun e' W' h=>⟨v,h.1,fun a' ha=>k a' W' ha h.2⟩
class New (P:Program) (f:FuncId) (vs:List Value) (L:List Res) (σ:outParam Type) (v:outParam (σ→Value)) (L':outParam (σ→List Res)):Prop where
 ok:∀{w W:World},Has 0 w W L→Calls P f ⟨vs⟩ W fun e W'=>∃s,e= .returned (v s)∧Has 0 w W' (L' s)
theorem sg {σ:Type} {f:FuncId} {xs:List Operand} {ts:Array TypeId} {vs:List Value} {v:σ→Value} {R':σ→List Res} (hs:Slots a n L) (hw:Has 0 w W R) (k:∀s a' W',Slots a' n ((d,v s)::L)→Has 0 w W' (R' s)→wpList P ops Q aD a' W') (hx:evs L xs=some vs:=by with_unfolding_all exact rfl) (hd:Nat.blt d n=true:=by with_unfolding_all exact rfl) (g:New P f vs R σ v R':=by infer_instance) (hf:callee P f=true:=by kernel_rfl):
  wpList P ops Q (⟨some d,.call {callee:= .value (.func f),args:=⟨xs⟩,argTypes:=ts},T,p,e,none⟩::aD) a W:=
 aF hs hx hf hd (g.ok hw) fun e' W' ⟨s,h1,h2⟩=>⟨v s,h1,fun a' ha=>k s a' W' ha h2⟩
class dH {σ:Type} (X:σ→Res) (L:List Res) (s:outParam σ) (L':outParam (List Res)):Prop where
 p:Pick (X s) L L'
instance {σ:Type} (X:σ→Res) (s:σ) (L:List Res):dH X (X s::L) s L:=⟨.hd⟩
instance (priority:=low) {σ:Type} (X:σ→Res) (r:Res) (s:σ) (L L':List Res) [c:dH X L s L']:dH X (r::L) s (r::L'):=⟨.tl c.p⟩
class oV {σ τ:Type} (X:σ→τ→Res) (L:List Res) (s:outParam σ) (t:outParam τ) (L':outParam (List Res)):Prop where
 p:Pick (X s t) L L'
instance {σ τ:Type} (X:σ→τ→Res) (s:σ) (t:τ) (L:List Res):oV X (X s t::L) s t L:=⟨.hd⟩
instance (priority:=low) {σ τ:Type} (X:σ→τ→Res) (r:Res) (s:σ) (t:τ) (L L':List Res) [c:oV X L s t L']:oV X (r::L) s t (r::L'):=⟨.tl c.p⟩
theorem sx {C:Act→World→Prop} (hs:Slots a n L) (hw:Has G w W R) (k:∀a' W',Slots a' n L'→Has G w W' R'→C a' W') (h:(∀a' W',Slots a' n L'→Has G w W' R'→C a' W')→A:=by
  intro k
  (first|(refine sxv hs hw ?_;intro a hs)|refine sxc hs ?_|(refine sxs hs hw ?_;intro W hs hw)|(refine kF hs hw ?_;intro a W hs hw)|((with_reducible first|refine eQ hs (k:=?_)|refine eR hs (k:=?_)|refine jC hs (k:=?_)|refine jD hs (k:=?_));intro a hs))
  repeat (first|(refine sxv hs hw ?_;intro a hs)|refine sxc hs ?_|(refine sxs hs hw ?_;intro W hs hw)|(refine kF hs hw ?_;intro a W hs hw)|((with_reducible first|refine eQ hs (k:=?_)|refine eR hs (k:=?_)|refine jC hs (k:=?_)|refine jD hs (k:=?_));intro a hs))
  exact k _ _ hs hw):A:=h k
theorem sc {B:Prop} (hs:Slots a n L) (k:B) (h:B→A:=by
  intro k
  refine sxc hs ?_
  repeat (refine sxc hs ?_)
  exact k):A:=h k
theorem sv {C:Act→Prop} (hs:Slots a n L) (hw:Has G w W R) (k:∀a',Slots a' n L'→C a') (h:(∀a',Slots a' n L'→C a')→A:=by
  intro k
  (first|(refine sxv hs hw ?_;intro a hs)|refine sxc hs ?_|((with_reducible first|refine eQ hs (k:=?_)|refine eR hs (k:=?_)|refine jC hs (k:=?_)|refine jD hs (k:=?_));intro a hs))
  repeat (first|(refine sxv hs hw ?_;intro a hs)|refine sxc hs ?_|((with_reducible first|refine eQ hs (k:=?_)|refine eR hs (k:=?_)|refine jC hs (k:=?_)|refine jD hs (k:=?_));intro a hs))
  exact k _ hs):A:=h k
theorem cl {f:FuncId} {xs:List Operand} {ts:Array TypeId} {vs:List Value} {v:Value} (hs:Slots a n L) (hc:Calls P f ⟨vs⟩ W fun e' W'=>e'= .returned v∧Has G w W' R') (k:∀a' W',Slots a' n ((d,v)::L)→Has G w W' R'→wpList P ops Q aD a' W') (hx:evs L xs=some vs:=by with_unfolding_all exact rfl) (hf:callee P f=true:=by kernel_rfl) (hd:Nat.blt d n=true:=by with_unfolding_all exact rfl):
  wpList P ops Q (⟨some d,.call {callee:= .value (.func f),args:=⟨xs⟩,argTypes:=ts},T,p,e,none⟩::aD) a W:=
 aF hs hx hf hd hc fun e' W' h=>⟨v,h.1,fun a' ha=>k a' W' ha h.2⟩
theorem cle {σ:Type} {f:FuncId} {xs:List Operand} {ts:Array TypeId} {vs:List Value} {v:σ→Value} {R':σ→List Res} {F:σ→Prop} (hs:Slots a n L) (hc:Calls P f ⟨vs⟩ W fun e' W'=>∃s,e'= .returned (v s)∧F s∧Has G w W' (R' s)) (k:∀s a' W',F s→Slots a' n ((d,v s)::L)→Has G w W' (R' s)→wpList P ops Q aD a' W') (hx:evs L xs=some vs:=by with_unfolding_all exact rfl) (hf:callee P f=true:=by kernel_rfl) (hd:Nat.blt d n=true:=by with_unfolding_all exact rfl):
  wpList P ops Q (⟨some d,.call {callee:= .value (.func f),args:=⟨xs⟩,argTypes:=ts},T,p,e,none⟩::aD) a W:=
 aF hs hx hf hd hc fun e' W' ⟨s,h1,h2,h3⟩=>⟨v s,h1,fun a' ha=>k s a' W' h2 ha h3⟩
theorem cb {f:FuncId} {xs:List Operand} {ts:Array TypeId} {vs:List Value} {v:Value} (hs:Slots a n L) (hw:Has G w W R) (hc:Calls P f ⟨vs⟩ W fun e' W'=>e'= .returned v∧Below W.heap.size W W') (k:∀a' W',Slots a' n ((d,v)::L)→Has G w W' R→wpList P ops Q aD a' W') (hx:evs L xs=some vs:=by with_unfolding_all exact rfl) (hf:callee P f=true:=by kernel_rfl) (hd:Nat.blt d n=true:=by with_unfolding_all exact rfl):
  wpList P ops Q (⟨some d,.call {callee:= .value (.func f),args:=⟨xs⟩,argTypes:=ts},T,p,e,none⟩::aD) a W:=
 aF hs hx hf hd hc fun e' W' h=>⟨v,h.1,fun a' ha=>k a' W' ha (hw.below h.2)⟩
theorem sn {C:Act→Nat→World→Prop} {v:Nat→Value} {cs:List Value} {E:TypeId} (hs:Slots a n L) (hw:Has G w W R) (k:∀b a' W',Slots a' n ((d,v b)::L)→Has G w W' (aA b cs E::R)→C a' b W') (h:(∀a' b W',Has G w W' (aA b cs E::R)→Slots a' n ((d,v b)::L)→C a' b W')→A:=by intro k;(with_reducible first|refine yQ hs hw (k:=?_)|refine yR hs hw (k:=?_)|refine zL hs hw (k:=?_));exact k):A:=h fun a' b W' h1 h2=>k b a' W' h2 h1
end
theorem dr {A:Prop} (h:A:=by
  intro LD D a W hcl hi hp hs hw
  repeat (first|(refine sxv hs hw ?_;intro a hs)|refine sxc hs ?_|(refine sxs hs hw ?_;intro W hs hw)|(refine kF hs hw ?_;intro a W hs hw)|((with_reducible first|refine eQ hs (k:=?_)|refine eR hs (k:=?_)|refine jC hs (k:=?_)|refine jD hs (k:=?_));intro a hs))
  (try rw [he] at hs)
  (try rw [he2] at hs)
  exact ⟨hs,hw⟩):A:=h
theorem dru {A:Prop} (h:A:=by
  intro u LD D a W hcl hi hp hs hw
  repeat (first|(refine sxv hs hw ?_;intro a hs)|refine sxc hs ?_|(refine sxs hs hw ?_;intro W hs hw)|(refine kF hs hw ?_;intro a W hs hw)|((with_reducible first|refine eQ hs (k:=?_)|refine eR hs (k:=?_)|refine jC hs (k:=?_)|refine jD hs (k:=?_));intro a hs))
  (try rw [he] at hs)
  (try rw [he2] at hs)
  exact Or.inl ⟨hs,hw⟩):A:=h
theorem rgp {P:Program} {Q:Exit→Act→World→Prop} {a:Act} {n G:Nat} {L0:List (Nat×Value)} {w W:World} {l:List Oper} {id:Nat} {R:List Res} (V:List Value) (hs:Slots a n L0) (hw:Has G w W R) (k:∀a W,Slots a n (fD l V ++ L0)→Has G w W R→Q .normal a W) (ho:oO P l V L0 n G w (fun _=>R) 0 l:=by repeat (first|exact trivial|refine ⟨dr,?_⟩)) (hm:P.follows .mixedOrders=true:=by kernel_rfl) (hf:gT l=true:=by kernel_rfl) (hV:V.length=l.length:=by rfl) (hn:l.all (fun o=>match o.dst with|some d=>Nat.blt d n|none=>true)=true:=by kernel_rfl):(Code.region id l.toArray true).wp P Q a W:=
 gK V (fun _=>R) hs hw hm hf hV hn ho k
theorem Has.unpick {G:Nat} {w W:World} {r:Res} {L L':List Res} (h:Has G w W (r::L')) (p:Pick r L L'):Has G w W L:=h.perm (nB p (List.Perm.refl _)).symm
class aAE (H H':Fh) (r:Res) (r':outParam Res):Prop where
 le:∀{G:Nat} {w W:World} {R:List Res},H.le H'→Has G w W (r::R)→Has G w W (r'::R)
class vA (H H':Fh) (L:List Res) (L':outParam (List Res)):Prop where
 le:∀{G:Nat} {w W:World} {R:List Res},H.le H'→Has G w W (L ++ R)→Has G w W (L' ++ R)
instance (priority:=low) (H H':Fh) (r:Res):aAE H H' r r:=⟨fun _ h=>h⟩
instance (priority:=low) (H H':Fh) (L:List Res):vA H H' L L:=⟨fun _ h=>h⟩
instance (H H':Fh) (r r':Res) (L L':List Res) [x:aAE H H' r r'] [y:vA H H' L L']:vA H H' (r::L) (r'::L'):=⟨fun {G w W R} hl h=>by
 have h1:Has G w W (r'::(L ++ R)):=x.le hl h
 have h2:Has G w W (L ++ (r'::R)):=h1.perm (List.perm_middle.symm)
 exact (y.le hl h2).perm List.perm_middle⟩
end Go.Sx
namespace Go.Proofs.YtgpbngfehfbndaaGreatDoor.Sw
open Go
def hU (x:Nat):Nat:=(x >>> 1) ^^^ (3988292384*(x % 2))
def jT (x:Nat) (c:UInt8):Nat:=hU (hU (hU (hU (hU (hU (hU (hU (x ^^^ c.toNat))))))))
def iT (s:Nat) (b:List UInt8):Nat:=(b.foldl jT (s ^^^ 4294967295)) ^^^ 4294967295
def jU (n:Nat):List UInt8:=[UInt8.ofNat (n >>> 24),UInt8.ofNat (n >>> 16),UInt8.ofNat (n >>> 8),UInt8.ofNat n]
def frB (kind:Nat) (b:List UInt8):List UInt8:=
 let x:=UInt8.ofNat kind::Ph.putI (b.length:Int)
 x ++ jU (iT (iT 0 x) b) ++ b
theorem vB (n:Int):IntKind.u32.wrap n=n % 4294967296:=by simp [IntKind.wrap,IntKind.bits,IntKind.signed]
theorem rN (a:Nat) (ha:a<4294967296):(BitVec.ofInt 32 (a:Int)).toNat=a:=by
 rw [BitVec.ofInt_natCast,BitVec.toNat_ofNat];exact Nat.mod_eq_of_lt (by omega)
theorem rO (a b:Nat) (ha:a<4294967296) (hb:b<4294967296):bits .xor .u32 (a:Int) (b:Int)=((a ^^^ b:Nat):Int):=by
 have hx:a ^^^ b<2 ^ 32:=Nat.xor_lt_two_pow (by omega) (by omega)
 show IntKind.u32.wrap ((BitVec.ofInt 32 (a:Int) ^^^ BitVec.ofInt 32 (b:Int)).toNat:Int)=_
 rw [BitVec.toNat_xor,rN a ha,rN b hb,vB]
 omega
theorem aEM (a b:Nat) (ha:a<4294967296) (hb:b<4294967296):bits .and .u32 (a:Int) (b:Int)=((a &&& b:Nat):Int):=by
 have hx:a &&& b<2 ^ 32:=Nat.and_lt_two_pow _ (by omega)
 show IntKind.u32.wrap ((BitVec.ofInt 32 (a:Int) &&& BitVec.ofInt 32 (b:Int)).toNat:Int)=_
 rw [BitVec.toNat_and,rN a ha,rN b hb,vB]
 omega
theorem aEN {x:Nat} (h:x<4294967296):hU x<4294967296:=by
 unfold hU
 have h1:x >>> 1<2 ^ 32:=by rw [Nat.shiftRight_eq_div_pow];omega
 have h2:3988292384*(x % 2)<2 ^ 32:=by rcases Nat.mod_two_eq_zero_or_one x with h|h <;> rw [h] <;> decide
 exact Nat.xor_lt_two_pow h1 h2
theorem aEO {x:Nat} (h:x<4294967296):bits .xor .u32 ((x:Int).fdiv 2) (bits .and .u32 3988292384 (IntKind.u32.wrap (0 - bits .and .u32 (x:Int) 1)))=(hU x:Int):=by
 have e1:(x:Int).fdiv 2=((x >>> 1:Nat):Int):=by rw [Int.fdiv_eq_ediv_of_nonneg _ (by decide),Nat.shiftRight_eq_div_pow];omega
 have e2:bits .and .u32 (x:Int) 1=((x % 2:Nat):Int):=by have:=aEM x 1 h (by decide);rw [Nat.and_one_is_mod] at this;exact this
 have h1:x >>> 1<4294967296:=by rw [Nat.shiftRight_eq_div_pow];omega
 rw [e1,e2]
 unfold hU
 rcases Nat.mod_two_eq_zero_or_one x with hx|hx <;> rw [hx]
 ·rw [show bits .and .u32 3988292384 (IntKind.u32.wrap (0 - ((0:Nat):Int)))=((0:Nat):Int) by decide]
  exact rO _ 0 h1 (by decide)
 ·rw [show bits .and .u32 3988292384 (IntKind.u32.wrap (0 - ((1:Nat):Int)))=((3988292384:Nat):Int) by decide]
  exact rO _ _ h1 (by decide)
theorem aAF {x:Nat} (h:x<4294967296):bits .xor .u32 IntKind.u32.max (x:Int)=((x ^^^ 4294967295:Nat):Int):=by
 have:=rO 4294967295 x (by decide) h
 rw [Nat.xor_comm] at this
 exact this
def itN:Nat→Nat→Nat
 |0,x=>x
 |n+1,x=>hU (itN n x)
theorem vC {x:Nat} (h:x<4294967296):∀n,itN n x<4294967296
 |0=>h
 |n+1=>aEN (vC h n)
theorem oW {x:Nat} (h:x<4294967296) {y:Nat} (hy:y<4294967296):x ^^^ y<4294967296:=Nat.xor_lt_two_pow (n:=32) h hy
theorem aEP {x:Nat} (h:x<4294967296) (c:UInt8):jT x c<4294967296:=vC (x:=x ^^^ c.toNat) (oW h (by have:=c.toNat_lt;omega)) 8
theorem vD:∀(b:List UInt8) {x:Nat},x<4294967296→b.foldl jT x<4294967296
 | [],_,h=>h
 |c::b,_,h=>vD b (aEP h c)
theorem aAG {s:Nat} (h:s<4294967296) (b:List UInt8):iT s b<4294967296:=oW (vD b (oW h (by decide))) (by decide)
theorem aEQ {n:Nat} (h:n<4294967296):∀k:Nat,k≤24→IntKind.u8.wrap ((n:Int).fdiv (2 ^ k))=((UInt8.ofNat (n >>> k)).toNat:Int):=by
 intro k hk
 have h1:(n:Int).fdiv (2 ^ k)=((n >>> k:Nat):Int):=by
  rw [Int.fdiv_eq_ediv_of_nonneg _ (Int.pow_nonneg (by decide)),Nat.shiftRight_eq_div_pow]
  simp
 rw [h1]
 simp [IntKind.wrap,IntKind.bits,IntKind.signed]
end Go.Proofs.YtgpbngfehfbndaaGreatDoor.Sw
namespace Go.Sx
open Go.RowKit
section
variable {P:Program} {ops:Array Oper} {aD:List Oper} {Q:Exit→Act→World→Prop} {a:Act} {n:Nat} {L:List (Nat×Value)} {W:World} {d:Nat} {T:TypeId} {p:String} {e:Array Edge}
theorem aER {f:FuncId} {xs:List Operand} {vs:List Value} (hs:Slots a n L) (hx:evs L xs=some vs:=by with_unfolding_all exact rfl) (hd:Nat.blt d n=true:=by with_unfolding_all exact rfl)
  (k:∀a',Slots a' n ((d,.func (.func f) ⟨[]⟩ ⟨vs⟩)::L)→wpList P ops Q aD a' W):wpList P ops Q (⟨some d,.makeFunc (.func f) ⟨[]⟩ ⟨xs⟩,T,p,e,none⟩::aD) a W:=by
 refine bO hs hd (v:= .func (.func f) ⟨[]⟩ ⟨vs⟩) (W':=W) ?_ k
 simp only [execOp,List.map_toArray,hs.evs hx,Instr.makeFunc,Sem.run_bind,Sem.run_pure,Result.andThen_ok,List.map_nil]
theorem aAH {f:FuncId} {x:Operand} {xs:List Operand} {ts:Array TypeId} {vs cs:List Value} {C:Ending→World→Prop} (hs:Slots a n L) (hfv:ev L x=some (.func (.func f) ⟨[]⟩ ⟨cs⟩):=by with_unfolding_all exact rfl) (hx:evs L xs=some vs:=by with_unfolding_all exact rfl) (hd:Nat.blt d n=true:=by with_unfolding_all exact rfl)
  (hf:callee P f=true) (hc:Calls P f ⟨vs ++ cs⟩ W C)
  (k:∀e' W',C e' W'→∃v,e'= .returned v∧∀a',Slots a' n ((d,v)::L)→wpList P ops Q aD a' W'):
  wpList P ops Q (⟨some d,.call {callee:= .value x,args:=⟨xs⟩,argTypes:=ts},T,p,e,none⟩::aD) a W:=by
 refine wpList_plain rfl fun K hK=>?_
 have hr:(execOp a.eval ⟨some d,.call {callee:= .value x,args:=⟨xs⟩,argTypes:=ts},T,p,e,none⟩).run P W= .ok (.enter f ⟨vs ++ cs⟩) W:=by
  simp only [execOp,resolve,List.map_toArray,hs.evs hx,hs.ev hfv,Deferred.ofValue,Sem.run_bind,Sem.run_pure,Result.andThen_ok,invoke]
  have:((⟨[]⟩:Array Value) ++ ⟨vs⟩ ++ ⟨cs⟩)=⟨vs ++ cs⟩:=by simp
  simp only [this,uJ hf]
 simp only [Oper.wp,hr,Oper.upon_enter]
 refine hc.mono fun e' W' h=>?_
 obtain ⟨v,rfl,h2⟩:=k e' W' h
 exact hK _ _ (h2 _ (hs.put hd v))
end
theorem Ch.mem {α:Type} {R:α→List Value→Prop} {k:Nat} (hk:∀a c,R a c→c.length=k) {l:List α} {cs:List Value} (h:Ch R l cs) {i:Nat} {a:α} (hi:l[i]? =some a):∃c,R a c∧cut cs (i*k) k=c:=by
 obtain ⟨c,h1,h2,h3⟩:=h.get hk hi
 exact ⟨c,h1,h3⟩
theorem Ch.at_cur {α:Type} {R:α→List Value→Prop} {k i n j:Nat} {l:List α} {a:α} {cs cur c:List Value} {u:Value} (hcut:cut cs (i*k) k=c) (ht:cur.take n=cs) (hu:c[j]? =some u):cur[i*k+j]? =some u:=by
 have h1:=congrArg (fun t=>t[j]?) hcut
 simp only [fX,List.getElem?_take,List.getElem?_drop,hu] at h1
 split at h1
 ·rw [←ht,List.getElem?_take] at h1
  split at h1
  ·exact h1
  ·cases h1
 ·cases h1
theorem vE {w W:World} {p:Fh→Prop} {b:Bool} (h:Has 0 w W ((if b=true then Ex (fun H=>Fz H::bN ((fr w).le H∧p H):: []) else Fz (fr w)):: [])):Below w.heap.size w W:=by
 cases b with
 |false=>exact h.endF In.hd (Fh.le.refl _)
 |true=>
  have h:Has 0 w W (Ex (fun H=>Fz H::bN ((fr w).le H∧p H):: []):: []):=h
  obtain ⟨H,h⟩:=Has.open h
  have h:Has 0 w W (Fz H::bN ((fr w).le H∧p H):: []):=h
  have h2:=h.told (In.tl In.hd)
  exact h.endF In.hd h2.1
inductive Sel:List Res→List Res→Prop
 |nil {L:List Res}:Sel [] L
 |refl (L:List Res):Sel L L
 |cons {r:Res} {K L L':List Res}:Pick r L L'→Sel K L'→Sel (r::K) L
 |skip {r:Res} {K L:List Res}:Sel K L→Sel K (r::L)
theorem Sel.perm {K L:List Res} (s:Sel K L):∃M,L.Perm (K ++ M):=by
 induction s with
 |nil=>exact ⟨_,List.Perm.refl _⟩
 |refl L=>exact ⟨[],by rw [List.append_nil]⟩
 |cons p _ ih=>
  obtain ⟨M,h⟩:=ih
  exact ⟨M,nB p h⟩
 | @skip r K L _ ih=>
  obtain ⟨M,h⟩:=ih
  exact ⟨r::M,(h.cons r).trans List.perm_middle.symm⟩
theorem Has.sel {G:Nat} {w W:World} {K L:List Res} (h:Has G w W L) (s:Sel K L):Has G w W K:=by
 obtain ⟨M,hp⟩:=s.perm
 exact (h.perm hp).sub (List.sublist_append_left K M)
theorem Has.sl {G:Nat} {w W:World} {K L:List Res} (h:Has G w W L) (s:Sel K L:=by repeat (first|exact Sel.nil|exact Sel.refl _|refine Sel.cons (by repeat (first|exact Pick.hd|apply Pick.tl)) ?_|refine Sel.skip ?_)):Has G w W K:=h.sel s
def II (x:Int) (c:List Value):Prop:=c= [.int .i64 x]
theorem II.len:∀(x:Int) (c:List Value),II x c→c.length=1:=by rintro x c rfl;rfl
theorem rP:∀l:List Int,Ch II l (l.map fun x=>Value.int .i64 x)
 | []=>rfl
 |x::l=>⟨[.int .i64 x],l.map fun x=>Value.int .i64 x,rfl,rfl,rP l⟩
section
variable {P:Program} {ops:Array Oper} {aD:List Oper} {Q:Exit→Act→World→Prop} {a:Act} {n:Nat} {L:List (Nat×Value)} {W:World} {d d2:Nat} {T T2 S E:TypeId} {p p2:String} {e e2:Array Edge} {x y:Operand} {i k:Nat} {q:IntKind} {z:List Value} {v:Value} {l:List Int} {u:Int}
theorem iA [sl:Sl P S E] [t:Ty P E false z] (hs:Slots a n L) (r:Rd W 1 v k (l.map fun x=>Value.int .i64 x)) (hi:l[i]? =some u) (hlen:l.length=k) (c:∀a' b o,Slots a' n ((d2,.int .i64 u)::(d,.pointer (some ⟨b,o,none⟩))::L)→wpList P ops Q aD a' W) (hx:ev L x=some v:=by with_unfolding_all exact rfl) (hy:ev L y=some (.int q (i:Int)):=by with_unfolding_all exact rfl) (hd:Nat.blt d n=true:=by with_unfolding_all exact rfl) (hd2:Nat.blt d2 n=true:=by with_unfolding_all exact rfl) (hz:z.length=1:=by with_unfolding_all exact rfl):
  wpList P ops Q (⟨some d,.indexAddr S x y,T,p,e,none⟩::⟨some d2,.load E (.tmp d),T2,p2,e2,none⟩::aD) a W:=by
 refine fZ hs r II.len (rP l) hi hlen hx hy hd hz (fun a' b o c hc hcl hpc hlt hs=>?_)
 obtain rfl:c= [.int .i64 u]:=hc
 have hev:ev ((d,Value.pointer (some ⟨b,o,none⟩))::L) (.tmp d)=some (.pointer (some ⟨b,o,none⟩)):=by simp [ev,lk]
 exact eP hs (hx:=hev) (hc:=hpc 0 _ rfl) (hd:=hd2) (c:=fun a' hs=>c a' b o hs)
theorem mD {b bytes:Nat} {w:World} {R R1:List Res} [sl:Sl P S E] [el:El P E 1 bytes] (hs:Slots a n L) (hw:Has 0 w W (aA b [.int .i64 u] E::R)) (hp:Pick (Own E 1 v l.length (l.map fun x=>Value.int .i64 x)) R R1) (hb:(l.length+1)*bytes≤140737488355328)
  (k:∀a' ad cap W',Slots a' n ((d,.slice ad (l ++ [u]).length cap)::L)→Has 0 w W' (Own E 1 (.slice ad (l ++ [u]).length cap) (l ++ [u]).length ((l ++ [u]).map fun x=>Value.int .i64 x)::R1)→wpList P ops Q aD a' W') (h63:l.length+1≤9223372036854775807:=by omega) (hx:ev L x=some v:=by with_unfolding_all exact rfl) (hy:ev L y=some (.slice (some ⟨b,0,none⟩) 1 1):=by with_unfolding_all exact rfl) (hd:Nat.blt d n=true:=by with_unfolding_all exact rfl):
  wpList P ops Q (⟨some d,.call {callee:= .builtin .append,args:=#[x,y],argTypes:=#[S,S]},T,p,e,none⟩::aD) a W:=by
 have hw2:Has 0 w W (Own E 1 v l.length (l.map fun x=>Value.int .i64 x)::aA b [.int .i64 u] E::R1):=(hw.pick (Pick.tl hp))
 refine jB hs hw2 In.hd (rP l) (show II u [.int .i64 u] from rfl) rfl rfl hb h63 hx hy hd fun a' ad cap W' hs hw _=>?_
 rw [show (l.map fun x=>Value.int .i64 x) ++ [Value.int .i64 u]=(l ++ [u]).map fun x=>Value.int .i64 x by simp] at hw
 exact k a' ad cap W' hs (hw.sub (List.Sublist.cons_cons _ (List.Sublist.cons _ (List.Sublist.refl _))))
end
end Go.Sx
namespace Go.Proofs.YtgpbngfehfbndaaGreatDoor.Sw
open Go.RowKit Go.Sx
theorem i1 {i:Nat} (h:i<9223372036854775807):IntKind.i64.wrap ((i:Int)+1)=((i+1:Nat):Int):=by rw [IntWalk.i64_in _ (by omega)];omega
theorem dS {α:Type} {l:List α} {i:Nat} (h:i<l.length):∃o,l[i]? =some o∧l.drop i=o::l.drop (i+1):=⟨l[i],List.getElem?_eq_getElem h,List.drop_eq_getElem_cons h⟩
abbrev bY (v:Value) (l:List UInt8):Res:=Sx.OwnB 5 v l
theorem aAI (s:Nat) (l:List UInt8) (v:Value) (w:World) (h:s<4294967296) (r:RdB w v l):
  Calls Tryz.prog 241 ⟨[.int .u32 (s:Int),v]⟩ w fun e w'=>e= .returned (.int .u32 (iT s l:Int))∧Below w.heap.size w w':=by
 have hw:=Has.start (G:=0) (w:=w) (Nat.zero_le _)
 have hlen:=r.len
 obtain ⟨ad,cap,rfl⟩:∃ad cap,v= .slice ad l.length cap:=by obtain ⟨_,ad,cap,e,_⟩:=r;exact ⟨ad,cap,e⟩
 refine enter Tryz.func241 Tryz.ntmps241 rfl rfl fun a hs=>?_
 refine sv hs hw fun a hs=>?_
 rw [show bits .xor .u32 (if IntKind.u32.signed then -1 else IntKind.u32.max) (s:Int)=((s ^^^ 4294967295:Nat):Int) from aAF h] at hs
 have h0:s ^^^ 4294967295<4294967296:=oW h (by decide)
 refine bX (σ:=Nat) (fun i=>[(10,.slice ad l.length cap),(11,.int .i64 (l.length:Int)),(12,.int .i64 (i:Int)),(5,.int .u32 ((l.take i).foldl jT (s ^^^ 4294967295):Nat))]) (fun _=>Old w 0:: []) (fun i=>i≤l.length) (fun i=>l.length - i) 0 (Nat.zero_le _) hs ⟨rfl,rfl,rfl,rfl,trivial⟩ hw ?_
 clear hs hw
 intro i a W hi hs hw
 have hi:i≤l.length:=hi
 have hx:=vD (l.take i) h0
 refine sv hs hw fun a hs=>?_
 refine cI hs (kt:=fun hc=>?_) (kf:=fun hc=>?_)
 ·have hi':i<l.length:=by simpa using hc
  obtain ⟨c,hc1,_⟩:=dS hi'
  have hn:(l.take (i+1)).foldl jT (s ^^^ 4294967295)=jT ((l.take i).foldl jT (s ^^^ 4294967295)) c:=by rw [fS hc1,List.foldl_append];rfl
  generalize (l.take i).foldl jT (s ^^^ 4294967295)=x at *
  refine sc hs ?_
  refine aDm (hs:=hs) (r:=hw.rd (by repeat (first|exact In.hd|apply In.tl)) hw.ext.size r) (h0:=by omega) (c:=c) (hc:=by rw [Int.toNat_natCast];exact hc1) (k:=fun a ad1 hc2 hs=>?_)
  refine eP hs (hc:=hc2) (c:=fun a hs=>?_)
  refine sv hs hw fun a hs=>?_
  rw [show bits .xor .u32 (x:Int) (IntKind.u32.wrap (c.toNat:Int))=((x ^^^ c.toNat:Nat):Int) by
   have hc:=c.toNat_lt
   rw [show IntKind.u32.wrap (c.toNat:Int)=(c.toNat:Int) by rw [vB];omega]
   exact rO _ _ hx (by omega)] at hs
  have h1:x ^^^ c.toNat<4294967296:=oW hx (by have:=c.toNat_lt;omega)
  refine bX (σ:=Nat) (fun j=>[(10,.slice ad l.length cap),(11,.int .i64 (l.length:Int)),(12,.int .i64 (i:Int)),(20,.int .i64 (j:Int)),(5,.int .u32 (itN j (x ^^^ c.toNat):Nat))]) (fun _=>Old w 0:: []) (fun j=>j≤8) (fun j=>8 - j) 0 (Nat.zero_le _) hs ⟨rfl,rfl,rfl,rfl,rfl,trivial⟩ hw ?_
  clear hs hw
  intro j a W hj hs hw
  have hj:j≤8:=hj
  have h2:=vC h1 j
  refine sv hs hw fun a hs=>?_
  refine cI hs (kt:=fun hc=>?_) (kf:=fun hc=>?_)
  ·have hj':j<8:=by simp at hc;omega
   refine sv hs hw fun a hs=>?_
   have hb:=aEO h2
   exact bR (j+1) hs hw hj' (by omega) ⟨rfl,rfl,rfl,bS (i1 (by omega)),bS hb,trivial⟩
  ·have:j=8:=by simp at hc;omega
   subst this
   refine sv hs hw fun a hs=>?_
   refine bR (i+1) hs hw hi' (by omega) ⟨rfl,rfl,bS (i1 (by omega)),bS ?_,trivial⟩
   rw [hn];rfl
 ·have:l.take i=l:=List.take_of_length_le (by simp at hc;omega)
  rw [this] at hs hx
  refine sv hs hw fun a hs=>?_
  rw [show bits .xor .u32 (if IntKind.u32.signed then -1 else IntKind.u32.max) ((l.foldl jT (s ^^^ 4294967295):Nat):Int)=((l.foldl jT (s ^^^ 4294967295) ^^^ 4294967295:Nat):Int) from aAF hx] at hs
  exact rt1 hs rfl rfl ⟨rfl,hw.end (by repeat (first|exact In.hd|apply In.tl))⟩
theorem aES (l:List UInt8) (v:Value) (w:World) (r:RdB w v l):
  Calls Tryz.prog 242 ⟨[v]⟩ w fun e w'=>e= .returned (.int .u32 (iT 0 l:Int))∧Below w.heap.size w w':=by
 have hw:=Has.start (G:=0) (w:=w) (Nat.zero_le _)
 refine enter Tryz.func242 Tryz.ntmps242 rfl rfl fun a hs=>?_
 refine sv hs hw fun a hs=>?_
 refine cb hs hw (aAI 0 l v _ (by decide) r) fun a W hs hw=>?_
 refine sv hs hw fun a hs=>?_
 exact rt1 hs rfl rfl ⟨rfl,hw.end (by repeat (first|exact In.hd|apply In.tl))⟩
theorem aET {n:Nat} (hn:n<4294967296) {L:List Res}:New Tryz.prog 243 [.int .u32 (n:Int)] L Nat (fun b=> .slice (some ⟨b,0,none⟩) 4 4) (fun b=>aA b (bys (jU n)) 5::L):=⟨fun {w W} hw=>by
 have h:=aEQ hn
 refine enter Tryz.func243 Tryz.ntmps243 rfl rfl fun a hs=>?_
 refine sv hs hw fun a hs=>?_
 refine sn hs hw fun b a W hs hw=>?_
 refine sv hs hw fun a hs=>?_
 refine rt1 hs rfl rfl ⟨b,rfl,?_⟩
 have h0:IntKind.u8.wrap (n:Int)=((UInt8.ofNat n).toNat:Int):=by simp [IntKind.wrap,IntKind.bits,IntKind.signed]
 have e:bys (jU n)= [.int .u8 (IntKind.u8.wrap ((n:Int).fdiv (2 ^ 24))),.int .u8 (IntKind.u8.wrap ((n:Int).fdiv (2 ^ 16))),.int .u8 (IntKind.u8.wrap ((n:Int).fdiv (2 ^ 8))),.int .u8 (IntKind.u8.wrap (n:Int))]:=by
  rw [h 24 (by decide),h 16 (by decide),h 8 (by decide),h0];rfl
 rw [e]
 exact hw⟩
theorem nC (w0 W:World) (kind:Nat) (l:List UInt8) (v:Value) (R:List Res) (h1:1≤kind) (h2:kind≤255) (hl:l.length≤4000) (hr:∀{W},Has 0 w0 W R→RdB W v l) (hw:Has 0 w0 W R):
  Calls Tryz.prog 167 ⟨[.int .i64 (kind:Int),v]⟩ W fun e W'=>∃s:Option Addr×Nat,e= .returned (.slice s.1 (frB kind l).length s.2)∧True∧Has 0 w0 W' (bY (.slice s.1 (frB kind l).length s.2) (frB kind l)::R):=by
 obtain ⟨ad,cap,rfl⟩:∃ad cap,v= .slice ad l.length cap:=by obtain ⟨_,ad,cap,e,_⟩:=hr hw;exact ⟨ad,cap,e⟩
 refine enter Tryz.func167 Tryz.ntmps167 rfl rfl fun a hs=>?_
 have e1:decide ((kind:Int)<1)=false:=decide_eq_false (by omega)
 have e2:decide ((kind:Int) > 255)=false:=decide_eq_false (by omega)
 have e3:decide ((l.length:Int) > 4000)=false:=decide_eq_false (by omega)
 refine sv hs hw fun a hs=>?_
 rw [e1] at hs
 refine sv hs hw fun a hs=>?_
 rw [e2] at hs
 refine sv hs hw fun a hs=>?_
 rw [e3] at hs
 refine sv hs hw fun a hs=>?_
 rw [show IntKind.u8.wrap (kind:Int)=((UInt8.ofNat kind).toNat:Int) by simp [IntKind.wrap,IntKind.bits,IntKind.signed]] at hs
 refine sn hs hw fun b a W hs hw=>?_
 replace hw:Has 0 w0 W (bY (.slice (some ⟨b,0,none⟩) [UInt8.ofNat kind].length 1) [UInt8.ofNat kind]::R):=hw.shut_own (k:=1) (size:=1) (cap:=1) rfl rfl (by decide) (by decide)
 refine sv hs hw fun a hs=>?_
 refine aF hs (hc:=eJ w0 _ _ [UInt8.ofNat kind] (l.length:Int) R (by omega) (by omega) (by simp) hw) (k:=?_);rintro e0 W1 ⟨ad,cap,rfl,hw1⟩;refine ⟨_,rfl,?_⟩;clear hs hw;intro a hs;have hw:=hw1;clear hw1
 have hp:=Ph.putI_length_le (l.length:Int)
 have hxl:([UInt8.ofNat kind] ++ Ph.putI (l.length:Int)).length≤11:=by simp;omega
 have hfr:frB kind l= [UInt8.ofNat kind] ++ Ph.putI (l.length:Int) ++ jU (iT (iT 0 ([UInt8.ofNat kind] ++ Ph.putI (l.length:Int))) l) ++ l:=rfl
 rw [hfr]
 generalize [UInt8.ofNat kind] ++ Ph.putI (l.length:Int)=x at *
 refine sv hs hw fun a hs=>?_
 refine cb hs hw (aES x _ _ (hw.rd_own In.hd)) fun a W hs hw=>?_
 refine sv hs hw fun a hs=>?_
 have h3:=aAG (s:=0) (by decide) x
 refine cb hs hw (aAI (iT 0 x) l _ _ h3 (hr (hw.sub (List.Sublist.cons _ (List.Sublist.refl _))))) fun a W hs hw=>?_
 have h4:=aAG h3 l
 generalize iT (iT 0 x) l=s at *
 refine sv hs hw fun a hs=>?_
 refine sg hs hw (fun c a W hs hw=>?_) (g:=aET h4)
 have e4:(jU s).length=4:=rfl
 have hf:Src Tryz.prog 1 146 (.slice (some ⟨c,0,none⟩) 4 4) (jU s).length (bys (jU s)) W:=uO (m:=4) (size:=1) hw In.hd (by rw [List.length_map,e4];rfl) rfl 4
 refine hJ hs hw (l:=x) (m:=jU s) (hr:=hf) (hb:=by omega) (c:=fun a ad2 cap2 W hs hw=>?_)
 refine sv hs hw fun a hs=>?_
 refine hJ hs hw (l:=x ++ jU s) (m:=l) (hr:=fK (hr (hw.sub (List.Sublist.cons _ (List.Sublist.cons _ (List.Sublist.refl _))))) (jQ l)) (hb:=by rw [List.length_append];omega) (c:=fun a ad3 cap3 W hs hw=>?_)
 refine sv hs hw fun a hs=>?_
 exact rt1 hs rfl rfl ⟨(ad3,cap3),rfl,trivial,hw.sl⟩
end Go.Proofs.YtgpbngfehfbndaaGreatDoor.Sw
namespace Go.Sx
open Go.RowKit
section
variable {P:Program}
def Calm (M:Act→World→Prop):Exit→Act→World→Prop:=fun ex a W=>match ex with| .normal=>M a W|_=>False
theorem Oper.wp_calmM {o:Oper} {a:Act} {W:World} {N M:Act→World→Prop} {Q:Exit→Act→World→Prop} (h:o.wp P a W N (Calm M)):o.wp P a W N Q:=by
 unfold Oper.wp at *
 generalize (execOp a.eval o).run P W=r at *
 cases r with
 |ok x w'=>
  cases x <;> simp only [Oper.upon] at h⊢<;> first
   |exact h
   |exact Calls.mono h (fun e w'' he=>by
     cases e with
     |returned v=>exact he
     |panicked c=>exact he.elim
     |outgrown=>obtain ⟨_,_,he⟩:=he;exact he.elim)
 |halt x w'=>cases x <;> simp only [Oper.upon] at h⊢<;> exact h.elim
theorem mergeL {ops:Array Oper} {Q:Exit→Act→World→Prop} {M:Act→World→Prop} (hm:∀a W,M a W→Q .normal a W):∀{l:List Oper} {a:Act} {W:World},wpList P ops (Calm M) l a W→wpList P ops Q l a W
 | [],a,W,h=>hm a W h
 |o::aD,a,W,h=>by
  unfold wpList at h⊢
  split
  ·rename_i hw
   rw [if_pos hw] at h
   rcases h with h|⟨_,h⟩
   ·exact .inl (Oper.wp_calmM (Oper.wp_mono (fun a w h=>mergeL hm h) h))
   ·obtain ⟨_,_,h⟩:=h
    exact h.elim
  ·rename_i hw
   rw [if_neg hw] at h
   exact mergeL hm h
end
structure Un where
 n:Nat:=0
 ad:Option Addr:=none
 cap:Nat:=0
 H:Fh:=fun _=>none
 v:Value:= .pointer none
 j:Int:=0
inductive En where
 |c0 (v:Value)
 |c1 (f:Un→Value)
 |c2 (f:Un→Un→Value)
 |c3 (f:Un→Un→Un→Value)
 |c4 (f:Un→Un→Un→Un→Value)
abbrev En.at (x y z t:Un):En→Value
 | .c0 v=>v
 | .c1 f=>f x
 | .c2 f=>f x y
 | .c3 f=>f x y z
 | .c4 f=>f x y z t
def En.cls:En→Nat
 | .c0 _=>0
 | .c1 _=>1
 | .c2 _=>2
 | .c3 _=>3
 | .c4 _=>4
inductive Sp where
 |m (s:Nat)
 |f (lo hi:Nat)
def Sp.cls:Sp→Nat
 | .m s=>s+1
 | .f lo _=>lo
def stg (ms:List Nat) (D:Nat→Bool):Nat:=(ms.takeWhile D).length
def jE (l : List Oper) (ms : List Nat) (sp : List Sp) : Bool :=
  sp.length == l.length && Nat.ble ms.length 4 && ms.all (fun m => Nat.blt m l.length) &&
  (List.range ms.length).all (fun s => match sp[ms.getD s 0]? with | some (.m s') => s' == s | _ => false) &&
  (l.zip sp).zipIdx.all fun ((o, p), i) =>
    (match p with
     | .m s => ms[s]? == some i && (s == 0 || o.after.toList.any fun e => Region.binds .any e && (match sp[e.on]? with | some q => Nat.ble s q.cls | none => false))
     | .f lo hi => (lo == 0 || o.after.toList.any fun e => Region.binds .any e && (match sp[e.on]? with | some q => Nat.ble lo q.cls | none => false)) && Nat.ble hi ms.length &&
        (hi == ms.length || (l.zip sp).zipIdx.any fun ((o', p'), j) => Nat.blt i j && o'.after.toList.any (fun e => Region.binds .any e && e.on == i) && (match p' with | .m s => Nat.ble s hi | .f _ hi' => Nat.ble hi' hi)))
theorem lH {l : List Oper} {ms : List Nat} {sp : List Sp} (h : jE l ms sp = true) {i : Nat} {o : Oper} {p : Sp} (ho : l[i]? = some o) (hp : sp[i]? = some p) :
    (match p with
     | .m s => ms[s]? = some i ∧ (s = 0 ∨ ∃ e ∈ o.after.toList, Region.binds .any e = true ∧ ∃ q, sp[e.on]? = some q ∧ s ≤ q.cls)
     | .f lo hi => (lo = 0 ∨ ∃ e ∈ o.after.toList, Region.binds .any e = true ∧ ∃ q, sp[e.on]? = some q ∧ lo ≤ q.cls) ∧ hi ≤ ms.length ∧
        (hi = ms.length ∨ ∃ j o' p', l[j]? = some o' ∧ sp[j]? = some p' ∧ i < j ∧ (∃ e ∈ o'.after.toList, Region.binds .any e = true ∧ e.on = i) ∧ (match p' with | .m s => s ≤ hi | .f _ hi' => hi' ≤ hi))) := by
  unfold jE at h
  simp only [Bool.and_eq_true] at h
  have h2 := List.all_eq_true.1 h.2 ((o, p), i) (by
    rw [List.mem_zipIdx_iff_getElem?, List.getElem?_zip_eq_some]
    exact ⟨ho, hp⟩)
  have key : ∀ k : Nat, (o.after.toList.any fun e => Region.binds .any e && (match sp[e.on]? with | some q => Nat.ble k q.cls | none => false)) = true → ∃ e ∈ o.after.toList, Region.binds .any e = true ∧ ∃ q, sp[e.on]? = some q ∧ k ≤ q.cls := by
    intro k hk
    obtain ⟨e, he, hb⟩ := List.any_eq_true.1 hk
    obtain ⟨hb1, hb2⟩ := Bool.and_eq_true _ _ |>.mp hb
    refine ⟨e, he, hb1, ?_⟩
    cases hq : sp[e.on]? with
    | none => rw [hq] at hb2; cases hb2
    | some q => rw [hq] at hb2; exact ⟨q, rfl, Nat.le_of_ble_eq_true hb2⟩
  cases p with
  | m s =>
    simp only [Bool.and_eq_true, Bool.or_eq_true, beq_iff_eq] at h2
    exact ⟨h2.1, h2.2.imp id (key s)⟩
  | f lo hi =>
    simp only [Bool.and_eq_true, Bool.or_eq_true, beq_iff_eq] at h2
    refine ⟨h2.1.1.imp id (key lo), Nat.le_of_ble_eq_true h2.1.2, h2.2.imp id ?_⟩
    intro hk
    obtain ⟨⟨⟨o', p'⟩, j⟩, hm, hb⟩ := List.any_eq_true.1 hk
    rw [List.mem_zipIdx_iff_getElem?, List.getElem?_zip_eq_some] at hm
    simp only [Bool.and_eq_true] at hb
    refine ⟨j, o', p', hm.1, hm.2, by simpa [Nat.blt_eq] using hb.1.1, ?_, ?_⟩
    · obtain ⟨e, he, h3⟩ := List.any_eq_true.1 hb.1.2
      simp only [Bool.and_eq_true, beq_iff_eq] at h3
      exact ⟨e, he, h3.1, h3.2⟩
    · cases p' with
      | m s => exact Nat.le_of_ble_eq_true hb.2
      | f a b => exact Nat.le_of_ble_eq_true hb.2
section
variable {l:List Oper} {ms:List Nat} {sp:List Sp} {D:Nat→Bool}
theorem nD (h:jE l ms sp=true) {s m:Nat} (hm:ms[s]? =some m):m<l.length∧sp[m]? =some (.m s):=by
 unfold jE at h
 simp only [Bool.and_eq_true] at h
 have hs:=(List.getElem?_eq_some_iff.1 hm).1
 refine ⟨by have:=List.all_eq_true.1 h.1.1.2 m (List.mem_of_getElem? hm);simpa [Nat.blt_eq] using this,?_⟩
 have:=List.all_eq_true.1 h.1.2 s (List.mem_range.2 hs)
 rw [show ms.getD s 0=m by rw [List.getD_eq_getElem?_getD,hm];rfl] at this
 cases hq:sp[m]? with
 |none=>rw [hq] at this;cases this
 |some q=>
  rw [hq] at this
  cases q with
  |m s'=>simp only [beq_iff_eq] at this;rw [this]
  |f a b=>cases this
theorem nE (h:jE l ms sp=true):sp.length=l.length∧ms.length≤4:=by
 unfold jE at h
 simp only [Bool.and_eq_true,beq_iff_eq] at h
 exact ⟨h.1.1.1.1,Nat.le_of_ble_eq_true h.1.1.1.2⟩
theorem vF (h:jE l ms sp=true) (hf:gT l=true) (hcl:∀k o',l[k]? =some o'→D k=true→∀e∈o'.after.toList,Region.binds .any e=true→D e.on=true):
  ∀(i:Nat) (p:Sp),sp[i]? =some p→D i=true→∀s m,s<p.cls→ms[s]? =some m→D m=true:=by
 intro i
 induction i using Nat.strongRecOn with
 |_ i ih=>
  intro p hp hD s m hs hm
  have hil:i<l.length:=by have:=(List.getElem?_eq_some_iff.1 hp).1;rw [(nE h).1] at this;exact this
  have ho:l[i]? =some l[i]:=List.getElem?_eq_getElem hil
  have h2:=lH h ho hp
  have go:∀k:Nat,(∃e∈l[i].after.toList,Region.binds .any e=true∧∃q,sp[e.on]? =some q∧k≤q.cls)→s<k→D m=true:=by
   rintro k ⟨e,he,hb,q,hq,hk⟩ hsk
   exact ih e.on ((l9 hf ho).2 e he hb) q hq (hcl i _ ho hD e he hb) s m (by omega) hm
  cases p with
  |m s'=>
   simp only [Sp.cls] at hs
   obtain ⟨h3,h4⟩:=h2
   by_cases e:s=s'
   ·subst e
    rw [h3] at hm
    obtain rfl:=Option.some.inj hm
    exact hD
   ·rcases h4 with h4|h4
    ·omega
    ·exact go s' h4 (by omega)
  |f lo hi=>
   simp only [Sp.cls] at hs
   rcases h2.1 with h4|h4
   ·omega
   ·exact go lo h4 hs
theorem aAJ (h:jE l ms sp=true) (hcl:∀k o',l[k]? =some o'→D k=true→∀e∈o'.after.toList,Region.binds .any e=true→D e.on=true):
  ∀(d i lo hi:Nat),l.length - i≤d→sp[i]? =some (.f lo hi)→D i=false→hi=ms.length∨∃s m,s≤hi∧ms[s]? =some m∧D m=false
 |0,i,lo,hi,hd,hp,_=>by
  have:=(List.getElem?_eq_some_iff.1 hp).1
  rw [(nE h).1] at this
  omega
 |d+1,i,lo,hi,hd,hp,hD=>by
  have hil:i<l.length:=by have:=(List.getElem?_eq_some_iff.1 hp).1;rw [(nE h).1] at this;exact this
  have h2:=lH h (List.getElem?_eq_getElem hil) hp
  obtain ⟨_,h4,h5⟩:=h2
  rcases h5 with h5|⟨j,o',p',hj,hpj,hij,⟨e,he,hb,hei⟩,h6⟩
  ·exact .inl h5
  ·have hDj:D j=false:=by
    cases hq:D j with
    |false=>rfl
    |true=>
     have:=hcl j o' hj hq e he hb
     rw [hei,hD] at this
     cases this
   cases p' with
   |m s=>
    have:=(lH h hj hpj).1
    exact .inr ⟨s,j,h6,this,hDj⟩
   |f lo' hi'=>
    rcases aAJ h hcl d j lo' hi' (by omega) hpj hDj with h7|⟨s,m,h7,h8,h9⟩
    ·exact .inl (by have h6:hi'≤hi:=h6;omega)
    ·exact .inr ⟨s,m,by have h6:hi'≤hi:=h6;omega,h8,h9⟩
theorem vG {s m:Nat} (hm:ms[s]? =some m) (hD:D m=false):stg ms D≤s:=by
 unfold stg
 induction ms generalizing s with
 |nil=>simp at hm
 |cons x xs ih=>
  cases s with
  |zero=>
   simp at hm
   subst hm
   simp [List.takeWhile,hD]
  |succ s=>
   simp only [List.getElem?_cons_succ] at hm
   cases hx:D x with
   |false=>simp [List.takeWhile,hx]
   |true=>
    simp only [List.takeWhile,hx,List.length_cons]
    have:=ih hm
    omega
theorem vH {c:Nat} (hc:c≤ms.length) (h:∀s m,s<c→ms[s]? =some m→D m=true):c≤stg ms D:=by
 unfold stg
 induction ms generalizing c with
 |nil=>simp at hc;omega
 |cons x xs ih=>
  cases c with
  |zero=>omega
  |succ c=>
   have hx:=h 0 x (by omega) rfl
   simp only [List.takeWhile,hx,List.length_cons]
   have:=ih (c:=c) (by simpa using hc) (fun s m hs hm=>h (s+1) m (by omega) (by simpa using hm))
   omega
theorem vI:stg ms D≤ms.length:=by
 unfold stg
 exact (List.takeWhile_sublist D).length_le
theorem aEU {s m:Nat} (hs:s<stg ms D) (hm:ms[s]? =some m):D m=true:=by
 unfold stg at hs
 induction ms generalizing s with
 |nil=>simp at hm
 |cons x xs ih=>
  cases hx:D x with
  |false=>simp [List.takeWhile,hx] at hs
  |true=>
   simp only [List.takeWhile,hx,List.length_cons] at hs
   cases s with
   |zero=>simp at hm;subst hm;exact hx
   |succ s=>exact ih (s:=s) (by omega) (by simpa using hm)
end
def En.ath (h:Nat→Un) (e:En):Value:=e.at (h 0) (h 1) (h 2) (h 3)
theorem En.ath_congr:∀{e:En} {h h':Nat→Un} (hh:∀j,j<e.cls→h j=h' j),e.ath h=e.ath h'
 | .c0 _,_,_,_=>rfl
 | .c1 f,h,h',hh=>by show f (h 0)=f (h' 0);rw [hh 0 (by show 0<1;decide)]
 | .c2 f,h,h',hh=>by show f (h 0) (h 1)=f (h' 0) (h' 1);rw [hh 0 (by show 0<2;decide),hh 1 (by show 1<2;decide)]
 | .c3 f,h,h',hh=>by show f (h 0) (h 1) (h 2)=f (h' 0) (h' 1) (h' 2);rw [hh 0 (by show 0<3;decide),hh 1 (by show 1<3;decide),hh 2 (by show 2<3;decide)]
 | .c4 f,h,h',hh=>by show f (h 0) (h 1) (h 2) (h 3)=f (h' 0) (h' 1) (h' 2) (h' 3);rw [hh 0 (by show 0<4;decide),hh 1 (by show 1<4;decide),hh 2 (by show 2<4;decide),hh 3 (by show 3<4;decide)]
section
variable (P:Program) (l:List Oper) (E:List En) (L0:List (Nat×Value)) (n:Nat) (w:World) (RR:Nat→(Nat→Un)→List Res) (i:Nat) (o:Oper)
def aEV (s:Nat):Prop:=∀(h:Nat→Un) (LD:List (Nat×Value)) (a:Act) (W:World),Slots a n (dJ l (E.map (En.ath h)) o.after.toList ++ (dE l i L0 ++ LD))→Has 0 w W (RR s h)→
 wpList P l.toArray (fun ex a' W'=>match ex with| .normal=>Slots a' n (entry o ((E[i]?).map (En.ath h)) ++ (dJ l (E.map (En.ath h)) o.after.toList ++ (dE l i L0 ++ LD)))∧Has 0 w W' (RR s h)|_=>False) [o] a W
def MnH (s:Nat):Prop:=∀(h:Nat→Un) (LD:List (Nat×Value)) (a:Act) (W:World),Slots a n (dJ l (E.map (En.ath h)) o.after.toList ++ (dE l i L0 ++ LD))→Has 0 w W (RR s h)→
 wpList P l.toArray (fun ex a' W'=>match ex with| .normal=>∃x,Slots a' n (entry o ((E[i]?).map (En.ath (d7 h s x))) ++ (dJ l (E.map (En.ath h)) o.after.toList ++ (dE l i L0 ++ LD)))∧Has 0 w W' (RR (s+1) (d7 h s x))|_=>False) [o] a W
def ObH:Sp→Prop
 | .f lo hi=>∀s,lo≤s→s≤hi→aEV P l E L0 n w RR i o s
 | .m s=>MnH P l E L0 n w RR i o s
end
def nF (E:List En) (sp:List Sp):Bool:=E.length == sp.length && (E.zip sp).all fun (e,p)=>Nat.ble e.cls p.cls
theorem vJ {E:List En} {sp:List Sp} (h:nF E sp=true) {i:Nat} {e:En} {p:Sp} (he:E[i]? =some e) (hp:sp[i]? =some p):e.cls≤p.cls:=by
 unfold nF at h
 simp only [Bool.and_eq_true] at h
 have:=List.all_eq_true.1 h.2 (e,p) (by
  rw [List.mem_iff_getElem?]
  exact ⟨i,by rw [List.getElem?_zip_eq_some];exact ⟨he,hp⟩⟩)
 exact Nat.le_of_ble_eq_true this
theorem aAK {α:Type} {p q:α→Bool}:∀{l:List α},(∀x∈l,p x=q x)→l.takeWhile p=l.takeWhile q
 | [],_=>rfl
 |x::l,h=>by
  simp only [List.takeWhile]
  rw [h x (List.mem_cons_self ..),aAK (l:=l) fun y hy=>h y (List.mem_cons_of_mem _ hy)]
section
variable {P:Program} {Q:Exit→Act→World→Prop} {n:Nat} {w W:World} {l:List Oper} {L0:List (Nat×Value)} {a:Act}
theorem aEW {id:Nat} (E:List En) (RR:Nat→(Nat→Un)→List Res) (ms:List Nat) (sp:List Sp) (hsp:jE l ms sp=true) (hen:nF E sp=true) (hRR:∀s h h',(∀j,j<s→h j=h' j)→RR s h=RR s h') (hs:Slots a n L0) (hw:Has 0 w W (RR 0 fun _=>{})) (hm:P.follows .mixedOrders=true) (hf:gT l=true) (hn:l.all (fun o=>match o.dst with|some d=>Nat.blt d n|none=>true)=true)
  (ho:∀i o p,l[i]? =some o→sp[i]? =some p→ObH P l E L0 n w RR i o p) (k:∀h a W,Slots a n (fD l (E.map (En.ath h)) ++ L0)→Has 0 w W (RR ms.length h)→Q .normal a W):(Code.region id l.toArray true).wp P Q a W:=by
 let hh:(Nat→Un)→Nat→Un:=fun u s=>match ms[s]? with|some m=>u m|none=>{}
 have hlen:=nE hsp
 have hEl:E.length=l.length:=by
  unfold nF at hen
  simp only [Bool.and_eq_true,beq_iff_eq] at hen
  omega
 have mE:∀(u:Nat→Un) (i s:Nat) (x:Un),ms[s]? =some i→hh (d7 u i x)=d7 (hh u) s x:=by
  intro u i s x hi
  funext j
  simp only [hh,d7]
  by_cases e:j=s
  ·subst e
   rw [hi,if_pos rfl];simp
  ·rw [if_neg e]
   cases hj:ms[j]? with
   |none=>rfl
   |some m=>
    have:m≠i:=by
     rintro rfl
     have h1:=(nD hsp hj).2
     have h2:=(nD hsp hi).2
     rw [h1] at h2
     simp at h2
     exact e h2
    simp [this]
 have same:∀(u:Nat→Un) (i:Nat) (x:Un) (lo hi:Nat),sp[i]? =some (.f lo hi)→hh (d7 u i x)=hh u:=by
  intro u i x lo hi hi'
  funext j
  simp only [hh,d7]
  cases hj:ms[j]? with
  |none=>rfl
  |some m=>
   have:m≠i:=by
    rintro rfl
    have h1:=(nD hsp hj).2
    rw [h1] at hi'
    cases hi'
   simp [this]
 refine zR (σ:=Un) (G:=0) (w:=w) (V:=fun u=>E.map (En.ath (hh u))) (Rs:=fun u D=>RR (stg ms D) (hh u)) id (fun _=>{}) hm hf (fun u=>by rw [List.length_map,hEl]) ?_ hs hn ?_ ?_ ?_
 ·
  intro u D i x j hcl hDi hDj
  simp only [List.getElem?_map]
  cases hEj:E[j]? with
  |none=>rfl
  |some e=>
   have hjl:j<sp.length:=by have:=(List.getElem?_eq_some_iff.1 hEj).1;omega
   have hpj:sp[j]? =some sp[j]:=List.getElem?_eq_getElem hjl
   have hc:=vJ hen hEj hpj
   simp only [Option.map_some,Option.some.injEq]
   refine En.ath_congr fun s hs=>?_
   simp only [hh]
   cases hm:ms[s]? with
   |none=>rfl
   |some m=>
    have:=vF hsp hf hcl j _ hpj hDj s m (by omega) hm
    have hne:m≠i:=by rintro rfl;rw [hDi] at this;cases this
    simp [d7,hne]
 ·have h0:stg ms (fun _=>false)=0:=by
   unfold stg
   cases ms with
   |nil=>rfl
   |cons x xs=>simp [List.takeWhile]
  show Has 0 w W (RR (stg ms fun _=>false) _)
  rw [h0,hRR 0 _ (fun _=>{}) (fun j hj=>by omega)]
  exact hw
 ·
  have all:∀(os:List Oper) (i:Nat),(∀j o,os[j]? =some o→l[i+j]? =some o)→AllOwed P l (fun u=>E.map (En.ath (hh u))) L0 n 0 w (fun u D=>RR (stg ms D) (hh u)) i os:=by
   intro os
   induction os with
   |nil=>intro i _;trivial
   |cons o os ih=>
    intro i hl
    refine ⟨?_,ih (i+1) fun j o' hj=>by rw [Nat.add_assoc,Nat.add_comm 1 j];exact hl (j+1) o' (by simpa using hj)⟩
    have hio:l[i]? =some o:=by have:=hl 0 o rfl;simpa using this
    have hil:=(List.getElem?_eq_some_iff.1 hio).1
    have hpi:sp[i]? =some (sp[i]'(by omega)):=List.getElem?_eq_getElem (by omega)
    generalize sp[i]'(by omega)=p at hpi
    have hob:=ho i o p hio hpi
    intro u LD D a W hcl hDi hp hs hw
    have hat:=lH hsp hio hpi
    have uD:∀k,k≤ms.length→(k=0∨∃e∈o.after.toList,Region.binds .any e=true∧∃q,sp[e.on]? =some q∧k≤q.cls)→k≤stg ms D:=by
     rintro k hk (rfl|⟨e,he,hb,q,hq,hkq⟩)
     ·exact Nat.zero_le _
     ·exact vH hk fun s m hs hm=>vF hsp hf hcl e.on q hq (hp e he hb) s m (by omega) hm
    cases p with
    |f lo hi=>
     obtain ⟨h1,h2,h3⟩:=hat
     have hs1:stg ms D≤hi:=by
      rcases aAJ hsp hcl _ i lo hi (Nat.le_refl _) hpi hDi with h4|⟨s,m,h4,h5,h6⟩
      ·rw [h4];exact vI
      ·exact Nat.le_trans (vG h5 h6) h4
     have hs0:lo≤stg ms D:=by
      rcases h1 with h1|⟨e,he,hb,q,hq,hkq⟩
      ·omega
      ·by_cases hlm:lo≤ms.length
       ·exact uD lo hlm (.inr ⟨e,he,hb,q,hq,hkq⟩)
       ·exfalso
        have cl:∀(j:Nat) (q:Sp),sp[j]? =some q→q.cls≤ms.length:=by
         intro j
         induction j using Nat.strongRecOn with
         |_ j ihj=>
          intro q hq
          have hjl:j<l.length:=by have:=(List.getElem?_eq_some_iff.1 hq).1;omega
          have h9:=lH hsp (List.getElem?_eq_getElem hjl) hq
          cases q with
          |m s=>have:=(List.getElem?_eq_some_iff.1 h9.1).1;exact this
          |f lo' hi'=>
           rcases h9.1 with h9|⟨e',he',hb',q',hq',hk'⟩
           ·simp [Sp.cls];omega
           ·have:=ihj e'.on ((l9 hf (List.getElem?_eq_getElem hjl)).2 e' he' hb') q' hq'
            simp only [Sp.cls];omega
        have:=cl e.on q hq
        omega
     have h5:=hob (stg ms D) hs0 hs1 (hh u) LD a W hs hw
     have hD':stg ms (fun j=>Nat.beq j i || D j)=stg ms D:=by
      unfold stg
      rw [aAK (q:=D) fun m hm=>?_]
      obtain ⟨s,hs⟩:=List.mem_iff_getElem?.1 hm
      have h6:=(nD hsp hs).2
      have:Nat.beq m i=false:=by
       cases hq:Nat.beq m i with
       |false=>rfl
       |true=>
        have:=Nat.eq_of_beq_eq_true hq
        subst this
        rw [hpi] at h6
        cases h6
      rw [this,Bool.false_or]
     refine mergeL (fun a' W' h=>?_) (show wpList P l.toArray (Calm _) [o] a W from h5)
     obtain ⟨h6,h7⟩:=h
     refine ⟨u i,?_,?_⟩
     ·rw [uU]
      simp only [List.getElem?_map]
      exact h6
     ·rw [uU]
      show Has 0 w W' (RR (stg ms fun j=>Nat.beq j i || D j) (hh u))
      rw [hD'];exact h7
    |m s=>
     obtain ⟨h1,h2⟩:=hat
     have hsl:=(List.getElem?_eq_some_iff.1 h1).1
     have hs0:s≤stg ms D:=uD s (by omega) h2
     have hs1:stg ms D≤s:=vG h1 hDi
     have hst:stg ms D=s:=by omega
     have hw':Has 0 w W (RR s (hh u)):=by rw [←hst];exact hw
     have h5:=hob (hh u) LD a W hs hw'
     have hD':stg ms (fun j=>Nat.beq j i || D j)=s+1:=by
      have g1:s+1≤stg ms (fun j=>Nat.beq j i || D j):=by
       refine vH (by omega) fun s' m hs' hm=>?_
       by_cases e:s'=s
       ·subst e
        rw [h1] at hm
        obtain rfl:=Option.some.inj hm
        simp
       ·simp only [aEU (by rw [hst];omega) hm,Bool.or_true]
      have g2:stg ms (fun j=>Nat.beq j i || D j)≤s+1:=by
       cases hm:ms[s+1]? with
       |none=>
        have:=vI (ms:=ms) (D:=fun j=>Nat.beq j i || D j)
        have:ms.length≤s+1:=List.getElem?_eq_none_iff.1 hm
        omega
       |some m=>
        refine vG hm ?_
        have hm2:=(nD hsp hm).2
        have hne:Nat.beq m i=false:=by
         cases hq:Nat.beq m i with
         |false=>rfl
         |true=>
          have:=Nat.eq_of_beq_eq_true hq
          subst this
          rw [hpi] at hm2
          have h8:s=s+1:=by injection hm2 with h8;injection h8
          omega
        have hDm:D m=false:=by
         cases hq:D m with
         |false=>rfl
         |true=>
          have:=vF hsp hf hcl m _ hm2 hq s i (by show s<s+1+1;omega) h1
          rw [hDi] at this;cases this
        rw [hne,hDm];rfl
      omega
     refine mergeL (fun a' W' h=>?_) (show wpList P l.toArray (Calm _) [o] a W from h5)
     obtain ⟨x,h6,h7⟩:=h
     refine ⟨x,?_,?_⟩
     ·simp only [List.getElem?_map]
      rw [mE u i s x h1]
      exact h6
     ·show Has 0 w W' (RR (stg ms fun j=>Nat.beq j i || D j) (hh (d7 u i x)))
      rw [hD',mE u i s x h1];exact h7
  exact all l 0 fun j o h=>by simpa using h
 ·intro u a W hs hw
  refine k (hh u) a W hs ?_
  have:stg ms (fun j=>Nat.blt j l.length)=ms.length:=by
   have g1:=vI (ms:=ms) (D:=fun j=>Nat.blt j l.length)
   have g2:=vH (ms:=ms) (D:=fun j=>Nat.blt j l.length) (Nat.le_refl _) fun s m _ hm=>by
    have:=(nD hsp hm).1
    simpa [Nat.blt_eq] using this
   omega
  rw [←this];exact hw
end
def atL (x y z t:Un):List En→List Value
 | []=>[]
 | .c0 v::l=>v::atL x y z t l
 | .c1 f::l=>f x::atL x y z t l
 | .c2 f::l=>f x y::atL x y z t l
 | .c3 f::l=>f x y z::atL x y z t l
 | .c4 f::l=>f x y z t::atL x y z t l
theorem gU (x y z t:Un):∀E:List En,atL x y z t E=E.map (En.at x y z t)
 | []=>rfl
 | .c0 v::l=>by rw [atL,gU x y z t l];rfl
 | .c1 f::l=>by rw [atL,gU x y z t l];rfl
 | .c2 f::l=>by rw [atL,gU x y z t l];rfl
 | .c3 f::l=>by rw [atL,gU x y z t l];rfl
 | .c4 f::l=>by rw [atL,gU x y z t l];rfl
section
variable (P:Program) (l:List Oper) (E:List En) (L0:List (Nat×Value)) (n:Nat) (w:World) (i:Nat) (o:Oper)
def aEX (R:Un→Un→Un→Un→List Res):Prop:=∀(x y z t:Un) (LD:List (Nat×Value)) (a:Act) (W:World),Slots a n (dJ l (E.map (En.at x y z t)) o.after.toList ++ (dE l i L0 ++ LD))→Has 0 w W (R x y z t)→
 wpList P l.toArray (fun ex a' W'=>match ex with| .normal=>Slots a' n (entry o ((E[i]?).map (En.at x y z t)) ++ (dJ l (E.map (En.at x y z t)) o.after.toList ++ (dE l i L0 ++ LD)))∧Has 0 w W' (R x y z t)|_=>False) [o] a W
def MnM (f:Un→Un→Un→Un→Un→Un×Un×Un×Un) (R R':Un→Un→Un→Un→List Res):Prop:=∀(x y z t:Un) (LD:List (Nat×Value)) (a:Act) (W:World),Slots a n (dJ l (E.map (En.at x y z t)) o.after.toList ++ (dE l i L0 ++ LD))→Has 0 w W (R x y z t)→
 wpList P l.toArray (fun ex a' W'=>match ex with| .normal=>∃u,Slots a' n (entry o ((E[i]?).map (En.at (f x y z t u).1 (f x y z t u).2.1 (f x y z t u).2.2.1 (f x y z t u).2.2.2)) ++ (dJ l (E.map (En.at x y z t)) o.after.toList ++ (dE l i L0 ++ LD)))∧Has 0 w W' (R' (f x y z t u).1 (f x y z t u).2.1 (f x y z t u).2.2.1 (f x y z t u).2.2.2)|_=>False) [o] a W
def Flt (R:Un→Un→Un→Un→List Res):Prop:=∀(x y z t:Un) (LD:List (Nat×Value)) (a:Act) (W:World),Slots a n (dJ l (atL x y z t E) o.after.toList ++ (dE l i L0 ++ LD))→Has 0 w W (R x y z t)→
 wpList P l.toArray (fun ex a' W'=>match ex with| .normal=>Slots a' n (entry o (atL x y z t E)[i]? ++ (dJ l (atL x y z t E) o.after.toList ++ (dE l i L0 ++ LD)))∧Has 0 w W' (R x y z t)|_=>False) [o] a W
def Mn (f:Un→Un→Un→Un→Un→Un×Un×Un×Un) (R R':Un→Un→Un→Un→List Res):Prop:=∀(x y z t:Un) (LD:List (Nat×Value)) (a:Act) (W:World),Slots a n (dJ l (atL x y z t E) o.after.toList ++ (dE l i L0 ++ LD))→Has 0 w W (R x y z t)→
 wpList P l.toArray (fun ex a' W'=>match ex with| .normal=>∃u,Slots a' n (entry o (atL (f x y z t u).1 (f x y z t u).2.1 (f x y z t u).2.2.1 (f x y z t u).2.2.2 E)[i]? ++ (dJ l (atL x y z t E) o.after.toList ++ (dE l i L0 ++ LD)))∧Has 0 w W' (R' (f x y z t u).1 (f x y z t u).2.1 (f x y z t u).2.2.1 (f x y z t u).2.2.2)|_=>False) [o] a W
theorem oX {P:Program} {l:List Oper} {E:List En} {L0:List (Nat×Value)} {n:Nat} {w:World} {i:Nat} {o:Oper} {R:Un→Un→Un→Un→List Res} (h:Flt P l E L0 n w i o R):aEX P l E L0 n w i o R:=by
 intro x y z t LD a W hs hw
 have h2:=h x y z t LD a W (by rw [gU];exact hs) hw
 simp only [gU,List.getElem?_map] at h2
 exact h2
theorem rQ {P:Program} {l:List Oper} {E:List En} {L0:List (Nat×Value)} {n:Nat} {w:World} {i:Nat} {o:Oper} {f:Un→Un→Un→Un→Un→Un×Un×Un×Un} {R R':Un→Un→Un→Un→List Res} (h:Mn P l E L0 n w i o f R R'):MnM P l E L0 n w i o f R R':=by
 intro x y z t LD a W hs hw
 have h2:=h x y z t LD a W (by rw [gU];exact hs) hw
 simp only [gU,List.getElem?_map] at h2
 exact h2
def Stg (lo hi s:Nat) (p:Prop):Prop:=match Nat.ble lo s && Nat.ble s hi with|true=>p|false=>True
variable (R0:List Res) (R1:Un→List Res) (R2:Un→Un→List Res) (R3:Un→Un→Un→List Res) (R4:Un→Un→Un→Un→List Res)
def aAL:Sp→Prop
 | .f lo hi=>Stg lo hi 0 (Flt P l E L0 n w i o fun _ _ _ _=>R0)∧Stg lo hi 1 (Flt P l E L0 n w i o fun x _ _ _=>R1 x)∧Stg lo hi 2 (Flt P l E L0 n w i o fun x y _ _=>R2 x y)∧Stg lo hi 3 (Flt P l E L0 n w i o fun x y z _=>R3 x y z)∧Stg lo hi 4 (Flt P l E L0 n w i o R4)
 | .m 0=>Mn P l E L0 n w i o (fun x y z t u=>(u,y,z,t)) (fun _ _ _ _=>R0) (fun x _ _ _=>R1 x)
 | .m 1=>Mn P l E L0 n w i o (fun x y z t u=>(x,u,z,t)) (fun x _ _ _=>R1 x) (fun x y _ _=>R2 x y)
 | .m 2=>Mn P l E L0 n w i o (fun x y z t u=>(x,y,u,t)) (fun x y _ _=>R2 x y) (fun x y z _=>R3 x y z)
 | .m _=>Mn P l E L0 n w i o (fun x y z t u=>(x,y,z,u)) (fun x y z _=>R3 x y z) R4
def vK:Nat→List Oper→List Sp→Prop
 |i,o::os,p::ps=>aAL P l E L0 n w i o R0 R1 R2 R3 R4 p∧vK (i+1) os ps
 |_,_,_=>True
def Rst (s:Nat) (h:Nat→Un):List Res:=match s with
 |0=>R0
 |1=>R1 (h 0)
 |2=>R2 (h 0) (h 1)
 |3=>R3 (h 0) (h 1) (h 2)
 |_=>R4 (h 0) (h 1) (h 2) (h 3)
variable (Q:Exit→Act→World→Prop)
def StK:List Nat→Prop
 | []=>∀a W,Slots a n (fD l (atL {} {} {} {} E) ++ L0)→Has 0 w W R0→Q .normal a W
 | [_]=>∀x a W,Slots a n (fD l (atL x {} {} {} E) ++ L0)→Has 0 w W (R1 x)→Q .normal a W
 | [_,_]=>∀x y a W,Slots a n (fD l (atL x y {} {} E) ++ L0)→Has 0 w W (R2 x y)→Q .normal a W
 | [_,_,_]=>∀x y z a W,Slots a n (fD l (atL x y z {} E) ++ L0)→Has 0 w W (R3 x y z)→Q .normal a W
 |_=>∀x y z t a W,Slots a n (fD l (atL x y z t E) ++ L0)→Has 0 w W (R4 x y z t)→Q .normal a W
end
section
variable {P:Program} {Q:Exit→Act→World→Prop} {n:Nat} {w W:World} {l:List Oper} {L0:List (Nat×Value)} {a:Act} {E:List En} {R0:List Res} {R1:Un→List Res} {R2:Un→Un→List Res} {R3:Un→Un→Un→List Res} {R4:Un→Un→Un→Un→List Res}
theorem aEY {s:Nat} {h h':Nat→Un} (hh:∀j,j<s→h j=h' j):Rst R0 R1 R2 R3 R4 s h=Rst R0 R1 R2 R3 R4 s h':=by
 match s with
 |0=>rfl
 |1=>show R1 (h 0)=R1 (h' 0);rw [hh 0 (by decide)]
 |2=>show R2 (h 0) (h 1)=R2 (h' 0) (h' 1);rw [hh 0 (by decide),hh 1 (by decide)]
 |3=>show R3 (h 0) (h 1) (h 2)=R3 (h' 0) (h' 1) (h' 2);rw [hh 0 (by decide),hh 1 (by decide),hh 2 (by decide)]
 |s+4=>show R4 (h 0) (h 1) (h 2) (h 3)=R4 (h' 0) (h' 1) (h' 2) (h' 3);rw [hh 0 (by omega),hh 1 (by omega),hh 2 (by omega),hh 3 (by omega)]
theorem aEZ {ms:List Nat} {sp:List Sp} (h:jE l ms sp=true) (hf:gT l=true):∀(j:Nat) (q:Sp),sp[j]? =some q→q.cls≤ms.length:=by
 intro j
 have hlen:=nE h
 induction j using Nat.strongRecOn with
 |_ j ihj=>
  intro q hq
  have hjl:j<l.length:=by have:=(List.getElem?_eq_some_iff.1 hq).1;omega
  have h9:=lH h (List.getElem?_eq_getElem hjl) hq
  cases q with
  |m s=>have:=(List.getElem?_eq_some_iff.1 h9.1).1;exact this
  |f lo' hi'=>
   rcases h9.1 with h9|⟨e',he',hb',q',hq',hk'⟩
   ·simp [Sp.cls];omega
   ·have:=ihj e'.on ((l9 hf (List.getElem?_eq_getElem hjl)).2 e' he' hb') q' hq'
    simp only [Sp.cls];omega
theorem oY {lo hi s:Nat} {p:Prop} (h:Stg lo hi s p) (h1:lo≤s) (h2:s≤hi):p:=by
 unfold Stg at h
 rw [Nat.ble_eq_true_of_le h1,Nat.ble_eq_true_of_le h2] at h
 exact h
theorem bF {id:Nat} (ms:List Nat) (sp:List Sp) (E:List En) (R0:List Res) (R1:Un→List Res) (R2:Un→Un→List Res) (R3:Un→Un→Un→List Res) (R4:Un→Un→Un→Un→List Res) (hs:Slots a n L0) (hw:Has 0 w W R0) (k:StK l E L0 n w R0 R1 R2 R3 R4 Q ms)
  (ho:vK P l E L0 n w R0 R1 R2 R3 R4 0 l sp) (hsp:jE l ms sp=true:=by kernel_rfl) (hen:nF E sp=true:=by with_unfolding_all exact rfl) (hm:P.follows .mixedOrders=true:=by kernel_rfl) (hf:gT l=true:=by kernel_rfl) (hn:l.all (fun o=>match o.dst with|some d=>Nat.blt d n|none=>true)=true:=by kernel_rfl):(Code.region id l.toArray true).wp P Q a W:=by
 have hlen:=nE hsp
 have at_:∀(os:List Oper) (ps:List Sp) (i:Nat),vK P l E L0 n w R0 R1 R2 R3 R4 i os ps→∀(j:Nat) (o:Oper) (p:Sp),os[j]? =some o→ps[j]? =some p→aAL P l E L0 n w (i+j) o R0 R1 R2 R3 R4 p:=by
  intro os
  induction os with
  |nil=>intro ps i _ j o p h;simp at h
  |cons o os ih=>
   intro ps i h j o' p' ho' hp'
   cases ps with
   |nil=>simp at hp'
   |cons p ps=>
    obtain ⟨h1,h2⟩:=h
    cases j with
    |zero=>
     simp at ho' hp'
     subst ho' hp'
     exact h1
    |succ j=>
     have:=ih ps (i+1) h2 j o' p' (by simpa using ho') (by simpa using hp')
     rwa [Nat.add_assoc,Nat.add_comm 1 j] at this
 refine aEW E (fun s h=>Rst R0 R1 R2 R3 R4 s h) ms sp hsp hen (fun s h h' hh=>aEY hh) hs hw hm hf hn (fun i o p hio hp=>?_) (fun h a W hs hw=>?_)
 ·have h0:=at_ l sp 0 ho i o p hio hp
  rw [Nat.zero_add] at h0
  cases p with
  |f lo hi=>
   obtain ⟨h1,h2,h3,h4,h5⟩:=h0
   intro s hs1 hs2
   match s with
   |0=>exact fun h LD a W hs hw=>oX (oY h1 hs1 hs2) (h 0) (h 1) (h 2) (h 3) LD a W hs hw
   |1=>exact fun h LD a W hs hw=>oX (oY h2 hs1 hs2) (h 0) (h 1) (h 2) (h 3) LD a W hs hw
   |2=>exact fun h LD a W hs hw=>oX (oY h3 hs1 hs2) (h 0) (h 1) (h 2) (h 3) LD a W hs hw
   |3=>exact fun h LD a W hs hw=>oX (oY h4 hs1 hs2) (h 0) (h 1) (h 2) (h 3) LD a W hs hw
   |4=>exact fun h LD a W hs hw=>oX (oY h5 hs1 hs2) (h 0) (h 1) (h 2) (h 3) LD a W hs hw
   |s+5=>
    exfalso
    have:=lH hsp hio hp
    have h9:=this.2.1
    omega
  |m s=>
   have h9:=(lH hsp hio hp).1
   have hsl:=(List.getElem?_eq_some_iff.1 h9).1
   have hc:∀e,E[i]? =some e→e.cls≤s+1:=fun e he=>vJ hen he hp
   have up:∀(h h':Nat→Un),(∀j,j<s+1→h j=h' j)→(E[i]?).map (En.ath h)=(E[i]?).map (En.ath h'):=by
    intro h h' hh
    cases he:E[i]? with
    |none=>rfl
    |some e=>
     simp only [Option.map_some,Option.some.injEq]
     exact En.ath_congr fun j hj=>hh j (by have:=hc e he;omega)
   match s,hsl,up,h0 with
   |0,_,up,h0=>exact fun h LD a W hs hw=>rQ (f:=fun x y z t u=>(u,y,z,t)) (R:=fun _ _ _ _=>R0) (R':=fun x _ _ _=>R1 x) h0 (h 0) (h 1) (h 2) (h 3) LD a W hs hw
   |1,_,up,h0=>exact fun h LD a W hs hw=>rQ (f:=fun x y z t u=>(x,u,z,t)) (R:=fun x _ _ _=>R1 x) (R':=fun x y _ _=>R2 x y) h0 (h 0) (h 1) (h 2) (h 3) LD a W hs hw
   |2,_,up,h0=>exact fun h LD a W hs hw=>rQ (f:=fun x y z t u=>(x,y,u,t)) (R:=fun x y _ _=>R2 x y) (R':=fun x y z _=>R3 x y z) h0 (h 0) (h 1) (h 2) (h 3) LD a W hs hw
   |3,_,up,h0=>exact fun h LD a W hs hw=>rQ (f:=fun x y z t u=>(x,y,z,u)) (R:=fun x y z _=>R3 x y z) (R':=R4) h0 (h 0) (h 1) (h 2) (h 3) LD a W hs hw
   |s+4,hsl,_,_=>exact absurd hlen.2 (by omega)
 ·have fin:∀(h h':Nat→Un),(∀j,j<ms.length→h j=h' j)→E.map (En.ath h)=E.map (En.ath h'):=by
   intro h h' hh
   apply List.ext_getElem?
   intro i
   rw [List.getElem?_map,List.getElem?_map]
   cases he:E[i]? with
   |none=>rfl
   |some e=>
    simp only [Option.map_some,Option.some.injEq]
    have hil:i<sp.length:=by
     have h1:=(List.getElem?_eq_some_iff.1 he).1
     unfold nF at hen
     simp only [Bool.and_eq_true,beq_iff_eq] at hen
     omega
    have hpi:sp[i]? =some sp[i]:=List.getElem?_eq_getElem hil
    have h2:=vJ hen he hpi
    have h3:=aEZ hsp hf i _ hpi
    exact En.ath_congr fun j hj=>hh j (by omega)
  match ms,hlen,fin,k,hw with
  | [],_,fin,k,hw=>exact k a W (by rw [gU];rw [fin h (fun _=>{}) (fun j hj=>by simp at hj)] at hs;exact hs) hw
  | [_],_,fin,k,hw=>exact k (h 0) a W (by rw [gU];rw [fin h (fun|0=>h 0|_=>{}) (fun j hj=>by match j,hj with|0,_=>rfl)] at hs;exact hs) hw
  | [_,_],_,fin,k,hw=>exact k (h 0) (h 1) a W (by rw [gU];rw [fin h (fun|0=>h 0|1=>h 1|_=>{}) (fun j hj=>by match j,hj with|0,_=>rfl|1,_=>rfl)] at hs;exact hs) hw
  | [_,_,_],_,fin,k,hw=>exact k (h 0) (h 1) (h 2) a W (by rw [gU];rw [fin h (fun|0=>h 0|1=>h 1|2=>h 2|_=>{}) (fun j hj=>by match j,hj with|0,_=>rfl|1,_=>rfl|2,_=>rfl)] at hs;exact hs) hw
  | [_,_,_,_],_,fin,k,hw=>exact k (h 0) (h 1) (h 2) (h 3) a W (by rw [gU];exact hs) hw
  |_::_::_::_::_::_,hlen,_,_,_=>simp at hlen
end
section
variable {P:Program} {ops:Array Oper} {aD:List Oper} {Q:Exit→Act→World→Prop} {a:Act} {n:Nat} {L:List (Nat×Value)} {W:World} {d:Nat} {T:TypeId} {p:String} {e:Array Edge} {x y:Operand} {i j:Int} {q q':IntKind}
theorem kG {ts:Array TypeId} (hs:Slots a n L) (k:∀a',Slots a' n ((d,.int q (min i j))::L)→wpList P ops Q aD a' W) (hx:ev L x=some (.int q i):=by with_unfolding_all exact rfl) (hy:ev L y=some (.int q' j):=by with_unfolding_all exact rfl) (hd:Nat.blt d n=true:=by with_unfolding_all exact rfl):wpList P ops Q (⟨some d,.call {callee:= .builtin .min,args:=#[x,y],argTypes:=ts},T,p,e,none⟩::aD) a W:=
 rM hs hx hy hd fun a' h=>k a' (by rw [show (if j<i then j else i)=min i j by rw [Int.min_def];split <;> split <;> omega] at h;exact h)
theorem kH {ts:Array TypeId} (hs:Slots a n L) (k:∀a',Slots a' n ((d,.int q (max i j))::L)→wpList P ops Q aD a' W) (hx:ev L x=some (.int q i):=by with_unfolding_all exact rfl) (hy:ev L y=some (.int q' j):=by with_unfolding_all exact rfl) (hd:Nat.blt d n=true:=by with_unfolding_all exact rfl):wpList P ops Q (⟨some d,.call {callee:= .builtin .max,args:=#[x,y],argTypes:=ts},T,p,e,none⟩::aD) a W:=
 bO hs hd (v:= .int q (max i j)) (W':=W) (by
  have h:(if i<j then j else i)=max i j:=by rw [Int.max_def];split <;> split <;> omega
  rw [←h]
  simp only [execOp,resolve,invoke,builtin,List.map_toArray,List.map_cons,List.map_nil,hs.ev hx,hs.ev hy,Sem.run_bind,Sem.run_pure,Result.andThen_ok,run_max_int2]) k
end
theorem drs {A B C D E : Prop} (h : A ∧ B ∧ C ∧ D ∧ E := by
    refine ⟨?_, ?_, ?_, ?_, ?_⟩ <;> first
      | exact trivial
      | (intro x y z t LD a W hs hw
         repeat (first | (refine sxv hs hw ?_; intro a hs) | refine sxc hs ?_ | (refine sxs hs hw ?_; intro W hs hw) | (refine kF hs hw ?_; intro a W hs hw) | ((with_reducible first | refine eQ hs (k := ?_) | refine eR hs (k := ?_) | refine jC hs (k := ?_) | refine jD hs (k := ?_)); intro a hs) | (refine kG hs ?_; intro a hs) | (refine kH hs ?_; intro a hs) | (refine eG hs (h0 := hk0) (h1 := hk1) (c := ?_); intro a hs) | (refine eG hs (h0 := hk2) (h1 := hk3) (c := ?_); intro a hs) | (refine lG hs (h0 := hj0) (h1 := hj1) (c := ?_); intro a hs) | (refine fY hs (hw := hw) (hi := In.hd) (hv := hl1) (k := ?_); intro a hs) | (refine fY hs (hw := hw) (hi := In.hd) (hv := hl2) (k := ?_); intro a hs) | (refine d6 hs (hw := hw) (hl := hl3) (k := ?_); intro W hs hw) | (refine d6 hs (hw := hw) (hl := hl4) (k := ?_); intro W hs hw))
         exact ⟨hs, hw⟩)) : A ∧ B ∧ C ∧ D ∧ E := h
theorem drm {A:Prop} (h:A:=by
  intro x y z t LD a W hs hw
  repeat (first|(refine sxv hs hw ?_;intro a hs)|refine sxc hs ?_|(refine sxs hs hw ?_;intro W hs hw)|(refine kF hs hw ?_;intro a W hs hw)|((with_reducible first|refine eQ hs (k:=?_)|refine eR hs (k:=?_)|refine jC hs (k:=?_)|refine jD hs (k:=?_));intro a hs)|(refine kG hs ?_;intro a hs)|(refine kH hs ?_;intro a hs)|(refine eG hs (h0:=hk0) (h1:=hk1) (c:=?_);intro a hs)|(refine eG hs (h0:=hk2) (h1:=hk3) (c:=?_);intro a hs)|(refine lG hs (h0:=hj0) (h1:=hj1) (c:=?_);intro a hs)|(refine fY hs (hw:=hw) (hi:=In.hd) (hv:=hl1) (k:=?_);intro a hs)|(refine fY hs (hw:=hw) (hi:=In.hd) (hv:=hl2) (k:=?_);intro a hs)|(refine d6 hs (hw:=hw) (hl:=hl3) (k:=?_);intro W hs hw)|(refine d6 hs (hw:=hw) (hl:=hl4) (k:=?_);intro W hs hw))
  exact ⟨{},hs,hw⟩):A:=h
theorem drn {A:Prop} (h:A:=by
  intro x y z t LD a W hs hw
  refine sn hs hw fun b a W hs hw=>?_
  exact ⟨{n:=b},hs,hw⟩):A:=h
theorem sw {P:Program} {A:Prop} {a:Act} {n:Nat} {L L':List (Nat×Value)} {w W:World} {R R':List Res} {C:Act→World→Prop} (hs:Slots a n L) (hw:Has 0 w W R) (k:∀a' W',Slots a' n L'→Has 0 w W' R'→C a' W') (h:(∀a' W',Slots a' n L'→Has 0 w W' R'→C a' W')→A:=by
  intro k
  (first|(refine sxv hs hw ?_;intro a hs)|refine sxc hs ?_|(refine sxs hs hw ?_;intro W hs hw)|(refine kF hs hw ?_;intro a W hs hw)|((with_reducible first|refine eQ hs (k:=?_)|refine eR hs (k:=?_)|refine jC hs (k:=?_)|refine jD hs (k:=?_));intro a hs)|(refine kG hs ?_;intro a hs)|(refine kH hs ?_;intro a hs)|(refine eG hs (h0:=hk0) (h1:=hk1) (c:=?_);intro a hs)|(refine eG hs (h0:=hk2) (h1:=hk3) (c:=?_);intro a hs)|(refine lG hs (h0:=hj0) (h1:=hj1) (c:=?_);intro a hs)|(refine fY hs (hw:=hw) (hi:=In.hd) (hv:=hl1) (k:=?_);intro a hs)|(refine fY hs (hw:=hw) (hi:=In.hd) (hv:=hl2) (k:=?_);intro a hs)|(refine d6 hs (hw:=hw) (hl:=hl3) (k:=?_);intro W hs hw)|(refine d6 hs (hw:=hw) (hl:=hl4) (k:=?_);intro W hs hw))
  repeat (first|(refine sxv hs hw ?_;intro a hs)|refine sxc hs ?_|(refine sxs hs hw ?_;intro W hs hw)|(refine kF hs hw ?_;intro a W hs hw)|((with_reducible first|refine eQ hs (k:=?_)|refine eR hs (k:=?_)|refine jC hs (k:=?_)|refine jD hs (k:=?_));intro a hs)|(refine kG hs ?_;intro a hs)|(refine kH hs ?_;intro a hs)|(refine eG hs (h0:=hk0) (h1:=hk1) (c:=?_);intro a hs)|(refine eG hs (h0:=hk2) (h1:=hk3) (c:=?_);intro a hs)|(refine lG hs (h0:=hj0) (h1:=hj1) (c:=?_);intro a hs)|(refine fY hs (hw:=hw) (hi:=In.hd) (hv:=hl1) (k:=?_);intro a hs)|(refine fY hs (hw:=hw) (hi:=In.hd) (hv:=hl2) (k:=?_);intro a hs)|(refine d6 hs (hw:=hw) (hl:=hl3) (k:=?_);intro W hs hw)|(refine d6 hs (hw:=hw) (hl:=hl4) (k:=?_);intro W hs hw))
  exact k _ _ hs hw):A:=h k
theorem drq {A:Prop} (h:A:=by
  intro LD D a W hcl hi hp hs hw
  repeat (first|(refine sxv hs hw ?_;intro a hs)|refine sxc hs ?_|(refine sxs hs hw ?_;intro W hs hw)|(refine kF hs hw ?_;intro a W hs hw)|((with_reducible first|refine eQ hs (k:=?_)|refine eR hs (k:=?_)|refine jC hs (k:=?_)|refine jD hs (k:=?_));intro a hs)|(refine kG hs ?_;intro a hs)|(refine kH hs ?_;intro a hs)|(refine eG hs (h0:=hk0) (h1:=hk1) (c:=?_);intro a hs)|(refine eG hs (h0:=hk2) (h1:=hk3) (c:=?_);intro a hs)|(refine lG hs (h0:=hj0) (h1:=hj1) (c:=?_);intro a hs)|(refine fY hs (hw:=hw) (hi:=In.hd) (hv:=hl1) (k:=?_);intro a hs)|(refine fY hs (hw:=hw) (hi:=In.hd) (hv:=hl2) (k:=?_);intro a hs)|(refine d6 hs (hw:=hw) (hl:=hl3) (k:=?_);intro W hs hw)|(refine d6 hs (hw:=hw) (hl:=hl4) (k:=?_);intro W hs hw))
  (try rw [he] at hs)
  (try rw [he2] at hs)
  exact ⟨hs,hw⟩):A:=h
theorem rgq {P:Program} {Q:Exit→Act→World→Prop} {a:Act} {n:Nat} {L0:List (Nat×Value)} {w W:World} {l:List Oper} {id:Nat} {R:List Res} (V:List Value) (hs:Slots a n L0) (hw:Has 0 w W R) (k:∀a W,Slots a n (fD l V ++ L0)→Has 0 w W R→Q .normal a W) (ho:oO P l V L0 n 0 w (fun _=>R) 0 l:=by repeat (first|exact trivial|refine ⟨drq,?_⟩)) (hm:P.follows .mixedOrders=true:=by kernel_rfl) (hf:gT l=true:=by kernel_rfl) (hV:V.length=l.length:=by rfl) (hn:l.all (fun o=>match o.dst with|some d=>Nat.blt d n|none=>true)=true:=by kernel_rfl):(Code.region id l.toArray true).wp P Q a W:=
 gK V (fun _=>R) hs hw hm hf hV hn ho k
inductive FV where
 |i (n:Int)
 |s (b:ByteArray)
def FV.val:FV→Value
 | .i n=> .int .i64 n
 | .s b=> .string b
def FV.eqv:FV→FV→Bool
 | .i a,.i b=>a == b
 | .s a,.s b=>a.toList == b.toList
 |_,_=>false
def FV.ok (P:Program) (T:TypeId):FV→FV→Prop
 | .i _,.i _=>(∃z,Ty P T false z)∧IntTy P T .i64
 | .s _,.s _=>(∃z,Ty P T false z)∧StrTy P T
 |_,_=>False
theorem rR {P:Program} {T:TypeId} {z:List Value} [u:Ty P T false z] [t:IntTy P T .i64] (a b:Int):FV.ok P T (.i a) (.i b):=⟨⟨z,u⟩,t⟩
theorem aAM {P:Program} {T:TypeId} {z:List Value} [u:Ty P T false z] [t:StrTy P T] (a b:ByteArray):FV.ok P T (.s a) (.s b):=⟨⟨z,u⟩,t⟩
theorem aE0 {P:Program} {d:Nat} {xs ys:List Value} {f:Field} {fs:List Field} {W:World} {x y:Value} {b:Bool} {z:List Value} (u:Ty P f.type false z) (hn:(f.name != "_")=true) (hx:xs[f.offset]? =some x) (hy:ys[f.offset]? =some y) (he:(Op.equalIn d f.type x y).run P W= .ok b W):
  (Op.eqFields d ⟨xs⟩ ⟨ys⟩ (f::fs)).run P W=if b then (Op.eqFields d ⟨xs⟩ ⟨ys⟩ fs).run P W else .ok false W:=by
 have hn':f.name≠ "_" :=by simpa using hn
 simp only [Op.eqFields,if_pos hn',Sem.run_bind,part,u.isAgg,Result.andThen_ok,Bool.false_eq_true,if_false]
 simp only [List.getElem?_toArray,hx,hy,Sem.run_pure,Result.andThen_ok,he]
 cases b <;> simp
theorem aAN {P:Program} {d:Nat} {W:World} {xs ys:List Value}:∀(vs:List (TypeId×FV×FV)) (fs:List Field) (k:Nat),fs.map (fun f=>(f.name != "_",f.offset,f.type))=(vs.zipIdx k).map (fun v=>(true,v.2,v.1.1))→(∀v∈vs,FV.ok P v.1 v.2.1 v.2.2)→(∀j v,vs[j]? =some v→xs[k+j]? =some v.2.1.val∧ys[k+j]? =some v.2.2.val)→
  (Op.eqFields (d+1) ⟨xs⟩ ⟨ys⟩ fs).run P W= .ok (vs.all fun v=>v.2.1.eqv v.2.2) W
 | [],fs,k,h,_,_=>by
  cases fs with
  |cons f fs=>simp at h
  |nil=>
  simp only [Op.eqFields,Sem.run_pure];rfl
 |(T,x,y)::vs,fs,k,h,hok,hv=>by
  rw [List.zipIdx_cons,List.map_cons] at h
  obtain ⟨f,r,e,m,hr⟩:=List.map_eq_cons_iff.1 h
  subst e
  simp only [Prod.mk.injEq] at m
  obtain ⟨h1,h2,h3⟩:=m
  have h0:=hv 0 _ rfl
  have ok:=hok _ (List.mem_cons_self ..)
  have ih:=aAN (d:=d) (W:=W) (xs:=xs) (ys:=ys) vs r (k+1) hr (fun v hv'=>hok v (List.mem_cons_of_mem _ hv')) (fun j v hj=>by
   have:=hv (j+1) v (by simpa using hj)
   rwa [show k+(j+1)=k+1+j by omega] at this)
  obtain ⟨z,u⟩:∃z,Ty P T false z:=by cases x <;> cases y <;> first|exact ok.1|exact ok.elim
  have he:(Op.equalIn (d+1) f.type x.val y.val).run P W= .ok (x.eqv y) W:=by
   rw [h3]
   cases x <;> cases y <;> first
    |exact ok.elim
    |exact run_equalIn_int W d T .i64 .i64 _ _ (ok.2.out)
    |exact run_equalIn_string W d T _ _ (ok.2.out)
  rw [aE0 (x:=x.val) (y:=y.val) (b:=x.eqv y) (z:=z) (by rw [h3];exact u) h1 (by rw [h2];exact h0.1) (by rw [h2];exact h0.2) he,ih]
  simp only [List.all_cons]
  cases x.eqv y <;> rfl
section
variable {P:Program} {ops:Array Oper} {aD:List Oper} {Q:Exit→Act→World→Prop} {a:Act} {n:Nat} {L:List (Nat×Value)} {W:World} {d:Nat} {T S S':TypeId} {p:String} {e:Array Edge} {x y:Operand} {xs ys:List Value}
theorem aAO (vs:List (TypeId×FV×FV)) (ht:P.underlying S=some (.struct (P.fieldsOf S))) (hp:P.stoodInHeld S=false) (hF:(P.fieldsOf S).toList.map (fun f=>(f.name != "_",f.offset,f.type))=(vs.zipIdx 0).map (fun v=>(true,v.2,v.1.1))) (ho:∀v∈vs,FV.ok P v.1 v.2.1 v.2.2) (hx:vs.map (fun v=>v.2.1.val)=xs) (hy:vs.map (fun v=>v.2.2.val)=ys):
  (Op.equalIn 10000 S (.agg ⟨xs⟩) (.agg ⟨ys⟩)).run P W= .ok (vs.all fun v=>v.2.1.eqv v.2.2) W:=by
 rw [show (10000:Nat)=9999+1 from rfl,run_equalIn_agg W 9999 S _ _ ht hp]
 refine aAN vs _ 0 hF ho fun j v hj=>?_
 rw [Nat.zero_add,←hx,←hy,List.getElem?_map,List.getElem?_map,hj]
 exact ⟨rfl,rfl⟩
theorem vL (vs:List (TypeId×FV×FV)) (b:Bool) (hb:(vs.all fun v=>v.2.1.eqv v.2.2)=b) (hs:Slots a n L) (ho:∀v∈vs,FV.ok P v.1 v.2.1 v.2.2) (k:∀a',Slots a' n ((d,.bool b)::L)→wpList P ops Q aD a' W) (hx:ev L x=some (.agg ⟨xs⟩):=by with_unfolding_all exact rfl) (hy:ev L y=some (.agg ⟨ys⟩):=by with_unfolding_all exact rfl) (hxs:vs.map (fun v=>v.2.1.val)=xs:=by with_unfolding_all exact rfl) (hys:vs.map (fun v=>v.2.2.val)=ys:=by with_unfolding_all exact rfl) (ht:P.underlying S=some (.struct (P.fieldsOf S)):=by kernel_rfl) (hp:P.stoodInHeld S=false:=by kernel_rfl) (hg:P.eqGuardType P.depth S=false:=by kernel_rfl) (hF:(P.fieldsOf S).toList.map (fun f=>(f.name != "_",f.offset,f.type))=(vs.zipIdx 0).map (fun v=>(true,v.2,v.1.1)):=by with_unfolding_all exact rfl) (hd:Nat.blt d n=true:=by with_unfolding_all exact rfl):
  wpList P ops Q (⟨some d,.binOp .eql S x y S',T,p,e,none⟩::aD) a W:=by
 subst hb
 refine bO hs hd (W':=W) ?_ k
 simp only [execOp,hs.ev hx,hs.ev hy,Sem.run_bind]
 rw [run_eqGuard_agg W .eql S x y _ _ hg]
 simp only [Result.andThen_ok]
 rw [run_eql_struct,aAO (P:=P) (W:=W) vs ht hp hF ho hxs hys]
 rfl
theorem aE1 (vs:List (TypeId×FV×FV)) (b:Bool) (hb:(vs.all fun v=>v.2.1.eqv v.2.2)=b) (hs:Slots a n L) (ho:∀v∈vs,FV.ok P v.1 v.2.1 v.2.2) (k:∀a',Slots a' n ((d,.bool (!b))::L)→wpList P ops Q aD a' W) (hx:ev L x=some (.agg ⟨xs⟩):=by with_unfolding_all exact rfl) (hy:ev L y=some (.agg ⟨ys⟩):=by with_unfolding_all exact rfl) (hxs:vs.map (fun v=>v.2.1.val)=xs:=by with_unfolding_all exact rfl) (hys:vs.map (fun v=>v.2.2.val)=ys:=by with_unfolding_all exact rfl) (ht:P.underlying S=some (.struct (P.fieldsOf S)):=by kernel_rfl) (hp:P.stoodInHeld S=false:=by kernel_rfl) (hg:P.eqGuardType P.depth S=false:=by kernel_rfl) (hF:(P.fieldsOf S).toList.map (fun f=>(f.name != "_",f.offset,f.type))=(vs.zipIdx 0).map (fun v=>(true,v.2,v.1.1)):=by with_unfolding_all exact rfl) (hd:Nat.blt d n=true:=by with_unfolding_all exact rfl):
  wpList P ops Q (⟨some d,.binOp .neq S x y S',T,p,e,none⟩::aD) a W:=by
 subst hb
 refine bO hs hd (W':=W) ?_ k
 simp only [execOp,hs.ev hx,hs.ev hy,Sem.run_bind]
 rw [run_eqGuard_agg W .neq S x y _ _ hg]
 simp only [Result.andThen_ok]
 rw [run_neq_struct,aAO (P:=P) (W:=W) vs ht hp hF ho hxs hys]
 rfl
end
end Go.Sx
namespace Go.Proofs.YtgpbngfehfbndaaGreatDoor
open Go.RowKit
theorem aE2 {w w1 w2:World} (h:Below w.heap.size w w1) (k:Below w1.heap.size w1 w2):Below w.heap.size w w2:=h.trans (k.mono h.size)
end Go.Proofs.YtgpbngfehfbndaaGreatDoor
