import Derived.Shelf.SlIter.Collect
import Derived.Ground.GgzProg
import Derived.Test.YtgpbngfehfbndaaGreatDoorProg
set_option maxHeartbeats 16000000
namespace Ph
def putN:Nat→Nat→List UInt8
 |0,_=>[]
 |f+1,u=>if u<128 then [u.toUInt8] else (u % 128+128).toUInt8::putN f (u / 128)
def vA (u:Nat):List UInt8:=putN 10 u
def zig (n:Int):Nat:=if 0≤n then (2*n).toNat else (-2*n - 1).toNat
def unzig (u:Nat):Int:=if u % 2=1 then -((u / 2:Nat):Int) - 1 else ((u / 2:Nat):Int)
def putI (n:Int):List UInt8:=vA (zig n)
def getN:Nat→Nat→List UInt8→Int×Nat×Int
 |_,_,[]=>(0,0,2)
 |i,u,c::t=>
  if i=9∧1<c.toNat then (0,0,1)
  else if 128≤c.toNat then getN (i+1) (u+c.toNat % 128*128 ^ i) t
  else if 0<i∧c.toNat=0 then (0,0,1)
  else (unzig (u+c.toNat % 128*128 ^ i),i+1,0)
def getI (l:List UInt8):Int×Nat×Int:=getN 0 0 l
def putT (s:List UInt8):List UInt8:=putI s.length ++ s
def getT (l:List UInt8):List UInt8×Nat×Int:=
 let g:=getI l
 if g.2.2≠0 then ([],0,g.2.2)
 else if g.1<0∨1048576<g.1 then ([],0,1)
 else if (l.length - g.2.1:Nat)<g.1.toNat then ([],0,2)
 else ((l.drop g.2.1).take g.1.toNat,g.2.1+g.1.toNat,0)
theorem aDl {n:Int} (h0: -9223372036854775808≤n) (h1:n≤9223372036854775807):zig n<18446744073709551616:=by
 unfold zig;split <;> omega
theorem aDm (n:Int):unzig (zig n)=n:=by
 unfold unzig zig;split <;> split <;> omega
theorem zW:∀f u,(putN f u).length≤f
 |0,_=>by simp [putN]
 |f+1,u=>by
  simp only [putN];split
  ·simp
  ·have:=zW f (u / 128);simp;omega
theorem putI_length_le (n:Int):(putI n).length≤10:=zW 10 _
theorem putI_ne_nil (n:Int):putI n≠[]:=by
 unfold putI vA;simp only [putN];split <;> simp
end Ph
namespace Go.Proofs
open Go.Shelf
def Tryz.keysD_ren:Go.Shelf.Ren:=⟨fun|7=>147|10=>223|n=>n,fun|23=>143|26=>9|3=>142|28=>226|0=>0|27=>225|33=>169|4=>4|n=>n,fun|n=>n⟩
theorem Tryz.keysD:Go.Proofs.SlLaysZ.n7 Tryz.prog Tryz.keysD_ren:={
 mixed:=by kernel_rfl
 f7:=⟨Tryz.f147.name,by decide,Tryz.func147.trans (congrArg some (by kernel_rfl))⟩
 f10:=⟨Tryz.f223.name,by decide,Tryz.func223.trans (congrArg some (by kernel_rfl))⟩
 t0:=Tryz.underlying0
 a0:=Tryz.isAgg0
 z0:=Tryz.sizeOf0
 v0:=Tryz.zeroValue0
 t4:=Tryz.underlying4
 a4:=Tryz.isAgg4
 z4:=Tryz.sizeOf4
 v4:=Tryz.zeroValue4
 t23:=Tryz.underlying143
 a23:=Tryz.isAgg143
 z23:=Tryz.sizeOf143
 v23:=Tryz.zeroValue143
 t26:=Tryz.underlying9
 a26:=Tryz.isAgg9
 z26:=Tryz.sizeOf9
 v26:=Tryz.zeroValue9
 t27:=Tryz.underlying225
 a27:=Tryz.isAgg225
 z27:=Tryz.sizeOf225
 v27:=Tryz.zeroValue225
 t28:=Tryz.underlying226
 a28:=Tryz.isAgg226
 z28:=Tryz.sizeOf226
 v28:=Tryz.zeroValue226
 t33:=Tryz.underlying169
 a33:=Tryz.isAgg169
 z33:=Tryz.sizeOf169
 v33:=Tryz.zeroValue169}
def Tryz.collD_ren:Go.Shelf.Ren:=⟨fun|8=>221|11=>266|n=>n,fun|26=>9|28=>226|24=>140|0=>0|33=>169|4=>4|n=>n,fun|n=>n⟩
theorem Tryz.collD:Go.Proofs.SlLaysZ.n8 Tryz.prog Tryz.collD_ren:={
 mixed:=by kernel_rfl
 f8:=⟨Tryz.f221.name,by decide,Tryz.func221.trans (congrArg some (by kernel_rfl))⟩
 f11:=⟨Tryz.f266.name,by decide,Tryz.func266.trans (congrArg some (by kernel_rfl))⟩
 t0:=Tryz.underlying0
 a0:=Tryz.isAgg0
 z0:=Tryz.sizeOf0
 v0:=Tryz.zeroValue0
 t24:=Tryz.underlying140
 a24:=Tryz.isAgg140
 z24:=Tryz.sizeOf140
 v24:=Tryz.zeroValue140
 t26:=Tryz.underlying9
 a26:=Tryz.isAgg9
 z26:=Tryz.sizeOf9
 v26:=Tryz.zeroValue9
 t28:=Tryz.underlying226
 a28:=Tryz.isAgg226
 z28:=Tryz.sizeOf226
 v28:=Tryz.zeroValue226
 i26:=by kernel_rfl}
end Go.Proofs
