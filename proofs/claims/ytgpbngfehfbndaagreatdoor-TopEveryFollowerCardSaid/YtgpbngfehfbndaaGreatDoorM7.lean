/-
  Texts of the proof, one behind the other (part 7).
-/
import Derived.Test.YtgpbngfehfbndaaGreatDoorM1
import Derived.Test.YtgpbngfehfbndaaGreatDoorM2
import Derived.Test.YtgpbngfehfbndaaGreatDoorM3
import Derived.Test.YtgpbngfehfbndaaGreatDoorM4
import Derived.Lib.ValidLaws
import Derived.Lib.MapLaws
import Derived.Lib.TrimUEq
import Derived.Lib.RuneBytes
import Derived.Laws.RangeAny
import Derived.Laws.Strings
import GoSem.Op.String
import Derived.Test.YtgpbngfehfbndaaGreatDoorChecked
import Derived.WalkKit
import Derived.WalkLawsBesides
import Derived.WalkSpells
import Derived.Lib.Hide
import Derived.Shelf.Small.Bits
import Derived.Shelf.Strconv.Itoa0
import Derived.Ground.Names2Prog
import Derived.Shelf.Slices.Clone
import Derived.Shelf.Bytes.SlSearch0
import Derived.Ground.SlbCloneProg
import Derived.Shelf.Bytes.SlClone
import Derived.Shelf.Bytes.Small
import Derived.Shelf.Unicode.ValidAny
import Derived.Test.YtgpbngfehfbndaaGreatDoorProg
import Derived.Laws.Bits64b
import Derived.Below
import Derived.Tactics
import Derived.RegionTactic
import Derived.Deep.AppendSrc
import Derived.Laws.AppendOwn
import Derived.Laws.BytesString
import Derived.Laws.Tables
import Derived.Laws.IdiomStrings
set_option maxHeartbeats 16000000
set_option linter.unusedVariables false
namespace Ph
open Go Go.Lib
theorem u8 (z:Int) (h0:0≤z) (h1:z<256):(z.toNat.toUInt8).toNat=z.toNat:=by
 simp;omega
def lessL (a b:List UInt8):Bool:=
 match aAD ((rs a).map (·.1)) ((rs b).map (·.1)) with
 |some x=>x
 |none=>bytesLess a b
theorem rs_at (s:ByteArray) (pos:Nat) (h:pos<s.size):rs (s.data.toList.drop pos)=Utf8.decode s pos::rs (s.data.toList.drop (pos+(Utf8.decode s pos).2)):=by
 have hne:s.data.toList.drop pos≠[]:=by
  intro hh;have:=congrArg List.length hh;rw [List.length_drop,List.length_nil,Array.length_toList] at this;have:s.data.size=s.size:=rfl;omega
 rw [aAC _ hne,decodeL_drop,List.drop_drop]
theorem rs_end (s:ByteArray) (pos:Nat) (h:¬pos<s.size):rs (s.data.toList.drop pos)= []:=by
 have:s.data.toList.drop pos= []:=by
  apply List.drop_eq_nil_of_le;rw [Array.length_toList];have:s.data.size=s.size:=rfl;omega
 rw [this,aDq]
theorem width_pos (s:ByteArray) (pos:Nat):1≤(Utf8.decode s pos).2:=by
 rw [←decodeL_drop];exact decodeL_width _
theorem r7 (s:ByteArray):s.data.toList.length=s.size:=by
 rw [Array.length_toList];rfl
theorem count_le (s:ByteArray):count s.data.toList≤s.size:=by
 have:=aDs s.data.toList;rw [r7] at this;exact this
theorem extract_take (s:ByteArray) (k:Nat):(s.extract 0 k).data.toList=s.data.toList.take k:=by
 simp
theorem aAE (d:Nat×Nat) (T:List (Nat×Nat)):plainB (d::T)=(!(decide (d.1<32) || d.1 == 127) && plainB T):=rfl
theorem plainB_bad {d:Nat×Nat} {T:List (Nat×Nat)} (h:d.1<32∨d.1=127):plainB (d::T)=false:=by
 rw [aAE];rcases h with h|h <;> simp [h]
theorem plainB_good {d:Nat×Nat} {T:List (Nat×Nat)} (h:¬(d.1<32∨d.1=127)):plainB (d::T)=plainB T:=by
 rw [aAE];have h1:¬d.1<32:=fun x=>h (.inl x);have h2:¬d.1=127:=fun x=>h (.inr x);simp [h1,h2]
theorem keyB_bad {l:List UInt8} (h:plainB (rs l)=false):keyB l=false:=by simp [keyB,h]
theorem keyB_short {l:List UInt8} (h:¬(1≤count l∧count l≤40)):keyB l=false:=by
 unfold keyB
 by_cases h1:1≤count l
 ·have h2:¬count l≤40:=fun x=>h ⟨h1,x⟩;simp [h2]
 ·simp [h1]
theorem keyB_long {l:List UInt8} (hp:plainB (rs l)=true) (h1:1≤count l) (h2:count l≤40):keyB l=validD l:=by simp [keyB,hp,h1,h2]
theorem aDt {s:ByteArray} (h:0<s.size):s.data.toList≠[]:=by
 intro hh;have:=r7 s;rw [hh,List.length_nil] at this;omega
theorem aDu {s:ByteArray} (h:¬0<s.size):s.data.toList= []:=List.length_eq_zero_iff.1 (by rw [r7];omega)
theorem aAF (s:ByteArray):s.toList.isEmpty=decide (s.size=0):=by
 rw [ByteArray.toList_eq]
 by_cases h:s.size=0
 ·rw [aDu (by omega)];simp [h]
 ·have:=aDt (s:=s) (by omega);cases e:s.data.toList with
  |nil=>exact absurd e this
  |cons a l=>simp [h]
theorem empty_no {s:ByteArray} (h:0<s.size):s.toList.isEmpty=false:=by rw [aAF];exact decide_eq_false (by omega)
theorem empty_yes {s:ByteArray} (h:¬0<s.size):s.toList.isEmpty=true:=by rw [aAF];exact decide_eq_true (by omega)
theorem extract_drop (s:ByteArray) (k:Nat):(s.extract k s.size).data.toList=s.data.toList.drop k:=by
 have:s.data.toList.length=s.size:=r7 s;simp;rw [List.take_of_length_le (by rw [List.length_drop];omega)]
end Ph
namespace Go.Proofs.YtgpbngfehfbndaaGreatDoor
open Go.RowKit
theorem pF {a b:Bool} (h:a=b):Ending.returned (.bool a)= .returned (.bool b):=by rw [h]
theorem aDv {g h:Nat} {w w':World} {B:Nat} (hT:Lib.Utf8Tabs g h w) (hb:Below B w w') (hg:g<B) (hh:h<B):Lib.Utf8Tabs g h w':=
 ⟨fun c hc=>(hb.cell (p:=⟨g,c,none⟩) hg).trans (hT.1 c hc),fun i hi=>⟨(hb.cell (p:=⟨h,2*i,none⟩) hh).trans (hT.2 i hi).1,(hb.cell (p:=⟨h,2*i+1,none⟩) hh).trans (hT.2 i hi).2⟩⟩
theorem aAG {g h:Nat} {w:World} (hT:Lib.Utf8Tabs g h w):g<w.heap.size∧h<w.heap.size:=
 ⟨World.block_lt_of_cell? w _ (hT.1 0 (by omega)),World.block_lt_of_cell? w _ (hT.2 0 (by omega)).1⟩
theorem aDw {g h:Nat} {w w':World} (hT:Lib.Utf8Tabs g h w) (hb:Below w.heap.size w w'):Lib.Utf8Tabs g h w':=
 aDv hT hb (aAG hT).1 (aAG hT).2
def Tabs (w:World):Prop:=Lib.Utf8Tabs 0 1 w
theorem Tabs.keep {w w':World} (h:Tabs w) (hb:Below w.heap.size w w'):Tabs w':=aDw h hb
theorem vT (s:ByteArray) (w:World) (hs:s.size≤9223372036854775807) (hT:Tabs w):
  Calls Tryz.prog 304 #[.string s] w fun e w'=>e= .returned (.bool (Lib.validD s.data.toList))∧Below w.heap.size w w':=by
 go_enter Tryz.func304,Tryz.ntmps304
 go_wp2_with (go_at_call 317;refine (Tryz.utf8_ValidString _ _ hs hT).mono ?_;rintro e w' ⟨rfl,hb⟩)
 go_ret
 exact ⟨rfl,hb⟩
end Go.Proofs.YtgpbngfehfbndaaGreatDoor
namespace Go.Proofs.YtgpbngfehfbndaaGreatDoor.Sw
open Go
def iM (x:Nat):Nat:=(x >>> 1) ^^^ (3988292384*(x % 2))
def kH (x:Nat) (c:UInt8):Nat:=iM (iM (iM (iM (iM (iM (iM (iM (x ^^^ c.toNat))))))))
def i9 (s:Nat) (b:List UInt8):Nat:=(b.foldl kH (s ^^^ 4294967295)) ^^^ 4294967295
def kI (n:Nat):List UInt8:=[UInt8.ofNat (n >>> 24),UInt8.ofNat (n >>> 16),UInt8.ofNat (n >>> 8),UInt8.ofNat n]
def frB (kind:Nat) (b:List UInt8):List UInt8:=
 let x:=UInt8.ofNat kind::Ph.putI (b.length:Int)
 x ++ kI (i9 (i9 0 x) b) ++ b
theorem wS (n:Int):IntKind.u32.wrap n=n % 4294967296:=by simp [IntKind.wrap,IntKind.bits,IntKind.signed]
theorem sL (a:Nat) (ha:a<4294967296):(BitVec.ofInt 32 (a:Int)).toNat=a:=by
 rw [BitVec.ofInt_natCast,BitVec.toNat_ofNat];exact Nat.mod_eq_of_lt (by omega)
theorem sM (a b:Nat) (ha:a<4294967296) (hb:b<4294967296):bits .xor .u32 (a:Int) (b:Int)=((a ^^^ b:Nat):Int):=by
 have hx:a ^^^ b<2 ^ 32:=Nat.xor_lt_two_pow (by omega) (by omega);show IntKind.u32.wrap ((BitVec.ofInt 32 (a:Int) ^^^ BitVec.ofInt 32 (b:Int)).toNat:Int)=_;rw [BitVec.toNat_xor,sL a ha,sL b hb,wS];omega
theorem aFC (a b:Nat) (ha:a<4294967296) (hb:b<4294967296):bits .and .u32 (a:Int) (b:Int)=((a &&& b:Nat):Int):=by
 have hx:a &&& b<2 ^ 32:=Nat.and_lt_two_pow _ (by omega);show IntKind.u32.wrap ((BitVec.ofInt 32 (a:Int) &&& BitVec.ofInt 32 (b:Int)).toNat:Int)=_;rw [BitVec.toNat_and,sL a ha,sL b hb,wS];omega
theorem aFD {x:Nat} (h:x<4294967296):iM x<4294967296:=by
 unfold iM;have h1:x >>> 1<2 ^ 32:=by rw [Nat.shiftRight_eq_div_pow];omega
 have h2:3988292384*(x % 2)<2 ^ 32:=by rcases Nat.mod_two_eq_zero_or_one x with h|h <;> rw [h] <;> decide
 exact Nat.xor_lt_two_pow h1 h2
theorem aFE {x:Nat} (h:x<4294967296):bits .xor .u32 ((x:Int).fdiv 2) (bits .and .u32 3988292384 (IntKind.u32.wrap (0 - bits .and .u32 (x:Int) 1)))=(iM x:Int):=by
 have e1:(x:Int).fdiv 2=((x >>> 1:Nat):Int):=by rw [Int.fdiv_eq_ediv_of_nonneg _ (by decide),Nat.shiftRight_eq_div_pow];omega
 have e2:bits .and .u32 (x:Int) 1=((x % 2:Nat):Int):=by have:=aFC x 1 h (by decide);rw [Nat.and_one_is_mod] at this;exact this
 have h1:x >>> 1<4294967296:=by rw [Nat.shiftRight_eq_div_pow];omega
 rw [e1,e2];unfold iM;rcases Nat.mod_two_eq_zero_or_one x with hx|hx <;> rw [hx]
 ·rw [show bits .and .u32 3988292384 (IntKind.u32.wrap (0 - ((0:Nat):Int)))=((0:Nat):Int) by decide];exact sM _ 0 h1 (by decide)
 ·rw [show bits .and .u32 3988292384 (IntKind.u32.wrap (0 - ((1:Nat):Int)))=((3988292384:Nat):Int) by decide];exact sM _ _ h1 (by decide)
theorem aAr {x:Nat} (h:x<4294967296):bits .xor .u32 IntKind.u32.max (x:Int)=((x ^^^ 4294967295:Nat):Int):=by
 have:=sM 4294967295 x (by decide) h;rw [Nat.xor_comm] at this;exact this
def itN:Nat→Nat→Nat
 |0,x=>x
 |n+1,x=>iM (itN n x)
theorem wT {x:Nat} (h:x<4294967296):∀n,itN n x<4294967296
 |0=>h
 |n+1=>aFD (wT h n)
theorem pS {x:Nat} (h:x<4294967296) {y:Nat} (hy:y<4294967296):x ^^^ y<4294967296:=Nat.xor_lt_two_pow (n:=32) h hy
theorem aFF {x:Nat} (h:x<4294967296) (c:UInt8):kH x c<4294967296:=wT (x:=x ^^^ c.toNat) (pS h (by have:=c.toNat_lt;omega)) 8
theorem wU:∀(b:List UInt8) {x:Nat},x<4294967296→b.foldl kH x<4294967296
 | [],_,h=>h
 |c::b,_,h=>wU b (aFF h c)
theorem aAs {s:Nat} (h:s<4294967296) (b:List UInt8):i9 s b<4294967296:=pS (wU b (pS h (by decide))) (by decide)
theorem aFG {n:Nat} (h:n<4294967296):∀k:Nat,k≤24→IntKind.u8.wrap ((n:Int).fdiv (2 ^ k))=((UInt8.ofNat (n >>> k)).toNat:Int):=by
 intro k hk;have h1:(n:Int).fdiv (2 ^ k)=((n >>> k:Nat):Int):=by
  rw [Int.fdiv_eq_ediv_of_nonneg _ (Int.pow_nonneg (by decide)),Nat.shiftRight_eq_div_pow];simp
 rw [h1];simp [IntKind.wrap,IntKind.bits,IntKind.signed]
end Go.Proofs.YtgpbngfehfbndaaGreatDoor.Sw
namespace Ph
open Go Go.Lib
def bt (s:ByteArray) (k:Nat):Nat:=(s.data.toList.getD k 0).toNat
theorem d1 (n b0 b1 b2 b3:Nat) (h:b0<128):decodeN n b0 b1 b2 b3=(b0,1):=by unfold decodeN;rw [if_pos h]
theorem d0 (n b0 b1 b2 b3:Nat) (h:128≤b0∧b0<192∨248≤b0) (h':b0<256):decodeN n b0 b1 b2 b3=(65533,1):=decodeN_bad _ _ _ _ _ (by omega)
end Ph
set_option maxRecDepth 10000
namespace Go.Sx
theorem Has.rd_lit {G:Nat} {w W:World} {R:List Res} {E:TypeId} {b n size:Nat} {cs:List Value} (h:Has G w W R) (i:In (aA b cs E) R) (hl:cs.length=n*size) (hn:n≤9223372036854775807):Rd W size (.slice (some ⟨b,0,none⟩) n n) n cs:=by
 have hb:=(h.block i).1;refine ⟨hl,_,_,rfl,Nat.le_refl _,hn,.inr ⟨b,0,rfl,(h.block i).2.2,fun j x hx=>?_⟩⟩;rw [iJ hb];simpa using hx
end Go.Sx
