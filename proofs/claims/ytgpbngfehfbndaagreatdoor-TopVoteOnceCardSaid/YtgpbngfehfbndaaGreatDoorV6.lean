import Derived.Test.YtgpbngfehfbndaaGreatDoorV1
import Derived.Test.YtgpbngfehfbndaaGreatDoorV3
import Derived.Test.YtgpbngfehfbndaaGreatDoorV4
import Derived.Laws.RangeAny
import Derived.Laws.Strings
import GoSem.Op.String
import Derived.Laws.Bits64
import Derived.Laws.Bits64b
import Derived.Laws.BitsLemmas
import Derived.Laws.DeepNot64
import Derived.WalkSmall
set_option maxHeartbeats 16000000
set_option linter.all false
namespace Ph
open Go Go.Lib
theorem u8 (z:Int) (h0:0≤z) (h1:z<256):(z.toNat.toUInt8).toNat=z.toNat:=by
 simp;omega
def lessL (a b:List UInt8):Bool:=
 match yJ ((rs a).map (·.1)) ((rs b).map (·.1)) with
 |some x=>x
 |none=>bytesLess a b
theorem rs_at (s:ByteArray) (pos:Nat) (h:pos<s.size):rs (s.data.toList.drop pos)=Utf8.decode s pos::rs (s.data.toList.drop (pos+(Utf8.decode s pos).2)):=by
 have hne:s.data.toList.drop pos≠[]:=by
  intro hh;have:=congrArg List.length hh;rw [List.length_drop,List.length_nil,Array.length_toList] at this;have:s.data.size=s.size:=rfl;omega
 rw [yI _ hne,decodeL_drop,List.drop_drop]
theorem rs_end (s:ByteArray) (pos:Nat) (h:¬pos<s.size):rs (s.data.toList.drop pos)= []:=by
 have:s.data.toList.drop pos= []:=by
  apply List.drop_eq_nil_of_le;rw [Array.length_toList];have:s.data.size=s.size:=rfl;omega
 rw [this,aCy]
theorem width_pos (s:ByteArray) (pos:Nat):1≤(Utf8.decode s pos).2:=by
 rw [←decodeL_drop];exact decodeL_width _
theorem rG (s:ByteArray):s.data.toList.length=s.size:=by
 rw [Array.length_toList];rfl
theorem count_le (s:ByteArray):count s.data.toList≤s.size:=by
 have:=aDA s.data.toList;rw [rG] at this;exact this
theorem extract_take (s:ByteArray) (k:Nat):(s.extract 0 k).data.toList=s.data.toList.take k:=by
 simp
theorem yK (d:Nat×Nat) (T:List (Nat×Nat)):plainB (d::T)=(!(decide (d.1<32) || d.1 == 127) && plainB T):=rfl
theorem plainB_bad {d:Nat×Nat} {T:List (Nat×Nat)} (h:d.1<32∨d.1=127):plainB (d::T)=false:=by
 rw [yK];rcases h with h|h <;> simp [h]
theorem plainB_good {d:Nat×Nat} {T:List (Nat×Nat)} (h:¬(d.1<32∨d.1=127)):plainB (d::T)=plainB T:=by
 rw [yK];have h1:¬d.1<32:=fun x=>h (.inl x);have h2:¬d.1=127:=fun x=>h (.inr x);simp [h1,h2]
theorem keyB_bad {l:List UInt8} (h:plainB (rs l)=false):keyB l=false:=by simp [keyB,h]
theorem keyB_short {l:List UInt8} (h:¬(1≤count l∧count l≤40)):keyB l=false:=by
 unfold keyB
 by_cases h1:1≤count l
 ·have h2:¬count l≤40:=fun x=>h ⟨h1,x⟩;simp [h2]
 ·simp [h1]
theorem keyB_long {l:List UInt8} (hp:plainB (rs l)=true) (h1:1≤count l) (h2:count l≤40):keyB l=validD l:=by simp [keyB,hp,h1,h2]
theorem aDB {s:ByteArray} (h:0<s.size):s.data.toList≠[]:=by
 intro hh;have:=rG s;rw [hh,List.length_nil] at this;omega
theorem aDC {s:ByteArray} (h:¬0<s.size):s.data.toList= []:=List.length_eq_zero_iff.1 (by rw [rG];omega)
theorem yL (s:ByteArray):s.toList.isEmpty=decide (s.size=0):=by
 rw [ByteArray.toList_eq]
 by_cases h:s.size=0
 ·rw [aDC (by omega)];simp [h]
 ·have:=aDB (s:=s) (by omega);cases e:s.data.toList with
  |nil=>exact absurd e this
  |cons a l=>simp [h]
theorem empty_no {s:ByteArray} (h:0<s.size):s.toList.isEmpty=false:=by rw [yL];exact decide_eq_false (by omega)
theorem empty_yes {s:ByteArray} (h:¬0<s.size):s.toList.isEmpty=true:=by rw [yL];exact decide_eq_true (by omega)
theorem extract_drop (s:ByteArray) (k:Nat):(s.extract k s.size).data.toList=s.data.toList.drop k:=by
 have:s.data.toList.length=s.size:=rG s;simp;rw [List.take_of_length_le (by rw [List.length_drop];omega)]
end Ph
namespace Go.Proofs.YtgpbngfehfbndaaGreatDoor
open Go.Sx
open Go.Proofs.Tryz (prog)
instance ty2:Ty prog 2 false [.int .i64 0]:= .o
instance ty3:Ty prog 3 false [.int .i64 0]:= .o
instance ty4:Ty prog 4 false [.bool false]:= .o
instance ty5:Ty prog 5 false [.int .u8 0]:= .o
instance ty9:Ty prog 9 false [.string ⟨#[]⟩]:= .o
instance ty26:Ty prog 26 false [.int .i64 0]:= .o
instance ty27:Ty prog 27 false [.pointer none]:= .o
instance ty29:Ty prog 29 true [.pointer none,.int .i64 0,.int .i64 0,.bool false]:= .s
instance ty31:Ty prog 31 false [.pointer none]:= .o
instance ty34:Ty prog 34 false [.slice none 0 0]:= .o
instance ty36:Ty prog 36 true [.int .i64 0,.int .i64 0,.string ⟨#[]⟩,.string ⟨#[]⟩]:= .s
instance ty38:Ty prog 38 true [.int .i64 0,.int .i64 0,.int .i64 0,.int .i64 0,.int .i64 0,.int .i64 0,.int .i64 0,.bool false,.slice none 0 0,.int .i64 0,.int .i64 0,.string ⟨#[]⟩,.string ⟨#[]⟩]:= .s
instance ty44:Ty prog 44 true [.int .i64 0,.int .i64 0]:= .s
instance ty45:Ty prog 45 false [.pointer none]:= .o
instance ty53:Ty prog 53 true [.int .i64 0,.int .i64 0,.string ⟨#[]⟩]:= .s
instance ty55:Ty prog 55 true [.int .i64 0,.string ⟨#[]⟩,.int .i64 0,.int .i64 0,.string ⟨#[]⟩,.int .i64 0,.int .i64 0,.string ⟨#[]⟩,.int .i64 0]:= .s
instance ty60:Ty prog 60 false [.slice none 0 0]:= .o
instance ty64:Ty prog 64 false [.slice none 0 0]:= .o
instance ty66:Ty prog 66 true [.int .i64 0,.int .i64 0,.slice none 0 0]:= .s
instance ty68:Ty prog 68 true [.int .i64 0,.int .i64 0,.int .i64 0,.slice none 0 0,.int .i64 0]:= .s
instance ty80:Ty prog 80 false [.slice none 0 0]:= .o
instance ty82:Ty prog 82 false [.map none]:= .o
instance ty83:Ty prog 83 false [.map none]:= .o
instance ty84:Ty prog 84 false [.map none]:= .o
instance ty86:Ty prog 86 true [.map none,.map none,.map none,.map none,.pointer none]:= .s
instance ty88:Ty prog 88 true [.slice none 0 0]:= .s
instance ty91:Ty prog 91 false [.pointer none]:= .o
instance ty95:Ty prog 95 false [.pointer none]:= .o
instance ty96:Ty prog 96 false [.pointer none]:= .o
instance ty98:Ty prog 98 true [.pointer none,.pointer none,.pointer none,.bool false]:= .s
instance ty99:Ty prog 99 false [.pointer none]:= .o
instance ty100:Ty prog 100 false [.pointer none]:= .o
instance ty101:Ty prog 101 false [.pointer none]:= .o
instance ty103:Ty prog 103 true [.slice none 0 0,.bool false,.int .i64 0,.bool false]:= .s
instance ty105:Ty prog 105 true [.int .i64 0,.int .i64 0,.int .i64 0,.pointer none,.int .i64 0,.int .i64 0,.int .i64 0,.bool false,.pointer none,.pointer none,.slice none 0 0,.bool false,.int .i64 0,.bool false]:= .s
instance ty110:Ty prog 110 false [.pointer none]:= .o
instance ty113:Ty prog 113 false [.pointer none]:= .o
instance ty114:Ty prog 114 false [.pointer none]:= .o
instance ty116:Ty prog 116 true [.pointer none]:= .s
instance ty129:Ty prog 129 false [.slice none 0 0]:= .o
instance ty137:Ty prog 137 true [.int .i64 0,.int .i64 0,.int .i64 0,.string ⟨#[]⟩]:= .s
instance ty143:Ty prog 143 false [.map none]:= .o
instance ty145:Ty prog 145 true [.map none,.int .i64 0]:= .s
instance ty146:Ty prog 146 false [.slice none 0 0]:= .o
instance ty148:Ty prog 148 true [.slice none 0 0,.int .i64 0,.bool false]:= .s
instance ty158:Ty prog 158 true [.int .i64 0,.int .i64 0,.int .i64 0,.int .i64 0,.string ⟨#[]⟩,.string ⟨#[]⟩,.slice none 0 0]:= .s
instance ty167:Ty prog 167 false [.slice none 0 0]:= .o
instance ty174:Ty prog 174 true [.nilIface]:= .s
instance ty175:Ty prog 175 false [.map none]:= .o
instance ty177:Ty prog 177 true [.map none]:= .s
instance ty183:Ty prog 183 true [.pointer none,.int .i64 0,.slice none 0 0,.pointer none]:= .s
instance ty184:Ty prog 184 false [.pointer none]:= .o
instance ty186:Ty prog 186 true [.pointer none,.slice none 0 0]:= .s
instance ty201:Ty prog 201 true [.int .i64 0,.pointer none,.slice none 0 0]:= .s
instance ty203:Ty prog 203 true [.int .i64 0,.int .i64 0,.string ⟨#[]⟩,.string ⟨#[]⟩,.slice none 0 0]:= .s
instance ty229:Ty prog 229 true [.pointer none,.int .i64 0,.int .i64 0,.int .i64 0,.int .i64 0,.string ⟨#[]⟩,.string ⟨#[]⟩,.slice none 0 0,.int .i64 0]:= .s
instance ty238:Ty prog 238 true [.bool false,.int .i64 0,.int .i64 0,.int .i64 0,.int .i64 0,.int .i64 0,.string ⟨#[]⟩]:= .s
instance ty268:Ty prog 268 true [.int .i64 0,.int .i64 0,.int .i64 0,.int .i64 0,.slice none 0 0,.int .i64 0]:= .s
instance ty271:Ty prog 271 true [.int .i64 0,.pointer none,.int .i64 0,.int .i64 0,.int .i64 0,.int .i64 0,.slice none 0 0,.int .i64 0,.int .i64 0,.int .i64 0,.int .i64 0,.int .i64 0,.slice none 0 0,.int .i64 0,.int .i64 0,.int .i64 0,.int .i64 0,.int .i64 0,.slice none 0 0,.int .i64 0,.int .i64 0,.int .i64 0,.int .i64 0,.int .i64 0,.slice none 0 0,.int .i64 0,.int .i64 0,.int .i64 0,.int .i64 0,.int .i64 0,.slice none 0 0,.int .i64 0,.int .i64 0,.int .i64 0,.int .i64 0,.int .i64 0,.slice none 0 0,.int .i64 0]:= .s
instance ty295:Ty prog 295 true [.slice none 0 0,.slice none 0 0,.slice none 0 0]:= .s
instance ty304:Ty prog 304 true [.slice none 0 0,.bool false]:= .s
instance ty312:Ty prog 312 true [.slice none 0 0,.bool false]:= .s
instance ty338:Ty prog 338 true [.int .i64 0,.int .i64 0,.int .i64 0,.int .i64 0,.int .i64 0,.int .i64 0,.int .i64 0,.int .i64 0]:= .s
instance ty340:Ty prog 340 true [.int .i64 0,.int .i64 0,.int .i64 0,.int .i64 0,.int .i64 0,.int .i64 0,.int .i64 0,.int .i64 0,.int .i64 0,.int .i64 0,.int .i64 0,.int .i64 0,.int .i64 0,.int .i64 0,.int .i64 0,.int .i64 0]:= .s
instance it2:IntTy prog 2 .i64:=⟨by kernel_rfl⟩
instance el2:El prog 2 1 8:= .o
instance it3:IntTy prog 3 .i64:=⟨by kernel_rfl⟩
instance el3:El prog 3 1 8:= .o
instance it5:IntTy prog 5 .u8:=⟨by kernel_rfl⟩
instance el5:El prog 5 1 1:= .o
instance st9:StrTy prog 9:=⟨by kernel_rfl⟩
instance fl29_0:Fld prog 29 0 0 27:= .o
instance fl29_3:Fld prog 29 3 3 4:= .o
instance su29:St prog 29 [(0,1),(1,1),(2,1),(3,1)]:=⟨by kernel_rfl⟩
instance sl34:Sl prog 34 137:=⟨by kernel_rfl⟩
instance fl36_0:Fld prog 36 0 0 2:= .o
instance fl36_1:Fld prog 36 1 1 2:= .o
instance fl36_2:Fld prog 36 2 2 9:= .o
instance fl36_3:Fld prog 36 3 3 9:= .o
instance su36:St prog 36 [(0,1),(1,1),(2,1),(3,1)]:=⟨by kernel_rfl⟩
instance el38:El prog 38 13 136:= .o
instance fl38_0:Fld prog 38 0 0 3:= .o
instance fl38_1:Fld prog 38 1 1 3:= .o
instance fl38_2:Fld prog 38 2 2 3:= .o
instance fl38_3:Fld prog 38 3 3 2:= .o
instance fl38_4:Fld prog 38 4 4 2:= .o
instance fl38_5:Fld prog 38 5 5 2:= .o
instance fl38_6:Fld prog 38 6 6 2:= .o
instance fl38_7:Fld prog 38 7 7 4:= .o
instance fl38_8:Fld prog 38 8 8 34:= .o
instance fl38_9:Fld prog 38 9 9 36:= .o
instance su38:St prog 38 [(0,1),(1,1),(2,1),(3,1),(4,1),(5,1),(6,1),(7,1),(8,1),(9,4)]:=⟨by kernel_rfl⟩
instance fl44_0:Fld prog 44 0 0 2:= .o
instance fl44_1:Fld prog 44 1 1 3:= .o
instance su44:St prog 44 [(0,1),(1,1)]:=⟨by kernel_rfl⟩
instance fl53_0:Fld prog 53 0 0 3:= .o
instance fl53_1:Fld prog 53 1 1 2:= .o
instance fl53_2:Fld prog 53 2 2 9:= .o
instance su53:St prog 53 [(0,1),(1,1),(2,1)]:=⟨by kernel_rfl⟩
instance el55:El prog 55 9 96:= .o
instance fl55_0:Fld prog 55 0 0 3:= .o
instance fl55_1:Fld prog 55 1 1 9:= .o
instance fl55_2:Fld prog 55 2 2 53:= .o
instance fl55_3:Fld prog 55 3 5 53:= .o
instance fl55_4:Fld prog 55 4 8 2:= .o
instance su55:St prog 55 [(0,1),(1,1),(2,3),(5,3),(8,1)]:=⟨by kernel_rfl⟩
instance sl60:Sl prog 60 68:=⟨by kernel_rfl⟩
instance sl64:Sl prog 64 55:=⟨by kernel_rfl⟩
instance el66:El prog 66 3 40:= .o
instance fl66_0:Fld prog 66 0 0 3:= .o
instance fl66_1:Fld prog 66 1 1 2:= .o
instance fl66_2:Fld prog 66 2 2 64:= .o
instance su66:St prog 66 [(0,1),(1,1),(2,1)]:=⟨by kernel_rfl⟩
instance el68:El prog 68 5 56:= .o
instance fl68_0:Fld prog 68 0 0 2:= .o
instance fl68_1:Fld prog 68 1 1 66:= .o
instance fl68_2:Fld prog 68 2 4 26:= .o
instance su68:St prog 68 [(0,1),(1,3),(4,1)]:=⟨by kernel_rfl⟩
instance sl80:Sl prog 80 38:=⟨by kernel_rfl⟩
instance fl86_0:Fld prog 86 0 0 82:= .o
instance fl86_1:Fld prog 86 1 1 83:= .o
instance fl86_2:Fld prog 86 2 2 84:= .o
instance fl86_3:Fld prog 86 3 3 84:= .o
instance fl86_4:Fld prog 86 4 4 31:= .o
instance su86:St prog 86 [(0,1),(1,1),(2,1),(3,1),(4,1)]:=⟨by kernel_rfl⟩
instance fl88_0:Fld prog 88 0 0 80:= .o
instance su88:St prog 88 [(0,1)]:=⟨by kernel_rfl⟩
instance fl98_0:Fld prog 98 0 0 95:= .o
instance fl98_1:Fld prog 98 1 1 45:= .o
instance fl98_2:Fld prog 98 2 2 96:= .o
instance fl98_3:Fld prog 98 3 3 4:= .o
instance su98:St prog 98 [(0,1),(1,1),(2,1),(3,1)]:=⟨by kernel_rfl⟩
instance fl103_0:Fld prog 103 0 0 80:= .o
instance fl103_1:Fld prog 103 1 1 4:= .o
instance fl103_2:Fld prog 103 2 2 2:= .o
instance fl103_3:Fld prog 103 3 3 4:= .o
instance su103:St prog 103 [(0,1),(1,1),(2,1),(3,1)]:=⟨by kernel_rfl⟩
instance fl105_0:Fld prog 105 0 0 3:= .o
instance fl105_1:Fld prog 105 1 1 44:= .o
instance fl105_2:Fld prog 105 2 3 99:= .o
instance fl105_3:Fld prog 105 3 4 2:= .o
instance fl105_4:Fld prog 105 4 5 3:= .o
instance fl105_5:Fld prog 105 5 6 3:= .o
instance fl105_6:Fld prog 105 6 7 4:= .o
instance fl105_7:Fld prog 105 7 8 100:= .o
instance fl105_8:Fld prog 105 8 9 101:= .o
instance fl105_9:Fld prog 105 9 10 103:= .o
instance su105:St prog 105 [(0,1),(1,2),(3,1),(4,1),(5,1),(6,1),(7,1),(8,1),(9,1),(10,4)]:=⟨by kernel_rfl⟩
instance fl116_0:Fld prog 116 0 0 114:= .o
instance su116:St prog 116 [(0,1)]:=⟨by kernel_rfl⟩
instance sl129:Sl prog 129 3:=⟨by kernel_rfl⟩
instance el137:El prog 137 4 40:= .o
instance fl137_0:Fld prog 137 0 0 2:= .o
instance fl137_1:Fld prog 137 1 1 2:= .o
instance fl137_2:Fld prog 137 2 2 3:= .o
instance fl137_3:Fld prog 137 3 3 9:= .o
instance su137:St prog 137 [(0,1),(1,1),(2,1),(3,1)]:=⟨by kernel_rfl⟩
instance sl140:Sl prog 140 9:=⟨by kernel_rfl⟩
instance fl145_0:Fld prog 145 0 0 143:= .o
instance fl145_1:Fld prog 145 1 1 3:= .o
instance su145:St prog 145 [(0,1),(1,1)]:=⟨by kernel_rfl⟩
instance sl146:Sl prog 146 5:=⟨by kernel_rfl⟩
instance fl148_0:Fld prog 148 0 0 146:= .o
instance fl148_1:Fld prog 148 1 1 3:= .o
instance fl148_2:Fld prog 148 2 2 4:= .o
instance su148:St prog 148 [(0,1),(1,1),(2,1)]:=⟨by kernel_rfl⟩
instance fl158_0:Fld prog 158 0 0 44:= .o
instance fl158_1:Fld prog 158 1 2 36:= .o
instance fl158_2:Fld prog 158 2 6 34:= .o
instance sl167:Sl prog 167 66:=⟨by kernel_rfl⟩
instance fl177_0:Fld prog 177 0 0 175:= .o
instance su177:St prog 177 [(0,1)]:=⟨by kernel_rfl⟩
instance fl183_0:Fld prog 183 0 0 91:= .o
instance fl183_1:Fld prog 183 1 1 3:= .o
instance fl183_2:Fld prog 183 2 2 167:= .o
instance fl183_3:Fld prog 183 3 3 113:= .o
instance su183:St prog 183 [(0,1),(1,1),(2,1),(3,1)]:=⟨by kernel_rfl⟩
instance fl186_0:Fld prog 186 0 0 184:= .o
instance fl186_1:Fld prog 186 1 1 60:= .o
instance su186:St prog 186 [(0,1),(1,1)]:=⟨by kernel_rfl⟩
instance fl201_0:Fld prog 201 0 0 2:= .o
instance fl201_1:Fld prog 201 1 1 184:= .o
instance fl201_2:Fld prog 201 2 2 60:= .o
instance su201:St prog 201 [(0,1),(1,1),(2,1)]:=⟨by kernel_rfl⟩
instance fl203_0:Fld prog 203 0 0 36:= .o
instance fl203_1:Fld prog 203 1 4 34:= .o
instance su203:St prog 203 [(0,4),(4,1)]:=⟨by kernel_rfl⟩
instance fl229_0:Fld prog 229 0 0 91:= .o
instance fl229_1:Fld prog 229 1 1 158:= .o
instance fl229_2:Fld prog 229 2 8 3:= .o
instance su229:St prog 229 [(0,1),(1,7),(8,1)]:=⟨by kernel_rfl⟩
instance sl234:Sl prog 234 238:=⟨by kernel_rfl⟩
instance el238:El prog 238 7 64:= .o
instance fl238_0:Fld prog 238 0 0 4:= .o
instance fl238_1:Fld prog 238 1 1 44:= .o
instance fl238_2:Fld prog 238 2 3 137:= .o
instance su238:St prog 238 [(0,1),(1,2),(3,4)]:=⟨by kernel_rfl⟩
instance fl268_0:Fld prog 268 0 0 2:= .o
instance fl268_1:Fld prog 268 1 1 68:= .o
instance su268:St prog 268 [(0,1),(1,5)]:=⟨by kernel_rfl⟩
instance fl271_0:Fld prog 271 0 0 2:= .o
instance fl271_1:Fld prog 271 1 1 110:= .o
instance fl271_2:Fld prog 271 2 2 269:= .o
instance su271:St prog 271 [(0,1),(1,1),(2,36)]:=⟨by kernel_rfl⟩
instance it279:IntTy prog 279 .u64:=⟨by kernel_rfl⟩
instance it280:IntTy prog 280 .u64:=⟨by kernel_rfl⟩
instance sl284:Sl prog 284 288:=⟨by kernel_rfl⟩
instance fl295_0:Fld prog 295 0 0 129:= .o
instance fl295_1:Fld prog 295 1 1 129:= .o
instance fl295_2:Fld prog 295 2 2 129:= .o
instance su295:St prog 295 [(0,1),(1,1),(2,1)]:=⟨by kernel_rfl⟩
instance fl304_0:Fld prog 304 0 0 146:= .o
instance fl304_1:Fld prog 304 1 1 4:= .o
instance su304:St prog 304 [(0,1),(1,1)]:=⟨by kernel_rfl⟩
instance fl312_0:Fld prog 312 0 0 146:= .o
instance fl312_1:Fld prog 312 1 1 4:= .o
instance su312:St prog 312 [(0,1),(1,1)]:=⟨by kernel_rfl⟩
instance sl314:Sl prog 314 2:=⟨by kernel_rfl⟩
instance it318:IntTy prog 318 .u32:=⟨by kernel_rfl⟩
instance fl340_0:Fld prog 340 0 0 338:= .o
instance fl340_1:Fld prog 340 1 8 338:= .o
instance su340:St prog 340 [(0,8),(8,8)]:=⟨by kernel_rfl⟩
end Go.Proofs.YtgpbngfehfbndaaGreatDoor
namespace Ph
theorem u8n (x:Nat) (h:x<256):(x.toUInt8).toNat=x:=by simp;omega
theorem putN_last (f u:Nat) (h:u<128):putN (f+1) u= [u.toUInt8]:=by simp [putN,h]
theorem zX (f u:Nat) (h:¬u<128):putN (f+1) u=(u % 128+128).toUInt8::putN f (u / 128):=by simp [putN,h]
theorem vB (i:Nat):128 ^ (i+1)=128 ^ i*128:=Nat.pow_succ 128 i
theorem zY:∀(f i a u:Nat) (t:List UInt8),u<128 ^ f→i+f≤10→1≤f→(1≤i→1≤u)→(i=9→u≤1)→(∀j,i+j=9→u / 128 ^ j≤1)→
  getN i a (putN f u ++ t)=(unzig (a+u*128 ^ i),i+(putN f u).length,0)
 |0,_,_,_,_,_,_,h,_,_,_=>by omega
 |f+1,i,a,u,t,hu,hf,_,h1,h9,hj=>by
  by_cases hl:u<128
  ·rw [putN_last f u hl];have hb:=u8n u (by omega);simp only [List.cons_append,List.nil_append,getN,hb,List.length_cons,List.length_nil];rw [if_neg (by omega),if_neg (by omega),if_neg (by omega)];have:u % 128=u:=by omega
   rw [this]
  ·rw [zX f u hl];have hb:=u8n (u % 128+128) (by omega);have hne:i≠9:=fun e=>by have:=h9 e;omega
   have hf1:1≤f:=by
    rcases Nat.eq_zero_or_pos f with h0|h0
    ·subst h0;simp at hu;omega
    ·exact h0
   simp only [List.cons_append,getN,hb,List.length_cons];rw [if_neg (by omega),if_pos (by omega)];have hd:u / 128<128 ^ f:=by
    rw [vB] at hu;omega
   rw [zY f (i+1) _ (u / 128) t hd (by omega) hf1 (fun _=>by omega) (fun e=>by
     have:=hj 1 (by omega)
     simpa using this) (fun j e=>by
     have:=hj (j+1) (by omega);rw [Nat.div_div_eq_div_mul,Nat.mul_comm];rw [vB] at this
     exact this)]
   have e1:(u % 128+128) % 128=u % 128:=by omega
   rw [e1,vB];congr 1
   ·congr 1;have:u / 128*(128 ^ i*128)=128*(u / 128)*128 ^ i:=by
     rw [Nat.mul_comm (128 ^ i) 128,←Nat.mul_assoc,Nat.mul_comm (u / 128) 128]
    rw [this];have h2:u=u % 128+128*(u / 128):=by omega
    have h3:u*128 ^ i=(u % 128+128*(u / 128))*128 ^ i:=by rw [←h2]
    rw [h3,Nat.add_mul];omega
   ·congr 1;omega
theorem zig_small {n:Int} (h0: -9223372036854775808≤n) (h1:n≤9223372036854775807):zig n<128 ^ 10∧∀j,0+j=9→zig n / 128 ^ j≤1:=by
 have h:=aDl h0 h1;have e10:(128:Nat) ^ 10=1180591620717411303424:=by decide
 have e9:(128:Nat) ^ 9=9223372036854775808:=by decide
 refine ⟨by rw [e10];omega,fun j hj=>?_⟩;obtain rfl:j=9:=by omega
 rw [e9];omega
theorem getI_putI (n:Int) (t:List UInt8) (h0: -9223372036854775808≤n) (h1:n≤9223372036854775807):getI (putI n ++ t)=(n,(putI n).length,0):=by
 obtain ⟨a,b⟩:=zig_small h0 h1;unfold getI putI vA;rw [zY 10 0 0 (zig n) t a (by omega) (by omega) (fun h=>by omega) (fun h=>by omega) b];simp [aDm]
theorem getT_putT (s t:List UInt8) (h:s.length≤1048576):getT (putT s ++ t)=(s,(putT s).length,0):=by
 have g:=getI_putI s.length (s ++ t) (by omega) (by omega);unfold putT getT;rw [List.append_assoc,g];simp only [List.length_append];rw [if_neg (by omega),if_neg (by omega),if_neg (by simp)];simp
theorem zZ:∀(l:List UInt8) (i u:Nat),(getN i u l).2.1≤i+l.length∧((getN i u l).2.2=0∨(getN i u l).2.2=1∨(getN i u l).2.2=2)∧((getN i u l).2.2≠0→(getN i u l).1=0∧(getN i u l).2.1=0)
 | [],i,u=>by simp [getN]
 |c::t,i,u=>by
  simp only [getN];split
  ·simp
  ·split
   ·have:=zZ t (i+1) (u+c.toNat % 128*128 ^ i);simp only [List.length_cons];exact ⟨by omega,this.2⟩
   ·split
    ·simp
    ·simp
theorem getI_le (l:List UInt8):(getI l).2.1≤l.length:=by
 have:=(zZ l 0 0).1;unfold getI;omega
open Go
theorem aDn (x:Nat) (h:x<18446744073709551616):bits .xor .u64 IntKind.u64.max (x:Int)=((18446744073709551615 - x:Nat):Int):=by
 show IntKind.u64.wrap ((BitVec.ofInt 64 IntKind.u64.max ^^^ BitVec.ofInt 64 (x:Int)).toNat:Int)=_;have h1:BitVec.ofInt 64 IntKind.u64.max=BitVec.allOnes 64:=by decide
 rw [h1,BitVec.allOnes_xor,BitVec.toNat_not,ofInt_u64 x h];rw [IntKind.wrap_u64];omega
theorem zig_neg (n:Int) (h0: -9223372036854775808≤n) (h1:n<0):bits .xor .u64 IntKind.u64.max (IntKind.u64.wrap (IntKind.u64.wrap n*2))=(zig n:Int):=by
 have e:IntKind.u64.wrap (IntKind.u64.wrap n*2)=(((2*n+18446744073709551616).toNat:Nat):Int):=by
  rw [IntKind.wrap_u64,IntKind.wrap_u64];omega
 rw [e,aDn _ (by omega)];unfold zig;rw [if_neg (by omega)];omega
theorem zig_pos (n:Int) (h0:0≤n):n*2=(zig n:Int):=by
 unfold zig;rw [if_pos h0];omega
set_option maxRecDepth 100000 in
theorem aDo:∀X:Fin 256,bits .or .u8 ((X.val:Nat):Int) 128=((X.val % 128+128:Nat):Int):=by decide
set_option maxRecDepth 100000 in
theorem aDp:∀X:Fin 256,bits .and .u8 ((X.val:Nat):Int) 127=((X.val % 128:Nat):Int):=by decide
theorem or128_at (x:Nat) (h:x<256):bits .or .u8 (x:Int) 128=((x % 128+128:Nat):Int):=aDo ⟨x,h⟩
theorem aDq (x:Nat) (h:x<256):bits .and .u8 (x:Int) 127=((x % 128:Nat):Int):=aDp ⟨x,h⟩
theorem z1 (k:Nat):(128:Nat) ^ k=2 ^ (7*k):=by
 rw [Nat.pow_mul]
theorem or_seven (x c k:Nat) (hx:x<128 ^ k) (hc:c<256) (hs:c % 128*128 ^ k<18446744073709551616) (hk:k≤9):
  bits .or .u64 (x:Int) (IntKind.u64.wrap (IntKind.u64.wrap (bits .and .u8 (c:Int) 127)*2 ^ (7*k)))=((x+c % 128*128 ^ k:Nat):Int):=by
 have e1:IntKind.u64.wrap (bits .and .u8 (c:Int) 127)=((c % 128:Nat):Int):=by
  rw [aDq c hc,IntKind.wrap_u64];omega
 have e2:((c % 128:Nat):Int)*2 ^ (7*k)=((c % 128*128 ^ k:Nat):Int):=by
  rw [z1];simp
 have e3:IntKind.u64.wrap (((c % 128:Nat):Int)*2 ^ (7*k))=((c % 128*128 ^ k:Nat):Int):=by
  rw [e2,IntKind.wrap_u64];omega
 have h9:(128:Nat) ^ k≤128 ^ 9:=Nat.pow_le_pow_right (by omega) hk;have e9:(128:Nat) ^ 9=9223372036854775808:=by decide
 rw [e1,e3,bits_or_u64_nat x _ (by omega) hs];congr 1;rw [z1] at hx⊢;rw [Nat.or_comm,Nat.mul_comm,←Nat.two_pow_add_eq_or_of_lt hx];omega
theorem or_last (x c:Nat) (hx:x<128 ^ 9) (hc:c≤1):
  bits .or .u64 (x:Int) (IntKind.u64.wrap (IntKind.u64.wrap (bits .and .u8 (c:Int) 127)*9223372036854775808))=((x+c % 128*128 ^ 9:Nat):Int):=by
 have e9:(128:Nat) ^ 9=9223372036854775808:=by decide
 have h:=or_seven x c 9 hx (by omega) (by rw [e9];omega) (by omega);have e2:(2:Int) ^ (7*9)=9223372036854775808:=by decide
 rw [e2] at h;exact h
theorem sum_small (x c k:Nat) (hx:x<128 ^ k) (hk:k≤8) (hc:c<256):c % 128*128 ^ k<18446744073709551616∧x+c % 128*128 ^ k<128 ^ (k+1):=by
 have h8:(128:Nat) ^ k≤128 ^ 8:=Nat.pow_le_pow_right (by omega) hk;have e8:(128:Nat) ^ 8=72057594037927936:=by decide
 have h1:c % 128*128 ^ k≤127*128 ^ k:=Nat.mul_le_mul_right _ (by omega);rw [Nat.pow_succ];omega
theorem unzig_even (y:Nat) (h:y % 2=0):unzig y=((y / 2:Nat):Int):=by unfold unzig;rw [if_neg (by omega)]
theorem unzig_odd (y:Nat) (h:y % 2=1):unzig y= -1 - ((y / 2:Nat):Int):=by unfold unzig;rw [if_pos h];omega
theorem getN_end (k x:Nat):getN k x []=(0,0,2):=rfl
theorem getN_big (k x:Nat) (c:UInt8) (t:List UInt8) (h:k=9) (hc:1<c.toNat):getN k x (c::t)=(0,0,1):=by simp only [getN];rw [if_pos ⟨h,hc⟩]
theorem getN_more (k x:Nat) (c:UInt8) (t:List UInt8) (h:k≠9) (hc:128≤c.toNat):getN k x (c::t)=getN (k+1) (x+c.toNat % 128*128 ^ k) t:=by simp only [getN];rw [if_neg (by omega),if_pos hc]
theorem getN_zero (k x:Nat) (c:UInt8) (t:List UInt8) (h:0<k) (hc:c.toNat=0):getN k x (c::t)=(0,0,1):=by simp only [getN];rw [if_neg (by omega),if_neg (by omega),if_pos ⟨h,hc⟩]
theorem getN_last (k x:Nat) (c:UInt8) (t:List UInt8) (h9:¬(k=9∧1<c.toNat)) (hc:c.toNat<128) (hz:¬(0<k∧c.toNat=0)):getN k x (c::t)=(unzig (x+c.toNat % 128*128 ^ k),k+1,0):=by simp only [getN];rw [if_neg h9,if_neg (by omega),if_neg hz]
theorem putN_split (f u:Nat) (h:¬u<128) (hu:u<128 ^ f):∃g,f=g+1∧1≤g∧u / 128<128 ^ g∧putN f u=(u % 128+128).toUInt8::putN g (u / 128):=by
 obtain ⟨g,rfl⟩:∃g,f=g+1:=by
  cases f with
  |zero=>simp at hu;omega
  |succ g=>exact ⟨g,rfl⟩
 refine ⟨g,rfl,?_,?_,zX g u h⟩
 ·rcases Nat.eq_zero_or_pos g with h0|h0
  ·subst h0;simp at hu;omega
  ·exact h0
 ·rw [Nat.pow_succ] at hu;omega
end Ph
namespace Go.Proofs.YtgpbngfehfbndaaGreatDoor.Sw
open Go
def iH (x:Nat):Nat:=(x >>> 1) ^^^ (3988292384*(x % 2))
def j4 (x:Nat) (c:UInt8):Nat:=iH (iH (iH (iH (iH (iH (iH (iH (x ^^^ c.toNat))))))))
def fK (s:Nat) (b:List UInt8):Nat:=(b.foldl j4 (s ^^^ 4294967295)) ^^^ 4294967295
def fX (n:Nat):List UInt8:=[UInt8.ofNat (n >>> 24),UInt8.ofNat (n >>> 16),UInt8.ofNat (n >>> 8),UInt8.ofNat n]
def frB (kind:Nat) (b:List UInt8):List UInt8:=
 let x:=UInt8.ofNat kind::Ph.putI (b.length:Int)
 x ++ fX (fK (fK 0 x) b) ++ b
theorem vH (n:Int):IntKind.u32.wrap n=n % 4294967296:=by simp [IntKind.wrap,IntKind.bits,IntKind.signed]
theorem rR (a:Nat) (ha:a<4294967296):(BitVec.ofInt 32 (a:Int)).toNat=a:=by
 rw [BitVec.ofInt_natCast,BitVec.toNat_ofNat];exact Nat.mod_eq_of_lt (by omega)
theorem rS (a b:Nat) (ha:a<4294967296) (hb:b<4294967296):bits .xor .u32 (a:Int) (b:Int)=((a ^^^ b:Nat):Int):=by
 have hx:a ^^^ b<2 ^ 32:=Nat.xor_lt_two_pow (by omega) (by omega);show IntKind.u32.wrap ((BitVec.ofInt 32 (a:Int) ^^^ BitVec.ofInt 32 (b:Int)).toNat:Int)=_;rw [BitVec.toNat_xor,rR a ha,rR b hb,vH];omega
theorem aEJ (a b:Nat) (ha:a<4294967296) (hb:b<4294967296):bits .and .u32 (a:Int) (b:Int)=((a &&& b:Nat):Int):=by
 have hx:a &&& b<2 ^ 32:=Nat.and_lt_two_pow _ (by omega);show IntKind.u32.wrap ((BitVec.ofInt 32 (a:Int) &&& BitVec.ofInt 32 (b:Int)).toNat:Int)=_;rw [BitVec.toNat_and,rR a ha,rR b hb,vH];omega
theorem aEK {x:Nat} (h:x<4294967296):iH x<4294967296:=by
 unfold iH;have h1:x >>> 1<2 ^ 32:=by rw [Nat.shiftRight_eq_div_pow];omega
 have h2:3988292384*(x % 2)<2 ^ 32:=by rcases Nat.mod_two_eq_zero_or_one x with h|h <;> rw [h] <;> decide
 exact Nat.xor_lt_two_pow h1 h2
theorem aEL {x:Nat} (h:x<4294967296):bits .xor .u32 ((x:Int).fdiv 2) (bits .and .u32 3988292384 (IntKind.u32.wrap (0 - bits .and .u32 (x:Int) 1)))=(iH x:Int):=by
 have e1:(x:Int).fdiv 2=((x >>> 1:Nat):Int):=by rw [Int.fdiv_eq_ediv_of_nonneg _ (by decide),Nat.shiftRight_eq_div_pow];omega
 have e2:bits .and .u32 (x:Int) 1=((x % 2:Nat):Int):=by have:=aEJ x 1 h (by decide);rw [Nat.and_one_is_mod] at this;exact this
 have h1:x >>> 1<4294967296:=by rw [Nat.shiftRight_eq_div_pow];omega
 rw [e1,e2];unfold iH;rcases Nat.mod_two_eq_zero_or_one x with hx|hx <;> rw [hx]
 ·rw [show bits .and .u32 3988292384 (IntKind.u32.wrap (0 - ((0:Nat):Int)))=((0:Nat):Int) by decide];exact rS _ 0 h1 (by decide)
 ·rw [show bits .and .u32 3988292384 (IntKind.u32.wrap (0 - ((1:Nat):Int)))=((3988292384:Nat):Int) by decide];exact rS _ _ h1 (by decide)
theorem aAE {x:Nat} (h:x<4294967296):bits .xor .u32 IntKind.u32.max (x:Int)=((x ^^^ 4294967295:Nat):Int):=by
 have:=rS 4294967295 x (by decide) h;rw [Nat.xor_comm] at this;exact this
def itN:Nat→Nat→Nat
 |0,x=>x
 |n+1,x=>iH (itN n x)
theorem vI {x:Nat} (h:x<4294967296):∀n,itN n x<4294967296
 |0=>h
 |n+1=>aEK (vI h n)
theorem o9 {x:Nat} (h:x<4294967296) {y:Nat} (hy:y<4294967296):x ^^^ y<4294967296:=Nat.xor_lt_two_pow (n:=32) h hy
theorem aEM {x:Nat} (h:x<4294967296) (c:UInt8):j4 x c<4294967296:=vI (x:=x ^^^ c.toNat) (o9 h (by have:=c.toNat_lt;omega)) 8
theorem vJ:∀(b:List UInt8) {x:Nat},x<4294967296→b.foldl j4 x<4294967296
 | [],_,h=>h
 |c::b,_,h=>vJ b (aEM h c)
theorem rT {s:Nat} (h:s<4294967296) (b:List UInt8):fK s b<4294967296:=o9 (vJ b (o9 h (by decide))) (by decide)
theorem aEN {n:Nat} (h:n<4294967296):∀k:Nat,k≤24→IntKind.u8.wrap ((n:Int).fdiv (2 ^ k))=((UInt8.ofNat (n >>> k)).toNat:Int):=by
 intro k hk;have h1:(n:Int).fdiv (2 ^ k)=((n >>> k:Nat):Int):=by
  rw [Int.fdiv_eq_ediv_of_nonneg _ (Int.pow_nonneg (by decide)),Nat.shiftRight_eq_div_pow];simp
 rw [h1];simp [IntKind.wrap,IntKind.bits,IntKind.signed]
end Go.Proofs.YtgpbngfehfbndaaGreatDoor.Sw
set_option maxRecDepth 10000
namespace Go.Sx
theorem Has.rd_lit {G:Nat} {w W:World} {R:List Res} {E:TypeId} {b n size:Nat} {cs:List Value} (h:Has G w W R) (i:In (aA b cs E) R) (hl:cs.length=n*size) (hn:n≤9223372036854775807):Rd W size (.slice (some ⟨b,0,none⟩) n n) n cs:=by
 have hb:=(h.block i).1;refine ⟨hl,_,_,rfl,Nat.le_refl _,hn,.inr ⟨b,0,rfl,(h.block i).2.2,fun j x hx=>?_⟩⟩;rw [hC hb];simpa using hx
end Go.Sx
