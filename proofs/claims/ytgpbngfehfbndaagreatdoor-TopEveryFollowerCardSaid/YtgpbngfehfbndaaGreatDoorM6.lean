/-
  Texts of the proof, one behind the other (part 6).
-/
import Derived.Test.YtgpbngfehfbndaaGreatDoorM1
import Derived.Test.YtgpbngfehfbndaaGreatDoorM3
import Derived.Test.YtgpbngfehfbndaaGreatDoorM4
import Derived.Test.YtgpbngfehfbndaaGreatDoorProg
import Derived.Below
import Derived.Tactics
import Derived.WalkKit
import Derived.RegionTactic
import Derived.Deep.AppendSrc
import Derived.Laws.AppendOwn
import Derived.Laws.BytesString
import Derived.Laws.Tables
import Derived.Laws.IdiomStrings
import Derived.Laws.Bits64
import Derived.Laws.Bits64b
import Derived.Laws.BitsLemmas
import Derived.Laws.DeepNot64
import Derived.WalkSmall
import Derived.Test.YtgpbngfehfbndaaGreatDoorChecked
import Derived.Lib.Hide
import Derived.WalkSpells
import Derived.WalkLawsBesides
import Derived.Lib.UnsafeStr
import Derived.Lib.RuneBytes
import Derived.Deep.AppendLies
import Derived.Deep.Draws
set_option maxHeartbeats 16000000
namespace Go.Proofs.YtgpbngfehfbndaaGreatDoor
open Go.Sx
instance ty2:Ty Tryz.prog 2 false [.int .i64 0]:= .o
instance ty3:Ty Tryz.prog 3 false [.int .i64 0]:= .o
instance ty4:Ty Tryz.prog 4 false [.bool false]:= .o
instance ty5:Ty Tryz.prog 5 false [.int .u8 0]:= .o
instance ty9:Ty Tryz.prog 9 false [.string ⟨#[]⟩]:= .o
instance ty26:Ty Tryz.prog 26 false [.int .i64 0]:= .o
instance ty27:Ty Tryz.prog 27 false [.pointer none]:= .o
instance ty29:Ty Tryz.prog 29 true [.pointer none,.int .i64 0,.int .i64 0,.bool false]:= .s
instance ty31:Ty Tryz.prog 31 false [.pointer none]:= .o
instance ty34:Ty Tryz.prog 34 false [.slice none 0 0]:= .o
instance ty36:Ty Tryz.prog 36 true [.int .i64 0,.int .i64 0,.string ⟨#[]⟩,.string ⟨#[]⟩]:= .s
instance ty38:Ty Tryz.prog 38 true [.int .i64 0,.int .i64 0,.int .i64 0,.int .i64 0,.int .i64 0,.int .i64 0,.int .i64 0,.bool false,.slice none 0 0,.int .i64 0,.int .i64 0,.string ⟨#[]⟩,.string ⟨#[]⟩]:= .s
instance ty44:Ty Tryz.prog 44 true [.int .i64 0,.int .i64 0]:= .s
instance ty45:Ty Tryz.prog 45 false [.pointer none]:= .o
instance ty53:Ty Tryz.prog 53 true [.int .i64 0,.int .i64 0,.string ⟨#[]⟩]:= .s
instance ty55:Ty Tryz.prog 55 true [.int .i64 0,.string ⟨#[]⟩,.int .i64 0,.int .i64 0,.string ⟨#[]⟩,.int .i64 0,.int .i64 0,.string ⟨#[]⟩,.int .i64 0]:= .s
instance ty60:Ty Tryz.prog 60 false [.slice none 0 0]:= .o
instance ty64:Ty Tryz.prog 64 false [.slice none 0 0]:= .o
instance ty66:Ty Tryz.prog 66 true [.int .i64 0,.int .i64 0,.slice none 0 0]:= .s
instance ty68:Ty Tryz.prog 68 true [.int .i64 0,.int .i64 0,.int .i64 0,.slice none 0 0,.int .i64 0]:= .s
instance ty80:Ty Tryz.prog 80 false [.slice none 0 0]:= .o
instance ty82:Ty Tryz.prog 82 false [.map none]:= .o
instance ty83:Ty Tryz.prog 83 false [.map none]:= .o
instance ty84:Ty Tryz.prog 84 false [.map none]:= .o
instance ty86:Ty Tryz.prog 86 true [.map none,.map none,.map none,.map none,.pointer none]:= .s
instance ty88:Ty Tryz.prog 88 true [.slice none 0 0]:= .s
instance ty91:Ty Tryz.prog 91 false [.pointer none]:= .o
instance ty95:Ty Tryz.prog 95 false [.pointer none]:= .o
instance ty96:Ty Tryz.prog 96 false [.pointer none]:= .o
instance ty98:Ty Tryz.prog 98 true [.pointer none,.pointer none,.pointer none,.bool false]:= .s
instance ty99:Ty Tryz.prog 99 false [.pointer none]:= .o
instance ty100:Ty Tryz.prog 100 false [.pointer none]:= .o
instance ty101:Ty Tryz.prog 101 false [.pointer none]:= .o
instance ty103:Ty Tryz.prog 103 true [.slice none 0 0,.bool false,.int .i64 0,.bool false]:= .s
instance ty105:Ty Tryz.prog 105 true [.int .i64 0,.int .i64 0,.int .i64 0,.pointer none,.int .i64 0,.int .i64 0,.int .i64 0,.bool false,.pointer none,.pointer none,.slice none 0 0,.bool false,.int .i64 0,.bool false]:= .s
instance ty110:Ty Tryz.prog 110 false [.pointer none]:= .o
instance ty113:Ty Tryz.prog 113 false [.pointer none]:= .o
instance ty114:Ty Tryz.prog 114 false [.pointer none]:= .o
instance ty116:Ty Tryz.prog 116 true [.pointer none]:= .s
instance ty129:Ty Tryz.prog 129 false [.slice none 0 0]:= .o
instance ty137:Ty Tryz.prog 137 true [.int .i64 0,.int .i64 0,.int .i64 0,.string ⟨#[]⟩]:= .s
instance ty143:Ty Tryz.prog 143 false [.map none]:= .o
instance ty145:Ty Tryz.prog 145 true [.map none,.int .i64 0]:= .s
instance ty146:Ty Tryz.prog 146 false [.slice none 0 0]:= .o
instance ty148:Ty Tryz.prog 148 true [.slice none 0 0,.int .i64 0,.bool false]:= .s
instance ty158:Ty Tryz.prog 158 true [.int .i64 0,.int .i64 0,.int .i64 0,.int .i64 0,.string ⟨#[]⟩,.string ⟨#[]⟩,.slice none 0 0]:= .s
instance ty167:Ty Tryz.prog 167 false [.slice none 0 0]:= .o
instance ty174:Ty Tryz.prog 174 true [.nilIface]:= .s
instance ty175:Ty Tryz.prog 175 false [.map none]:= .o
instance ty177:Ty Tryz.prog 177 true [.map none]:= .s
instance ty183:Ty Tryz.prog 183 true [.pointer none,.int .i64 0,.slice none 0 0,.pointer none]:= .s
instance ty184:Ty Tryz.prog 184 false [.pointer none]:= .o
instance ty186:Ty Tryz.prog 186 true [.pointer none,.slice none 0 0]:= .s
instance ty201:Ty Tryz.prog 201 true [.int .i64 0,.pointer none,.slice none 0 0]:= .s
instance ty203:Ty Tryz.prog 203 true [.int .i64 0,.int .i64 0,.string ⟨#[]⟩,.string ⟨#[]⟩,.slice none 0 0]:= .s
instance ty229:Ty Tryz.prog 229 true [.pointer none,.int .i64 0,.int .i64 0,.int .i64 0,.int .i64 0,.string ⟨#[]⟩,.string ⟨#[]⟩,.slice none 0 0,.int .i64 0]:= .s
instance ty238:Ty Tryz.prog 238 true [.bool false,.int .i64 0,.int .i64 0,.int .i64 0,.int .i64 0,.int .i64 0,.string ⟨#[]⟩]:= .s
instance ty268:Ty Tryz.prog 268 true [.int .i64 0,.int .i64 0,.int .i64 0,.int .i64 0,.slice none 0 0,.int .i64 0]:= .s
instance ty271:Ty Tryz.prog 271 true [.int .i64 0,.pointer none,.int .i64 0,.int .i64 0,.int .i64 0,.int .i64 0,.slice none 0 0,.int .i64 0,.int .i64 0,.int .i64 0,.int .i64 0,.int .i64 0,.slice none 0 0,.int .i64 0,.int .i64 0,.int .i64 0,.int .i64 0,.int .i64 0,.slice none 0 0,.int .i64 0,.int .i64 0,.int .i64 0,.int .i64 0,.int .i64 0,.slice none 0 0,.int .i64 0,.int .i64 0,.int .i64 0,.int .i64 0,.int .i64 0,.slice none 0 0,.int .i64 0,.int .i64 0,.int .i64 0,.int .i64 0,.int .i64 0,.slice none 0 0,.int .i64 0]:= .s
instance ty295:Ty Tryz.prog 295 true [.slice none 0 0,.slice none 0 0,.slice none 0 0]:= .s
instance ty312:Ty Tryz.prog 312 true [.slice none 0 0,.bool false]:= .s
instance ty338:Ty Tryz.prog 338 true [.int .i64 0,.int .i64 0,.int .i64 0,.int .i64 0,.int .i64 0,.int .i64 0,.int .i64 0,.int .i64 0]:= .s
instance ty340:Ty Tryz.prog 340 true [.int .i64 0,.int .i64 0,.int .i64 0,.int .i64 0,.int .i64 0,.int .i64 0,.int .i64 0,.int .i64 0,.int .i64 0,.int .i64 0,.int .i64 0,.int .i64 0,.int .i64 0,.int .i64 0,.int .i64 0,.int .i64 0]:= .s
instance it2:IntTy Tryz.prog 2 .i64:=⟨by kernel_rfl⟩
instance el2:El Tryz.prog 2 1 8:= .o
instance it3:IntTy Tryz.prog 3 .i64:=⟨by kernel_rfl⟩
instance el3:El Tryz.prog 3 1 8:= .o
instance it5:IntTy Tryz.prog 5 .u8:=⟨by kernel_rfl⟩
instance el5:El Tryz.prog 5 1 1:= .o
instance st9:StrTy Tryz.prog 9:=⟨by kernel_rfl⟩
instance fl29_0:Fld Tryz.prog 29 0 0 27:= .o
instance fl29_3:Fld Tryz.prog 29 3 3 4:= .o
instance su29:St Tryz.prog 29 [(0,1),(1,1),(2,1),(3,1)]:=⟨by kernel_rfl⟩
instance sl34:Sl Tryz.prog 34 137:=⟨by kernel_rfl⟩
instance fl36_0:Fld Tryz.prog 36 0 0 2:= .o
instance fl36_1:Fld Tryz.prog 36 1 1 2:= .o
instance fl36_2:Fld Tryz.prog 36 2 2 9:= .o
instance fl36_3:Fld Tryz.prog 36 3 3 9:= .o
instance su36:St Tryz.prog 36 [(0,1),(1,1),(2,1),(3,1)]:=⟨by kernel_rfl⟩
instance el38:El Tryz.prog 38 13 136:= .o
instance fl38_0:Fld Tryz.prog 38 0 0 3:= .o
instance fl38_1:Fld Tryz.prog 38 1 1 3:= .o
instance fl38_2:Fld Tryz.prog 38 2 2 3:= .o
instance fl38_3:Fld Tryz.prog 38 3 3 2:= .o
instance fl38_4:Fld Tryz.prog 38 4 4 2:= .o
instance fl38_5:Fld Tryz.prog 38 5 5 2:= .o
instance fl38_6:Fld Tryz.prog 38 6 6 2:= .o
instance fl38_7:Fld Tryz.prog 38 7 7 4:= .o
instance fl38_8:Fld Tryz.prog 38 8 8 34:= .o
instance fl38_9:Fld Tryz.prog 38 9 9 36:= .o
instance su38:St Tryz.prog 38 [(0,1),(1,1),(2,1),(3,1),(4,1),(5,1),(6,1),(7,1),(8,1),(9,4)]:=⟨by kernel_rfl⟩
instance fl44_0:Fld Tryz.prog 44 0 0 2:= .o
instance fl44_1:Fld Tryz.prog 44 1 1 3:= .o
instance su44:St Tryz.prog 44 [(0,1),(1,1)]:=⟨by kernel_rfl⟩
instance fl53_0:Fld Tryz.prog 53 0 0 3:= .o
instance fl53_1:Fld Tryz.prog 53 1 1 2:= .o
instance fl53_2:Fld Tryz.prog 53 2 2 9:= .o
instance su53:St Tryz.prog 53 [(0,1),(1,1),(2,1)]:=⟨by kernel_rfl⟩
instance el55:El Tryz.prog 55 9 96:= .o
instance fl55_0:Fld Tryz.prog 55 0 0 3:= .o
instance fl55_1:Fld Tryz.prog 55 1 1 9:= .o
instance fl55_2:Fld Tryz.prog 55 2 2 53:= .o
instance fl55_3:Fld Tryz.prog 55 3 5 53:= .o
instance fl55_4:Fld Tryz.prog 55 4 8 2:= .o
instance su55:St Tryz.prog 55 [(0,1),(1,1),(2,3),(5,3),(8,1)]:=⟨by kernel_rfl⟩
instance sl60:Sl Tryz.prog 60 68:=⟨by kernel_rfl⟩
instance sl64:Sl Tryz.prog 64 55:=⟨by kernel_rfl⟩
instance el66:El Tryz.prog 66 3 40:= .o
instance fl66_0:Fld Tryz.prog 66 0 0 3:= .o
instance fl66_1:Fld Tryz.prog 66 1 1 2:= .o
instance fl66_2:Fld Tryz.prog 66 2 2 64:= .o
instance su66:St Tryz.prog 66 [(0,1),(1,1),(2,1)]:=⟨by kernel_rfl⟩
instance el68:El Tryz.prog 68 5 56:= .o
instance fl68_0:Fld Tryz.prog 68 0 0 2:= .o
instance fl68_1:Fld Tryz.prog 68 1 1 66:= .o
instance fl68_2:Fld Tryz.prog 68 2 4 26:= .o
instance su68:St Tryz.prog 68 [(0,1),(1,3),(4,1)]:=⟨by kernel_rfl⟩
instance sl80:Sl Tryz.prog 80 38:=⟨by kernel_rfl⟩
instance fl86_0:Fld Tryz.prog 86 0 0 82:= .o
instance fl86_1:Fld Tryz.prog 86 1 1 83:= .o
instance fl86_2:Fld Tryz.prog 86 2 2 84:= .o
instance fl86_3:Fld Tryz.prog 86 3 3 84:= .o
instance fl86_4:Fld Tryz.prog 86 4 4 31:= .o
instance su86:St Tryz.prog 86 [(0,1),(1,1),(2,1),(3,1),(4,1)]:=⟨by kernel_rfl⟩
instance fl88_0:Fld Tryz.prog 88 0 0 80:= .o
instance su88:St Tryz.prog 88 [(0,1)]:=⟨by kernel_rfl⟩
instance fl98_0:Fld Tryz.prog 98 0 0 95:= .o
instance fl98_1:Fld Tryz.prog 98 1 1 45:= .o
instance fl98_2:Fld Tryz.prog 98 2 2 96:= .o
instance fl98_3:Fld Tryz.prog 98 3 3 4:= .o
instance su98:St Tryz.prog 98 [(0,1),(1,1),(2,1),(3,1)]:=⟨by kernel_rfl⟩
instance fl103_0:Fld Tryz.prog 103 0 0 80:= .o
instance fl103_1:Fld Tryz.prog 103 1 1 4:= .o
instance fl103_2:Fld Tryz.prog 103 2 2 2:= .o
instance fl103_3:Fld Tryz.prog 103 3 3 4:= .o
instance su103:St Tryz.prog 103 [(0,1),(1,1),(2,1),(3,1)]:=⟨by kernel_rfl⟩
instance fl105_0:Fld Tryz.prog 105 0 0 3:= .o
instance fl105_1:Fld Tryz.prog 105 1 1 44:= .o
instance fl105_2:Fld Tryz.prog 105 2 3 99:= .o
instance fl105_3:Fld Tryz.prog 105 3 4 2:= .o
instance fl105_4:Fld Tryz.prog 105 4 5 3:= .o
instance fl105_5:Fld Tryz.prog 105 5 6 3:= .o
instance fl105_6:Fld Tryz.prog 105 6 7 4:= .o
instance fl105_7:Fld Tryz.prog 105 7 8 100:= .o
instance fl105_8:Fld Tryz.prog 105 8 9 101:= .o
instance fl105_9:Fld Tryz.prog 105 9 10 103:= .o
instance su105:St Tryz.prog 105 [(0,1),(1,2),(3,1),(4,1),(5,1),(6,1),(7,1),(8,1),(9,1),(10,4)]:=⟨by kernel_rfl⟩
instance fl116_0:Fld Tryz.prog 116 0 0 114:= .o
instance su116:St Tryz.prog 116 [(0,1)]:=⟨by kernel_rfl⟩
instance sl129:Sl Tryz.prog 129 3:=⟨by kernel_rfl⟩
instance el137:El Tryz.prog 137 4 40:= .o
instance fl137_0:Fld Tryz.prog 137 0 0 2:= .o
instance fl137_1:Fld Tryz.prog 137 1 1 2:= .o
instance fl137_2:Fld Tryz.prog 137 2 2 3:= .o
instance fl137_3:Fld Tryz.prog 137 3 3 9:= .o
instance su137:St Tryz.prog 137 [(0,1),(1,1),(2,1),(3,1)]:=⟨by kernel_rfl⟩
instance sl140:Sl Tryz.prog 140 9:=⟨by kernel_rfl⟩
instance fl145_0:Fld Tryz.prog 145 0 0 143:= .o
instance fl145_1:Fld Tryz.prog 145 1 1 3:= .o
instance su145:St Tryz.prog 145 [(0,1),(1,1)]:=⟨by kernel_rfl⟩
instance sl146:Sl Tryz.prog 146 5:=⟨by kernel_rfl⟩
instance fl148_0:Fld Tryz.prog 148 0 0 146:= .o
instance fl148_1:Fld Tryz.prog 148 1 1 3:= .o
instance fl148_2:Fld Tryz.prog 148 2 2 4:= .o
instance su148:St Tryz.prog 148 [(0,1),(1,1),(2,1)]:=⟨by kernel_rfl⟩
instance fl158_0:Fld Tryz.prog 158 0 0 44:= .o
instance fl158_1:Fld Tryz.prog 158 1 2 36:= .o
instance fl158_2:Fld Tryz.prog 158 2 6 34:= .o
instance sl167:Sl Tryz.prog 167 66:=⟨by kernel_rfl⟩
instance fl177_0:Fld Tryz.prog 177 0 0 175:= .o
instance su177:St Tryz.prog 177 [(0,1)]:=⟨by kernel_rfl⟩
instance fl183_0:Fld Tryz.prog 183 0 0 91:= .o
instance fl183_1:Fld Tryz.prog 183 1 1 3:= .o
instance fl183_2:Fld Tryz.prog 183 2 2 167:= .o
instance fl183_3:Fld Tryz.prog 183 3 3 113:= .o
instance su183:St Tryz.prog 183 [(0,1),(1,1),(2,1),(3,1)]:=⟨by kernel_rfl⟩
instance fl186_0:Fld Tryz.prog 186 0 0 184:= .o
instance fl186_1:Fld Tryz.prog 186 1 1 60:= .o
instance su186:St Tryz.prog 186 [(0,1),(1,1)]:=⟨by kernel_rfl⟩
instance fl201_0:Fld Tryz.prog 201 0 0 2:= .o
instance fl201_1:Fld Tryz.prog 201 1 1 184:= .o
instance fl201_2:Fld Tryz.prog 201 2 2 60:= .o
instance su201:St Tryz.prog 201 [(0,1),(1,1),(2,1)]:=⟨by kernel_rfl⟩
instance fl203_0:Fld Tryz.prog 203 0 0 36:= .o
instance fl203_1:Fld Tryz.prog 203 1 4 34:= .o
instance su203:St Tryz.prog 203 [(0,4),(4,1)]:=⟨by kernel_rfl⟩
instance fl229_0:Fld Tryz.prog 229 0 0 91:= .o
instance fl229_1:Fld Tryz.prog 229 1 1 158:= .o
instance fl229_2:Fld Tryz.prog 229 2 8 3:= .o
instance su229:St Tryz.prog 229 [(0,1),(1,7),(8,1)]:=⟨by kernel_rfl⟩
instance fl238_0:Fld Tryz.prog 238 0 0 4:= .o
instance fl238_1:Fld Tryz.prog 238 1 1 44:= .o
instance fl238_2:Fld Tryz.prog 238 2 3 137:= .o
instance su238:St Tryz.prog 238 [(0,1),(1,2),(3,4)]:=⟨by kernel_rfl⟩
instance fl268_0:Fld Tryz.prog 268 0 0 2:= .o
instance fl268_1:Fld Tryz.prog 268 1 1 68:= .o
instance su268:St Tryz.prog 268 [(0,1),(1,5)]:=⟨by kernel_rfl⟩
instance fl271_0:Fld Tryz.prog 271 0 0 2:= .o
instance fl271_1:Fld Tryz.prog 271 1 1 110:= .o
instance fl271_2:Fld Tryz.prog 271 2 2 269:= .o
instance su271:St Tryz.prog 271 [(0,1),(1,1),(2,36)]:=⟨by kernel_rfl⟩
instance it279:IntTy Tryz.prog 279 .u64:=⟨by kernel_rfl⟩
instance it280:IntTy Tryz.prog 280 .u64:=⟨by kernel_rfl⟩
instance sl284:Sl Tryz.prog 284 288:=⟨by kernel_rfl⟩
instance fl295_0:Fld Tryz.prog 295 0 0 129:= .o
instance fl295_1:Fld Tryz.prog 295 1 1 129:= .o
instance fl295_2:Fld Tryz.prog 295 2 2 129:= .o
instance su295:St Tryz.prog 295 [(0,1),(1,1),(2,1)]:=⟨by kernel_rfl⟩
instance fl312_0:Fld Tryz.prog 312 0 0 146:= .o
instance fl312_1:Fld Tryz.prog 312 1 1 4:= .o
instance su312:St Tryz.prog 312 [(0,1),(1,1)]:=⟨by kernel_rfl⟩
instance sl314:Sl Tryz.prog 314 2:=⟨by kernel_rfl⟩
instance it318:IntTy Tryz.prog 318 .u32:=⟨by kernel_rfl⟩
instance fl340_0:Fld Tryz.prog 340 0 0 338:= .o
instance fl340_1:Fld Tryz.prog 340 1 8 338:= .o
instance su340:St Tryz.prog 340 [(0,8),(8,8)]:=⟨by kernel_rfl⟩
end Go.Proofs.YtgpbngfehfbndaaGreatDoor
set_option linter.unusedVariables false
namespace Ph
theorem u8n (x:Nat) (h:x<256):(x.toUInt8).toNat=x:=by simp;omega
theorem putN_last (f u:Nat) (h:u<128):putN (f+1) u= [u.toUInt8]:=by simp [putN,h]
theorem aAf (f u:Nat) (h:¬u<128):putN (f+1) u=(u % 128+128).toUInt8::putN f (u / 128):=by simp [putN,h]
theorem wM (i:Nat):128 ^ (i+1)=128 ^ i*128:=Nat.pow_succ 128 i
theorem aAg:∀(f i a u:Nat) (t:List UInt8),u<128 ^ f→i+f≤10→1≤f→(1≤i→1≤u)→(i=9→u≤1)→(∀j,i+j=9→u / 128 ^ j≤1)→
  getN i a (putN f u ++ t)=(unzig (a+u*128 ^ i),i+(putN f u).length,0)
 |0,_,_,_,_,_,_,h,_,_,_=>by omega
 |f+1,i,a,u,t,hu,hf,_,h1,h9,hj=>by
  by_cases hl:u<128
  ·rw [putN_last f u hl];have hb:=u8n u (by omega);simp only [List.cons_append,List.nil_append,getN,hb,List.length_cons,List.length_nil];rw [if_neg (by omega),if_neg (by omega),if_neg (by omega)];have:u % 128=u:=by omega
   rw [this]
  ·rw [aAf f u hl];have hb:=u8n (u % 128+128) (by omega);have hne:i≠9:=fun e=>by have:=h9 e;omega
   have hf1:1≤f:=by
    rcases Nat.eq_zero_or_pos f with h0|h0
    ·subst h0;simp at hu;omega
    ·exact h0
   simp only [List.cons_append,getN,hb,List.length_cons];rw [if_neg (by omega),if_pos (by omega)];have hd:u / 128<128 ^ f:=by
    rw [wM] at hu;omega
   rw [aAg f (i+1) _ (u / 128) t hd (by omega) hf1 (fun _=>by omega) (fun e=>by
     have:=hj 1 (by omega)
     simpa using this) (fun j e=>by
     have:=hj (j+1) (by omega);rw [Nat.div_div_eq_div_mul,Nat.mul_comm];rw [wM] at this
     exact this)]
   have e1:(u % 128+128) % 128=u % 128:=by omega
   rw [e1,wM];congr 1
   ·congr 1;have:u / 128*(128 ^ i*128)=128*(u / 128)*128 ^ i:=by
     rw [Nat.mul_comm (128 ^ i) 128,←Nat.mul_assoc,Nat.mul_comm (u / 128) 128]
    rw [this];have h2:u=u % 128+128*(u / 128):=by omega
    have h3:u*128 ^ i=(u % 128+128*(u / 128))*128 ^ i:=by rw [←h2]
    rw [h3,Nat.add_mul];omega
   ·congr 1;omega
theorem zig_small {n:Int} (h0: -9223372036854775808≤n) (h1:n≤9223372036854775807):zig n<128 ^ 10∧∀j,0+j=9→zig n / 128 ^ j≤1:=by
 have h:=aEe h0 h1;have e10:(128:Nat) ^ 10=1180591620717411303424:=by decide
 have e9:(128:Nat) ^ 9=9223372036854775808:=by decide
 refine ⟨by rw [e10];omega,fun j hj=>?_⟩;obtain rfl:j=9:=by omega
 rw [e9];omega
theorem getI_putI (n:Int) (t:List UInt8) (h0: -9223372036854775808≤n) (h1:n≤9223372036854775807):getI (putI n ++ t)=(n,(putI n).length,0):=by
 obtain ⟨a,b⟩:=zig_small h0 h1;unfold getI putI wL;rw [aAg 10 0 0 (zig n) t a (by omega) (by omega) (fun h=>by omega) (fun h=>by omega) b];simp [aEf]
theorem getT_putT (s t:List UInt8) (h:s.length≤1048576):getT (putT s ++ t)=(s,(putT s).length,0):=by
 have g:=getI_putI s.length (s ++ t) (by omega) (by omega);unfold putT getT;rw [List.append_assoc,g];simp only [List.length_append];rw [if_neg (by omega),if_neg (by omega),if_neg (by simp)];simp
theorem aAh:∀(l:List UInt8) (i u:Nat),(getN i u l).2.1≤i+l.length∧((getN i u l).2.2=0∨(getN i u l).2.2=1∨(getN i u l).2.2=2)∧((getN i u l).2.2≠0→(getN i u l).1=0∧(getN i u l).2.1=0)
 | [],i,u=>by simp [getN]
 |c::t,i,u=>by
  simp only [getN];split
  ·simp
  ·split
   ·have:=aAh t (i+1) (u+c.toNat % 128*128 ^ i);simp only [List.length_cons];exact ⟨by omega,this.2⟩
   ·split
    ·simp
    ·simp
theorem getI_le (l:List UInt8):(getI l).2.1≤l.length:=by
 have:=(aAh l 0 0).1;unfold getI;omega
open Go
theorem aEg (x:Nat) (h:x<18446744073709551616):bits .xor .u64 IntKind.u64.max (x:Int)=((18446744073709551615 - x:Nat):Int):=by
 show IntKind.u64.wrap ((BitVec.ofInt 64 IntKind.u64.max ^^^ BitVec.ofInt 64 (x:Int)).toNat:Int)=_;have h1:BitVec.ofInt 64 IntKind.u64.max=BitVec.allOnes 64:=by decide
 rw [h1,BitVec.allOnes_xor,BitVec.toNat_not,ofInt_u64 x h];rw [IntKind.wrap_u64];omega
theorem zig_neg (n:Int) (h0: -9223372036854775808≤n) (h1:n<0):bits .xor .u64 IntKind.u64.max (IntKind.u64.wrap (IntKind.u64.wrap n*2))=(zig n:Int):=by
 have e:IntKind.u64.wrap (IntKind.u64.wrap n*2)=(((2*n+18446744073709551616).toNat:Nat):Int):=by
  rw [IntKind.wrap_u64,IntKind.wrap_u64];omega
 rw [e,aEg _ (by omega)];unfold zig;rw [if_neg (by omega)];omega
theorem zig_pos (n:Int) (h0:0≤n):n*2=(zig n:Int):=by
 unfold zig;rw [if_pos h0];omega
set_option maxRecDepth 100000 in
theorem aEh:∀X:Fin 256,bits .or .u8 ((X.val:Nat):Int) 128=((X.val % 128+128:Nat):Int):=by decide
set_option maxRecDepth 100000 in
theorem aEi:∀X:Fin 256,bits .and .u8 ((X.val:Nat):Int) 127=((X.val % 128:Nat):Int):=by decide
theorem or128_at (x:Nat) (h:x<256):bits .or .u8 (x:Int) 128=((x % 128+128:Nat):Int):=aEh ⟨x,h⟩
theorem aEj (x:Nat) (h:x<256):bits .and .u8 (x:Int) 127=((x % 128:Nat):Int):=aEi ⟨x,h⟩
theorem aAi (k:Nat):(128:Nat) ^ k=2 ^ (7*k):=by
 rw [Nat.pow_mul]
theorem or_seven (x c k:Nat) (hx:x<128 ^ k) (hc:c<256) (hs:c % 128*128 ^ k<18446744073709551616) (hk:k≤9):
  bits .or .u64 (x:Int) (IntKind.u64.wrap (IntKind.u64.wrap (bits .and .u8 (c:Int) 127)*2 ^ (7*k)))=((x+c % 128*128 ^ k:Nat):Int):=by
 have e1:IntKind.u64.wrap (bits .and .u8 (c:Int) 127)=((c % 128:Nat):Int):=by
  rw [aEj c hc,IntKind.wrap_u64];omega
 have e2:((c % 128:Nat):Int)*2 ^ (7*k)=((c % 128*128 ^ k:Nat):Int):=by
  rw [aAi];simp
 have e3:IntKind.u64.wrap (((c % 128:Nat):Int)*2 ^ (7*k))=((c % 128*128 ^ k:Nat):Int):=by
  rw [e2,IntKind.wrap_u64];omega
 have h9:(128:Nat) ^ k≤128 ^ 9:=Nat.pow_le_pow_right (by omega) hk;have e9:(128:Nat) ^ 9=9223372036854775808:=by decide
 rw [e1,e3,bits_or_u64_nat x _ (by omega) hs];congr 1;rw [aAi] at hx⊢;rw [Nat.or_comm,Nat.mul_comm,←Nat.two_pow_add_eq_or_of_lt hx];omega
theorem or_last (x c:Nat) (hx:x<128 ^ 9) (hc:c≤1):
  bits .or .u64 (x:Int) (IntKind.u64.wrap (IntKind.u64.wrap (bits .and .u8 (c:Int) 127)*9223372036854775808))=((x+c % 128*128 ^ 9:Nat):Int):=by
 have e9:(128:Nat) ^ 9=9223372036854775808:=by decide
 have h:=or_seven x c 9 hx (by omega) (by rw [e9];omega) (by omega);have e2:(2:Int) ^ (7*9)=9223372036854775808:=by decide
 rw [e2] at h;exact h
theorem sum_small (x c k:Nat) (hx:x<128 ^ k) (hk:k≤8) (hc:c<256):c % 128*128 ^ k<18446744073709551616∧x+c % 128*128 ^ k<128 ^ (k+1):=by
 have h8:(128:Nat) ^ k≤128 ^ 8:=Nat.pow_le_pow_right (by omega) hk;have e8:(128:Nat) ^ 8=72057594037927936:=by decide
 have h1:c % 128*128 ^ k≤127*128 ^ k:=Nat.mul_le_mul_right _ (by omega);rw [Nat.pow_succ];omega
theorem unzig_even (y:Nat) (h:y % 2=0):unzig y=((y / 2:Nat):Int):=by unfold unzig;rw [if_neg (by omega)]
theorem unzig_odd (y:Nat) (h:y % 2=1):unzig y= -1 - ((y / 2:Nat):Int):=by unfold unzig;rw [if_pos h];omega
theorem getN_end (k x:Nat):getN k x []=(0,0,2):=rfl
theorem getN_big (k x:Nat) (c:UInt8) (t:List UInt8) (h:k=9) (hc:1<c.toNat):getN k x (c::t)=(0,0,1):=by simp only [getN];rw [if_pos ⟨h,hc⟩]
theorem getN_more (k x:Nat) (c:UInt8) (t:List UInt8) (h:k≠9) (hc:128≤c.toNat):getN k x (c::t)=getN (k+1) (x+c.toNat % 128*128 ^ k) t:=by simp only [getN];rw [if_neg (by omega),if_pos hc]
theorem getN_zero (k x:Nat) (c:UInt8) (t:List UInt8) (h:0<k) (hc:c.toNat=0):getN k x (c::t)=(0,0,1):=by simp only [getN];rw [if_neg (by omega),if_neg (by omega),if_pos ⟨h,hc⟩]
theorem getN_last (k x:Nat) (c:UInt8) (t:List UInt8) (h9:¬(k=9∧1<c.toNat)) (hc:c.toNat<128) (hz:¬(0<k∧c.toNat=0)):getN k x (c::t)=(unzig (x+c.toNat % 128*128 ^ k),k+1,0):=by simp only [getN];rw [if_neg h9,if_neg (by omega),if_neg hz]
theorem putN_split (f u:Nat) (h:¬u<128) (hu:u<128 ^ f):∃g,f=g+1∧1≤g∧u / 128<128 ^ g∧putN f u=(u % 128+128).toUInt8::putN g (u / 128):=by
 obtain ⟨g,rfl⟩:∃g,f=g+1:=by
  cases f with
  |zero=>simp at hu;omega
  |succ g=>exact ⟨g,rfl⟩
 refine ⟨g,rfl,?_,?_,aAf g u h⟩
 ·rcases Nat.eq_zero_or_pos g with h0|h0
  ·subst h0;simp at hu;omega
  ·exact h0
 ·rw [Nat.pow_succ] at hu;omega
end Ph
set_option maxRecDepth 10000
namespace Go.Proofs.YtgpbngfehfbndaaGreatDoor.Sw
open Go.RowKit Go.Sx
theorem u8w (x:Nat) (h:x<128):IntKind.u8.wrap (x:Int)=((x.toUInt8).toNat:Int):=by
 rw [IntKind.wrap_u8,Ph.u8n x (by omega)];omega
theorem u8o (x:Nat):bits .or .u8 (IntKind.u8.wrap (x:Int)) 128=(((x % 128+128).toUInt8).toNat:Int):=by
 have e:IntKind.u8.wrap (x:Int)=((x % 256:Nat):Int):=by rw [IntKind.wrap_u8];omega
 rw [e,Ph.or128_at _ (by omega),Ph.u8n _ (by omega)];omega
structure aEk where
 v:Value
 acc:List UInt8
 f:Nat
 x:Nat
theorem aEl (x:Nat):(x:Int).fdiv (2 ^ 7)=((x / 128:Nat):Int):=by
 rw [Int.fdiv_eq_ediv_of_nonneg _ (by decide)];omega
theorem eP (w0 W:World) (v:Value) (l:List UInt8) (n:Int) (R:List Res) (h0: -9223372036854775808≤n) (h1:n≤9223372036854775807) (hl:l.length≤1000000000) (hw:Has 0 w0 W (OwnB 5 v l::R)):
  Calls Tryz.prog 115 ⟨[v,.int .i64 n]⟩ W fun e W'=>∃ad cap,e= .returned (.slice ad (l ++ Ph.putI n).length cap)∧Has 0 w0 W' (OwnB 5 (.slice ad (l ++ Ph.putI n).length cap) (l ++ Ph.putI n)::R):=by
 refine enter Tryz.func115 Tryz.ntmps115 rfl rfl fun a hs=>?_;have hz:=(Ph.zig_small h0 h1).1;refine zA hs hw ?_;clear hs;intro a hs;refine eW (M:=fun a W=>Slots a 28 [(0,v),(5,.int .u64 (Ph.zig n))]∧Has 0 w0 W (OwnB 5 v l::R)) ?_ ?_
 ·refine cI hs (kt:=fun hc=>?_) (kf:=fun hc=>?_)
  ·have hn:n<0:=by simpa using hc
   refine zA hs hw ?_;clear hs;intro a hs;exact ⟨hs.of ⟨rfl,bR (Ph.zig_neg n h0 hn),trivial⟩,hw⟩
  ·have hn:0≤n:=by simpa using hc
   refine zG hs ?_;have e:IntKind.u64.wrap (IntKind.u64.wrap n*2 ^ min 1 IntKind.u64.bits)=(Ph.zig n:Int):=by
    rw [←Ph.zig_pos n hn,IntKind.wrap_u64,IntKind.wrap_u64];show (n % 18446744073709551616*2 % 18446744073709551616:Int)=_;omega
   exact ⟨hs.of ⟨rfl,bR e,trivial⟩,hw⟩
 clear hs hw;rintro a W ⟨hs,hw⟩;refine zG hs ?_;refine bY (σ:=aEk) (fun s=>[(0,s.v),(5,.int .u64 s.x)]) (fun s=>OwnB 5 s.v s.acc::R) (fun s=>s.x<128 ^ s.f∧1≤s.f∧s.f≤10∧s.acc.length+s.f≤l.length+10∧s.acc ++ Ph.putN s.f s.x=l ++ Ph.putI n) (fun s=>s.x) ⟨v,l,10,Ph.zig n⟩ ⟨hz,Nat.le_add_left 1 9,Nat.le_refl 10,by simp,rfl⟩ hs ⟨rfl,rfl,trivial⟩ hw ?_;clear hs hw;rintro ⟨v,acc,f,x⟩ a W ⟨hx,hf1,hf2,hal,he⟩ hs hw;simp only at hx hf1 hf2 hal he hs hw;refine zA hs hw ?_;clear hs;intro a hs;refine cI hs (kt:=fun hc=>?_) (kf:=fun hc=>?_)
 ·have hx':¬x<128:=by simp at hc;omega
  obtain ⟨g,rfl,hg1,hxg,hpn⟩:=Ph.putN_split f x hx' hx
  repeat (first|(refine sxv hs hw ?_;clear hs;intro a hs)|refine sxc hs ?_|(refine sxa hs hw ?_;clear hs hw;intro a b W hw hs)|(refine sxs hs hw ?_;clear hs hw;intro W hs hw))
  refine sF hs hw (k:=acc.length) (h63:=by omega) (hb:=by omega) (c:=?_);clear hs hw;intro a ad cap W hs hw;refine zA hs hw ?_;clear hs;intro a hs;have hw':=hw.d1;rw [wC (l:=acc) (m:=[(x % 128+128).toUInt8]) (by simp) (by rw [wB];exact congrArg (fun u=>bys acc ++ [Value.int .u8 u]) (u8o x))] at hw';refine bQ ⟨_,acc ++ [(x % 128+128).toUInt8],g,x / 128⟩ hs hw' ⟨hxg,hg1,by show g≤10;omega,by simp;omega,?_⟩ (by show x / 128<x;omega) ⟨rfl,bR (aEl x),trivial⟩;rw [←he,hpn];simp
 ·have hx':x<128:=by simp at hc;omega
  obtain ⟨g,rfl⟩:∃g,f=g+1:=⟨f - 1,by omega⟩
  repeat (first|(refine sxv hs hw ?_;clear hs;intro a hs)|refine sxc hs ?_|(refine sxa hs hw ?_;clear hs hw;intro a b W hw hs)|(refine sxs hs hw ?_;clear hs hw;intro W hs hw))
  refine sF hs hw (k:=acc.length) (h63:=by omega) (hb:=by omega) (c:=?_);clear hs hw;intro a ad cap W hs hw;refine zA hs hw ?_;clear hs;intro a hs;have hw':=hw.d1;have e1:acc ++ [x.toUInt8]=l ++ Ph.putI n:=by rw [←he,Ph.putN_last g x hx']
  have e2:(l ++ Ph.putI n).length=acc.length+1:=by rw [←e1];simp
  refine rt1 hs rfl rfl ⟨ad,cap,by rw [e2],?_⟩;rw [wC (l:=acc) (m:=[x.toUInt8]) (by simp) (by rw [wB];exact congrArg (fun u=>bys acc ++ [Value.int .u8 u]) (u8w x hx'))] at hw';rw [e2,←e1];exact hw'
theorem aEm (s:ByteArray):Ph.putI (s.size:Int) ++ s.data.toList=Ph.putT s.data.toList:=by
 unfold Ph.putT;rw [show (s.data.toList.length:Int)=(s.size:Int) from by rw [Array.length_toList];rfl]
theorem aEn {P:Program} {T:TypeId} [t:StrTy P T] (s:ByteArray) (W:World):Src P 1 T (.string s) s.data.toList.length (bys s.data.toList) W:=by
 have:=aE8 (P:=P) (S:=T) (W:=W) s;rwa [show s.size=s.data.toList.length from by rw [Array.length_toList];rfl] at this
theorem pO (w0 W:World) (v:Value) (l:List UInt8) (s:ByteArray) (R:List Res) (hs0:s.size≤1000000000) (hl:l.length≤1000000000) (hw:Has 0 w0 W (OwnB 5 v l::R)):
  Calls Tryz.prog 116 ⟨[v,.string s]⟩ W fun e W'=>∃ad cap,e= .returned (.slice ad (l ++ Ph.putT s.data.toList).length cap)∧Has 0 w0 W' (OwnB 5 (.slice ad (l ++ Ph.putT s.data.toList).length cap) (l ++ Ph.putT s.data.toList)::R):=by
 have e:=aEm s;have hd:s.data.toList.length=s.size:=by rw [Array.length_toList];rfl
 have hp:=Ph.putI_length_le (s.size:Int);refine enter Tryz.func116 Tryz.ntmps116 rfl rfl fun a hs=>?_;refine zA hs hw ?_;clear hs;intro a hs;refine aG hs (hc:=eP w0 W v l s.size R (by omega) (by omega) hl hw) (k:=?_);rintro e0 W1 ⟨ad,cap,rfl,hw1⟩;refine ⟨_,rfl,?_⟩;clear hs hw;intro a hs;have hw:=hw1;clear hw1;refine zA hs hw ?_;clear hs;intro a hs;refine iK hs hw (l:=l ++ Ph.putI (s.size:Int)) (m:=s.data.toList) (hr:=aEn s W1) (hb:=by rw [List.length_append];omega) (c:=?_);clear hs hw;intro a ad cap W hs hw;refine zA hs hw ?_;clear hs;intro a hs;rw [List.append_assoc,e] at hs hw;exact rt1 hs rfl rfl ⟨ad,cap,rfl,hw⟩
def cY (k n:Int) (s:ByteArray):List UInt8:=Ph.putI k ++ (if k=1 then Ph.putI n else if k=2 then Ph.putT s.data.toList else [])
theorem wN (w0 W:World) (v:Value) (l:List UInt8) (k n:Int) (s:ByteArray) (R:List Res) (hk0: -9223372036854775808≤k) (hk1:k≤9223372036854775807) (h0: -9223372036854775808≤n) (h1:n≤9223372036854775807) (hs0:s.size≤1000000000) (hl:l.length≤900000000) (hw:Has 0 w0 W (OwnB 5 v l::R)):
  Calls Tryz.prog 258 ⟨[v,.agg #[.int .i64 k,.int .i64 n,.string s]]⟩ W fun e W'=>∃ad cap,e= .returned (.slice ad (l ++ cY k n s).length cap)∧Has 0 w0 W' (OwnB 5 (.slice ad (l ++ cY k n s).length cap) (l ++ cY k n s)::R):=by
 have hpk:=Ph.putI_length_le k;refine enter Tryz.func258 Tryz.ntmps258 rfl rfl fun a hs=>?_
 repeat (first|(refine sxv hs hw ?_;clear hs;intro a hs)|refine sxc hs ?_|(refine sxa hs hw ?_;clear hs hw;intro a b W hw hs)|(refine sxs hs hw ?_;clear hs hw;intro W hs hw))
 refine aG hs (hc:=eP w0 _ v l k _ hk0 hk1 (by omega) (hw.pick (by repeat (first|exact Pick.hd|apply Pick.tl)))) (k:=?_);rintro e0 W1 ⟨ad,cap,rfl,hw1⟩;refine ⟨_,rfl,?_⟩;clear hs hw;intro a hs;have hw:=hw1;clear hw1;refine zA hs hw ?_;clear hs;intro a hs;refine cI hs (kt:=fun hc=>?_) (kf:=fun hc=>?_)
 ·have hk:k=1:=by simpa using hc
  subst hk;refine zA hs hw ?_;clear hs;intro a hs;refine aG hs (hc:=eP w0 _ _ (l ++ Ph.putI 1) n _ h0 h1 (by rw [List.length_append];omega) (hw.pick (by repeat (first|exact Pick.hd|apply Pick.tl)))) (k:=?_);rintro e0 W1 ⟨ad,cap,rfl,hw1⟩;refine ⟨_,rfl,?_⟩;clear hs hw;intro a hs;have hw:=hw1;clear hw1;refine zA hs hw ?_;clear hs;intro a hs;have e:l ++ cY 1 n s=l ++ Ph.putI 1 ++ Ph.putI n:=by rw [List.append_assoc];rfl
  rw [←e] at hs hw;exact rt1 hs rfl rfl ⟨ad,cap,rfl,(hw.pick (by repeat (first|exact Pick.hd|apply Pick.tl))).sub (by repeat (first|exact List.Sublist.refl _|apply List.Sublist.cons_cons|apply List.Sublist.cons))⟩
 ·have hk:¬k=1:=by simpa using hc
  refine zA hs hw ?_;clear hs;intro a hs;refine cI hs (kt:=fun hc=>?_) (kf:=fun hc=>?_)
  ·have hk2:k=2:=by simpa using hc
   subst hk2;refine zA hs hw ?_;clear hs;intro a hs;refine aG hs (hc:=pO w0 _ _ (l ++ Ph.putI 2) s _ hs0 (by rw [List.length_append];omega) (hw.pick (by repeat (first|exact Pick.hd|apply Pick.tl)))) (k:=?_);rintro e0 W1 ⟨ad,cap,rfl,hw1⟩;refine ⟨_,rfl,?_⟩;clear hs hw;intro a hs;have hw:=hw1;clear hw1;refine zA hs hw ?_;clear hs;intro a hs;have e:l ++ cY 2 n s=l ++ Ph.putI 2 ++ Ph.putT s.data.toList:=by rw [List.append_assoc];rfl
   rw [←e] at hs hw;exact rt1 hs rfl rfl ⟨ad,cap,rfl,(hw.pick (by repeat (first|exact Pick.hd|apply Pick.tl))).sub (by repeat (first|exact List.Sublist.refl _|apply List.Sublist.cons_cons|apply List.Sublist.cons))⟩
  ·have hk2:¬k=2:=by simpa using hc
   refine zA hs hw ?_;clear hs;intro a hs;have e:l ++ cY k n s=l ++ Ph.putI k:=by unfold cY;rw [if_neg hk,if_neg hk2,List.append_nil]
   rw [←e] at hs hw;exact rt1 hs rfl rfl ⟨ad,cap,rfl,(hw.pick (by repeat (first|exact Pick.hd|apply Pick.tl))).sub (by repeat (first|exact List.Sublist.refl _|apply List.Sublist.cons_cons|apply List.Sublist.cons))⟩
end Go.Proofs.YtgpbngfehfbndaaGreatDoor.Sw
namespace Go.Proofs.YtgpbngfehfbndaaGreatDoor
open Go.RowKit
theorem aB2:(Tryz.prog.info? 5).map (fun i=>(i.zero,i.size,i.bytes))=some (some (.int .u8 0),1,1):=by kernel_rfl
theorem aGS {a a' b b' c c':Int} (h1:a=a') (h2:b=b') (h3:c=c'):Ending.returned (.tuple #[.int .i64 a,.int .i64 b,.int .i64 c])= .returned (.tuple #[.int .i64 a',.int .i64 b',.int .i64 c']):=by rw [h1,h2,h3]
def mB (w:World) (B:Nat) (v:Value) (l:List UInt8):Prop:=w.ownsRow B 5 1 v l.length (Lib.byteCells l)
theorem u8w (x:Nat) (h:x<128):IntKind.u8.wrap (x:Int)=((x.toUInt8).toNat:Int):=by
 rw [IntKind.wrap_u8,Ph.u8n x (by omega)];omega
theorem u8p (x:Nat) (h:x<128):(x:Int)=((x.toUInt8).toNat:Int):=by rw [Ph.u8n x (by omega)]
theorem u8o (x:Nat):bits .or .u8 (IntKind.u8.wrap (x:Int)) 128=(((x % 128+128).toUInt8).toNat:Int):=by
 have e:IntKind.u8.wrap (x:Int)=((x % 256:Nat):Int):=by rw [IntKind.wrap_u8];omega
 rw [e,Ph.or128_at _ (by omega),Ph.u8n _ (by omega)];omega
set_option maxRecDepth 100000 in
theorem aGT (B:Nat) (v:Value) (l:List UInt8) (n:Int) (w:World) (h0: -9223372036854775808≤n) (h1:n≤9223372036854775807) (hn:0≤n) (ho:mB w B v l) (hl:l.length≤1000000000) (hB:B≤w.heap.size):
  Calls Tryz.prog 115 #[v,.int .i64 n] w fun e w'=>∃v',e= .returned v'∧mB w' B v' (l ++ Ph.putI n)∧Below B w w'∧B≤w'.heap.size:=by
 obtain ⟨ib,hib,hbz,hbs,hbb⟩:=info_parts aB2;have HO:Hid (w.ownsRow B 5 1 v l.length (Lib.byteCells l)):=ho;have HZ:=Lib.hid (Ph.zig_small h0 h1).1;clear ho
 go_enter Tryz.func115,Tryz.ntmps115
 go_wp2
 go_loopw [0,5] (fun b u wr=>∃(acc:List UInt8) (f x:Nat),u= .int .u64 x∧Hid (x<128 ^ f)∧1≤f∧f≤10∧acc.length+f≤l.length+10∧Hid (wr.ownsRow B 5 1 b acc.length (Lib.byteCells acc))∧Below B w wr∧B≤wr.heap.size∧Hid (acc ++ Ph.putN f x=l ++ Ph.putI n)) (fun _ u _=>(intOf u).toNat)
 case atStart=>exact ⟨l,10,Ph.zig n,by rw [Ph.zig_pos n hn],HZ.out,by omega,by omega,by omega,HO.out,Below.refl _ _,hB,rfl⟩
 case round=>
  obtain ⟨acc,f,x,rfl,HX,hf1,hf2,hal,HR,hbw,hBw,HE⟩:=hrel;have hr:=HR.out
  by_cases hx:x<128
  ·have hx':(x:Int)≤127:=by omega
   go_wp2_with (at_builtin;refine wpList_append_own _ rfl (.tmp 23) (.tmp 26) 146 rfl (B) 5 ib (.int .u8 0) 1 1 Tryz.underlying146 hib hbz hbs hbb rfl (by decide) _ acc.length _ rfl (hr.alloc _) ⟨wr.heap.size,0,none⟩ 1 1 [?xv] rfl rfl ?c1 ?c2 ?c3 ?c4 ?c5 ?_)
   case c1=>exact (cell_one_new _ _ _)
   case c2=>simp [Value.oneCell']
   case c3=>unfold maxLen;omega
   case c4=>omega
   case c5=>simp;omega
   intro b1 w1 hr1 hg1 _;have hb1:Below (B) w w1:=(hbw.alloc hBw _).grown hg1 (by simp;omega) (fun g hg=>(hr.lt g hg).1);have hB1:B≤w1.heap.size:=by have:=hg1.size;simp at this;omega
   have hr2:=sR (c:=x.toUInt8) hr1 (u8p x hx);have HF:Hid (acc ++ [x.toUInt8]=l ++ Ph.putI n):=by
    show _=_;rw [←HE.out];obtain ⟨g,rfl⟩:∃g,f=g+1:=⟨f - 1,by omega⟩
    rw [Ph.putN_last g x hx]
   clear hr hr1
   go_wp2
   go_ret
   refine ⟨_,rfl,?_,hb1,hB1⟩;unfold mB;rw [←HF.out];exact hr2
  ·have hx':(127:Int)<(x:Int):=by omega
   obtain ⟨g,hfg,hg1',hxg,hpn⟩:=Ph.putN_split f x hx HX.out;have HPN:=Lib.hid hpn;have HXG:=Lib.hid hxg;clear hpn hxg
   go_wp2_with (at_builtin;refine wpList_append_own _ rfl (.tmp 15) (.tmp 19) 146 rfl (B) 5 ib (.int .u8 0) 1 1 Tryz.underlying146 hib hbz hbs hbb rfl (by decide) _ acc.length _ rfl (hr.alloc _) ⟨wr.heap.size,0,none⟩ 1 1 [?yv] rfl rfl ?d1 ?d2 ?d3 ?d4 ?d5 ?_)
   case d1=>exact (cell_one_new _ _ _)
   case d2=>simp [Value.oneCell']
   case d3=>unfold maxLen;omega
   case d4=>omega
   case d5=>simp;omega
   intro b1 w1 hr1 hg1 _;have hb1:Below (B) w w1:=(hbw.alloc hBw _).grown hg1 (by simp;omega) (fun g hg=>(hr.lt g hg).1);have hB1:B≤w1.heap.size:=by have:=hg1.size;simp at this;omega
   have hr2:=sR (c:=(x % 128+128).toUInt8) hr1 (u8o x);have HF:Hid (acc ++ [(x % 128+128).toUInt8] ++ Ph.putN g (x / 128)=l ++ Ph.putI n):=by
    show _=_;rw [←HE.out,HPN.out];simp
   have HR2:=Lib.hid hr2;clear hr hr1 hr2
   go_wp2
   go_roundw
   case rel=>exact ⟨acc ++ [(x % 128+128).toUInt8],g,x / 128,by go_num,HXG.out,hg1',by omega,by simp;omega,HR2.out,hb1,hB1,HF.out⟩
   case measure=>simp [intOf];omega
set_option maxRecDepth 100000 in
theorem aGU (B:Nat) (v:Value) (l:List UInt8) (n:Int) (w:World) (h0: -9223372036854775808≤n) (h1:n≤9223372036854775807) (hn:n<0) (ho:mB w B v l) (hl:l.length≤1000000000) (hB:B≤w.heap.size):
  Calls Tryz.prog 115 #[v,.int .i64 n] w fun e w'=>∃v',e= .returned v'∧mB w' B v' (l ++ Ph.putI n)∧Below B w w'∧B≤w'.heap.size:=by
 obtain ⟨ib,hib,hbz,hbs,hbb⟩:=info_parts aB2;have HO:Hid (w.ownsRow B 5 1 v l.length (Lib.byteCells l)):=ho;have HZ:=Lib.hid (Ph.zig_small h0 h1).1;clear ho
 go_enter Tryz.func115,Tryz.ntmps115
 go_wp2
 go_loopw [0,5] (fun b u wr=>∃(acc:List UInt8) (f x:Nat),u= .int .u64 x∧Hid (x<128 ^ f)∧1≤f∧f≤10∧acc.length+f≤l.length+10∧Hid (wr.ownsRow B 5 1 b acc.length (Lib.byteCells acc))∧Below B w wr∧B≤wr.heap.size∧Hid (acc ++ Ph.putN f x=l ++ Ph.putI n)) (fun _ u _=>(intOf u).toNat)
 case atStart=>exact ⟨l,10,Ph.zig n,by rw [Ph.zig_neg n h0 hn],HZ.out,by omega,by omega,by omega,HO.out,Below.refl _ _,hB,rfl⟩
 case round=>
  obtain ⟨acc,f,x,rfl,HX,hf1,hf2,hal,HR,hbw,hBw,HE⟩:=hrel;have hr:=HR.out
  by_cases hx:x<128
  ·have hx':(x:Int)≤127:=by omega
   go_wp2_with (at_builtin;refine wpList_append_own _ rfl (.tmp 23) (.tmp 26) 146 rfl (B) 5 ib (.int .u8 0) 1 1 Tryz.underlying146 hib hbz hbs hbb rfl (by decide) _ acc.length _ rfl (hr.alloc _) ⟨wr.heap.size,0,none⟩ 1 1 [?xv] rfl rfl ?c1 ?c2 ?c3 ?c4 ?c5 ?_)
   case c1=>exact (cell_one_new _ _ _)
   case c2=>simp [Value.oneCell']
   case c3=>unfold maxLen;omega
   case c4=>omega
   case c5=>simp;omega
   intro b1 w1 hr1 hg1 _;have hb1:Below (B) w w1:=(hbw.alloc hBw _).grown hg1 (by simp;omega) (fun g hg=>(hr.lt g hg).1);have hB1:B≤w1.heap.size:=by have:=hg1.size;simp at this;omega
   have hr2:=sR (c:=x.toUInt8) hr1 (u8p x hx);have HF:Hid (acc ++ [x.toUInt8]=l ++ Ph.putI n):=by
    show _=_;rw [←HE.out];obtain ⟨g,rfl⟩:∃g,f=g+1:=⟨f - 1,by omega⟩
    rw [Ph.putN_last g x hx]
   clear hr hr1
   go_wp2
   go_ret
   refine ⟨_,rfl,?_,hb1,hB1⟩;unfold mB;rw [←HF.out];exact hr2
  ·have hx':(127:Int)<(x:Int):=by omega
   obtain ⟨g,hfg,hg1',hxg,hpn⟩:=Ph.putN_split f x hx HX.out;have HPN:=Lib.hid hpn;have HXG:=Lib.hid hxg;clear hpn hxg
   go_wp2_with (at_builtin;refine wpList_append_own _ rfl (.tmp 15) (.tmp 19) 146 rfl (B) 5 ib (.int .u8 0) 1 1 Tryz.underlying146 hib hbz hbs hbb rfl (by decide) _ acc.length _ rfl (hr.alloc _) ⟨wr.heap.size,0,none⟩ 1 1 [?yv] rfl rfl ?d1 ?d2 ?d3 ?d4 ?d5 ?_)
   case d1=>exact (cell_one_new _ _ _)
   case d2=>simp [Value.oneCell']
   case d3=>unfold maxLen;omega
   case d4=>omega
   case d5=>simp;omega
   intro b1 w1 hr1 hg1 _;have hb1:Below (B) w w1:=(hbw.alloc hBw _).grown hg1 (by simp;omega) (fun g hg=>(hr.lt g hg).1);have hB1:B≤w1.heap.size:=by have:=hg1.size;simp at this;omega
   have hr2:=sR (c:=(x % 128+128).toUInt8) hr1 (u8o x);have HF:Hid (acc ++ [(x % 128+128).toUInt8] ++ Ph.putN g (x / 128)=l ++ Ph.putI n):=by
    show _=_;rw [←HE.out,HPN.out];simp
   have HR2:=Lib.hid hr2;clear hr hr1 hr2
   go_wp2
   go_roundw
   case rel=>exact ⟨acc ++ [(x % 128+128).toUInt8],g,x / 128,by go_num,HXG.out,hg1',by omega,by simp;omega,HR2.out,hb1,hB1,HF.out⟩
   case measure=>simp [intOf];omega
theorem eP (B:Nat) (v:Value) (l:List UInt8) (n:Int) (w:World) (h0: -9223372036854775808≤n) (h1:n≤9223372036854775807) (ho:mB w B v l) (hl:l.length≤1000000000) (hB:B≤w.heap.size):
  Calls Tryz.prog 115 #[v,.int .i64 n] w fun e w'=>∃v',e= .returned v'∧mB w' B v' (l ++ Ph.putI n)∧Below B w w'∧B≤w'.heap.size:=by
 by_cases hn:n<0
 ·exact aGU B v l n w h0 h1 hn ho hl hB
 ·exact aGT B v l n w h0 h1 (by omega) ho hl hB
end Go.Proofs.YtgpbngfehfbndaaGreatDoor
