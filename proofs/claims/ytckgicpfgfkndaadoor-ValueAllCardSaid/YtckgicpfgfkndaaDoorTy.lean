/-
  What is known of the seat's types: an instance each (printed by gen_types.py).
-/
import Derived.Test.YtckgicpfgfkndaaDoorProg
import Derived.Test.YtckgicpfgfkndaaDoorSx
namespace Go.Proofs.YtckgicpfgfkndaaDoor
open Go.Sx
instance ty1 : Ty Tryd.prog 1 false [Value.nilFunc] := .mk' (v := Value.nilFunc) (k := 1) (by kernel_rfl) (by kernel_rfl) rfl rfl
instance ty2 : Ty Tryd.prog 2 false [Value.int .i64 0] := .mk' (v := Value.int .i64 0) (k := 1) (by kernel_rfl) (by kernel_rfl) rfl rfl
instance ty3 : Ty Tryd.prog 3 false [Value.int .i64 0] := .mk' (v := Value.int .i64 0) (k := 1) (by kernel_rfl) (by kernel_rfl) rfl rfl
instance ty4 : Ty Tryd.prog 4 false [Value.bool false] := .mk' (v := Value.bool false) (k := 1) (by kernel_rfl) (by kernel_rfl) rfl rfl
instance ty5 : Ty Tryd.prog 5 false [Value.int .u8 0] := .mk' (v := Value.int .u8 0) (k := 1) (by kernel_rfl) (by kernel_rfl) rfl rfl
instance ty6 : Ty Tryd.prog 6 false [Value.int .u8 0] := .mk' (v := Value.int .u8 0) (k := 1) (by kernel_rfl) (by kernel_rfl) rfl rfl
instance ty7 : Ty Tryd.prog 7 true [Value.int .i64 0, Value.int .i64 0, Value.bool false, Value.int .u8 0] := .mk' (v := .agg #[Value.int .i64 0, Value.int .i64 0, Value.bool false, Value.int .u8 0]) (k := 4) (by kernel_rfl) (by kernel_rfl) rfl rfl
instance ty8 : Ty Tryd.prog 8 true [Value.int .i64 0, Value.int .i64 0, Value.bool false, Value.int .u8 0] := .mk' (v := .agg #[Value.int .i64 0, Value.int .i64 0, Value.bool false, Value.int .u8 0]) (k := 4) (by kernel_rfl) (by kernel_rfl) rfl rfl
instance ty9 : Ty Tryd.prog 9 false [Value.string ⟨#[]⟩] := .mk' (v := Value.string ⟨#[]⟩) (k := 1) (by kernel_rfl) (by kernel_rfl) rfl rfl
instance ty10 : Ty Tryd.prog 10 false [Value.string ⟨#[]⟩] := .mk' (v := Value.string ⟨#[]⟩) (k := 1) (by kernel_rfl) (by kernel_rfl) rfl rfl
instance ty11 : Ty Tryd.prog 11 false [Value.string ⟨#[]⟩] := .mk' (v := Value.string ⟨#[]⟩) (k := 1) (by kernel_rfl) (by kernel_rfl) rfl rfl
instance ty12 : Ty Tryd.prog 12 false [Value.int .u64 0] := .mk' (v := Value.int .u64 0) (k := 1) (by kernel_rfl) (by kernel_rfl) rfl rfl
instance ty13 : Ty Tryd.prog 13 true [Value.string ⟨#[]⟩, Value.int .u64 0] := .mk' (v := .agg #[Value.string ⟨#[]⟩, Value.int .u64 0]) (k := 2) (by kernel_rfl) (by kernel_rfl) rfl rfl
instance ty14 : Ty Tryd.prog 14 true [Value.string ⟨#[]⟩, Value.int .u64 0] := .mk' (v := .agg #[Value.string ⟨#[]⟩, Value.int .u64 0]) (k := 2) (by kernel_rfl) (by kernel_rfl) rfl rfl
instance ty15 : Ty Tryd.prog 15 false [Value.pointer none] := .mk' (v := Value.pointer none) (k := 1) (by kernel_rfl) (by kernel_rfl) rfl rfl
instance ty16 : Ty Tryd.prog 16 false [Value.pointer none] := .mk' (v := Value.pointer none) (k := 1) (by kernel_rfl) (by kernel_rfl) rfl rfl
instance ty17 : Ty Tryd.prog 17 false [Value.pointer none] := .mk' (v := Value.pointer none) (k := 1) (by kernel_rfl) (by kernel_rfl) rfl rfl
instance ty18 : Ty Tryd.prog 18 true [Value.pointer none] := .mk' (v := .agg #[Value.pointer none]) (k := 1) (by kernel_rfl) (by kernel_rfl) rfl rfl
instance ty19 : Ty Tryd.prog 19 true [Value.pointer none] := .mk' (v := .agg #[Value.pointer none]) (k := 1) (by kernel_rfl) (by kernel_rfl) rfl rfl
instance ty20 : Ty Tryd.prog 20 false [Value.nilIface] := .mk' (v := Value.nilIface) (k := 1) (by kernel_rfl) (by kernel_rfl) rfl rfl
instance ty21 : Ty Tryd.prog 21 false [Value.int .i32 0] := .mk' (v := Value.int .i32 0) (k := 1) (by kernel_rfl) (by kernel_rfl) rfl rfl
instance ty22 : Ty Tryd.prog 22 true [Value.int .i64 0, Value.int .i64 0, Value.string ⟨#[]⟩] := .mk' (v := .agg #[Value.int .i64 0, Value.int .i64 0, Value.string ⟨#[]⟩]) (k := 3) (by kernel_rfl) (by kernel_rfl) rfl rfl
instance ty23 : Ty Tryd.prog 23 true [Value.int .i64 0, Value.int .i64 0, Value.string ⟨#[]⟩] := .mk' (v := .agg #[Value.int .i64 0, Value.int .i64 0, Value.string ⟨#[]⟩]) (k := 3) (by kernel_rfl) (by kernel_rfl) rfl rfl
instance ty24 : Ty Tryd.prog 24 false [Value.nilFunc] := .mk' (v := Value.nilFunc) (k := 1) (by kernel_rfl) (by kernel_rfl) rfl rfl
instance ty25 : Ty Tryd.prog 25 false [Value.nilFunc] := .mk' (v := Value.nilFunc) (k := 1) (by kernel_rfl) (by kernel_rfl) rfl rfl
instance ty26 : Ty Tryd.prog 26 false [Value.nilIface] := .mk' (v := Value.nilIface) (k := 1) (by kernel_rfl) (by kernel_rfl) rfl rfl
instance ty27 : Ty Tryd.prog 27 false [Value.nilIface] := .mk' (v := Value.nilIface) (k := 1) (by kernel_rfl) (by kernel_rfl) rfl rfl
instance ty28 : Ty Tryd.prog 28 true [Value.nilIface] := .mk' (v := .agg #[Value.nilIface]) (k := 1) (by kernel_rfl) (by kernel_rfl) rfl rfl
instance ty29 : Ty Tryd.prog 29 true [Value.nilIface] := .mk' (v := .agg #[Value.nilIface]) (k := 1) (by kernel_rfl) (by kernel_rfl) rfl rfl
instance ty30 : Ty Tryd.prog 30 false [Value.int .i64 0] := .mk' (v := Value.int .i64 0) (k := 1) (by kernel_rfl) (by kernel_rfl) rfl rfl
instance ty32 : Ty Tryd.prog 32 false [Value.nilFunc] := .mk' (v := Value.nilFunc) (k := 1) (by kernel_rfl) (by kernel_rfl) rfl rfl
instance ty33 : Ty Tryd.prog 33 false [Value.nilFunc] := .mk' (v := Value.nilFunc) (k := 1) (by kernel_rfl) (by kernel_rfl) rfl rfl
instance ty34 : Ty Tryd.prog 34 false [Value.nilFunc] := .mk' (v := Value.nilFunc) (k := 1) (by kernel_rfl) (by kernel_rfl) rfl rfl
instance ty36 : Ty Tryd.prog 36 false [Value.nilFunc] := .mk' (v := Value.nilFunc) (k := 1) (by kernel_rfl) (by kernel_rfl) rfl rfl
instance ty37 : Ty Tryd.prog 37 false [Value.nilFunc] := .mk' (v := Value.nilFunc) (k := 1) (by kernel_rfl) (by kernel_rfl) rfl rfl
instance ty38 : Ty Tryd.prog 38 false [Value.nilFunc] := .mk' (v := Value.nilFunc) (k := 1) (by kernel_rfl) (by kernel_rfl) rfl rfl
instance ty39 : Ty Tryd.prog 39 false [Value.nilFunc] := .mk' (v := Value.nilFunc) (k := 1) (by kernel_rfl) (by kernel_rfl) rfl rfl
instance ty40 : Ty Tryd.prog 40 false [Value.nilFunc] := .mk' (v := Value.nilFunc) (k := 1) (by kernel_rfl) (by kernel_rfl) rfl rfl
instance ty41 : Ty Tryd.prog 41 false [Value.slice none 0 0] := .mk' (v := Value.slice none 0 0) (k := 1) (by kernel_rfl) (by kernel_rfl) rfl rfl
instance ty42 : Ty Tryd.prog 42 false [Value.nilFunc] := .mk' (v := Value.nilFunc) (k := 1) (by kernel_rfl) (by kernel_rfl) rfl rfl
instance ty43 : Ty Tryd.prog 43 false [Value.nilFunc] := .mk' (v := Value.nilFunc) (k := 1) (by kernel_rfl) (by kernel_rfl) rfl rfl
instance ty44 : Ty Tryd.prog 44 false [Value.nilFunc] := .mk' (v := Value.nilFunc) (k := 1) (by kernel_rfl) (by kernel_rfl) rfl rfl
instance ty45 : Ty Tryd.prog 45 false [Value.nilFunc] := .mk' (v := Value.nilFunc) (k := 1) (by kernel_rfl) (by kernel_rfl) rfl rfl
instance ty46 : Ty Tryd.prog 46 false [Value.nilFunc] := .mk' (v := Value.nilFunc) (k := 1) (by kernel_rfl) (by kernel_rfl) rfl rfl
instance ty47 : Ty Tryd.prog 47 false [Value.nilFunc] := .mk' (v := Value.nilFunc) (k := 1) (by kernel_rfl) (by kernel_rfl) rfl rfl
instance ty49 : Ty Tryd.prog 49 false [Value.nilFunc] := .mk' (v := Value.nilFunc) (k := 1) (by kernel_rfl) (by kernel_rfl) rfl rfl
instance ty50 : Ty Tryd.prog 50 false [Value.nilFunc] := .mk' (v := Value.nilFunc) (k := 1) (by kernel_rfl) (by kernel_rfl) rfl rfl
instance ty51 : Ty Tryd.prog 51 false [Value.nilFunc] := .mk' (v := Value.nilFunc) (k := 1) (by kernel_rfl) (by kernel_rfl) rfl rfl
instance ty52 : Ty Tryd.prog 52 false [Value.nilFunc] := .mk' (v := Value.nilFunc) (k := 1) (by kernel_rfl) (by kernel_rfl) rfl rfl
instance ty53 : Ty Tryd.prog 53 false [Value.int .i64 0] := .mk' (v := Value.int .i64 0) (k := 1) (by kernel_rfl) (by kernel_rfl) rfl rfl
instance ty54 : Ty Tryd.prog 54 false [Value.nilFunc] := .mk' (v := Value.nilFunc) (k := 1) (by kernel_rfl) (by kernel_rfl) rfl rfl
instance ty55 : Ty Tryd.prog 55 false [Value.string ⟨#[]⟩] := .mk' (v := Value.string ⟨#[]⟩) (k := 1) (by kernel_rfl) (by kernel_rfl) rfl rfl
instance ty57 : Ty Tryd.prog 57 false [Value.nilFunc] := .mk' (v := Value.nilFunc) (k := 1) (by kernel_rfl) (by kernel_rfl) rfl rfl
instance ty58 : Ty Tryd.prog 58 false [Value.nilFunc] := .mk' (v := Value.nilFunc) (k := 1) (by kernel_rfl) (by kernel_rfl) rfl rfl
instance ty59 : Ty Tryd.prog 59 false [Value.slice none 0 0] := .mk' (v := Value.slice none 0 0) (k := 1) (by kernel_rfl) (by kernel_rfl) rfl rfl
instance ty60 : Ty Tryd.prog 60 false [Value.slice none 0 0] := .mk' (v := Value.slice none 0 0) (k := 1) (by kernel_rfl) (by kernel_rfl) rfl rfl
instance ty62 : Ty Tryd.prog 62 false [Value.nilFunc] := .mk' (v := Value.nilFunc) (k := 1) (by kernel_rfl) (by kernel_rfl) rfl rfl
instance ty63 : Ty Tryd.prog 63 false [Value.nilFunc] := .mk' (v := Value.nilFunc) (k := 1) (by kernel_rfl) (by kernel_rfl) rfl rfl
instance ty64 : Ty Tryd.prog 64 false [Value.nilFunc] := .mk' (v := Value.nilFunc) (k := 1) (by kernel_rfl) (by kernel_rfl) rfl rfl
instance ty66 : Ty Tryd.prog 66 false [Value.nilFunc] := .mk' (v := Value.nilFunc) (k := 1) (by kernel_rfl) (by kernel_rfl) rfl rfl
instance ty68 : Ty Tryd.prog 68 false [Value.nilFunc] := .mk' (v := Value.nilFunc) (k := 1) (by kernel_rfl) (by kernel_rfl) rfl rfl
instance ty69 : Ty Tryd.prog 69 false [Value.int .u64 0] := .mk' (v := Value.int .u64 0) (k := 1) (by kernel_rfl) (by kernel_rfl) rfl rfl
instance ty71 : Ty Tryd.prog 71 false [Value.nilFunc] := .mk' (v := Value.nilFunc) (k := 1) (by kernel_rfl) (by kernel_rfl) rfl rfl
instance ty72 : Ty Tryd.prog 72 false [Value.int .u64 0] := .mk' (v := Value.int .u64 0) (k := 1) (by kernel_rfl) (by kernel_rfl) rfl rfl
instance ty73 : Ty Tryd.prog 73 false [Value.nilFunc] := .mk' (v := Value.nilFunc) (k := 1) (by kernel_rfl) (by kernel_rfl) rfl rfl
instance ty75 : Ty Tryd.prog 75 true [Value.int .u8 0, Value.int .u8 0] := .mk' (v := .agg #[Value.int .u8 0, Value.int .u8 0]) (k := 2) (by kernel_rfl) (by kernel_rfl) rfl rfl
instance ty76 : Ty Tryd.prog 76 true [Value.int .u8 0, Value.int .u8 0] := .mk' (v := .agg #[Value.int .u8 0, Value.int .u8 0]) (k := 2) (by kernel_rfl) (by kernel_rfl) rfl rfl
instance ty77 : Ty Tryd.prog 77 true [Value.int .u8 0, Value.int .u8 0, Value.int .u8 0, Value.int .u8 0, Value.int .u8 0, Value.int .u8 0, Value.int .u8 0, Value.int .u8 0, Value.int .u8 0, Value.int .u8 0, Value.int .u8 0, Value.int .u8 0, Value.int .u8 0, Value.int .u8 0, Value.int .u8 0, Value.int .u8 0, Value.int .u8 0, Value.int .u8 0, Value.int .u8 0, Value.int .u8 0, Value.int .u8 0, Value.int .u8 0, Value.int .u8 0, Value.int .u8 0, Value.int .u8 0, Value.int .u8 0, Value.int .u8 0, Value.int .u8 0, Value.int .u8 0, Value.int .u8 0, Value.int .u8 0, Value.int .u8 0] := .mk' (v := .agg #[Value.int .u8 0, Value.int .u8 0, Value.int .u8 0, Value.int .u8 0, Value.int .u8 0, Value.int .u8 0, Value.int .u8 0, Value.int .u8 0, Value.int .u8 0, Value.int .u8 0, Value.int .u8 0, Value.int .u8 0, Value.int .u8 0, Value.int .u8 0, Value.int .u8 0, Value.int .u8 0, Value.int .u8 0, Value.int .u8 0, Value.int .u8 0, Value.int .u8 0, Value.int .u8 0, Value.int .u8 0, Value.int .u8 0, Value.int .u8 0, Value.int .u8 0, Value.int .u8 0, Value.int .u8 0, Value.int .u8 0, Value.int .u8 0, Value.int .u8 0, Value.int .u8 0, Value.int .u8 0]) (k := 32) (by kernel_rfl) (by kernel_rfl) rfl rfl
instance ty78 : Ty Tryd.prog 78 false [Value.nilFunc] := .mk' (v := Value.nilFunc) (k := 1) (by kernel_rfl) (by kernel_rfl) rfl rfl
instance ty79 : Ty Tryd.prog 79 true [Value.pointer none, Value.pointer none, Value.pointer none, Value.string ⟨#[]⟩] := .mk' (v := .agg #[Value.pointer none, Value.pointer none, Value.pointer none, Value.string ⟨#[]⟩]) (k := 4) (by kernel_rfl) (by kernel_rfl) rfl rfl
instance ty80 : Ty Tryd.prog 80 true [Value.pointer none, Value.pointer none, Value.pointer none, Value.string ⟨#[]⟩] := .mk' (v := .agg #[Value.pointer none, Value.pointer none, Value.pointer none, Value.string ⟨#[]⟩]) (k := 4) (by kernel_rfl) (by kernel_rfl) rfl rfl
instance ty81 : Ty Tryd.prog 81 true [] := .mk' (v := .agg #[]) (k := 0) (by kernel_rfl) (by kernel_rfl) rfl rfl
instance ty82 : Ty Tryd.prog 82 true [] := .mk' (v := .agg #[]) (k := 0) (by kernel_rfl) (by kernel_rfl) rfl rfl
instance ty83 : Ty Tryd.prog 83 true [] := .mk' (v := .agg #[]) (k := 0) (by kernel_rfl) (by kernel_rfl) rfl rfl
instance ty84 : Ty Tryd.prog 84 false [Value.int .u32 0] := .mk' (v := Value.int .u32 0) (k := 1) (by kernel_rfl) (by kernel_rfl) rfl rfl
instance ty85 : Ty Tryd.prog 85 false [Value.int .u8 0] := .mk' (v := Value.int .u8 0) (k := 1) (by kernel_rfl) (by kernel_rfl) rfl rfl
instance ty86 : Ty Tryd.prog 86 false [Value.int .u8 0] := .mk' (v := Value.int .u8 0) (k := 1) (by kernel_rfl) (by kernel_rfl) rfl rfl
instance ty87 : Ty Tryd.prog 87 false [Value.nilFunc] := .mk' (v := Value.nilFunc) (k := 1) (by kernel_rfl) (by kernel_rfl) rfl rfl
instance ty88 : Ty Tryd.prog 88 false [Value.pointer none] := .mk' (v := Value.pointer none) (k := 1) (by kernel_rfl) (by kernel_rfl) rfl rfl
instance ty89 : Ty Tryd.prog 89 false [Value.int .i32 0] := .mk' (v := Value.int .i32 0) (k := 1) (by kernel_rfl) (by kernel_rfl) rfl rfl
instance ty90 : Ty Tryd.prog 90 false [Value.int .i32 0] := .mk' (v := Value.int .i32 0) (k := 1) (by kernel_rfl) (by kernel_rfl) rfl rfl
instance ty91 : Ty Tryd.prog 91 true [Value.int .u64 0, Value.int .u64 0, Value.int .u32 0, Value.int .u8 0, Value.int .u8 0, Value.int .u8 0, Value.int .u8 0, Value.nilFunc, Value.pointer none, Value.int .i32 0, Value.int .i32 0] := .mk' (v := .agg #[Value.int .u64 0, Value.int .u64 0, Value.int .u32 0, Value.int .u8 0, Value.int .u8 0, Value.int .u8 0, Value.int .u8 0, Value.nilFunc, Value.pointer none, Value.int .i32 0, Value.int .i32 0]) (k := 11) (by kernel_rfl) (by kernel_rfl) rfl rfl
instance ty92 : Ty Tryd.prog 92 true [Value.int .u64 0, Value.int .u64 0, Value.int .u32 0, Value.int .u8 0, Value.int .u8 0, Value.int .u8 0, Value.int .u8 0, Value.nilFunc, Value.pointer none, Value.int .i32 0, Value.int .i32 0] := .mk' (v := .agg #[Value.int .u64 0, Value.int .u64 0, Value.int .u32 0, Value.int .u8 0, Value.int .u8 0, Value.int .u8 0, Value.int .u8 0, Value.nilFunc, Value.pointer none, Value.int .i32 0, Value.int .i32 0]) (k := 11) (by kernel_rfl) (by kernel_rfl) rfl rfl
instance ty93 : Ty Tryd.prog 93 false [Value.pointer none] := .mk' (v := Value.pointer none) (k := 1) (by kernel_rfl) (by kernel_rfl) rfl rfl
instance el1 : El Tryd.prog 1 1 8 := .mk' (z := Value.nilFunc) (by kernel_rfl) rfl
instance it2 : IntTy Tryd.prog 2 .i64 := ⟨by kernel_rfl⟩
instance el2 : El Tryd.prog 2 1 8 := .mk' (z := Value.int .i64 0) (by kernel_rfl) rfl
instance it3 : IntTy Tryd.prog 3 .i64 := ⟨by kernel_rfl⟩
instance el3 : El Tryd.prog 3 1 8 := .mk' (z := Value.int .i64 0) (by kernel_rfl) rfl
instance el4 : El Tryd.prog 4 1 1 := .mk' (z := Value.bool false) (by kernel_rfl) rfl
instance it5 : IntTy Tryd.prog 5 .u8 := ⟨by kernel_rfl⟩
instance el5 : El Tryd.prog 5 1 1 := .mk' (z := Value.int .u8 0) (by kernel_rfl) rfl
instance it6 : IntTy Tryd.prog 6 .u8 := ⟨by kernel_rfl⟩
instance el6 : El Tryd.prog 6 1 1 := .mk' (z := Value.int .u8 0) (by kernel_rfl) rfl
instance el7 : El Tryd.prog 7 4 24 := .mk' (z := .agg #[Value.int .i64 0, Value.int .i64 0, Value.bool false, Value.int .u8 0]) (by kernel_rfl) rfl
instance fl7_0 : Fld Tryd.prog 7 0 0 2 := .mk' (by kernel_rfl) (by kernel_rfl)
instance fl7_1 : Fld Tryd.prog 7 1 1 3 := .mk' (by kernel_rfl) (by kernel_rfl)
instance fl7_2 : Fld Tryd.prog 7 2 2 4 := .mk' (by kernel_rfl) (by kernel_rfl)
instance fl7_3 : Fld Tryd.prog 7 3 3 6 := .mk' (by kernel_rfl) (by kernel_rfl)
instance su7 : St Tryd.prog 7 [(0, 1), (1, 1), (2, 1), (3, 1)] := ⟨by kernel_rfl⟩
instance el8 : El Tryd.prog 8 4 24 := .mk' (z := .agg #[Value.int .i64 0, Value.int .i64 0, Value.bool false, Value.int .u8 0]) (by kernel_rfl) rfl
instance fl8_0 : Fld Tryd.prog 8 0 0 2 := .mk' (by kernel_rfl) (by kernel_rfl)
instance fl8_1 : Fld Tryd.prog 8 1 1 3 := .mk' (by kernel_rfl) (by kernel_rfl)
instance fl8_2 : Fld Tryd.prog 8 2 2 4 := .mk' (by kernel_rfl) (by kernel_rfl)
instance fl8_3 : Fld Tryd.prog 8 3 3 6 := .mk' (by kernel_rfl) (by kernel_rfl)
instance su8 : St Tryd.prog 8 [(0, 1), (1, 1), (2, 1), (3, 1)] := ⟨by kernel_rfl⟩
instance st9 : StrTy Tryd.prog 9 := ⟨by kernel_rfl⟩
instance el9 : El Tryd.prog 9 1 16 := .mk' (z := Value.string ⟨#[]⟩) (by kernel_rfl) rfl
instance st10 : StrTy Tryd.prog 10 := ⟨by kernel_rfl⟩
instance el10 : El Tryd.prog 10 1 16 := .mk' (z := Value.string ⟨#[]⟩) (by kernel_rfl) rfl
instance st11 : StrTy Tryd.prog 11 := ⟨by kernel_rfl⟩
instance el11 : El Tryd.prog 11 1 16 := .mk' (z := Value.string ⟨#[]⟩) (by kernel_rfl) rfl
instance it12 : IntTy Tryd.prog 12 .u64 := ⟨by kernel_rfl⟩
instance el12 : El Tryd.prog 12 1 8 := .mk' (z := Value.int .u64 0) (by kernel_rfl) rfl
instance el13 : El Tryd.prog 13 2 24 := .mk' (z := .agg #[Value.string ⟨#[]⟩, Value.int .u64 0]) (by kernel_rfl) rfl
instance fl13_0 : Fld Tryd.prog 13 0 0 9 := .mk' (by kernel_rfl) (by kernel_rfl)
instance fl13_1 : Fld Tryd.prog 13 1 1 12 := .mk' (by kernel_rfl) (by kernel_rfl)
instance su13 : St Tryd.prog 13 [(0, 1), (1, 1)] := ⟨by kernel_rfl⟩
instance el14 : El Tryd.prog 14 2 24 := .mk' (z := .agg #[Value.string ⟨#[]⟩, Value.int .u64 0]) (by kernel_rfl) rfl
instance fl14_0 : Fld Tryd.prog 14 0 0 9 := .mk' (by kernel_rfl) (by kernel_rfl)
instance fl14_1 : Fld Tryd.prog 14 1 1 12 := .mk' (by kernel_rfl) (by kernel_rfl)
instance su14 : St Tryd.prog 14 [(0, 1), (1, 1)] := ⟨by kernel_rfl⟩
instance el15 : El Tryd.prog 15 1 8 := .mk' (z := Value.pointer none) (by kernel_rfl) rfl
instance el16 : El Tryd.prog 16 1 8 := .mk' (z := Value.pointer none) (by kernel_rfl) rfl
instance el17 : El Tryd.prog 17 1 8 := .mk' (z := Value.pointer none) (by kernel_rfl) rfl
instance el18 : El Tryd.prog 18 1 8 := .mk' (z := .agg #[Value.pointer none]) (by kernel_rfl) rfl
instance fl18_0 : Fld Tryd.prog 18 0 0 17 := .mk' (by kernel_rfl) (by kernel_rfl)
instance su18 : St Tryd.prog 18 [(0, 1)] := ⟨by kernel_rfl⟩
instance el19 : El Tryd.prog 19 1 8 := .mk' (z := .agg #[Value.pointer none]) (by kernel_rfl) rfl
instance fl19_0 : Fld Tryd.prog 19 0 0 17 := .mk' (by kernel_rfl) (by kernel_rfl)
instance su19 : St Tryd.prog 19 [(0, 1)] := ⟨by kernel_rfl⟩
instance el20 : El Tryd.prog 20 1 16 := .mk' (z := Value.nilIface) (by kernel_rfl) rfl
instance it21 : IntTy Tryd.prog 21 .i32 := ⟨by kernel_rfl⟩
instance el21 : El Tryd.prog 21 1 4 := .mk' (z := Value.int .i32 0) (by kernel_rfl) rfl
instance el22 : El Tryd.prog 22 3 32 := .mk' (z := .agg #[Value.int .i64 0, Value.int .i64 0, Value.string ⟨#[]⟩]) (by kernel_rfl) rfl
instance fl22_0 : Fld Tryd.prog 22 0 0 3 := .mk' (by kernel_rfl) (by kernel_rfl)
instance fl22_1 : Fld Tryd.prog 22 1 1 2 := .mk' (by kernel_rfl) (by kernel_rfl)
instance fl22_2 : Fld Tryd.prog 22 2 2 9 := .mk' (by kernel_rfl) (by kernel_rfl)
instance su22 : St Tryd.prog 22 [(0, 1), (1, 1), (2, 1)] := ⟨by kernel_rfl⟩
instance el23 : El Tryd.prog 23 3 32 := .mk' (z := .agg #[Value.int .i64 0, Value.int .i64 0, Value.string ⟨#[]⟩]) (by kernel_rfl) rfl
instance fl23_0 : Fld Tryd.prog 23 0 0 3 := .mk' (by kernel_rfl) (by kernel_rfl)
instance fl23_1 : Fld Tryd.prog 23 1 1 2 := .mk' (by kernel_rfl) (by kernel_rfl)
instance fl23_2 : Fld Tryd.prog 23 2 2 9 := .mk' (by kernel_rfl) (by kernel_rfl)
instance su23 : St Tryd.prog 23 [(0, 1), (1, 1), (2, 1)] := ⟨by kernel_rfl⟩
instance el24 : El Tryd.prog 24 1 8 := .mk' (z := Value.nilFunc) (by kernel_rfl) rfl
instance el25 : El Tryd.prog 25 1 8 := .mk' (z := Value.nilFunc) (by kernel_rfl) rfl
instance el26 : El Tryd.prog 26 1 16 := .mk' (z := Value.nilIface) (by kernel_rfl) rfl
instance el27 : El Tryd.prog 27 1 16 := .mk' (z := Value.nilIface) (by kernel_rfl) rfl
instance el28 : El Tryd.prog 28 1 16 := .mk' (z := .agg #[Value.nilIface]) (by kernel_rfl) rfl
instance fl28_0 : Fld Tryd.prog 28 0 0 27 := .mk' (by kernel_rfl) (by kernel_rfl)
instance su28 : St Tryd.prog 28 [(0, 1)] := ⟨by kernel_rfl⟩
instance el29 : El Tryd.prog 29 1 16 := .mk' (z := .agg #[Value.nilIface]) (by kernel_rfl) rfl
instance fl29_0 : Fld Tryd.prog 29 0 0 27 := .mk' (by kernel_rfl) (by kernel_rfl)
instance su29 : St Tryd.prog 29 [(0, 1)] := ⟨by kernel_rfl⟩
instance it30 : IntTy Tryd.prog 30 .i64 := ⟨by kernel_rfl⟩
instance el30 : El Tryd.prog 30 1 8 := .mk' (z := Value.int .i64 0) (by kernel_rfl) rfl
instance el32 : El Tryd.prog 32 1 8 := .mk' (z := Value.nilFunc) (by kernel_rfl) rfl
instance el33 : El Tryd.prog 33 1 8 := .mk' (z := Value.nilFunc) (by kernel_rfl) rfl
instance el34 : El Tryd.prog 34 1 8 := .mk' (z := Value.nilFunc) (by kernel_rfl) rfl
instance el36 : El Tryd.prog 36 1 8 := .mk' (z := Value.nilFunc) (by kernel_rfl) rfl
instance el37 : El Tryd.prog 37 1 8 := .mk' (z := Value.nilFunc) (by kernel_rfl) rfl
instance el38 : El Tryd.prog 38 1 8 := .mk' (z := Value.nilFunc) (by kernel_rfl) rfl
instance el39 : El Tryd.prog 39 1 8 := .mk' (z := Value.nilFunc) (by kernel_rfl) rfl
instance el40 : El Tryd.prog 40 1 8 := .mk' (z := Value.nilFunc) (by kernel_rfl) rfl
instance el41 : El Tryd.prog 41 1 24 := .mk' (z := Value.slice none 0 0) (by kernel_rfl) rfl
instance sl41 : Sl Tryd.prog 41 5 := ⟨by kernel_rfl⟩
instance el42 : El Tryd.prog 42 1 8 := .mk' (z := Value.nilFunc) (by kernel_rfl) rfl
instance el43 : El Tryd.prog 43 1 8 := .mk' (z := Value.nilFunc) (by kernel_rfl) rfl
instance el44 : El Tryd.prog 44 1 8 := .mk' (z := Value.nilFunc) (by kernel_rfl) rfl
instance el45 : El Tryd.prog 45 1 8 := .mk' (z := Value.nilFunc) (by kernel_rfl) rfl
instance el46 : El Tryd.prog 46 1 8 := .mk' (z := Value.nilFunc) (by kernel_rfl) rfl
instance el47 : El Tryd.prog 47 1 8 := .mk' (z := Value.nilFunc) (by kernel_rfl) rfl
instance el49 : El Tryd.prog 49 1 8 := .mk' (z := Value.nilFunc) (by kernel_rfl) rfl
instance el50 : El Tryd.prog 50 1 8 := .mk' (z := Value.nilFunc) (by kernel_rfl) rfl
instance el51 : El Tryd.prog 51 1 8 := .mk' (z := Value.nilFunc) (by kernel_rfl) rfl
instance el52 : El Tryd.prog 52 1 8 := .mk' (z := Value.nilFunc) (by kernel_rfl) rfl
instance it53 : IntTy Tryd.prog 53 .i64 := ⟨by kernel_rfl⟩
instance el53 : El Tryd.prog 53 1 8 := .mk' (z := Value.int .i64 0) (by kernel_rfl) rfl
instance el54 : El Tryd.prog 54 1 8 := .mk' (z := Value.nilFunc) (by kernel_rfl) rfl
instance st55 : StrTy Tryd.prog 55 := ⟨by kernel_rfl⟩
instance el55 : El Tryd.prog 55 1 16 := .mk' (z := Value.string ⟨#[]⟩) (by kernel_rfl) rfl
instance el57 : El Tryd.prog 57 1 8 := .mk' (z := Value.nilFunc) (by kernel_rfl) rfl
instance el58 : El Tryd.prog 58 1 8 := .mk' (z := Value.nilFunc) (by kernel_rfl) rfl
instance el59 : El Tryd.prog 59 1 24 := .mk' (z := Value.slice none 0 0) (by kernel_rfl) rfl
instance sl59 : Sl Tryd.prog 59 21 := ⟨by kernel_rfl⟩
instance el60 : El Tryd.prog 60 1 24 := .mk' (z := Value.slice none 0 0) (by kernel_rfl) rfl
instance sl60 : Sl Tryd.prog 60 3 := ⟨by kernel_rfl⟩
instance el62 : El Tryd.prog 62 1 8 := .mk' (z := Value.nilFunc) (by kernel_rfl) rfl
instance el63 : El Tryd.prog 63 1 8 := .mk' (z := Value.nilFunc) (by kernel_rfl) rfl
instance el64 : El Tryd.prog 64 1 8 := .mk' (z := Value.nilFunc) (by kernel_rfl) rfl
instance el66 : El Tryd.prog 66 1 8 := .mk' (z := Value.nilFunc) (by kernel_rfl) rfl
instance el68 : El Tryd.prog 68 1 8 := .mk' (z := Value.nilFunc) (by kernel_rfl) rfl
instance it69 : IntTy Tryd.prog 69 .u64 := ⟨by kernel_rfl⟩
instance el69 : El Tryd.prog 69 1 8 := .mk' (z := Value.int .u64 0) (by kernel_rfl) rfl
instance el71 : El Tryd.prog 71 1 8 := .mk' (z := Value.nilFunc) (by kernel_rfl) rfl
instance it72 : IntTy Tryd.prog 72 .u64 := ⟨by kernel_rfl⟩
instance el72 : El Tryd.prog 72 1 8 := .mk' (z := Value.int .u64 0) (by kernel_rfl) rfl
instance el73 : El Tryd.prog 73 1 8 := .mk' (z := Value.nilFunc) (by kernel_rfl) rfl
instance el75 : El Tryd.prog 75 2 2 := .mk' (z := .agg #[Value.int .u8 0, Value.int .u8 0]) (by kernel_rfl) rfl
instance fl75_0 : Fld Tryd.prog 75 0 0 5 := .mk' (by kernel_rfl) (by kernel_rfl)
instance fl75_1 : Fld Tryd.prog 75 1 1 5 := .mk' (by kernel_rfl) (by kernel_rfl)
instance su75 : St Tryd.prog 75 [(0, 1), (1, 1)] := ⟨by kernel_rfl⟩
instance el76 : El Tryd.prog 76 2 2 := .mk' (z := .agg #[Value.int .u8 0, Value.int .u8 0]) (by kernel_rfl) rfl
instance fl76_0 : Fld Tryd.prog 76 0 0 5 := .mk' (by kernel_rfl) (by kernel_rfl)
instance fl76_1 : Fld Tryd.prog 76 1 1 5 := .mk' (by kernel_rfl) (by kernel_rfl)
instance su76 : St Tryd.prog 76 [(0, 1), (1, 1)] := ⟨by kernel_rfl⟩
instance el77 : El Tryd.prog 77 32 32 := .mk' (z := .agg #[Value.int .u8 0, Value.int .u8 0, Value.int .u8 0, Value.int .u8 0, Value.int .u8 0, Value.int .u8 0, Value.int .u8 0, Value.int .u8 0, Value.int .u8 0, Value.int .u8 0, Value.int .u8 0, Value.int .u8 0, Value.int .u8 0, Value.int .u8 0, Value.int .u8 0, Value.int .u8 0, Value.int .u8 0, Value.int .u8 0, Value.int .u8 0, Value.int .u8 0, Value.int .u8 0, Value.int .u8 0, Value.int .u8 0, Value.int .u8 0, Value.int .u8 0, Value.int .u8 0, Value.int .u8 0, Value.int .u8 0, Value.int .u8 0, Value.int .u8 0, Value.int .u8 0, Value.int .u8 0]) (by kernel_rfl) rfl
instance el78 : El Tryd.prog 78 1 8 := .mk' (z := Value.nilFunc) (by kernel_rfl) rfl
instance el79 : El Tryd.prog 79 4 40 := .mk' (z := .agg #[Value.pointer none, Value.pointer none, Value.pointer none, Value.string ⟨#[]⟩]) (by kernel_rfl) rfl
instance fl79_0 : Fld Tryd.prog 79 0 0 17 := .mk' (by kernel_rfl) (by kernel_rfl)
instance fl79_1 : Fld Tryd.prog 79 1 1 17 := .mk' (by kernel_rfl) (by kernel_rfl)
instance fl79_2 : Fld Tryd.prog 79 2 2 17 := .mk' (by kernel_rfl) (by kernel_rfl)
instance fl79_3 : Fld Tryd.prog 79 3 3 9 := .mk' (by kernel_rfl) (by kernel_rfl)
instance su79 : St Tryd.prog 79 [(0, 1), (1, 1), (2, 1), (3, 1)] := ⟨by kernel_rfl⟩
instance el80 : El Tryd.prog 80 4 40 := .mk' (z := .agg #[Value.pointer none, Value.pointer none, Value.pointer none, Value.string ⟨#[]⟩]) (by kernel_rfl) rfl
instance fl80_0 : Fld Tryd.prog 80 0 0 17 := .mk' (by kernel_rfl) (by kernel_rfl)
instance fl80_1 : Fld Tryd.prog 80 1 1 17 := .mk' (by kernel_rfl) (by kernel_rfl)
instance fl80_2 : Fld Tryd.prog 80 2 2 17 := .mk' (by kernel_rfl) (by kernel_rfl)
instance fl80_3 : Fld Tryd.prog 80 3 3 9 := .mk' (by kernel_rfl) (by kernel_rfl)
instance su80 : St Tryd.prog 80 [(0, 1), (1, 1), (2, 1), (3, 1)] := ⟨by kernel_rfl⟩
instance su82 : St Tryd.prog 82 [(0, 0)] := ⟨by kernel_rfl⟩
instance su83 : St Tryd.prog 83 [(0, 0)] := ⟨by kernel_rfl⟩
instance it84 : IntTy Tryd.prog 84 .u32 := ⟨by kernel_rfl⟩
instance el84 : El Tryd.prog 84 1 4 := .mk' (z := Value.int .u32 0) (by kernel_rfl) rfl
instance it85 : IntTy Tryd.prog 85 .u8 := ⟨by kernel_rfl⟩
instance el85 : El Tryd.prog 85 1 1 := .mk' (z := Value.int .u8 0) (by kernel_rfl) rfl
instance it86 : IntTy Tryd.prog 86 .u8 := ⟨by kernel_rfl⟩
instance el86 : El Tryd.prog 86 1 1 := .mk' (z := Value.int .u8 0) (by kernel_rfl) rfl
instance el87 : El Tryd.prog 87 1 8 := .mk' (z := Value.nilFunc) (by kernel_rfl) rfl
instance el88 : El Tryd.prog 88 1 8 := .mk' (z := Value.pointer none) (by kernel_rfl) rfl
instance it89 : IntTy Tryd.prog 89 .i32 := ⟨by kernel_rfl⟩
instance el89 : El Tryd.prog 89 1 4 := .mk' (z := Value.int .i32 0) (by kernel_rfl) rfl
instance it90 : IntTy Tryd.prog 90 .i32 := ⟨by kernel_rfl⟩
instance el90 : El Tryd.prog 90 1 4 := .mk' (z := Value.int .i32 0) (by kernel_rfl) rfl
instance el91 : El Tryd.prog 91 11 48 := .mk' (z := .agg #[Value.int .u64 0, Value.int .u64 0, Value.int .u32 0, Value.int .u8 0, Value.int .u8 0, Value.int .u8 0, Value.int .u8 0, Value.nilFunc, Value.pointer none, Value.int .i32 0, Value.int .i32 0]) (by kernel_rfl) rfl
instance fl91_0 : Fld Tryd.prog 91 0 0 12 := .mk' (by kernel_rfl) (by kernel_rfl)
instance fl91_1 : Fld Tryd.prog 91 1 1 12 := .mk' (by kernel_rfl) (by kernel_rfl)
instance fl91_2 : Fld Tryd.prog 91 2 2 84 := .mk' (by kernel_rfl) (by kernel_rfl)
instance fl91_3 : Fld Tryd.prog 91 3 3 85 := .mk' (by kernel_rfl) (by kernel_rfl)
instance fl91_4 : Fld Tryd.prog 91 4 4 5 := .mk' (by kernel_rfl) (by kernel_rfl)
instance fl91_5 : Fld Tryd.prog 91 5 5 5 := .mk' (by kernel_rfl) (by kernel_rfl)
instance fl91_6 : Fld Tryd.prog 91 6 6 86 := .mk' (by kernel_rfl) (by kernel_rfl)
instance fl91_7 : Fld Tryd.prog 91 7 7 87 := .mk' (by kernel_rfl) (by kernel_rfl)
instance fl91_8 : Fld Tryd.prog 91 8 8 88 := .mk' (by kernel_rfl) (by kernel_rfl)
instance fl91_9 : Fld Tryd.prog 91 9 9 89 := .mk' (by kernel_rfl) (by kernel_rfl)
instance fl91_10 : Fld Tryd.prog 91 10 10 90 := .mk' (by kernel_rfl) (by kernel_rfl)
instance su91 : St Tryd.prog 91 [(0, 1), (1, 1), (2, 1), (3, 1), (4, 1), (5, 1), (6, 1), (7, 1), (8, 1), (9, 1), (10, 1)] := ⟨by kernel_rfl⟩
instance el92 : El Tryd.prog 92 11 48 := .mk' (z := .agg #[Value.int .u64 0, Value.int .u64 0, Value.int .u32 0, Value.int .u8 0, Value.int .u8 0, Value.int .u8 0, Value.int .u8 0, Value.nilFunc, Value.pointer none, Value.int .i32 0, Value.int .i32 0]) (by kernel_rfl) rfl
instance fl92_0 : Fld Tryd.prog 92 0 0 12 := .mk' (by kernel_rfl) (by kernel_rfl)
instance fl92_1 : Fld Tryd.prog 92 1 1 12 := .mk' (by kernel_rfl) (by kernel_rfl)
instance fl92_2 : Fld Tryd.prog 92 2 2 84 := .mk' (by kernel_rfl) (by kernel_rfl)
instance fl92_3 : Fld Tryd.prog 92 3 3 85 := .mk' (by kernel_rfl) (by kernel_rfl)
instance fl92_4 : Fld Tryd.prog 92 4 4 5 := .mk' (by kernel_rfl) (by kernel_rfl)
instance fl92_5 : Fld Tryd.prog 92 5 5 5 := .mk' (by kernel_rfl) (by kernel_rfl)
instance fl92_6 : Fld Tryd.prog 92 6 6 86 := .mk' (by kernel_rfl) (by kernel_rfl)
instance fl92_7 : Fld Tryd.prog 92 7 7 87 := .mk' (by kernel_rfl) (by kernel_rfl)
instance fl92_8 : Fld Tryd.prog 92 8 8 88 := .mk' (by kernel_rfl) (by kernel_rfl)
instance fl92_9 : Fld Tryd.prog 92 9 9 89 := .mk' (by kernel_rfl) (by kernel_rfl)
instance fl92_10 : Fld Tryd.prog 92 10 10 90 := .mk' (by kernel_rfl) (by kernel_rfl)
instance su92 : St Tryd.prog 92 [(0, 1), (1, 1), (2, 1), (3, 1), (4, 1), (5, 1), (6, 1), (7, 1), (8, 1), (9, 1), (10, 1)] := ⟨by kernel_rfl⟩
instance el93 : El Tryd.prog 93 1 8 := .mk' (z := Value.pointer none) (by kernel_rfl) rfl
end Go.Proofs.YtckgicpfgfkndaaDoor
